import PyProof.Rows.All
import Wide.All
import OpenK.AllK
import Wide.FinOn
import HandS.ForMost
import HandS.Exc
import HandS.ExcOwn
import HandS.CallSlots
import HandS.Defaults
import HandS.TupSets
import HandS.SetKeys
import HandS.SortInts
import HandS.Zip
import HandS.Conv
import HandS.DictComp
import HandS.Style
import HandS.Wide
import HandS.Small
import HandS.Flow
import HandS.Keys
import HandS.TupAny
import HandS.TupMul
import HandS.IsInst
import HandS.Slots
import HandS.SlotsOwn
import HandS.Lambda
import KE.GoesNew
import KE.GoesMore
import HandS.Deep
import HandS.TupLen
import HandS.WordsDict
import HandS.SetFor
import HandS.Remove
import HandS.TupLe
import HandS.HeadEnd
import HandS.HeadWalk
import HandS.Property
import HandS.ClsMeth
import HandS.HeadHook1
import HandS.HeadHook2
import HandS.Star
import KE.KCallOwn
import PyProof.InstEq
import KE.KExcSuper
import KE.KExcInit
import HandS.ExcInit
import HandS.TryMany
import HandS.ExcField
import HandS.RaiseMore
import PyProof.ReprRoads
import PyProof.CallFns
import KE.KDflt
import KE.KIndexOf
import KE.KUnpack
import PyProof.StrOps2
import HandS.HeadHook4
import PyProof.InstStoreFacts
import HandS.CallLocal
import HandS.Strs
import HandS.Head0
import HandS.Head1
import HandS.Head2
import PySem.Challenge.RW_levelhues_k02_errors_of_rows
set_option Elab.async false
set_option linter.all false
set_option maxRecDepth 100000
set_option maxHeartbeats 4000000
namespace DS
open PySem PySem.Spec L2
open PyProof.Rows hiding St
inductive D where
  | non | bl (b : Bool) | int (i : Int) | str (s : Str)
  | tup (xs : List D) | lst (xs : List D) | ro (xs : List D)
  | dK (kvs : List (Key × D)) | dT (kvs : List (List Key × D))
  | ins (c : Str) (fs : List (Str × D))
  | loc (n : Nat)
  | fn (x : Str)
  | ty (n : String)
  
  | tg (xs : List D)
  
  | sl (c : Str) (xs : List D)
  
  | dF (kvs : List (Key × D))
instance : Inhabited D := ⟨.non⟩
abbrev Sto := List D
abbrev Env' := List (Option D)
structure Gb where
  P : Program
  w : World
  K : PySem.W.Frag
  mg : Str → Option Value
  base : Heap
  
  tabs : List (Addr × Option Str)
structure Wd where
  F : Hp
  φ : List Addr
  
  prv : Hp
def HO.thaw : HO → Prop
  | .frz _ _ => False
  | _ => True
structure Wd.le0 (w w' : Wd) : Prop where
  sub : ∀ a u, HO.thaw u → Rd w.F a u → Rd w'.F a u
  pre : ∀ (n : Nat) (a : Addr), w.φ[n]? = some a → w'.φ[n]? = some a
  dir : ∀ a u, w.F a = some u → w'.F a = some u
structure Wd.le (w w' : Wd) : Prop extends Wd.le0 w w' where
  same : w'.prv = w.prv
theorem Wd.le0.refl (w : Wd) : w.le0 w := ⟨fun _ _ _ h => h, fun _ _ h => h, fun _ _ h => h⟩
theorem Wd.le0.trans {a b c : Wd} (h : a.le0 b) (k : b.le0 c) : a.le0 c := ⟨fun x u t r => k.sub x u t (h.sub x u t r), fun n x e => k.pre n x (h.pre n x e), fun a vs e => k.dir a vs (h.dir a vs e)⟩
theorem Wd.prv_le (w : Wd) (q : Hp) : w.le0 ⟨w.F, w.φ, q⟩ := ⟨fun _ _ _ h => h, fun _ _ h => h, fun _ _ h => h⟩
theorem Wd.le.refl (w : Wd) : w.le w := ⟨.refl w, rfl⟩
theorem Wd.le.trans {a b c : Wd} (h : a.le b) (k : b.le c) : a.le c := ⟨h.tole0.trans k.tole0, k.same.trans h.same⟩
def SqG (K : PySem.W.Frag) (H : Hp) (a : Addr) (xs : List V) : Prop :=
  (∃ o : Obj, H a = some (.frz o (.tup xs)) ∧ o.dict = none) ∨
    ∃ (o : Obj) (its : Array Value) (n : Nat), K.lookup a = some o ∧ o.cls = .type "tuple" ∧ o.dict = none ∧ o.data = .seq its n ∧ its.size ≤ sizeLine ∧ Vals xs its.toList
theorem SqG.t {K : PySem.W.Frag} {H : Hp} {a : Addr} {xs : List V} (h : SqG K H a xs) : SqT K H a xs := by
  rcases h with ⟨o, h, _⟩ | ⟨o, its, n, h1, h2, _, h3⟩
  · exact .inl (.inr ⟨o, h⟩)
  · exact .inr ⟨o, its, n, h1, h2, h3⟩
theorem SqG.mono {K : PySem.W.Frag} {H H' : Hp} {a : Addr} {xs : List V} (k : ∀ u, H a = some u → H' a = some u) (h : SqG K H a xs) : SqG K H' a xs := by
  rcases h with ⟨o, h, d⟩ | h
  · exact .inl ⟨o, k _ h, d⟩
  · exact .inr h
mutual
inductive Den (G : Gb) (w : Wd) : V → D → Prop where
  | non : Den G w .non .non
  | bl (b : Bool) : Den G w (.bl b) (.bl b)
  | int (i : Int) : Den G w (.int i) (.int i)
  | str (s : Str) : Den G w (.str s) (.str s)
  | tup {a : Addr} {vs : List V} {ds : List D} (h : SqT G.K w.F a vs) (r : DenL G w vs ds) : Den G w (.ref a) (.tup ds)
  | lst {a : Addr} {vs : List V} {ds : List D} (h : w.F a = some (.lst vs)) (r : DenL G w vs ds) : Den G w (.ref a) (.lst ds)
  | ro {a : Addr} {vs : List V} {ds : List D} (h : SqL G.K w.F a vs) (r : DenL G w vs ds) : Den G w (.ref a) (.ro ds)
  | dK {a : Addr} {kvs : List (Key × V)} {kds : List (Key × D)} (h : w.F a = some (.dK kvs)) (r : DenK G w kvs kds) : Den G w (.ref a) (.dK kds)
  | dT {a : Addr} {kvs : List (List Key × V)} {kds : List (List Key × D)} (h : w.F a = some (.dT kvs)) (r : DenT G w kvs kds) : Den G w (.ref a) (.dT kds)
  | ins {a C dx : Addr} {c : Str} {fs : List (Str × V)} {gs : List (Str × D)} (h : w.F a = some (.ins C dx fs)) (m : G.mg c = some (.ref C)) (r : DenF G w fs gs) : Den G w (.ref a) (.ins c gs)
  | loc {n : Nat} {a : Addr} (h : w.φ[n]? = some a) : Den G w (.ref a) (.loc n)
  | fn {x : Str} {v : V} {u : Value} (h : G.mg x = some u) (r : RelV v u) : Den G w v (.fn x)
  | ty (n : String) : Den G w (.ty n) (.ty n)
  | tg {a : Addr} {vs : List V} {ds : List D} (h : SqG G.K w.F a vs) (r : DenL G w vs ds) : Den G w (.ref a) (.tg ds)
  | sl {a C dx : Addr} {c : Str} {vs : List V} {ds : List D} (h : w.F a = some (SlX.SlO a C dx (vs.map some))) (hd : w.F dx = some (.xd [])) (m : G.mg c = some (.ref C)) (r : DenL G w vs ds) : Den G w (.ref a) (.sl c ds)
  | dF {a : Addr} {ob : Obj} {kvs : List (Key × V)} {kds : List (Key × D)} (h : w.F a = some (.frz ob (.dK kvs))) (r : DenK G w kvs kds) : Den G w (.ref a) (.dF kds)
inductive DenL (G : Gb) (w : Wd) : List V → List D → Prop where
  | nil : DenL G w [] []
  | cons {v : V} {d : D} {vs : List V} {ds : List D} (h : Den G w v d) (t : DenL G w vs ds) : DenL G w (v :: vs) (d :: ds)
inductive DenK (G : Gb) (w : Wd) : List (Key × V) → List (Key × D) → Prop where
  | nil : DenK G w [] []
  | cons {k : Key} {v : V} {d : D} {vs : List (Key × V)} {ds : List (Key × D)} (h : Den G w v d) (t : DenK G w vs ds) : DenK G w ((k, v) :: vs) ((k, d) :: ds)
inductive DenT (G : Gb) (w : Wd) : List (List Key × V) → List (List Key × D) → Prop where
  | nil : DenT G w [] []
  | cons {k : List Key} {v : V} {d : D} {vs : List (List Key × V)} {ds : List (List Key × D)} (h : Den G w v d) (t : DenT G w vs ds) : DenT G w ((k, v) :: vs) ((k, d) :: ds)
inductive DenF (G : Gb) (w : Wd) : List (Str × V) → List (Str × D) → Prop where
  | nil : DenF G w [] []
  | cons {k : Str} {v : V} {d : D} {vs : List (Str × V)} {ds : List (Str × D)} (h : Den G w v d) (t : DenF G w vs ds) : DenF G w ((k, v) :: vs) ((k, d) :: ds)
end
theorem SqT.le0 {K : PySem.W.Frag} {w w' : Wd} (h : w.le0 w') {a : Addr} {vs : List V} (s : SqT K w.F a vs) : SqT K w'.F a vs := by
  rcases s with s | s
  · exact .inl (h.sub _ _ trivial s)
  · exact .inr s
theorem SqL.le0 {K : PySem.W.Frag} {w w' : Wd} (h : w.le0 w') {a : Addr} {vs : List V} (s : SqL K w.F a vs) : SqL K w'.F a vs := by
  rcases s with s | s
  · exact .inl (h.sub _ _ trivial s)
  · exact .inr s
mutual
theorem Den.le0 {G : Gb} {w w' : Wd} (h : w.le0 w') : ∀ {v : V} {d : D}, Den G w v d → Den G w' v d
  | _, _, .non => .non
  | _, _, .bl b => .bl b
  | _, _, .int i => .int i
  | _, _, .str s => .str s
  | _, _, .tup s r => .tup (SqT.le0 h s) (DenL.le0 h r)
  | _, _, .lst s r => .lst (h.dir _ _ s) (DenL.le0 h r)
  | _, _, .ro s r => .ro (SqL.le0 h s) (DenL.le0 h r)
  | _, _, .dK s r => .dK (h.dir _ _ s) (DenK.le0 h r)
  | _, _, .dT s r => .dT (h.dir _ _ s) (DenT.le0 h r)
  | _, _, .ins s m r => .ins (h.dir _ _ s) m (DenF.le0 h r)
  | _, _, .loc e => .loc (h.pre _ _ e)
  | _, _, .fn e r => .fn e r
  | _, _, .ty n => .ty n
  | _, _, .tg s r => .tg (s.mono fun u e => h.dir _ _ e) (DenL.le0 h r)
  | _, _, .sl s d m r => .sl (h.dir _ _ s) (h.dir _ _ d) m (DenL.le0 h r)
  | _, _, .dF s r => .dF (h.dir _ _ s) (DenK.le0 h r)
theorem DenL.le0 {G : Gb} {w w' : Wd} (h : w.le0 w') : ∀ {v : List V} {d : List D}, DenL G w v d → DenL G w' v d
  | _, _, .nil => .nil
  | _, _, .cons a t => .cons (Den.le0 h a) (DenL.le0 h t)
theorem DenK.le0 {G : Gb} {w w' : Wd} (h : w.le0 w') : ∀ {v : List (Key × V)} {d : List (Key × D)}, DenK G w v d → DenK G w' v d
  | _, _, .nil => .nil
  | _, _, .cons a t => .cons (Den.le0 h a) (DenK.le0 h t)
theorem DenT.le0 {G : Gb} {w w' : Wd} (h : w.le0 w') : ∀ {v : List (List Key × V)} {d : List (List Key × D)}, DenT G w v d → DenT G w' v d
  | _, _, .nil => .nil
  | _, _, .cons a t => .cons (Den.le0 h a) (DenT.le0 h t)
theorem DenF.le0 {G : Gb} {w w' : Wd} (h : w.le0 w') : ∀ {v : List (Str × V)} {d : List (Str × D)}, DenF G w v d → DenF G w' v d
  | _, _, .nil => .nil
  | _, _, .cons a t => .cons (Den.le0 h a) (DenF.le0 h t)
end
def lo : D → D
  | .tg xs => .tup xs
  | d => d
theorem Den.lo {G : Gb} {w : Wd} {v : V} {d : D} (h : Den G w v d) : Den G w v (lo d) := by
  cases h with
  | tg h r => exact .tup h.t r
  | non => exact .non
  | bl b => exact .bl b
  | int i => exact .int i
  | str s => exact .str s
  | tup h r => exact .tup h r
  | lst h r => exact .lst h r
  | ro h r => exact .ro h r
  | dK h r => exact .dK h r
  | dT h r => exact .dT h r
  | ins h m r => exact .ins h m r
  | loc h => exact .loc h
  | fn h r => exact .fn h r
  | ty n => exact .ty n
  | sl h d m r => exact .sl h d m r
  | dF h r => exact .dF h r
theorem Den.le {G : Gb} {w w' : Wd} (h : w.le w') {v : V} {d : D} (r : Den G w v d) : Den G w' v d := Den.le0 h.tole0 r
theorem DenL.le {G : Gb} {w w' : Wd} (h : w.le w') {v : List V} {d : List D} (r : DenL G w v d) : DenL G w' v d := DenL.le0 h.tole0 r
theorem DenK.le {G : Gb} {w w' : Wd} (h : w.le w') {v : List (Key × V)} {d : List (Key × D)} (r : DenK G w v d) : DenK G w' v d := DenK.le0 h.tole0 r
theorem DenT.le {G : Gb} {w w' : Wd} (h : w.le w') {v : List (List Key × V)} {d : List (List Key × D)} (r : DenT G w v d) : DenT G w' v d := DenT.le0 h.tole0 r
theorem DenF.le {G : Gb} {w w' : Wd} (h : w.le w') {v : List (Str × V)} {d : List (Str × D)} (r : DenF G w v d) : DenF G w' v d := DenF.le0 h.tole0 r
inductive BoxD (G : Gb) (w : Wd) : HO → D → Prop where
  | lst {vs : List V} {ds : List D} (r : DenL G w vs ds) : BoxD G w (.lst vs) (.lst ds)
  | dK {vs : List (Key × V)} {ds : List (Key × D)} (r : DenK G w vs ds) : BoxD G w (.dK vs) (.dK ds)
  | dT {vs : List (List Key × V)} {ds : List (List Key × D)} (r : DenT G w vs ds) : BoxD G w (.dT vs) (.dT ds)
  | ins {C dx : Addr} {c : Str} {fs : List (Str × V)} {gs : List (Str × D)} (m : G.mg c = some (.ref C)) (r : DenF G w fs gs) : BoxD G w (.ins C dx fs) (.ins c gs)
theorem BoxD.le0 {G : Gb} {w w' : Wd} (h : w.le0 w') {o : HO} {d : D} : BoxD G w o d → BoxD G w' o d
  | .lst r => .lst (DenL.le0 h r)
  | .dK r => .dK (DenK.le0 h r)
  | .dT r => .dT (DenT.le0 h r)
  | .ins m r => .ins m (DenF.le0 h r)
theorem BoxD.le {G : Gb} {w w' : Wd} (h : w.le w') {o : HO} {d : D} (r : BoxD G w o d) : BoxD G w' o d := r.le0 h.tole0
def TabsW (G : Gb) (w : Wd) (H : Hp) : Prop := ∀ p ∈ G.tabs, w.F p.1 = none ∧ p.1 ∉ w.φ ∧ w.prv p.1 = none ∧ ∃ ps : Array Value, H p.1 = some (.tbl ps) ∧ TriplesOk ps.toList ∧
  ∀ q, p.2 = some q → ∀ (pos : Pos) (cv : Value), codeAmong pos ps.toList = some cv → ∃ c, cv = .ref c ∧ w.F c = some (LamX.CodeO c q)
theorem TabsW.step {G : Gb} {w w' : Wd} {H H' : Hp} (t : TabsW G w H) (h : ∀ q : Addr, w.F q = none → q ∉ w.φ → w.prv q = none → (∃ ps, H q = some (.tbl ps)) → w'.F q = none ∧ q ∉ w'.φ ∧ w'.prv q = none ∧ H' q = H q) (k : ∀ c o, w.F c = some o → w'.F c = some o) : TabsW G w' H' := fun p hp => by
  obtain ⟨a, b, c, ps, d, e, f⟩ := t p hp
  obtain ⟨a', b', c', d'⟩ := h p.1 a b c ⟨ps, d⟩
  exact ⟨a', b', c', ps, d'.trans d, e, fun q hq pos cv hc => let ⟨x, h1, h2⟩ := f q hq pos cv hc; ⟨x, h1, k _ _ h2⟩⟩
structure Rel (G : Gb) (w : Wd) (L : Sto) (H : Hp) : Prop where
  sub : ∀ a o, w.F a = some o → H a = some o
  len : w.φ.length = L.length
  nd : w.φ.Nodup
  free : ∀ a ∈ w.φ, w.F a = none
  box : ∀ (n : Nat) (a : Addr) (c : D), w.φ[n]? = some a → L[n]? = some c → ∃ o, H a = some o ∧ BoxD G w o c
  prv : ∀ a o, w.prv a = some o → H a = some o ∧ w.F a = none ∧ a ∉ w.φ
  tab : TabsW G w H
def EnvR (G : Gb) (w : Wd) (σ : St) (ρ : Env') : Prop := σ.length = ρ.length ∧ ∀ (i : Nat) (d : D), ρ[i]? = some (some d) → ∃ v, σ[i]? = some (some v) ∧ Den G w v d
theorem EnvR.le0 {G : Gb} {w w' : Wd} (h : w.le0 w') {σ : St} {ρ : Env'} (e : EnvR G w σ ρ) : EnvR G w' σ ρ := ⟨e.1, fun i d q => let ⟨v, a, b⟩ := e.2 i d q; ⟨v, a, Den.le0 h b⟩⟩
theorem EnvR.le {G : Gb} {w w' : Wd} (h : w.le w') {σ : St} {ρ : Env'} (e : EnvR G w σ ρ) : EnvR G w' σ ρ := e.le0 h.tole0
theorem EnvR.set {G : Gb} {w : Wd} {σ : St} {ρ : Env'} (e : EnvR G w σ ρ) (i : Nat) {v : V} {d : D} (h : Den G w v d) : EnvR G w (σ.set i (some v)) (ρ.set i (some d)) := by
  refine ⟨by rw [List.length_set, List.length_set, e.1], fun j x q => ?_⟩
  by_cases hj : i = j
  · subst hj
    by_cases hi : i < ρ.length
    · rw [List.getElem?_set_self hi] at q
      cases q
      exact ⟨v, List.getElem?_set_self (by rw [e.1]; exact hi), h⟩
    · rw [List.getElem?_eq_none (by rw [List.length_set]; omega)] at q
      cases q
  · rw [List.getElem?_set_ne hj] at q
    obtain ⟨u, a, b⟩ := e.2 j x q
    exact ⟨u, by rw [List.getElem?_set_ne hj]; exact a, b⟩
theorem EnvR.unset {G : Gb} {w : Wd} {σ : St} {ρ : Env'} (e : EnvR G w σ ρ) (i : Nat) : EnvR G w (σ.set i none) (ρ.set i none) := by
  refine ⟨by rw [List.length_set, List.length_set, e.1], fun j x q => ?_⟩
  by_cases hj : i = j
  · subst hj
    by_cases hi : i < ρ.length
    · rw [List.getElem?_set_self hi] at q
      cases q
    · rw [List.getElem?_eq_none (by rw [List.length_set]; omega)] at q
      cases q
  · rw [List.getElem?_set_ne hj] at q
    obtain ⟨u, a, b⟩ := e.2 j x q
    exact ⟨u, by rw [List.getElem?_set_ne hj]; exact a, b⟩
def wipeE (ρ : Env') : List Nat → Env'
  | [] => ρ
  | v :: vs => (wipeE ρ vs).set v none
theorem EnvR.wipe {G : Gb} {w : Wd} {σ : St} {ρ : Env'} (e : EnvR G w σ ρ) : ∀ vs : List Nat, EnvR G w (wipe σ vs) (wipeE ρ vs)
  | [] => e
  | v :: vs => (EnvR.wipe e vs).unset v
section
variable {G : Gb} {w : Wd} {L : Sto} {H : Hp}
theorem Rel.newF (R : Rel G w L H) {p : Addr} {o : HO} (hp : H p = none) : Rel G ⟨upd w.F p o, w.φ, w.prv⟩ L (upd H p o) ∧ w.le ⟨upd w.F p o, w.φ, w.prv⟩ := by
  have hF : w.F p = none := by
    cases q : w.F p with
    | none => rfl
    | some u => rw [R.sub _ _ q] at hp; cases hp
  have hφ : p ∉ w.φ := fun hm => by
    obtain ⟨n, hn, e⟩ := List.getElem_of_mem hm
    have e1 : w.φ[n]? = some p := by rw [List.getElem?_eq_getElem hn, e]
    have hL : n < L.length := by rw [← R.len]; exact hn
    obtain ⟨o, h1, _⟩ := R.box n p L[n] e1 (List.getElem?_eq_getElem hL)
    rw [hp] at h1; cases h1
  have le : w.le ⟨upd w.F p o, w.φ, w.prv⟩ := ⟨⟨fun a u _ r => by
    have ne : ∀ z, w.F a = some z → a ≠ p := fun z e q => by subst q; rw [hF] at e; cases e
    rcases r with r | ⟨ob, r⟩
    · exact .inl (show upd w.F p o a = some u by rw [upd_ne (ne _ r)]; exact r)
    · exact .inr ⟨ob, show upd w.F p o a = _ by rw [upd_ne (ne _ r)]; exact r⟩, fun _ _ h => h, fun a vs r => by
    show upd w.F p o a = _
    rw [upd_ne (fun q => by subst q; rw [hF] at r; cases r)]; exact r⟩, rfl⟩
  refine ⟨⟨fun a u e => ?_, R.len, R.nd, fun a ha => ?_, fun n a c e1 e2 => ?_, fun a u e => ?_, R.tab.step (fun q a b c ⟨ps, d⟩ => ?_) fun c u e => ?_⟩, le⟩
  rotate_left 4
  · have ne : q ≠ p := fun z => by rw [z, hp] at d; cases d
    exact ⟨(upd_ne ne).trans a, b, c, upd_ne ne⟩
  · exact (upd_ne fun z => by rw [z, hF] at e; cases e).trans e
  · have e' : upd w.F p o a = some u := e
    by_cases hb : a = p
    · subst hb; rw [upd_same] at e' ⊢; exact e'
    · rw [upd_ne hb] at e' ⊢; exact R.sub _ _ e'
  · have na : a ≠ p := fun q => hφ (q ▸ ha)
    show upd w.F p o a = none
    rw [upd_ne na]; exact R.free a ha
  · obtain ⟨ob, h1, h2⟩ := R.box n a c e1 e2
    exact ⟨ob, by rw [upd_ne (ne_of_none h1 hp)]; exact h1, h2.le le⟩
  · obtain ⟨h1, h2, h3⟩ := R.prv a u e
    have ne := ne_of_none h1 hp
    exact ⟨by rw [upd_ne ne]; exact h1, by show upd w.F p o a = none; rw [upd_ne ne]; exact h2, h3⟩
theorem getElem?_lt {α : Type} {l : List α} {n : Nat} {a : α} (h : l[n]? = some a) : n < l.length := (List.getElem?_eq_some_iff.mp h).1
theorem Rel.newB (R : Rel G w L H) {p : Addr} {o : HO} {c : D} (hp : H p = none) (hb : BoxD G ⟨w.F, w.φ ++ [p], w.prv⟩ o c) : Rel G ⟨w.F, w.φ ++ [p], w.prv⟩ (L ++ [c]) (upd H p o) ∧ w.le ⟨w.F, w.φ ++ [p], w.prv⟩ := by
  have hF : w.F p = none := by
    cases q : w.F p with
    | none => rfl
    | some u => rw [R.sub _ _ q] at hp; cases hp
  have hφ : p ∉ w.φ := fun hm => by
    obtain ⟨n, hn, e⟩ := List.getElem_of_mem hm
    have e1 : w.φ[n]? = some p := by rw [List.getElem?_eq_getElem hn, e]
    have hL : n < L.length := by rw [← R.len]; exact hn
    obtain ⟨o, h1, _⟩ := R.box n p L[n] e1 (List.getElem?_eq_getElem hL)
    rw [hp] at h1; cases h1
  have le : w.le ⟨w.F, w.φ ++ [p], w.prv⟩ := ⟨⟨fun _ _ _ r => r, fun n a e => (List.getElem?_append_left (getElem?_lt e)).trans e, fun _ _ r => r⟩, rfl⟩
  refine ⟨⟨fun a u e => ?_, by simp [R.len], ?_, fun a ha => ?_, fun n a c' e1 e2 => ?_, fun a u e => ?_, R.tab.step (fun q a b c ⟨ps, d⟩ => ?_) fun c u e => e⟩, le⟩
  rotate_left 5
  · have ne : q ≠ p := fun z => by rw [z, hp] at d; cases d
    refine ⟨a, fun hm => ?_, c, upd_ne ne⟩
    rcases List.mem_append.mp (show q ∈ w.φ ++ [p] from hm) with h | h
    · exact b h
    · exact ne (List.mem_singleton.mp h)
  · have e' : w.F a = some u := e
    rw [upd_ne (fun q => by subst q; rw [hF] at e'; cases e')]; exact R.sub _ _ e'
  · rw [List.nodup_append]
    exact ⟨R.nd, by simp, fun a ha b hb => by
      rw [List.mem_singleton] at hb; subst hb; exact fun q => hφ (q ▸ ha)⟩
  · rcases List.mem_append.mp (show a ∈ w.φ ++ [p] from ha) with h | h
    · exact R.free a h
    · rw [List.mem_singleton] at h; subst h; exact hF
  · have e1' : (w.φ ++ [p])[n]? = some a := e1
    by_cases hn : n < w.φ.length
    · rw [List.getElem?_append_left hn] at e1'
      rw [List.getElem?_append_left (by rw [← R.len]; exact hn)] at e2
      obtain ⟨ob, h1, h2⟩ := R.box n a c' e1' e2
      exact ⟨ob, by rw [upd_ne (ne_of_none h1 hp)]; exact h1, h2.le le⟩
    · have hn' : n = w.φ.length := by
        have := getElem?_lt e1'
        simp at this; omega
      subst hn'
      rw [List.getElem?_append_right (Nat.le_refl _)] at e1'
      rw [R.len, List.getElem?_append_right (Nat.le_refl _)] at e2
      simp at e1' e2
      subst e1'; subst e2
      exact ⟨o, upd_same, hb⟩
  · obtain ⟨h1, h2, h3⟩ := R.prv a u e
    have ne := ne_of_none h1 hp
    refine ⟨by rw [upd_ne ne]; exact h1, h2, fun hm => ?_⟩
    rcases List.mem_append.mp (show a ∈ w.φ ++ [p] from hm) with h | h
    · exact h3 h
    · exact ne (List.mem_singleton.mp h)
theorem Rel.put (R : Rel G w L H) {n : Nat} {p : Addr} {o : HO} {c : D} (hn : w.φ[n]? = some p) (hb : BoxD G w o c) : Rel G w (L.set n c) (upd H p o) := by
  refine ⟨fun a u e => ?_, by rw [List.length_set]; exact R.len, R.nd, R.free, fun m a c' e1 e2 => ?_, fun a u e => ?_, R.tab.step (fun q a b c _ => ⟨a, b, c, upd_ne fun z => b (z ▸ List.mem_of_getElem? hn)⟩) fun c u e => e⟩
  · have hm : p ∈ w.φ := List.mem_of_getElem? hn
    rw [upd_ne (fun q => by subst q; rw [R.free _ hm] at e; cases e)]; exact R.sub _ _ e
  · by_cases h : m = n
    · subst h
      rw [hn] at e1; cases e1
      rw [List.getElem?_set_self (by rw [← R.len]; exact getElem?_lt hn)] at e2
      cases e2
      exact ⟨o, upd_same, hb⟩
    · rw [List.getElem?_set_ne (Ne.symm h)] at e2
      obtain ⟨ob, h1, h2⟩ := R.box m a c' e1 e2
      refine ⟨ob, ?_, h2⟩
      rw [upd_ne]
      · exact h1
      · intro q
        subst q
        exact h ((List.getElem?_inj (getElem?_lt e1) R.nd).mp (e1.trans hn.symm))
  · obtain ⟨h1, h2, h3⟩ := R.prv a u e
    exact ⟨by rw [upd_ne (fun q => by subst q; exact h3 (List.mem_of_getElem? hn))]; exact h1, h2, h3⟩
theorem Rel.newP (R : Rel G w L H) {p : Addr} {o : HO} (hp : H p = none) : Rel G ⟨w.F, w.φ, upd w.prv p o⟩ L (upd H p o) := by
  have hF : w.F p = none := by
    cases q : w.F p with
    | none => rfl
    | some u => rw [R.sub _ _ q] at hp; cases hp
  have hφ : p ∉ w.φ := fun hm => by
    obtain ⟨n, hn, e⟩ := List.getElem_of_mem hm
    have e1 : w.φ[n]? = some p := by rw [List.getElem?_eq_getElem hn, e]
    have hL : n < L.length := by rw [← R.len]; exact hn
    obtain ⟨o, h1, _⟩ := R.box n p L[n] e1 (List.getElem?_eq_getElem hL)
    rw [hp] at h1; cases h1
  refine ⟨fun a u e => ?_, R.len, R.nd, R.free, fun n a c e1 e2 => ?_, fun a u e => ?_, R.tab.step (fun q a b c ⟨ps, d⟩ => ?_) fun c u e => e⟩
  rotate_left 3
  · have ne : q ≠ p := fun z => by rw [z, hp] at d; cases d
    exact ⟨a, b, (upd_ne ne).trans c, upd_ne ne⟩
  · have e' : w.F a = some u := e
    rw [upd_ne (fun q => by subst q; rw [hF] at e'; cases e')]; exact R.sub _ _ e'
  · obtain ⟨ob, h1, h2⟩ := R.box n a c e1 e2
    exact ⟨ob, by rw [upd_ne (ne_of_none h1 hp)]; exact h1, h2.le0 (Wd.prv_le w _)⟩
  · have e' : upd w.prv p o a = some u := e
    by_cases hb : a = p
    · subst hb; rw [upd_same] at e' ⊢; exact ⟨e', hF, hφ⟩
    · rw [upd_ne hb] at e' ⊢; exact R.prv a u e'
theorem Rel.putP (R : Rel G w L H) {p : Addr} {o o' : HO} (hp : w.prv p = some o) : Rel G ⟨w.F, w.φ, upd w.prv p o'⟩ L (upd H p o') := by
  obtain ⟨h1, h2, h3⟩ := R.prv p o hp
  refine ⟨fun a u e => ?_, R.len, R.nd, R.free, fun n a c e1 e2 => ?_, fun a u e => ?_, R.tab.step (fun q a b c _ => ?_) fun c u e => e⟩
  rotate_left 3
  · have ne : q ≠ p := fun z => by rw [z, hp] at c; cases c
    exact ⟨a, b, (upd_ne ne).trans c, upd_ne ne⟩
  · have e' : w.F a = some u := e
    rw [upd_ne (fun q => by subst q; rw [h2] at e'; cases e')]; exact R.sub _ _ e'
  · obtain ⟨ob, k1, k2⟩ := R.box n a c e1 e2
    exact ⟨ob, by rw [upd_ne (fun q => by subst q; exact h3 (List.mem_of_getElem? e1))]; exact k1, k2.le0 (Wd.prv_le w _)⟩
  · have e' : upd w.prv p o' a = some u := e
    by_cases hb : a = p
    · subst hb; rw [upd_same] at e' ⊢; exact ⟨e', h2, h3⟩
    · rw [upd_ne hb] at e' ⊢; exact R.prv a u e'
theorem Rel.outP (R : Rel G w L H) {p : Addr} {o : HO} (hp : w.prv p = some o) (prv : Hp) (hq : ∀ a u, prv a = some u → a ≠ p ∧ w.prv a = some u) : Rel G ⟨upd w.F p o, w.φ, prv⟩ L H ∧ w.le0 ⟨upd w.F p o, w.φ, prv⟩ := by
  obtain ⟨h1, h2, h3⟩ := R.prv p o hp
  have le : w.le0 ⟨upd w.F p o, w.φ, prv⟩ := ⟨fun a u _ r => by
    have ne : ∀ z, w.F a = some z → a ≠ p := fun z e q => by subst q; rw [h2] at e; cases e
    rcases r with r | ⟨ob, r⟩
    · exact .inl (show upd w.F p o a = some u by rw [upd_ne (ne _ r)]; exact r)
    · exact .inr ⟨ob, show upd w.F p o a = _ by rw [upd_ne (ne _ r)]; exact r⟩, fun _ _ h => h, fun a vs r => by
    show upd w.F p o a = _
    rw [upd_ne (fun q => by subst q; rw [h2] at r; cases r)]; exact r⟩
  refine ⟨⟨fun a u e => ?_, R.len, R.nd, fun a ha => ?_, fun n a c e1 e2 => ?_, fun a u e => ?_, R.tab.step (fun q a b c _ => ?_) fun c u e => (upd_ne fun z => by rw [z, h2] at e; cases e).trans e⟩, le⟩
  rotate_left 4
  · have ne : q ≠ p := fun z => by rw [z, hp] at c; cases c
    refine ⟨(upd_ne ne).trans a, b, ?_, rfl⟩
    cases e : prv q with
    | none => exact e
    | some u => rw [(hq q u e).2] at c; cases c
  · have e' : upd w.F p o a = some u := e
    by_cases hb : a = p
    · subst hb; rw [upd_same] at e'; cases e'; exact h1
    · rw [upd_ne hb] at e'; exact R.sub _ _ e'
  · show upd w.F p o a = none
    rw [upd_ne (fun q => by subst q; exact h3 ha)]; exact R.free a ha
  · obtain ⟨ob, k1, k2⟩ := R.box n a c e1 e2
    exact ⟨ob, k1, k2.le0 le⟩
  · obtain ⟨n1, n2⟩ := hq a u e
    obtain ⟨k1, k2, k3⟩ := R.prv a u n2
    exact ⟨k1, by show upd w.F p o a = none; rw [upd_ne n1]; exact k2, k3⟩
theorem Rel.outB (R : Rel G w L H) {p : Addr} {o : HO} {c : D} (hp : w.prv p = some o) (hb : BoxD G w o c) (prv : Hp) (hq : ∀ a u, prv a = some u → a ≠ p ∧ w.prv a = some u) :
    Rel G ⟨w.F, w.φ ++ [p], prv⟩ (L ++ [c]) H ∧ w.le0 ⟨w.F, w.φ ++ [p], prv⟩ := by
  obtain ⟨h1, h2, h3⟩ := R.prv p o hp
  have le : w.le0 ⟨w.F, w.φ ++ [p], prv⟩ := ⟨fun _ _ _ r => r, fun n a e => (List.getElem?_append_left (getElem?_lt e)).trans e, fun _ _ r => r⟩
  refine ⟨⟨R.sub, by simp [R.len], ?_, fun a ha => ?_, fun n a c' e1 e2 => ?_, fun a u e => ?_, R.tab.step (fun q a b c _ => ?_) fun c u e => e⟩, le⟩
  rotate_left 4
  · have ne : q ≠ p := fun z => by rw [z, hp] at c; cases c
    refine ⟨a, fun hm => ?_, ?_, rfl⟩
    · rcases List.mem_append.mp (show q ∈ w.φ ++ [p] from hm) with h | h
      · exact b h
      · exact ne (List.mem_singleton.mp h)
    · cases e : prv q with
      | none => exact e
      | some u => rw [(hq q u e).2] at c; cases c
  · rw [List.nodup_append]
    exact ⟨R.nd, by simp, fun a ha b hb => by
      rw [List.mem_singleton] at hb; subst hb; exact fun q => h3 (q ▸ ha)⟩
  · rcases List.mem_append.mp (show a ∈ w.φ ++ [p] from ha) with h | h
    · exact R.free a h
    · rw [List.mem_singleton] at h; subst h; exact h2
  · have e1' : (w.φ ++ [p])[n]? = some a := e1
    by_cases hn : n < w.φ.length
    · rw [List.getElem?_append_left hn] at e1'
      rw [List.getElem?_append_left (by rw [← R.len]; exact hn)] at e2
      obtain ⟨ob, k1, k2⟩ := R.box n a c' e1' e2
      exact ⟨ob, k1, k2.le0 le⟩
    · have hn' : n = w.φ.length := by
        have := getElem?_lt e1'
        simp at this; omega
      subst hn'
      rw [List.getElem?_append_right (Nat.le_refl _)] at e1'
      rw [R.len, List.getElem?_append_right (Nat.le_refl _)] at e2
      simp at e1' e2
      subst e1'; subst e2
      exact ⟨o, h1, hb.le0 le⟩
  · obtain ⟨n1, n2⟩ := hq a u e
    obtain ⟨k1, k2, k3⟩ := R.prv a u n2
    refine ⟨k1, k2, fun hm => ?_⟩
    rcases List.mem_append.mp (show a ∈ w.φ ++ [p] from hm) with h | h
    · exact k3 h
    · exact n1 (List.mem_singleton.mp h)
theorem Rel.sqT (R : Rel G w L H) {a : Addr} {vs : List V} (h : SqT G.K w.F a vs) : SqT G.K H a vs := by
  rcases h with (h | ⟨o, h⟩) | h
  · exact .inl (.inl (R.sub _ _ h))
  · exact .inl (.inr ⟨o, R.sub _ _ h⟩)
  · exact .inr h
theorem Rel.sqL (R : Rel G w L H) {a : Addr} {vs : List V} (h : SqL G.K w.F a vs) : SqL G.K H a vs := by
  rcases h with (h | ⟨o, h⟩) | h
  · exact .inl (.inl (R.sub _ _ h))
  · exact .inl (.inr ⟨o, R.sub _ _ h⟩)
  · exact .inr h
theorem Rel.sqG (R : Rel G w L H) {a : Addr} {vs : List V} (h : SqG G.K w.F a vs) : SqG G.K H a vs := h.mono fun u e => R.sub _ _ e
theorem Rel.rd (R : Rel G w L H) {a : Addr} {u : HO} (h : Rd w.F a u) : Rd H a u := by
  rcases h with h | ⟨o, h⟩
  · exact .inl (R.sub _ _ h)
  · exact .inr ⟨o, R.sub _ _ h⟩
end
inductive Res (α : Type) where
  | ok (a : α) (L : Sto)
  | err (c : Str) (p : List (Str × D)) (L : Sto)
  | bad
def Res.bind {α β : Type} (r : Res α) (k : α → Sto → Res β) : Res β := match r with
  | .ok a L => k a L
  | .err c p L => .err c p L
  | .bad => .bad
@[simp] theorem Res.bind_ok {α β : Type} (a : α) (L : Sto) (k : α → Sto → Res β) : (Res.ok a L).bind k = k a L := rfl
@[simp] theorem Res.bind_err {α β : Type} (c : Str) (p : List (Str × D)) (L : Sto) (k : α → Sto → Res β) : (Res.err c p L : Res α).bind k = .err c p L := rfl
@[simp] theorem Res.bind_bad {α β : Type} (k : α → Sto → Res β) : (Res.bad : Res α).bind k = .bad := rfl
def ExcP (G : Gb) (w : Wd) (H : Hp) (dx : Option Addr) (p : List (Str × D)) : Prop :=
  (p = [] ∧ dx = none) ∨ ∃ (a : Addr) (fs : List (Str × V)), dx = some a ∧ w.F a = some (.xd fs) ∧ DenF G w fs p
section
variable (G : Gb)
def Post {α β : Type} (rel : Wd → β → α → Prop) (w : Wd) (r : Res α) (Q : β → Hp → Prop) (E : XK) : Prop := match r with
  | .ok a L => ∀ w' H v, w.le w' → Rel G w' L H → rel w' v a → Q v H
  | .err c p L => ∀ w' H dx, w.le w' → Rel G w' L H → ExcP G w' H dx p → ∀ C, G.mg c = some (.ref C) → E (.ref C) dx H
  | .bad => False
def tR {α β : Type} (rel : Wd → β → α → Prop) (W : WX) (f : Env' → Sto → Res α) : St → Hp → (β → Hp → Prop) → Prop := fun σ H Q =>
  ∃ w ρ L, Rel G w L H ∧ EnvR G w σ ρ ∧ Post G rel w (f ρ L) Q (fun c dx H' => W c dx σ H')
end
theorem Post.le {G : Gb} {α β : Type} {rel : Wd → β → α → Prop} {w w' : Wd} (h : w.le w') {r : Res α} {Q : β → Hp → Prop} {E : XK} (p : Post G rel w r Q E) : Post G rel w' r Q E := by
  cases r with
  | ok a L => exact fun w2 H v l R d => p w2 H v (h.trans l) R d
  | err c q L => exact fun w2 H dx l R x C m => p w2 H dx (h.trans l) R x C m
  | bad => exact p
theorem Post.imp {G : Gb} {α β : Type} {rel : Wd → β → α → Prop} {w : Wd} {r : Res α} {Q Q' : β → Hp → Prop} {E E' : XK} (p : Post G rel w r Q E) (h : ∀ v H, Q v H → Q' v H) (hE : ∀ c d H, E c d H → E' c d H) : Post G rel w r Q' E' := by
  cases r with
  | ok a L => exact fun w2 H v l R d => h _ _ (p w2 H v l R d)
  | err c q L => exact fun w2 H dx l R x C m => hE _ _ _ (p w2 H dx l R x C m)
  | bad => exact p
theorem Post.bind {G : Gb} {α α' β β' : Type} {rel : Wd → β → α → Prop} {rel' : Wd → β' → α' → Prop} {w : Wd} {r : Res α} {k : α → Sto → Res α'} {Q : β' → Hp → Prop} {E : XK} (p : Post G rel' w (r.bind k) Q E) :
    Post G rel w r (fun v H => ∃ w' a L, w.le w' ∧ Rel G w' L H ∧ rel w' v a ∧ Post G rel' w' (k a L) Q E) E := by
  cases r with
  | ok a L => exact fun w2 H v l R d => ⟨w2, a, L, l, R, d, Post.le l p⟩
  | err c q L => exact p
  | bad => exact p
theorem Post.ok {G : Gb} {α β : Type} {rel : Wd → β → α → Prop} {w : Wd} {a : α} {L : Sto} {Q : β → Hp → Prop} {E : XK} (p : Post G rel w (.ok a L) Q E) {w' : Wd} {H : Hp} {v : β} (l : w.le w') (R : Rel G w' L H) (d : rel w' v a) : Q v H := p w' H v l R d
structure Sc where
  g : Gb
  N : List Str
  sc : Scope
  fn : Str → Bool
  k : Nat
  
  gd : Bool
  
  top : Bool
  
  lm : Bool
structure Sc.Has (S : Sc) (W : WX) (X : Cx) : Prop where
  P : S.g.P = X.prog
  w : S.g.w = X.w
  K : S.g.K = X.K
  mg : S.g.mg = X.mg
  base : S.g.base = X.base
  N : S.N = X.N
  sc : S.sc = X.env.scope
  fn : S.fn = X.fn
  calm : X.calm = true
  room : Room S.k X.A
  gd : S.gd = true → X.A.guards = some []
  top : S.top = true → X.stack = X.env :: X.outer ∧ X.env.frame = some X.env.locals
  lm : S.lm = true → ∃ c P, X.env.code = .ref c ∧ LamX.TabB S.g.base S.g.mg c P ∧ (P, some (X.env.qual ++ "<lambda>")) ∈ S.g.tabs
  takes : Takes X W
  passes : PassesOwn (model X.prog X.w) X.A X.env X.xe
def Glb (S : Sc) (x : Str) : Prop := S.sc.names.lookup x = some .globalImplicit
theorem PE.imp {X : Cx} {e : Expr} {t u : TE} (h : PE X e t) (k : ∀ σ H Q, u σ H Q → t σ H Q) : PE X e u := ⟨fun pins s σ H Q I q => h.run pins s σ H Q I (k σ H Q q)⟩
theorem PT.imp {X : Cx} {e : Expr} {t u : TT} (h : PT X e t) (k : ∀ σ H Q, u σ H Q → t σ H Q) : PT X e u := ⟨fun pins s σ H Q I q => h.run pins s σ H Q I (k σ H Q q)⟩
theorem PW.imp {X : Cx} {e : Expr} {t u : TT} (h : PW X e t) (k : ∀ σ H Q, u σ H Q → t σ H Q) : PW X e u := ⟨fun wh pins s σ H Q I q => h.run wh pins s σ H Q I (k σ H Q q)⟩
theorem PA.imp {X : Cx} {e : List Expr} {t u : TA} (h : PA X e t) (k : ∀ σ H Q, u σ H Q → t σ H Q) : PA X e u := ⟨fun pos pins s σ H Q I q => h.run pos pins s σ H Q I (k σ H Q q)⟩
theorem PS.imp {X : Cx} {e : Stmt} {t u : TS} (h : PS X e t) (k : ∀ D σ H, u D σ H → t D σ H) : PS X e u := ⟨fun pins s σ H D I q => h.run pins s σ H D I (k D σ H q)⟩
theorem PSs.imp {X : Cx} {e : List Stmt} {t u : TS} (h : PSs X e t) (k : ∀ D σ H, u D σ H → t D σ H) : PSs X e u := ⟨fun pins s σ H D I q => h.run pins s σ H D I (k D σ H q)⟩
theorem PG.imp {X : Cx} {e : Expr} {t u : TG} (h : PG X e t) (k : ∀ v σ H Q, u v σ H Q → t v σ H Q) : PG X e u := ⟨fun pins s σ H v u Q I r q => h.run pins s σ H v u Q I r (k v σ H Q q)⟩
theorem PGs.imp {X : Cx} {e : List Expr} {t u : TGs} (h : PGs X e t) (k : ∀ v σ H Q, u v σ H Q → t v σ H Q) : PGs X e u := ⟨fun pins s σ H v u Q I r q => h.run pins s σ H v u Q I r (k v σ H Q q)⟩
theorem PI.imp {X : Cx} {tg e : Expr} {t u : TI} (h : PI X tg e t) (k : ∀ σ H Q, u σ H Q → t σ H Q) : PI X tg e u := ⟨fun pins s σ H Q I q => h.run pins s σ H Q I (k σ H Q q)⟩
inductive SRes where
  | nx (ρ : Env') (L : Sto)
  | rt (d : D) (L : Sto)
  | bk (ρ : Env') (L : Sto)
  | ct (ρ : Env') (L : Sto)
  | err (c : Str) (p : List (Str × D)) (ρ : Env') (L : Sto)
  | bad
abbrev EF := Env' → Sto → Res D
abbrev TF := Env' → Sto → Res Bool
abbrev AF := Env' → Sto → Res (List D)
abbrev SF := Env' → Sto → SRes
abbrev GF := D → Env' → Option Env'
structure Its where
  ds : List D
  src : List (Nat × D)
abbrev IF := Env' → Sto → Res Its
section
variable (G : Gb)
def PostS (w : Wd) (r : SRes) (E : Ends) (W : WX) : Prop := match r with
  | .nx ρ L => ∀ w' σ H, w.le w' → Rel G w' L H → EnvR G w' σ ρ → E.nx σ H
  | .rt d L => ∀ w' v H, w.le w' → Rel G w' L H → Den G w' v d → E.rt v H
  | .bk ρ L => ∀ w' σ H, w.le w' → Rel G w' L H → EnvR G w' σ ρ → E.bk σ H
  | .ct ρ L => ∀ w' σ H, w.le w' → Rel G w' L H → EnvR G w' σ ρ → E.ct σ H
  | .err c p ρ L => ∀ w' σ H dx, w.le w' → Rel G w' L H → EnvR G w' σ ρ → ExcP G w' H dx p → ∀ C, G.mg c = some (.ref C) → W (.ref C) dx σ H
  | .bad => False
def tS (W : WX) (f : SF) : TS := fun E σ H => ∃ w ρ L, Rel G w L H ∧ EnvR G w σ ρ ∧ PostS G w (f ρ L) E W
def tG (own : List Nat) (f : GF) : TG := fun v σ H Q => ∃ w ρ L d ρ', Rel G w L H ∧ EnvR G w σ ρ ∧ Den G w v d ∧ f d ρ = some ρ' ∧ ∀ σ', EnvR G w σ' ρ' → L2.wipe σ' own = L2.wipe σ own → Q σ' H
def tGs (own : List Nat) (f : List D → Env' → Option Env') : TGs := fun vs σ H Q => ∃ w ρ L ds ρ', Rel G w L H ∧ EnvR G w σ ρ ∧ DenL G w vs ds ∧ f ds ρ = some ρ' ∧ ∀ σ', EnvR G w σ' ρ' → L2.wipe σ' own = L2.wipe σ own → Q σ' H
def srcOk (L : Sto) (s : List (Nat × D)) : Prop := ∀ p ∈ s, L[p.1]? = some p.2
def ItOk (w0 : Wd) (s : List (Nat × D)) (J : It) (ds : List D) : Prop := ∀ w L H, w0.le0 w → Rel G w L H → srcOk L s → ∀ i : Nat,
  (∀ d, ds[i]? = some d → J.go i H ∧ ∀ x H', J.yld i H x H' → ∃ w', w.le w' ∧ Rel G w' L H' ∧ Den G w' x d) ∧ (i = ds.length → J.stop i H)
def PostI (w : Wd) (r : Res Its) (R : It → Hp → Prop) (E : XK) : Prop := match r with
  | .ok its L => ∀ w' H J, w.le w' → Rel G w' L H → srcOk L its.src → ItOk G w' its.src J its.ds → R J H
  | .err c p L => ∀ w' H dx, w.le w' → Rel G w' L H → ExcP G w' H dx p → ∀ C, G.mg c = some (.ref C) → E (.ref C) dx H
  | .bad => False
def tI (W : WX) (f : IF) : TI := fun σ H R => ∃ w ρ L, Rel G w L H ∧ EnvR G w σ ρ ∧ PostI G w (f ρ L) R (fun c dx H' => W c dx σ H')
end
theorem PostS.le {G : Gb} {w w' : Wd} (h : w.le w') {r : SRes} {E : Ends} {W : WX} (p : PostS G w r E W) : PostS G w' r E W := by
  cases r with
  | nx ρ L => exact fun w2 σ H l R e => p w2 σ H (h.trans l) R e
  | rt d L => exact fun w2 v H l R e => p w2 v H (h.trans l) R e
  | bk ρ L => exact fun w2 σ H l R e => p w2 σ H (h.trans l) R e
  | ct ρ L => exact fun w2 σ H l R e => p w2 σ H (h.trans l) R e
  | err c q ρ L => exact fun w2 σ H dx l R e x C m => p w2 σ H dx (h.trans l) R e x C m
  | bad => exact p
def SE (S : Sc) (W : WX) (e : Expr) (f : EF) : Prop := ∀ X, S.Has W X → PE X e (tR S.g (Den S.g) W f)
def ST (S : Sc) (W : WX) (e : Expr) (f : TF) : Prop := ∀ X, S.Has W X → PT X e (tR S.g (fun _ a b => a = b) W f)
def SW (S : Sc) (W : WX) (e : Expr) (f : TF) : Prop := ∀ X, S.Has W X → PW X e (tR S.g (fun _ a b => a = b) W f)
def SA (S : Sc) (W : WX) (es : List Expr) (f : AF) : Prop := ∀ X, S.Has W X → PA X es (tR S.g (DenL S.g) W f)
def SS (S : Sc) (W : WX) (st : Stmt) (f : SF) : Prop := ∀ X, S.Has W X → PS X st (tS S.g W f)
def SSs (S : Sc) (W : WX) (st : List Stmt) (f : SF) : Prop := ∀ X, S.Has W X → PSs X st (tS S.g W f)
def SG (S : Sc) (W : WX) (own : List Nat) (tg : Expr) (f : GF) : Prop := ∀ X, S.Has W X → PG X tg (tG S.g own f)
def SGs (S : Sc) (W : WX) (own : List Nat) (tgs : List Expr) (f : List D → Env' → Option Env') : Prop := ∀ X, S.Has W X → PGs X tgs (tGs S.g own f)
def SI (S : Sc) (W : WX) (tg e : Expr) (f : IF) : Prop := ∀ X, S.Has W X → PI X tg e (tI S.g W f)
def eVar (i : Nat) : EF := fun ρ L => match ρ[i]? with
  | some (some d) => .ok d L
  | _ => .bad
def eC (d : D) : EF := fun _ L => .ok d L
section
variable {S : Sc} {W : WX} {a b e c : Expr} {fa fb : EF} {pos : Pos}
theorem se_var (i : Nat) {x : Str} (hN : S.N[i]? = some x := by rfl) (hv : Vis S.sc x := by first | exact Or.inl rfl | exact Or.inr (Or.inl rfl) | exact Or.inr (Or.inr rfl))
    (hd : (x == ("__debug__" : Str)) = false := by decide) (hcd : (x == ("__classdict__" : Str)) = false := by decide) : SE S W (.Name x pos) (eVar i) := fun X h => by
  refine PE.imp (pe_var (i := i) (by rw [← h.N]; exact hN) (by rw [← h.sc]; exact hv) hd hcd) fun σ H Q ⟨w, ρ, L, R, e, p⟩ => ?_
  unfold eVar at p
  split at p
  · rename_i d q
    obtain ⟨v, h1, h2⟩ := e.2 i d q
    exact ⟨v, h1, p.ok (Wd.le.refl w) R h2⟩
  · exact p.elim
theorem se_const {d : D} {v : V} (hp : ∀ X : Cx, PE X e (tC v)) (hd : ∀ G w, Den G w v d) : SE S W e (eC d) := fun X h =>
  PE.imp (hp X) fun σ H Q ⟨w, ρ, L, R, e, p⟩ => p.ok (Wd.le.refl w) R (hd S.g w)
theorem se_int {i : Int} {j : Nat} : SE S W (.Constant (.int i) j pos) (eC (.int i)) := se_const (fun _ => pe_int) fun _ _ => .int i
theorem se_bl {i : Bool} {j : Nat} : SE S W (.Constant (.bool i) j pos) (eC (.bl i)) := se_const (fun _ => pe_bl) fun _ _ => .bl i
theorem se_non {j : Nat} : SE S W (.Constant .none j pos) (eC .non) := se_const (fun _ => pe_non) fun _ _ => .non
theorem se_str {x : Str} {j : Nat} : SE S W (.Constant (.str x) j pos) (eC (.str x)) := se_const (fun _ => pe_str) fun _ _ => .str x
theorem se_glob {x : Str} {v : V} {u : Value} {d : D} (hg : Glb S x) (hm : S.g.mg x = some u) (r : RelV v u) (hd : ∀ w, Den S.g w v d) (hdb : (x == ("__debug__" : Str)) = false := by decide) :
    SE S W (.Name x pos) (eC d) := fun X h =>
  PE.imp (pe_glob (v := v) (u := u) (by show X.env.scope.names.lookup x = _; rw [← h.sc]; exact hg) (by rw [← h.mg]; exact hm) r hdb) fun σ H Q ⟨w, ρ, L, R, e, p⟩ => p.ok (Wd.le.refl w) R (hd w)
def R2D (G : Gb) (r : R2) (g : D → D → Sto → Res D) : Prop := ∀ (w : Wd) (L : Sto) (H : Hp) (x y : V) (d e : D) (Q : VK) (E : XK), Rel G w L H → Den G w x d → Den G w y e → Post G (Den G) w (g d e L) Q E → r x y H Q
def R1D (G : Gb) (r : V → Hp → VK → Prop) (g : D → Sto → Res D) : Prop := ∀ (w : Wd) (L : Sto) (H : Hp) (x : V) (d : D) (Q : VK) (E : XK), Rel G w L H → Den G w x d → Post G (Den G) w (g d L) Q E → r x H Q
def RnD (G : Gb) (r : List V → Hp → VK → Prop) (g : List D → Sto → Res D) : Prop := ∀ (w : Wd) (L : Sto) (H : Hp) (x : List V) (d : List D) (Q : VK) (E : XK), Rel G w L H → DenL G w x d → Post G (Den G) w (g d L) Q E → r x H Q
def e2 (g : D → D → Sto → Res D) (fa fb : EF) : EF := fun ρ L => (fa ρ L).bind fun d L1 => (fb ρ L1).bind fun e L2 => g d e L2
def e1 (g : D → Sto → Res D) (fa : EF) : EF := fun ρ L => (fa ρ L).bind g
def en (g : List D → Sto → Res D) (fa : AF) : EF := fun ρ L => (fa ρ L).bind g
theorem tOp_of {G : Gb} {r : R2} {g : D → D → Sto → Res D} (hr : R2D G r g) {σ : St} {H : Hp} {Q : VK} (h : tR G (Den G) W (e2 g fa fb) σ H Q) : tOp r (tR G (Den G) W fa) (tR G (Den G) W fb) σ H Q := by
  obtain ⟨w, ρ, L, R, e, p⟩ := h
  refine ⟨w, ρ, L, R, e, (Post.bind (rel := Den G) p).imp (fun x H1 ⟨w1, d, L1, l1, R1, d1, p1⟩ => ?_) fun _ _ _ z => z⟩
  refine ⟨w1, ρ, L1, R1, e.le l1, (Post.bind (rel := Den G) p1).imp (fun y H2 ⟨w2, d', L2, l2, R2, d2, p2⟩ => ?_) fun _ _ _ z => z⟩
  exact hr w2 L2 H2 x y d d' Q _ R2 (d1.le l2) d2 p2
theorem se_op {op : Operator} {r : R2} {g : D → D → Sto → Res D} (ho : ∀ X, S.Has W X → OpR X (binaryOp op) r) (hr : R2D S.g r g) (ha : SE S W a fa) (hb : SE S W b fb) : SE S W (.BinOp a op b pos) (e2 g fa fb) := fun X h =>
  PE.imp (pe_op (ho X h) (ha X h) (hb X h)) fun σ H Q q => tOp_of hr q
theorem se_un {op : UnaryOp} {r : V → Hp → VK → Prop} {g : D → Sto → Res D} (ho : ∀ X, S.Has W X → UnR X (unaryOp op) r) (hr : R1D S.g r g) (ha : SE S W a fa) : SE S W (.UnaryOp op a pos) (e1 g fa) := fun X h =>
  PE.imp (pe_un (ho X h) (ha X h)) fun σ H Q ⟨w, ρ, L, R, e, p⟩ =>
    ⟨w, ρ, L, R, e, (Post.bind (rel := Den S.g) p).imp (fun x H1 ⟨w1, d, L1, l1, R1, d1, p1⟩ => hr w1 L1 H1 x d Q _ R1 d1 p1) fun _ _ _ z => z⟩
theorem se_cmp {op : CmpOp} {r : R2} {g : D → D → Sto → Res D} (ho : ∀ X, S.Has W X → OpR X (compareOp op) r) (hr : R2D S.g r g) (ha : SE S W a fa) (hb : SE S W b fb) (hm : behindInMarks op b = false) : SE S W (.Compare a [op] [b] pos) (e2 g fa fb) := fun X h =>
  PE.imp (pe_cmpR (ho X h) (ha X h) (hb X h) hm) fun σ H Q q => tOp_of hr q
def asB (r : Res D) : Res Bool := r.bind fun d L => match d with
  | .bl b => .ok b L
  | _ => .bad
theorem Post.asB {G : Gb} {w : Wd} {r : Res D} {Q : Bool → Hp → Prop} {E : XK} (p : Post G (fun _ a b => a = b) w (asB r) Q E) : Post G (Den G) w r (fun x H => ∃ k, x = .bl k ∧ Q k H) E := by
  refine (Post.bind (rel := Den G) p).imp (fun x H ⟨w1, d, L1, l1, R1, d1, p1⟩ => ?_) fun _ _ _ z => z
  cases d with
  | bl b => cases d1; exact ⟨b, rfl, Post.ok p1 (Wd.le.refl _) R1 rfl⟩
  | _ => exact p1.elim
theorem st_cmp {op : CmpOp} {r : R2} {g : D → D → Sto → Res D} (ho : ∀ X, S.Has W X → OpR X (compareOp op) r) (hr : R2D S.g r g) (ha : SE S W a fa) (hb : SE S W b fb) (hm : behindInMarks op b = false) : ST S W (.Compare a [op] [b] pos) (fun ρ L => asB (e2 g fa fb ρ L)) := fun X h =>
  PT.imp (pt_cmpR (ho X h) (ha X h) (hb X h) hm) fun σ H Q ⟨w, ρ, L, R, e, p⟩ => tOp_of hr ⟨w, ρ, L, R, e, Post.asB p⟩
def tAndF (f g : TF) : TF := fun ρ L => (f ρ L).bind fun c L1 => if c = true then g ρ L1 else .ok false L1
def tOrF (f g : TF) : TF := fun ρ L => (f ρ L).bind fun c L1 => if c = true then .ok true L1 else g ρ L1
def tNotF (f : TF) : TF := fun ρ L => (f ρ L).bind fun c L1 => .ok (!c) L1
variable {ta tb : TF} {rest : List Expr}
abbrev eqR {α : Type} : Wd → α → α → Prop := fun _ a b => a = b
theorem sw_one_or (h : ST S W a ta) : SW S W (.BoolOp .Or [a] pos) ta := fun X hX => pw_or1 (h X hX)
theorem sw_or (ha : ST S W a ta) (hb : SW S W (.BoolOp .Or (b :: rest) pos) tb) : SW S W (.BoolOp .Or (a :: b :: rest) pos) (tOrF ta tb) := fun X h =>
  PW.imp (pw_or (ha X h) (hb X h)) fun σ H Q ⟨w, ρ, L, R, e, p⟩ => ⟨w, ρ, L, R, e, (Post.bind (rel := eqR) p).imp (fun c H1 ⟨w1, d, L1, l1, R1, d1, p1⟩ => by
    cases d1
    cases c with
    | true => exact Post.ok p1 (Wd.le.refl _) R1 rfl
    | false => exact ⟨w1, ρ, L1, R1, e.le l1, p1⟩) fun _ _ _ z => z⟩
theorem st_bool (h : SW S W e ta) : ST S W e ta := fun X hX => (h X hX).pt
theorem st_not (ha : ST S W a ta) : ST S W (.UnaryOp .Not a pos) (tNotF ta) := fun X h =>
  PT.imp (pt_not (ha X h)) fun σ H Q ⟨w, ρ, L, R, e, p⟩ => ⟨w, ρ, L, R, e, (Post.bind (rel := eqR) p).imp (fun c H1 ⟨w1, d, L1, l1, R1, d1, p1⟩ => by
    cases d1
    exact Post.ok p1 (Wd.le.refl _) R1 rfl) fun _ _ _ z => z⟩
def eIf (t : TF) (f g : EF) : EF := fun ρ L => (t ρ L).bind fun c L1 => if c = true then f ρ L1 else g ρ L1
def eAndF (f g : EF) : EF := fun ρ L => (asB (f ρ L)).bind fun c L1 => if c = true then g ρ L1 else .ok (.bl false) L1
def eOrF (f g : EF) : EF := fun ρ L => (asB (f ρ L)).bind fun c L1 => if c = true then .ok (.bl true) L1 else g ρ L1
theorem se_one {op} (h : SE S W a fa) : SE S W (.BoolOp op [a] pos) fa := fun X hX => pe_one (h X hX)
theorem se_and (ha : SE S W a fa) (hb : SE S W (.BoolOp .And (b :: rest) pos) fb) : SE S W (.BoolOp .And (a :: b :: rest) pos) (eAndF fa fb) := fun X h =>
  PE.imp (pe_and (ha X h) (hb X h)) fun σ H Q ⟨w, ρ, L, R, e, p⟩ => ⟨w, ρ, L, R, e, (Post.asB (Post.bind (rel := eqR) p)).imp (fun x H1 ⟨k, hk, w1, d, L1, l1, R1, d1, p1⟩ => by
    cases d1
    refine ⟨k, hk, ?_⟩
    cases k with
    | true => exact ⟨w1, ρ, L1, R1, e.le l1, p1⟩
    | false => exact Post.ok p1 (Wd.le.refl _) R1 (.bl false)) fun _ _ _ z => z⟩
theorem se_or (ha : SE S W a fa) (hb : SE S W (.BoolOp .Or (b :: rest) pos) fb) : SE S W (.BoolOp .Or (a :: b :: rest) pos) (eOrF fa fb) := fun X h =>
  PE.imp (pe_or (ha X h) (hb X h)) fun σ H Q ⟨w, ρ, L, R, e, p⟩ => ⟨w, ρ, L, R, e, (Post.asB (Post.bind (rel := eqR) p)).imp (fun x H1 ⟨k, hk, w1, d, L1, l1, R1, d1, p1⟩ => by
    cases d1
    refine ⟨k, hk, ?_⟩
    cases k with
    | true => exact Post.ok p1 (Wd.le.refl _) R1 (.bl true)
    | false => exact ⟨w1, ρ, L1, R1, e.le l1, p1⟩) fun _ _ _ z => z⟩
def eNotF (f : EF) : EF := fun ρ L => (asB (f ρ L)).bind fun c L1 => .ok (.bl (!c)) L1
def aNil : AF := fun _ L => .ok [] L
def aCons (f : EF) (g : AF) : AF := fun ρ L => (f ρ L).bind fun d L1 => (g ρ L1).bind fun ds L2 => .ok (d :: ds) L2
end
mutual
def D.bel (n : Nat) : D → Bool
  | .non => true | .bl _ => true | .int _ => true | .str _ => true | .fn _ => true | .ty _ => true
  | .tup xs => belL n xs
  | .tg xs => belL n xs
  | .sl _ xs => belL n xs
  | .dF kvs => belK n kvs
  | .lst xs => belL n xs
  | .ro xs => belL n xs
  | .dK kvs => belK n kvs
  | .dT kvs => belT n kvs
  | .ins _ fs => belF n fs
  | .loc m => decide (m < n)
def belL (n : Nat) : List D → Bool
  | [] => true
  | d :: ds => d.bel n && belL n ds
def belK (n : Nat) : List (Key × D) → Bool
  | [] => true
  | (_, d) :: ds => d.bel n && belK n ds
def belT (n : Nat) : List (List Key × D) → Bool
  | [] => true
  | (_, d) :: ds => d.bel n && belT n ds
def belF (n : Nat) : List (Str × D) → Bool
  | [] => true
  | (_, d) :: ds => d.bel n && belF n ds
end
theorem and2 {a b : Bool} (h : (a && b) = true) : a = true ∧ b = true := Bool.and_eq_true_iff.mp h
theorem and2' {a b : Bool} (h : a = true) (k : b = true) : (a && b) = true := Bool.and_eq_true_iff.mpr ⟨h, k⟩
mutual
theorem Den.bel {G : Gb} {w : Wd} : ∀ {v : V} {d : D}, Den G w v d → d.bel w.φ.length = true
  | _, _, .non => rfl
  | _, _, .bl _ => rfl
  | _, _, .int _ => rfl
  | _, _, .str _ => rfl
  | _, _, .fn _ _ => rfl
  | _, _, .ty _ => rfl
  | _, _, .tup _ r => DenL.bel r
  | _, _, .tg _ r => DenL.bel r
  | _, _, .sl _ _ _ r => DenL.bel r
  | _, _, .dF _ r => DenK.bel r
  | _, _, .lst _ r => DenL.bel r
  | _, _, .ro _ r => DenL.bel r
  | _, _, .dK _ r => DenK.bel r
  | _, _, .dT _ r => DenT.bel r
  | _, _, .ins _ _ r => DenF.bel r
  | _, _, .loc e => decide_eq_true (getElem?_lt e)
theorem DenL.bel {G : Gb} {w : Wd} : ∀ {v : List V} {d : List D}, DenL G w v d → belL w.φ.length d = true
  | _, _, .nil => rfl
  | _, _, .cons a t => and2' (Den.bel a) (DenL.bel t)
theorem DenK.bel {G : Gb} {w : Wd} : ∀ {v : List (Key × V)} {d : List (Key × D)}, DenK G w v d → belK w.φ.length d = true
  | _, _, .nil => rfl
  | _, _, .cons a t => and2' (Den.bel a) (DenK.bel t)
theorem DenT.bel {G : Gb} {w : Wd} : ∀ {v : List (List Key × V)} {d : List (List Key × D)}, DenT G w v d → belT w.φ.length d = true
  | _, _, .nil => rfl
  | _, _, .cons a t => and2' (Den.bel a) (DenT.bel t)
theorem DenF.bel {G : Gb} {w : Wd} : ∀ {v : List (Str × V)} {d : List (Str × D)}, DenF G w v d → belF w.φ.length d = true
  | _, _, .nil => rfl
  | _, _, .cons a t => and2' (Den.bel a) (DenF.bel t)
end
theorem BoxD.bel {G : Gb} {w : Wd} {o : HO} {d : D} : BoxD G w o d → d.bel w.φ.length = true
  | .lst r => r.bel
  | .dK r => r.bel
  | .dT r => r.bel
  | .ins _ r => r.bel
structure Cut (w1 w2 : Wd) (n : Nat) : Prop where
  sub : ∀ a u, HO.thaw u → Rd w1.F a u → Rd w2.F a u
  φ : w2.φ = w1.φ.take n
  dir : ∀ a u, w1.F a = some u → w2.F a = some u
mutual
theorem Den.cut {G : Gb} {w1 w2 : Wd} {n : Nat} (c : Cut w1 w2 n) : ∀ {v : V} {d : D}, Den G w1 v d → d.bel n = true → Den G w2 v d
  | _, _, .non, _ => .non
  | _, _, .bl b, _ => .bl b
  | _, _, .int i, _ => .int i
  | _, _, .str s, _ => .str s
  | _, _, .fn e r, _ => .fn e r
  | _, _, .ty n, _ => .ty n
  | _, _, .tg h r, b => .tg (h.mono fun u e => c.dir _ _ e) (DenL.cut c r b)
  | _, _, .sl h d m r, b => .sl (c.dir _ _ h) (c.dir _ _ d) m (DenL.cut c r b)
  | _, _, .dF h r, b => .dF (c.dir _ _ h) (DenK.cut c r b)
  | _, _, .tup h r, b => .tup (h.elim (fun h => .inl (c.sub _ _ trivial h)) .inr) (DenL.cut c r b)
  | _, _, .lst h r, b => .lst (c.dir _ _ h) (DenL.cut c r b)
  | _, _, .ro h r, b => .ro (h.elim (fun h => .inl (c.sub _ _ trivial h)) .inr) (DenL.cut c r b)
  | _, _, .dK h r, b => .dK (c.dir _ _ h) (DenK.cut c r b)
  | _, _, .dT h r, b => .dT (c.dir _ _ h) (DenT.cut c r b)
  | _, _, .ins h m r, b => .ins (c.dir _ _ h) m (DenF.cut c r b)
  | _, _, .loc e, b => .loc (by rw [c.φ, List.getElem?_take_of_lt (of_decide_eq_true b)]; exact e)
theorem DenL.cut {G : Gb} {w1 w2 : Wd} {n : Nat} (c : Cut w1 w2 n) : ∀ {v : List V} {d : List D}, DenL G w1 v d → belL n d = true → DenL G w2 v d
  | _, _, .nil, _ => .nil
  | _, _, .cons a t, b => .cons (Den.cut c a (and2 b).1) (DenL.cut c t (and2 b).2)
theorem DenK.cut {G : Gb} {w1 w2 : Wd} {n : Nat} (c : Cut w1 w2 n) : ∀ {v : List (Key × V)} {d : List (Key × D)}, DenK G w1 v d → belK n d = true → DenK G w2 v d
  | _, _, .nil, _ => .nil
  | _, _, .cons a t, b => .cons (Den.cut c a (and2 b).1) (DenK.cut c t (and2 b).2)
theorem DenT.cut {G : Gb} {w1 w2 : Wd} {n : Nat} (c : Cut w1 w2 n) : ∀ {v : List (List Key × V)} {d : List (List Key × D)}, DenT G w1 v d → belT n d = true → DenT G w2 v d
  | _, _, .nil, _ => .nil
  | _, _, .cons a t, b => .cons (Den.cut c a (and2 b).1) (DenT.cut c t (and2 b).2)
theorem DenF.cut {G : Gb} {w1 w2 : Wd} {n : Nat} (c : Cut w1 w2 n) : ∀ {v : List (Str × V)} {d : List (Str × D)}, DenF G w1 v d → belF n d = true → DenF G w2 v d
  | _, _, .nil, _ => .nil
  | _, _, .cons a t, b => .cons (Den.cut c a (and2 b).1) (DenF.cut c t (and2 b).2)
end
theorem BoxD.cut {G : Gb} {w1 w2 : Wd} {n : Nat} (c : Cut w1 w2 n) {o : HO} {d : D} : BoxD G w1 o d → d.bel n = true → BoxD G w2 o d
  | .lst r, b => .lst (r.cut c b)
  | .dK r, b => .dK (r.cut c b)
  | .dT r, b => .dT (r.cut c b)
  | .ins m r, b => .ins m (r.cut c b)
def mapO {α β : Type} (f : α → Option β) : List α → Option (List β)
  | [] => some []
  | a :: as => match f a, mapO f as with
    | some b, some bs => some (b :: bs)
    | _, _ => none
def frz (L : Sto) (n : Nat) : Nat → D → Option D
  | k, d => if d.bel n = true then some d else match k with
    | 0 => none
    | k + 1 => match d with
      | .loc m => (match L[m]? with
        | some c => frz L n k c
        | none => none)
      | .tup xs => (mapO (frz L n k) xs).map .tup
      | .tg xs => (mapO (frz L n k) xs).map .tg
      | .sl c xs => (mapO (frz L n k) xs).map (.sl c)
      | .dF kvs => (mapO (fun p => (frz L n k p.2).map fun d => (p.1, d)) kvs).map .dF
      | .lst xs => (mapO (frz L n k) xs).map .lst
      | .dK kvs => (mapO (fun p => (frz L n k p.2).map fun d => (p.1, d)) kvs).map .dK
      | .dT kvs => (mapO (fun p => (frz L n k p.2).map fun d => (p.1, d)) kvs).map .dT
      | .ins c fs => (mapO (fun p => (frz L n k p.2).map fun d => (p.1, d)) fs).map (.ins c)
      | _ => none
theorem frz_bel {L : Sto} {n k : Nat} {d : D} (h : d.bel n = true) : frz L n k d = some d := by
  unfold frz; rw [if_pos h]
structure Fz (G : Gb) (w1 w2 : Wd) (n : Nat) (H : Hp) : Prop where
  cut : Cut w1 w2 n
  box : ∀ (m : Nat) (a : Addr) (o : HO), n ≤ m → w1.φ[m]? = some a → H a = some o → w2.F a = some o
theorem mapO_cons {α β : Type} {f : α → Option β} {a : α} {as : List α} {r : List β} (h : mapO f (a :: as) = some r) : ∃ b bs, f a = some b ∧ mapO f as = some bs ∧ r = b :: bs := by
  unfold mapO at h
  split at h
  · rename_i b bs h1 h2
    cases h
    exact ⟨b, bs, h1, h2, rfl⟩
  · cases h
theorem mapO_imp {α β : Type} {f g : α → Option β} (h : ∀ a b, f a = some b → g a = some b) : ∀ {l : List α} {r : List β}, mapO f l = some r → mapO g l = some r
  | [], _, e => e
  | a :: as, _, e => by
    obtain ⟨b, bs, h1, h2, rfl⟩ := mapO_cons e
    have h3 := h a b h1
    have h4 := mapO_imp h h2
    unfold mapO
    rw [h3, h4]
theorem frz_mono {L : Sto} {n : Nat} : ∀ (k : Nat) (d d' : D), frz L n k d = some d' → frz L n (k + 1) d = some d' := by
  intro k
  induction k with
  | zero =>
    intro d d' y
    unfold frz at y
    split at y
    · rename_i b; cases y; exact frz_bel b
    · cases y
  | succ k ihk =>
    intro d d' y
    have mm : ∀ {κ : Type} (p : κ × D) (b : κ × D), ((frz L n k p.2).map fun d => (p.1, d)) = some b → ((frz L n (k + 1) p.2).map fun d => (p.1, d)) = some b := fun p b h => by
      obtain ⟨d, h3, rfl⟩ := Option.map_eq_some_iff.mp h
      rw [ihk _ _ h3] <;> rfl
    unfold frz at y
    split at y
    · rename_i b
      cases y
      exact frz_bel b
    · rename_i nb
      unfold frz
      rw [if_neg nb]
      cases d with
      | loc m =>
        dsimp only at y ⊢
        split at y
        · exact ihk _ _ y
        · cases y
      | tup xs =>
        obtain ⟨ys, h1, rfl⟩ := Option.map_eq_some_iff.mp y
        dsimp only
        rw [mapO_imp ihk h1] <;> rfl
      | lst xs =>
        obtain ⟨ys, h1, rfl⟩ := Option.map_eq_some_iff.mp y
        dsimp only
        rw [mapO_imp ihk h1] <;> rfl
      | tg xs =>
        obtain ⟨ys, h1, rfl⟩ := Option.map_eq_some_iff.mp y
        dsimp only
        rw [mapO_imp ihk h1] <;> rfl
      | sl c xs =>
        obtain ⟨ys, h1, rfl⟩ := Option.map_eq_some_iff.mp y
        dsimp only
        rw [mapO_imp ihk h1] <;> rfl
      | dK xs =>
        obtain ⟨ys, h1, rfl⟩ := Option.map_eq_some_iff.mp y
        dsimp only
        rw [mapO_imp mm h1] <;> rfl
      | dF xs =>
        obtain ⟨ys, h1, rfl⟩ := Option.map_eq_some_iff.mp y
        dsimp only
        rw [mapO_imp mm h1] <;> rfl
      | dT xs =>
        obtain ⟨ys, h1, rfl⟩ := Option.map_eq_some_iff.mp y
        dsimp only
        rw [mapO_imp mm h1] <;> rfl
      | ins c xs =>
        obtain ⟨ys, h1, rfl⟩ := Option.map_eq_some_iff.mp y
        dsimp only
        rw [mapO_imp mm h1] <;> rfl
      | _ => cases y
section
variable {G : Gb} {w1 w2 : Wd} {n k : Nat} {L : Sto} {H : Hp}
theorem frzL (ih : ∀ v d d', Den G w1 v d → frz L n k d = some d' → Den G w2 v d') : ∀ {vs : List V} {ds ds' : List D}, DenL G w1 vs ds → mapO (frz L n k) ds = some ds' → DenL G w2 vs ds'
  | _, _, _, .nil, e => by cases e; exact .nil
  | _, _, _, .cons a t, e => by
    obtain ⟨b, bs, h1, h2, rfl⟩ := mapO_cons e
    exact .cons (ih _ _ _ a h1) (frzL ih t h2)
theorem frzK (ih : ∀ v d d', Den G w1 v d → frz L n k d = some d' → Den G w2 v d') : ∀ {vs : List (Key × V)} {ds ds' : List (Key × D)}, DenK G w1 vs ds → mapO (fun p => (frz L n k p.2).map fun d => (p.1, d)) ds = some ds' → DenK G w2 vs ds'
  | _, _, _, .nil, e => by cases e; exact .nil
  | _, _, _, .cons a t, e => by
    obtain ⟨b, bs, h1, h2, rfl⟩ := mapO_cons e
    obtain ⟨d, h3, rfl⟩ := Option.map_eq_some_iff.mp h1
    exact .cons (ih _ _ _ a h3) (frzK ih t h2)
theorem frzT (ih : ∀ v d d', Den G w1 v d → frz L n k d = some d' → Den G w2 v d') : ∀ {vs : List (List Key × V)} {ds ds' : List (List Key × D)}, DenT G w1 vs ds → mapO (fun p => (frz L n k p.2).map fun d => (p.1, d)) ds = some ds' → DenT G w2 vs ds'
  | _, _, _, .nil, e => by cases e; exact .nil
  | _, _, _, .cons a t, e => by
    obtain ⟨b, bs, h1, h2, rfl⟩ := mapO_cons e
    obtain ⟨d, h3, rfl⟩ := Option.map_eq_some_iff.mp h1
    exact .cons (ih _ _ _ a h3) (frzT ih t h2)
theorem frzF (ih : ∀ v d d', Den G w1 v d → frz L n k d = some d' → Den G w2 v d') : ∀ {vs : List (Str × V)} {ds ds' : List (Str × D)}, DenF G w1 vs ds → mapO (fun p => (frz L n k p.2).map fun d => (p.1, d)) ds = some ds' → DenF G w2 vs ds'
  | _, _, _, .nil, e => by cases e; exact .nil
  | _, _, _, .cons a t, e => by
    obtain ⟨b, bs, h1, h2, rfl⟩ := mapO_cons e
    obtain ⟨d, h3, rfl⟩ := Option.map_eq_some_iff.mp h1
    exact .cons (ih _ _ _ a h3) (frzF ih t h2)
theorem frz_den (R : Rel G w1 L H) (F : Fz G w1 w2 n H) : ∀ (k : Nat) (v : V) (d d' : D), Den G w1 v d → frz L n k d = some d' → Den G w2 v d' := by
  intro k
  induction k with
  | zero =>
    intro v d d' h e
    unfold frz at e
    split at e
    · rename_i b; cases e; exact h.cut F.cut b
    · cases e
  | succ k ih =>
    intro v d d' h e
    unfold frz at e
    split at e
    · rename_i b; cases e; exact h.cut F.cut b
    · rename_i nb
      cases h with
      | loc q =>
        rename_i m a
        have hm : n ≤ m := by
          have := nb
          simp only [D.bel, decide_eq_true_eq] at this
          omega
        dsimp only at e
        split at e
        · rename_i c hc
          obtain ⟨o, h1, h2⟩ := R.box m a c q hc
          have h3 := F.box m a o hm q h1
          have hd : ∀ d', frz L n k c = some d' → Den G w2 (.ref a) d' := by
            intro d' e'
            cases k with
            | zero =>
              unfold frz at e'
              split at e'
              · rename_i b
                cases e'
                cases h2 with
                | lst r => exact .lst h3 (r.cut F.cut b)
                | dK r => exact .dK h3 (r.cut F.cut b)
                | dT r => exact .dT h3 (r.cut F.cut b)
                | ins m r => exact .ins h3 m (r.cut F.cut b)
              · cases e'
            | succ k =>
              have ih' : ∀ v d d', Den G w1 v d → frz L n k d = some d' → Den G w2 v d' := fun v d d' x y => ih v d d' x (frz_mono k d d' y)
              unfold frz at e'
              split at e'
              · rename_i b
                cases e'
                cases h2 with
                | lst r => exact .lst h3 (r.cut F.cut b)
                | dK r => exact .dK h3 (r.cut F.cut b)
                | dT r => exact .dT h3 (r.cut F.cut b)
                | ins m r => exact .ins h3 m (r.cut F.cut b)
              · cases h2 with
                | lst r => obtain ⟨ys, y1, rfl⟩ := Option.map_eq_some_iff.mp e'; exact .lst h3 (frzL ih' r y1)
                | dK r => obtain ⟨ys, y1, rfl⟩ := Option.map_eq_some_iff.mp e'; exact .dK h3 (frzK ih' r y1)
                | dT r => obtain ⟨ys, y1, rfl⟩ := Option.map_eq_some_iff.mp e'; exact .dT h3 (frzT ih' r y1)
                | ins m r => obtain ⟨ys, y1, rfl⟩ := Option.map_eq_some_iff.mp e'; exact .ins h3 m (frzF ih' r y1)
          exact hd _ e
        · cases e
      | tg s r => obtain ⟨ys, y1, rfl⟩ := Option.map_eq_some_iff.mp e; exact .tg (s.mono fun u e => F.cut.dir _ _ e) (frzL ih r y1)
      | tup s r => obtain ⟨ys, y1, rfl⟩ := Option.map_eq_some_iff.mp e; exact .tup (s.elim (fun h => .inl (F.cut.sub _ _ trivial h)) .inr) (frzL ih r y1)
      | lst s r => obtain ⟨ys, y1, rfl⟩ := Option.map_eq_some_iff.mp e; exact .lst (F.cut.dir _ _ s) (frzL ih r y1)
      | dK s r => obtain ⟨ys, y1, rfl⟩ := Option.map_eq_some_iff.mp e; exact .dK (F.cut.dir _ _ s) (frzK ih r y1)
      | dT s r => obtain ⟨ys, y1, rfl⟩ := Option.map_eq_some_iff.mp e; exact .dT (F.cut.dir _ _ s) (frzT ih r y1)
      | ins s m r => obtain ⟨ys, y1, rfl⟩ := Option.map_eq_some_iff.mp e; exact .ins (F.cut.dir _ _ s) m (frzF ih r y1)
      | sl s d m r => obtain ⟨ys, y1, rfl⟩ := Option.map_eq_some_iff.mp e; exact .sl (F.cut.dir _ _ s) (F.cut.dir _ _ d) m (frzL ih r y1)
      | dF s r => obtain ⟨ys, y1, rfl⟩ := Option.map_eq_some_iff.mp e; exact .dF (F.cut.dir _ _ s) (frzK ih r y1)
      | ro s r => cases e
      | _ => exact absurd rfl nb
end
def TakeOk (L0 L : Sto) : Prop := L0.length ≤ L.length ∧ ∀ (n : Nat) (c : D), n < L0.length → L[n]? = some c → L0[n]? = some c ∨ c.bel L0.length = true
open Classical in
noncomputable def dropR (L0 : Sto) (r : Res D) : Res D := match r with
  | .ok d L => if TakeOk L0 L then (match frz L L0.length 12 d with
    | some d' => .ok d' (L.take L0.length)
    | none => .bad) else .bad
  | .err c p L => if TakeOk L0 L then (if belF L0.length p = true then .err c p (L.take L0.length) else .bad) else .bad
  | .bad => .bad
theorem dropR_ok {L0 L : Sto} {d d' : D} (h : TakeOk L0 L) (e : frz L L0.length 12 d = some d') : dropR L0 (.ok d L) = .ok d' (L.take L0.length) := by
  unfold dropR; dsimp only; rw [if_pos h, e]
theorem dropR_err {L0 L : Sto} {c : Str} {p : List (Str × D)} (h : TakeOk L0 L) (e : belF L0.length p = true) : dropR L0 (.err c p L) = .err c p (L.take L0.length) := by
  unfold dropR; dsimp only; rw [if_pos h, if_pos e]
section
variable {G : Gb} {w w1 : Wd} {L0 L : Sto} {H H1 : Hp}
def cutW (w1 : Wd) (n : Nat) (H : Hp) : Wd := ⟨fun a => if a ∈ w1.φ.drop n then H a else w1.F a, w1.φ.take n, w1.prv⟩
theorem cut_rel (R0 : Rel G w L0 H) (l : w.le w1) (R : Rel G w1 L H1) (t : TakeOk L0 L) : w.le (cutW w1 L0.length H1) ∧ Rel G (cutW w1 L0.length H1) (L.take L0.length) H1 ∧ Fz G w1 (cutW w1 L0.length H1) L0.length H1 := by
  have out : ∀ a u, w1.F a = some u → a ∉ w1.φ.drop L0.length := fun a u e hm => by
    rw [R.free a (List.mem_of_mem_drop hm)] at e; cases e
  have sub : ∀ a u, HO.thaw u → Rd w1.F a u → Rd (cutW w1 L0.length H1).F a u := fun a u _ r => by
    rcases r with r | ⟨o, r⟩
    · exact .inl ((if_neg (out a _ r)).trans r)
    · exact .inr ⟨o, (if_neg (out a _ r)).trans r⟩
  have dir : ∀ a vs, w1.F a = some vs → (cutW w1 L0.length H1).F a = some vs := fun a vs r => (if_neg (out a _ r)).trans r
  have c : Cut w1 (cutW w1 L0.length H1) L0.length := ⟨sub, rfl, dir⟩
  refine ⟨⟨⟨fun a u th r => sub a u th (l.sub a u th r), fun n a e => ?_, fun a vs r => dir a vs (l.dir a vs r)⟩, l.same⟩, ⟨fun a u e => ?_, ?_, ?_, fun a ha => ?_, fun n a x e1 e2 => ?_, fun a u e => ?_, R.tab.step (fun q a b c _ => ⟨(if_neg fun hm => b (List.mem_of_mem_drop hm)).trans a, fun hm => b (List.mem_of_mem_take hm), c, rfl⟩) dir⟩, c, fun m a o hm e h => ?_⟩
  · have hn : n < L0.length := by rw [← R0.len]; exact getElem?_lt e
    show (w1.φ.take L0.length)[n]? = some a
    rw [List.getElem?_take_of_lt hn]; exact l.pre n a e
  · have e' : (if a ∈ w1.φ.drop L0.length then H1 a else w1.F a) = some u := e
    split at e'
    · exact e'
    · exact R.sub _ _ e'
  · show (w1.φ.take L0.length).length = _
    rw [List.length_take, List.length_take, R.len]
  · exact R.nd.sublist (List.take_sublist _ _)
  · have ha' : a ∈ w1.φ.take L0.length := ha
    have nd := R.nd
    have : a ∉ w1.φ.drop L0.length := fun hm => by
      rw [← List.take_append_drop L0.length w1.φ, List.nodup_append] at nd
      exact nd.2.2 a ha' a hm rfl
    exact (if_neg this).trans (R.free a (List.mem_of_mem_take ha'))
  · have e1' : (w1.φ.take L0.length)[n]? = some a := e1
    have hn : n < L0.length := by
      have := getElem?_lt e1'
      rw [List.length_take] at this; omega
    rw [List.getElem?_take_of_lt hn] at e1' e2
    obtain ⟨o, h1, h2⟩ := R.box n a x e1' e2
    refine ⟨o, h1, h2.cut c ?_⟩
    rcases t.2 n x hn e2 with q | q
    · have hw : ∃ b, w.φ[n]? = some b := ⟨w.φ[n]'(by rw [R0.len]; exact hn), List.getElem?_eq_getElem _⟩
      obtain ⟨b, hb⟩ := hw
      obtain ⟨o0, _, h3⟩ := R0.box n b x hb q
      have := h3.bel
      rw [R0.len] at this; exact this
    · exact q
  · obtain ⟨k1, k2, k3⟩ := R.prv a u e
    exact ⟨k1, (if_neg (fun hm => k3 (List.mem_of_mem_drop hm))).trans k2, fun hm => k3 (List.mem_of_mem_take hm)⟩
  · have hm' : a ∈ w1.φ.drop L0.length := by
      refine List.mem_of_getElem? (i := m - L0.length) ?_
      rw [List.getElem?_drop, Nat.add_sub_cancel' hm]; exact e
    exact (if_pos hm').trans h
theorem Post.drop (R0 : Rel G w L0 H) {r : Res D} {Q : VK} {E : XK} (p : Post G (Den G) w (dropR L0 r) Q E) : Post G (Den G) w r Q E := by
  cases r with
  | bad => exact p
  | ok d L =>
    unfold dropR at p
    dsimp only at p
    split at p
    · rename_i t
      split at p
      · rename_i d' hd
        intro w1 H1 v l R h
        obtain ⟨a, b, c⟩ := cut_rel R0 l R t
        exact p _ H1 v a b (frz_den R c 12 v d d' h hd)
      · exact p.elim
    · exact p.elim
  | err x q L =>
    unfold dropR at p
    dsimp only at p
    split at p
    · rename_i t
      split at p
      · rename_i hb
        intro w1 H1 dx l R h C m
        obtain ⟨a, b, c⟩ := cut_rel R0 l R t
        refine p _ H1 dx a b ?_ C m
        rcases h with h | ⟨ad, fs, h1, h2, h3⟩
        · exact .inl h
        · refine .inr ⟨ad, fs, h1, ?_, h3.cut c.cut hb⟩
          have : ad ∉ w1.φ.drop L0.length := fun hm => by rw [R.free ad (List.mem_of_mem_drop hm)] at h2; cases h2
          exact (if_neg this).trans h2
      · exact p.elim
    · exact p.elim
end
section
variable {S : Sc} {W : WX} {a b e c : Expr} {es : List Expr} {fa fb f : EF} {pos : Pos}
theorem sa_nil : SA S W [] aNil := fun X h => PA.imp pa_nil fun σ H Q ⟨w, ρ, L, R, e, p⟩ => Post.ok p (Wd.le.refl w) R .nil
theorem sa_cons {g : AF} (ha : SE S W e f) (hr : SA S W es g) (hs : ∀ env, starEach (e :: es) env = (false, eval e env) :: starEach es env := by intro _; rfl) : SA S W (e :: es) (aCons f g) := fun X h =>
  PA.imp (pa_cons (ha X h) (hr X h) (hs _)) fun σ H Q ⟨w, ρ, L, R, e, p⟩ => ⟨w, ρ, L, R, e, (Post.bind (rel := Den S.g) p).imp (fun x H1 ⟨w1, d, L1, l1, R1, d1, p1⟩ =>
    ⟨w1, ρ, L1, R1, e.le l1, (Post.bind (rel := DenL S.g) p1).imp (fun xs H2 ⟨w2, ds, L2, l2, R2, d2, p2⟩ => Post.ok p2 (Wd.le.refl _) R2 (.cons (d1.le l2) d2)) fun _ _ _ z => z⟩) fun _ _ _ z => z⟩
def sBind (r : Res D) (ρ : Env') (k : D → Sto → SRes) : SRes := match r with
  | .ok d L => k d L
  | .err c p L => .err c p ρ L
  | .bad => .bad
def sBindB (r : Res Bool) (ρ : Env') (k : Bool → Sto → SRes) : SRes := match r with
  | .ok d L => k d L
  | .err c p L => .err c p ρ L
  | .bad => .bad
@[simp] theorem sBind_ok (d : D) (L : Sto) (ρ : Env') (k : D → Sto → SRes) : sBind (.ok d L) ρ k = k d L := rfl
@[simp] theorem sBind_err (c : Str) (p : List (Str × D)) (L : Sto) (ρ : Env') (k : D → Sto → SRes) : sBind (.err c p L) ρ k = .err c p ρ L := rfl
@[simp] theorem sBind_bad (ρ : Env') (k : D → Sto → SRes) : sBind .bad ρ k = .bad := rfl
@[simp] theorem sBindB_ok (d : Bool) (L : Sto) (ρ : Env') (k : Bool → Sto → SRes) : sBindB (.ok d L) ρ k = k d L := rfl
@[simp] theorem sBindB_err (c : Str) (p : List (Str × D)) (L : Sto) (ρ : Env') (k : Bool → Sto → SRes) : sBindB (.err c p L) ρ k = .err c p ρ L := rfl
@[simp] theorem sBindB_bad (ρ : Env') (k : Bool → Sto → SRes) : sBindB .bad ρ k = .bad := rfl
theorem PostS.bind {G : Gb} {w : Wd} {r : Res D} {ρ : Env'} {σ : St} {k : D → Sto → SRes} {E : Ends} (e : EnvR G w σ ρ) (p : PostS G w (sBind r ρ k) E W) :
    Post G (Den G) w r (fun v H => ∃ w' d L, w.le w' ∧ Rel G w' L H ∧ Den G w' v d ∧ PostS G w' (k d L) E W) (fun c dx H => W c dx σ H) := by
  cases r with
  | ok d L => exact fun w2 H v l R h => ⟨w2, d, L, l, R, h, PostS.le l p⟩
  | err c q L => exact fun w2 H dx l R x C m => p w2 σ H dx l R (e.le l) x C m
  | bad => exact p
theorem PostS.bindB {G : Gb} {w : Wd} {r : Res Bool} {ρ : Env'} {σ : St} {k : Bool → Sto → SRes} {E : Ends} (e : EnvR G w σ ρ) (p : PostS G w (sBindB r ρ k) E W) :
    Post G eqR w r (fun v H => ∃ w' L, w.le w' ∧ Rel G w' L H ∧ PostS G w' (k v L) E W) (fun c dx H => W c dx σ H) := by
  cases r with
  | ok d L => intro w2 H v l R h; cases h; exact ⟨w2, L, l, R, PostS.le l p⟩
  | err c q L => exact fun w2 H dx l R x C m => p w2 σ H dx l R (e.le l) x C m
  | bad => exact p
def sSkip : SF := fun ρ L => .nx ρ L
def sSeq (f g : SF) : SF := fun ρ L => match f ρ L with
  | .nx ρ L => g ρ L
  | r => r
variable {st : Stmt} {rest body orelse : List Stmt} {g g1 g2 : SF}
theorem ss_nil : SSs S W [] sSkip := fun X h => PSs.imp pss_nil fun D σ H ⟨w, ρ, L, R, e, p⟩ => p w σ H (Wd.le.refl w) R e
theorem ss_one (h1 : SS S W st g) : SSs S W [st] g := fun X h => pss_one (h1 X h)
theorem ss_cons (h1 : SS S W st g1) (h2 : SSs S W rest g2) : SSs S W (st :: rest) (sSeq g1 g2) := fun X h =>
  PSs.imp (pss_cons (h1 X h) (h2 X h)) fun D σ H ⟨w, ρ, L, R, e, p⟩ => by
    refine ⟨w, ρ, L, R, e, ?_⟩
    unfold sSeq at p
    cases q : g1 ρ L with
    | nx ρ1 L1 =>
      rw [q] at p
      exact fun w1 σ1 H1 l1 R1 e1 => ⟨w1, ρ1, L1, R1, e1, PostS.le l1 p⟩
    | rt d L1 => rw [q] at p; exact p
    | bk ρ1 L1 => rw [q] at p; exact p
    | ct ρ1 L1 => rw [q] at p; exact p
    | err c x ρ1 L1 => rw [q] at p; exact p
    | bad => rw [q] at p; exact p
def sExpr (f : EF) : SF := fun ρ L => sBind (f ρ L) ρ fun _ L1 => .nx ρ L1
theorem ss_expr (he : SE S W e f) (hs : ∀ env, swapsWith e none pos.line env = pure false := by intro _; rfl) : SS S W (.Expr e pos) (sExpr f) := fun X h =>
  PS.imp (ps_expr (he X h) (hs _)) fun D σ H ⟨w, ρ, L, R, e, p⟩ => ⟨w, ρ, L, R, e, (PostS.bind e p).imp (fun v H1 ⟨w1, d, L1, l1, R1, d1, p1⟩ => p1 w1 σ H1 (Wd.le.refl _) R1 (e.le l1)) fun _ _ _ z => z⟩
def sRet (f : EF) : SF := fun ρ L => sBind (f ρ L) ρ fun d L1 => .rt d L1
theorem ss_ret (he : SE S W e f) : SS S W (.Return (some e) pos) (sRet f) := fun X h =>
  PS.imp (ps_ret (he X h)) fun D σ H ⟨w, ρ, L, R, e, p⟩ => ⟨w, ρ, L, R, e, (PostS.bind e p).imp (fun v H1 ⟨w1, d, L1, l1, R1, d1, p1⟩ => p1 w1 v H1 (Wd.le.refl _) R1 d1) fun _ _ _ z => z⟩
def sRetN : SF := fun ρ L => .rt .non L
def sIf (t : TF) (f g : SF) : SF := fun ρ L => sBindB (t ρ L) ρ fun k L1 => if k = true then f ρ L1 else g ρ L1
theorem ss_if {t : TF} (hc : ST S W c t) (ha : SSs S W body g1) (hb : SSs S W orelse g2) : SS S W (.If c body orelse pos) (sIf t g1 g2) := fun X h =>
  PS.imp (ps_if (hc X h) (ha X h) (hb X h)) fun D σ H ⟨w, ρ, L, R, e, p⟩ => ⟨w, ρ, L, R, e, (PostS.bindB e p).imp (fun k H1 ⟨w1, L1, l1, R1, p1⟩ => by
    cases k with
    | true => exact ⟨w1, ρ, L1, R1, e.le l1, p1⟩
    | false => exact ⟨w1, ρ, L1, R1, e.le l1, p1⟩) fun _ _ _ z => z⟩
def gSet (i : Nat) : GF := fun d ρ => some (ρ.set i (some d))
theorem wipe_get {σ : St} {i : Nat} : ∀ {vs : List Nat}, i ∈ vs → (wipe σ vs)[i]? = (if i < σ.length then some none else none)
  | [], h => by simp at h
  | v :: vs, h => by
    show ((wipe σ vs).set v none)[i]? = _
    by_cases hv : v = i
    · subst hv
      by_cases hl : v < σ.length
      · rw [List.getElem?_set_self (by rw [wipe_length]; exact hl), if_pos hl]
      · rw [List.getElem?_eq_none (by rw [List.length_set, wipe_length]; omega), if_neg hl]
    · have hi : i ∈ vs := by
        rcases List.mem_cons.mp h with e | e
        · exact absurd e.symm hv
        · exact e
      rw [List.getElem?_set_ne hv, wipe_get hi]
theorem wipe_eq {σ τ : St} {vs : List Nat} (hl : σ.length = τ.length) (h : ∀ i, i ∉ vs → σ[i]? = τ[i]?) : wipe σ vs = wipe τ vs := by
  apply List.ext_getElem?
  intro i
  by_cases hi : i ∈ vs
  · rw [wipe_get hi, wipe_get hi, hl]
  · rw [wipe_out hi, wipe_out hi, h i hi]
theorem wipe_set {σ : St} {vs : List Nat} {i : Nat} (hi : i ∈ vs) (x : Option V) : wipe (σ.set i x) vs = wipe σ vs := by
  refine wipe_eq (by rw [List.length_set]) fun j hj => ?_
  have ne : i ≠ j := fun e => hj (by rw [← e]; exact hi)
  exact List.getElem?_set_ne ne
theorem wipe_idem {σ : St} {vs : List Nat} : wipe (wipe σ vs) vs = wipe σ vs := wipe_eq (wipe_length _ _) fun i hi => wipe_out hi
theorem sg_name (i : Nat) {own : List Nat} {x : Str} (hN : S.N.Nodup) (ho : i ∈ own := by decide) (hi : S.N[i]? = some x := by rfl) (hx : Loc S.sc x := by first | exact Or.inl rfl | exact Or.inr rfl) (hf : S.fn x = true ∨ S.sc.names.lookup x = some .local := by first | exact .inl rfl | exact .inr rfl) :
    SG S W own (.Name x pos) (gSet i) := fun X h =>
  PG.imp (pg_name (i := i) (by rw [← h.N]; exact hN) (by rw [← h.N]; exact hi) (by rw [← h.sc]; exact hx) (by rw [← h.fn, ← h.sc]; exact hf)) fun v σ H Q ⟨w, ρ, L, d, ρ', R, e, dd, ef, q⟩ => by
    cases ef
    exact q _ (e.set i dd) (wipe_set ho _)
def gsNil : List D → Env' → Option Env' := fun ds ρ => match ds with
  | [] => some ρ
  | _ => none
def gsCons (f : GF) (g : List D → Env' → Option Env') : List D → Env' → Option Env' := fun ds ρ => match ds with
  | [] => none
  | d :: r => (f d ρ).bind (g r)
theorem sgs_nil {own : List Nat} : SGs S W own [] gsNil := fun X h => PGs.imp pgs_nil fun vs σ H Q ⟨w, ρ, L, ds, ρ', R, e, dd, ef, q⟩ => by
  cases dd with
  | nil => cases ef; exact ⟨rfl, q σ e rfl⟩
  | cons _ _ => cases ef
theorem sgs_cons {own : List Nat} {tg : Expr} {tgs : List Expr} {f : GF} {g : List D → Env' → Option Env'} (h1 : SG S W own tg f) (h2 : SGs S W own tgs g)
    (hs : ∀ env, (assignEach (tg :: tgs) env).map (·.2) = assign tg env :: (assignEach tgs env).map (·.2) := by intro _; rfl) : SGs S W own (tg :: tgs) (gsCons f g) := fun X h =>
  PGs.imp (pgs_cons (h1 X h) (h2 X h) (hs _)) fun vs σ H Q ⟨w, ρ, L, ds, ρ', R, e, dd, ef, q⟩ => by
    cases dd with
    | nil => cases ef
    | @cons v d vs ds a t =>
      obtain ⟨ρ1, e1, e2⟩ := Option.bind_eq_some_iff.mp ef
      exact ⟨v, vs, rfl, w, ρ, L, d, ρ1, R, e, a, e1, fun σ' e' hw => ⟨w, ρ1, L, ds, ρ', R, e', t, e2, fun σ2 e3 hw2 => q σ2 e3 (hw2.trans hw)⟩⟩
def gTupF (n : Nat) (g : List D → Env' → Option Env') : GF := fun d ρ => match lo d with
  | .tup ds => if ds.length = n then g ds ρ else none
  | _ => none
theorem DenL.length {G : Gb} {w : Wd} : ∀ {vs : List V} {ds : List D}, DenL G w vs ds → vs.length = ds.length
  | _, _, .nil => rfl
  | _, _, .cons _ t => congrArg Nat.succ (DenL.length t)
theorem sg_tup {own : List Nat} {k n : Nat} {g : List D → Env' → Option Env'} (h1 : SGs S W own es g) (hn : ∀ env, (assignEach es env).length = n := by intro _; rfl) (hst : ∀ env, (assignEach es env).findIdx? (·.1) = none := by intro _; rfl) :
    SG S W own (.Tuple es k pos) (gTupF n g) := fun X h =>
  PG.imp (pg_tup h.calm (h1 X h) (hn _) (hst _)) fun v σ H Q ⟨w, ρ, L, d, ρ', R, e, dd, ef, q⟩ => by
    unfold gTupF at ef
    have dd := dd.lo
    generalize lo d = d' at ef dd
    cases dd with
    | @tup a vs ds s r =>
      dsimp only at ef
      split at ef
      · rename_i hl
        exact ⟨a, vs, rfl, by rw [← h.K]; exact R.sqT s, by rw [r.length, hl], w, ρ, L, ds, ρ', R, e, r, ef, q⟩
      · cases ef
    | _ => cases ef
def sAsg (f : EF) (g : GF) : SF := fun ρ L => sBind (f ρ L) ρ fun d L1 => match g d ρ with
  | some ρ' => .nx ρ' L1
  | none => .bad
def sSet (i : Nat) (f : EF) : SF := fun ρ L => sBind (f ρ L) ρ fun d L1 => .nx (ρ.set i (some d)) L1
theorem ss_set (i : Nat) {x : Str} {pos' : Pos} (hN : S.N.Nodup) (he : SE S W e f) (hi : S.N[i]? = some x := by rfl) (hx : Loc S.sc x := by first | exact Or.inl rfl | exact Or.inr rfl) (hs : ∀ env, swapsWith e (some (.Name x pos')) pos.line env = pure false := by intro _; rfl)
    (hf : S.fn x = true ∨ S.sc.names.lookup x = some .local := by first | exact .inl rfl | exact .inr rfl) : SS S W (.Assign [.Name x pos'] e pos) (sSet i f) := fun X h =>
  PS.imp (ps_set (i := i) (by rw [← h.N]; exact hN) (by rw [← h.N]; exact hi) (by rw [← h.sc]; exact hx) (he X h) (hs _) (by rw [← h.fn, ← h.sc]; exact hf)) fun D σ H ⟨w, ρ, L, R, e, p⟩ => ⟨w, ρ, L, R, e, (PostS.bind e p).imp (fun v H1 ⟨w1, d, L1, l1, R1, d1, p1⟩ =>
    p1 w1 _ H1 (Wd.le.refl _) R1 ((e.le l1).set i d1)) fun _ _ _ z => z⟩
end
section
variable {S : Sc} {W : WX} {a b e c tg iter elt : Expr} {es ifs : List Expr} {fa fb f : EF} {pos : Pos} {body : List Stmt} {g : SF}
open Classical in
noncomputable def forGo (tg : GF) (body : SF) (src : List (Nat × D)) : List D → SF
  | [] => fun ρ L => .nx ρ L
  | d :: ds => fun ρ L => match tg d ρ with
    | none => .bad
    | some ρ1 => match body ρ1 L with
      | .nx ρ2 L2 => if srcOk L2 src then forGo tg body src ds ρ2 L2 else .bad
      | .ct ρ2 L2 => if srcOk L2 src then forGo tg body src ds ρ2 L2 else .bad
      | .bk ρ2 L2 => .nx ρ2 L2
      | r => r
noncomputable def sFor (it : IF) (tg : GF) (body : SF) : SF := fun ρ L => match it ρ L with
  | .ok its L1 => forGo tg body its.src its.ds ρ L1
  | .err c p L1 => .err c p ρ L1
  | .bad => .bad
theorem ss_for {own : List Nat} {fi : IF} {ft : GF} (hi : SI S W tg iter fi) (hg : SG S W own tg ft) (hb : SSs S W body g) (hs : ∀ env x, foldedSetIterable iter env x = pure x := by intro _ _; rfl) :
    SS S W (.For tg iter body [] pos) (sFor fi ft g) := fun X h =>
  PS.imp (ps_for h.passes h.calm (hi X h) (hg X h) (hb X h) (hs _)) fun D σ H ⟨w, ρ, L, R, e, p⟩ => by
    refine ⟨w, ρ, L, R, e, ?_⟩
    unfold sFor at p
    cases q : fi ρ L with
    | bad => rw [q] at p; exact p
    | err c x L1 =>
      rw [q] at p
      exact fun w1 H1 dx l R1 x1 C m => p w1 σ H1 dx l R1 (e.le l) x1 C m
    | ok its L1 =>
      rw [q] at p
      intro w1 H1 J l1 R1 so io
      refine ⟨fun i m σ H => ∃ w2 ρ2 L2, w1.le w2 ∧ Rel S.g w2 L2 H ∧ EnvR S.g w2 σ ρ2 ∧ srcOk L2 its.src ∧ i ≤ its.ds.length ∧ m = its.ds.length - i ∧ PostS S.g w2 (forGo ft g its.src (its.ds.drop i) ρ2 L2) D W,
        ⟨its.ds.length, w1, ρ, L1, .refl w1, R1, e.le l1, so, Nat.zero_le _, by simp, PostS.le l1 p⟩, ?_⟩
      rintro i m σ H ⟨w2, ρ2, L2, l2, R2, e2, so2, hi, rfl, p2⟩
      obtain ⟨k1, k2⟩ := io w2 L2 H l2.tole0 R2 so2 i
      by_cases hlt : i < its.ds.length
      · have hd : its.ds[i]? = some its.ds[i] := List.getElem?_eq_getElem hlt
        obtain ⟨g1, g2⟩ := k1 _ hd
        rw [List.drop_eq_getElem_cons hlt] at p2
        refine .inr ⟨g1, fun σ H => ∃ w2 ρ2 L2, w1.le w2 ∧ Rel S.g w2 L2 H ∧ EnvR S.g w2 σ ρ2 ∧ srcOk L2 its.src ∧ PostS S.g w2 (forGo ft g its.src (its.ds.drop (i + 1)) ρ2 L2) D W,
          fun σ' H' ⟨w3, ρ3, L3, l3, R3, e3, so3, p3⟩ => ⟨its.ds.length - (i + 1), by omega, w3, ρ3, L3, l3, R3, e3, so3, hlt, rfl, p3⟩, fun x H' y => ?_⟩
        obtain ⟨w3, l3, R3, d3⟩ := g2 x H' y
        unfold forGo at p2
        cases qt : ft its.ds[i] ρ2 with
        | none => simp only [qt] at p2; exact p2.elim
        | some ρ3 =>
          simp only [qt] at p2
          refine ⟨w3, ρ2, L2, _, ρ3, R3, e2.le l3, d3, qt, fun σ3 e3 _ => ⟨w3, ρ3, L2, R3, e3, ?_⟩⟩
          have l13 : w1.le w3 := l2.trans l3
          have p3 := PostS.le l3 p2
          clear p2
          cases qb : g ρ3 L2 with
          | nx ρ4 L4 =>
            rw [qb] at p3
            dsimp only at p3
            intro w4 σ4 H4 l4 R4 e4
            by_cases hso : srcOk L4 its.src
            · rw [if_pos hso] at p3
              exact ⟨w4, ρ4, L4, l13.trans l4, R4, e4, hso, PostS.le l4 p3⟩
            · rw [if_neg hso] at p3; exact p3.elim
          | ct ρ4 L4 =>
            rw [qb] at p3
            dsimp only at p3
            intro w4 σ4 H4 l4 R4 e4
            by_cases hso : srcOk L4 its.src
            · rw [if_pos hso] at p3
              exact ⟨w4, ρ4, L4, l13.trans l4, R4, e4, hso, PostS.le l4 p3⟩
            · rw [if_neg hso] at p3; exact p3.elim
          | bk ρ4 L4 => rw [qb] at p3; exact p3
          | rt d L4 => rw [qb] at p3; exact p3
          | err c x ρ4 L4 => rw [qb] at p3; exact p3
          | bad => rw [qb] at p3; exact p3
      · have hd : i = its.ds.length := by omega
        rw [List.drop_eq_nil_of_le (by omega)] at p2
        exact .inl ⟨k2 hd, p2 w2 σ H (.refl _) R2 e2⟩
def W0 : WX := fun _ _ _ _ => False
def Sc.blk (S : Sc) (scope : Scope) : Sc := { S with top := false, lm := false, sc := relS scope S.sc, fn := fun x => scope.names.lookup x == some .cell }
theorem Sc.Has.blk {X : Cx} {scope : Scope} (h : S.Has W X) (s : Shared) (H : Hp) (C : Addr) (cl : List (Str × Addr)) (fp : List Addr) : (S.blk scope).Has W0 (X.blk s H scope (compEnvC scope cl C X.env) fp) where
  P := h.P
  w := h.w
  K := h.K
  mg := h.mg
  base := h.base
  N := h.N
  sc := by
    show relS scope S.sc = relabel scope X.env
    rw [h.sc] <;> rfl
  fn := rfl
  calm := h.calm
  room := h.room
  gd := h.gd
  top := fun z => nomatch z
  lm := fun z => nomatch z
  takes := fun u s' ⟨_, _, _, _, _, _, _, _, _, _, _, _, _, _, _, _, w⟩ => w.elim
  passes := PassesOwn.never
def STs (S : Sc) (W : WX) (ifs : List Expr) (t : TF) : Prop := ∀ X, S.Has W X → PTs X ifs (tR S.g eqR W t)
def tTrue : TF := fun _ L => .ok true L
theorem sts_nil : STs S W [] tTrue := fun X h => ⟨fun pins s σ H Q I ⟨w, ρ, L, R, e, p⟩ => (pts_nil (X := X)).run pins s σ H Q I (Post.ok p (Wd.le.refl w) R rfl)⟩
theorem sts_one {t : TF} (hc : ST S W c t) : STs S W [c] t := fun X h => pts_one (hc X h)
open Classical in
noncomputable def lcGo (src : List (Nat × D)) (tg : GF) (t : TF) (f : EF) (ρ : Env') : List D → List D → Sto → Res (List D)
  | [], acc, L => .ok acc L
  | d :: ds, acc, L => match tg d ρ with
    | none => .bad
    | some ρ1 => match t ρ1 L with
      | .ok true L1 => (match f ρ1 L1 with
        | .ok y L2 => if acc.length < 16777216 ∧ srcOk L2 src then lcGo src tg t f ρ ds (acc ++ [y]) L2 else .bad
        | _ => .bad)
      | .ok false L1 => if srcOk L1 src then lcGo src tg t f ρ ds acc L1 else .bad
      | _ => .bad
def lstOut (box : Bool) (ds : List D) (L : Sto) : Res D := if box = true then .ok (.loc L.length) (L ++ [.lst ds]) else .ok (.lst ds) L
noncomputable def eLc (box : Bool) (own : List Nat) (it : IF) (tg : GF) (t : TF) (f : EF) : EF := fun ρ L => match it ρ L with
  | .ok its L1 => (lcGo its.src tg t f (wipeE ρ own) its.ds [] L1).bind (lstOut box)
  | .err c p L1 => .err c p L1
  | .bad => .bad
theorem DenL.snoc {G : Gb} {w : Wd} : ∀ {vs : List V} {ds : List D} {v : V} {d : D}, DenL G w vs ds → Den G w v d → DenL G w (vs ++ [v]) (ds ++ [d])
  | _, _, _, _, .nil, h => .cons h .nil
  | _, _, _, _, .cons a t, h => .cons a (t.snoc h)
theorem tLc_of {own : List Nat} {fi : IF} {ft : GF} {t : TF} {box : Bool} {σ : St} {H : Hp} {Q : VK} (q : tR S.g (Den S.g) W (eLc box own fi ft t f) σ H Q) :
    tLc (tI S.g W fi) (tG S.g own ft) (tR S.g eqR W0 t) (tR S.g (Den S.g) W0 f) own σ H Q := by
  obtain ⟨w, ρ, L, R, e, p⟩ := q
  refine ⟨w, ρ, L, R, e, ?_⟩
  unfold eLc at p
  cases q : fi ρ L with
  | bad => rw [q] at p; exact p
  | err c x L1 => rw [q] at p; exact p
  | ok its L1 =>
    rw [q] at p
    dsimp only at p
    intro w1 H1 J l1 R1 so io Dd hD
    have ew := (e.le l1).wipe own
    have R2 := R1.newP (o := .lst []) hD
    refine ⟨fun i m H => ∃ (w2 : Wd) (L2 : Sto) (vs : List V) (acc : List D), w1.le0 w2 ∧ w2.prv = upd w1.prv Dd (.lst vs) ∧ Rel S.g w2 L2 H ∧ srcOk L2 its.src ∧ DenL S.g w2 vs acc ∧
        i ≤ its.ds.length ∧ m = its.ds.length - i ∧ Post S.g (Den S.g) w1 ((lcGo its.src ft t f (wipeE ρ own) (its.ds.drop i) acc L2).bind (lstOut box)) Q (fun c dx H' => W c dx σ H'), ?_, ?_⟩
    · exact ⟨its.ds.length, ⟨w1.F, w1.φ, upd w1.prv Dd (.lst [])⟩, L1, [], [], Wd.prv_le _ _, rfl, R2, so, .nil, Nat.zero_le _, by simp, Post.le l1 p⟩
    · rintro i m H ⟨w2, L2, vs, acc, l2, pv2, R3, so2, da, hi, rfl, p2⟩
      obtain ⟨k1, k2⟩ := io w2 L2 H l2 R3 so2 i
      by_cases hlt : i < its.ds.length
      · have hd : its.ds[i]? = some its.ds[i] := List.getElem?_eq_getElem hlt
        obtain ⟨g1, g2⟩ := k1 _ hd
        rw [List.drop_eq_getElem_cons hlt] at p2
        refine .inr ⟨g1, fun H => ∃ (w2 : Wd) (L2 : Sto) (vs : List V) (acc : List D), w1.le0 w2 ∧ w2.prv = upd w1.prv Dd (.lst vs) ∧ Rel S.g w2 L2 H ∧ srcOk L2 its.src ∧ DenL S.g w2 vs acc ∧ Post S.g (Den S.g) w1 ((lcGo its.src ft t f (wipeE ρ own) (its.ds.drop (i + 1)) acc L2).bind (lstOut box)) Q (fun c dx H' => W c dx σ H'),
          fun H' ⟨w2, L2, vs, acc, x1, x2, x3, x3', x4, x5⟩ => ⟨its.ds.length - (i + 1), by omega, w2, L2, vs, acc, x1, x2, x3, x3', x4, hlt, rfl, x5⟩, fun x H' y => ?_⟩
        obtain ⟨w3, l3, R4, d3⟩ := g2 x H' y
        have l13 : w1.le0 w3 := l2.trans l3.tole0
        have pv3 : w3.prv = upd w1.prv Dd (.lst vs) := l3.same.trans pv2
        unfold lcGo at p2
        cases qt : ft its.ds[i] (wipeE ρ own) with
        | none => simp only [qt] at p2; exact p2.elim
        | some ρ3 =>
          simp only [qt] at p2
          refine ⟨w3, wipeE ρ own, L2, _, ρ3, R4, ew.le0 l13, d3, qt, fun σ3 e3 hw => ⟨hw.trans wipe_idem, w3, ρ3, L2, R4, e3, ?_⟩⟩
          cases qq : t ρ3 L2 with
          | bad => simp only [qq] at p2; exact p2.elim
          | err c x L3 => simp only [qq] at p2; exact p2.elim
          | ok b L3 =>
            intro w4 H4 b' l4 R5 hb
            subst hb
            cases b' with
            | false =>
              simp only [qq] at p2
              rw [if_neg (by decide)]
              split at p2
              · rename_i hso
                exact ⟨w4, L3, vs, acc, l13.trans l4.tole0, l4.same.trans pv3, R5, hso, (da.le0 l3.tole0).le0 l4.tole0, p2⟩
              · exact p2.elim
            | true =>
              simp only [qq] at p2
              rw [if_pos rfl]
              refine ⟨w4, ρ3, L3, R5, e3.le l4, ?_⟩
              cases qf : f ρ3 L3 with
              | bad => simp only [qf] at p2; exact p2.elim
              | err c x L4 => simp only [qf] at p2; exact p2.elim
              | ok y L4 =>
                simp only [qf] at p2
                intro w5 H5 yv l5 R6 dy
                split at p2
                · rename_i hsz
                  have pv5 : w5.prv = upd w1.prv Dd (.lst vs) := l5.same.trans (l4.same.trans pv3)
                  have hp : w5.prv Dd = some (.lst vs) := by rw [pv5]; exact upd_same
                  have l15 : w1.le0 w5 := (l13.trans l4.tole0).trans l5.tole0
                  have da5 : DenL S.g w5 vs acc := ((da.le0 l3.tole0).le0 l4.tole0).le0 l5.tole0
                  refine ⟨vs, (R6.prv _ _ hp).1, by rw [da.length, sizeLine_eq]; exact hsz.1, ⟨w5.F, w5.φ, upd w5.prv Dd (.lst (vs ++ [yv]))⟩, L4, vs ++ [yv], acc ++ [y], l15.trans (Wd.prv_le _ _), by rw [pv5]; exact upd_upd, R6.putP hp, hsz.2, (da5.snoc dy).le0 (Wd.prv_le _ _), p2⟩
                · exact p2.elim
      · have hd : i = its.ds.length := by omega
        rw [List.drop_eq_nil_of_le (by omega)] at p2
        refine .inl ⟨k2 hd, ?_⟩
        have hp : w2.prv Dd = some (.lst vs) := by rw [pv2]; exact upd_same
        have hq : ∀ a u, w1.prv a = some u → a ≠ Dd ∧ w2.prv a = some u := fun a u h => by
          have na : a ≠ Dd := fun z => by rw [z] at h; rw [(R1.prv _ _ h).1] at hD; cases hD
          exact ⟨na, by rw [pv2, upd_ne na]; exact h⟩
        have p3 : Post S.g (Den S.g) w1 (lstOut box acc L2) Q (fun c dx H' => W c dx σ H') := p2
        unfold lstOut at p3
        cases box with
        | true =>
          rw [if_pos rfl] at p3
          obtain ⟨Rz, lz⟩ := R3.outB hp (.lst da) w1.prv hq
          refine p3 _ H (.ref Dd) ⟨l2.trans lz, rfl⟩ Rz (.loc ?_)
          show (w2.φ ++ [Dd])[L2.length]? = some Dd
          rw [← R3.len, List.getElem?_append_right (Nat.le_refl _)]
          simp
        | false =>
          rw [if_neg (by decide)] at p3
          obtain ⟨Rz, lz⟩ := R3.outP hp w1.prv hq
          exact p3 _ H (.ref Dd) ⟨l2.trans lz, rfl⟩ Rz (.lst upd_same (da.le0 lz))
theorem se_lc {fi : IF} {ft : GF} {t : TF} (box : Bool) {scope : Scope} (own : List (Str × Nat)) (hN : S.N.Nodup) (hi : SI S W tg iter fi) (ok : blkC S.N S.sc scope own = true)
    (hg : SG (S.blk scope) W0 (own.map (·.2)) tg ft) (ht : STs (S.blk scope) W0 ifs t) (he : SE (S.blk scope) W0 elt f) (hs : ∀ env x, foldedSetIterable iter env x = pure x := by intro _ _; rfl) :
    SE S W (.ListComp elt [⟨tg, iter, ifs, 0⟩] scope pos) (eLc box (own.map (·.2)) fi ft t f) := fun X h =>
  PE.imp (pe_lc (own := own) h.calm (by rw [← h.N]; exact hN) (hi X h) (blkOk_by (by rw [← h.N, ← h.sc]; exact ok)) (fun s H C cl fp => hg _ (h.blk s H C cl fp)) (fun s H C cl fp => ht _ (h.blk s H C cl fp)) (fun s H C cl fp => he _ (h.blk s H C cl fp)) (hs _)) fun σ H Q q => tLc_of q
end
def SqB (k : Bool) (K : PySem.W.Frag) (H : Hp) (a : Addr) (xs : List V) : Prop := match k with
  | true => SqL K H a xs
  | false => SqT K H a xs
def ItB (k : Bool) (h : Heap) (it a : Addr) (i : Nat) : Prop := match k with
  | true => h.IsListIter it a i
  | false => h.IsTupleIter it a i
def AtB (k : Bool) (h : Heap) (a : Addr) (its : Array Value) : Prop := match k with
  | true => h.IsList a its
  | false => h.IsTuple a its
theorem sqB_inv {X : Cx} {pins : List (Addr × Obj)} {σ : St} {H : Hp} {s : Shared} {k : Bool} {a : Addr} {xs : List V} (I : Inv X pins σ H s) (h : SqB k X.K H a xs) : ∃ its : List Value, Vals xs its ∧ AtB k s.heap a its.toArray ∧ xs.length ≤ sizeLine := by
  cases k with
  | true => obtain ⟨its, r, p, z⟩ := I.list h; exact ⟨its, r, p.isList, z⟩
  | false => obtain ⟨its, r, p, z⟩ := I.tuple h; exact ⟨its, r, p, z⟩
theorem sqB_inj {X : Cx} {pins : List (Addr × Obj)} {σ : St} {H : Hp} {s : Shared} {k : Bool} {a : Addr} {xs ys : List V} (I : Inv X pins σ H s) (h : SqB k X.K H a xs) (h' : SqB k X.K H a ys) : xs = ys := by
  cases k with
  | true => exact I.list_inj h h'
  | false => exact I.tuple_inj h h'
theorem drawsB {prog : Program} {w : World} {A : Around} (hh : A.handled = none) (k : Bool) (it a : Addr) (ne : a ≠ it) (items : Array Value) :
    Draws prog w A it [it, a] items.size (fun i v => items[i]? = some v) (fun i h => ItB k h it a i ∧ AtB k h a items) := by
  cases k with
  | true => exact Draws.list hh it a ne items
  | false => exact Draws.tuple hh it a ne items
def beginB (k : Bool) (a : Addr) : Obj := match k with
  | true => { cls := .type "list_iterator", data := .fields #[.ref a, .int 0 0] }
  | false => { cls := .type "tuple_iterator", data := .fields #[.ref a, .int 0 0] }
theorem beginsB (k : Bool) (a : Addr) (items : Array Value) : Begins (.ref a) (beginB k a) (fun h => AtB k h a items) := by
  cases k with
  | true => exact begins_list a items
  | false => exact begins_tuple a items
theorem itB_begin {k : Bool} {h : Heap} {it a : Addr} (e : h.get? it = some (beginB k a)) : ItB k h it a 0 := by
  cases k with
  | true => exact ⟨_, e, rfl, rfl⟩
  | false => exact ⟨_, e, rfl, rfl⟩
theorem itB_obj {k : Bool} {h : Heap} {it a : Addr} {i : Nat} (x : ItB k h it a i) : ∃ o, h.get? it = some o ∧ ∀ v, o.data ≠ .cell v := by
  cases k with
  | true => obtain ⟨o, e, _, d⟩ := x; exact ⟨o, e, fun v z => by rw [d] at z; cases z⟩
  | false => obtain ⟨o, e, _, d⟩ := x; exact ⟨o, e, fun v z => by rw [d] at z; cases z⟩
theorem itB_at {k : Bool} {h h' : Heap} {it a : Addr} {i : Nat} (x : ItB k h it a i) (kp : ∀ o, h.get? it = some o → h'.get? it = some o) : ItB k h' it a i := by
  cases k with
  | true => exact Heap.IsListIter.at x kp
  | false => exact Heap.IsTupleIter.at x kp
theorem sqB_some {X : Cx} {pins : List (Addr × Obj)} {σ : St} {H : Hp} {s : Shared} {k : Bool} {a b : Addr} {xs : List V} (I : Inv X pins σ H s) (h : SqB k X.K H a xs) (hb : FpOk X pins H b) : a ≠ b := by
  intro e
  subst e
  obtain ⟨f0, _, _, f3, _, _⟩ := hb
  have hk : (∃ u, Rd H a u) ∨ ∃ o, X.K.lookup a = some o := by
    cases k with
    | true => rcases h with h | ⟨o, _, _, h, _⟩; exact .inl ⟨_, h⟩; exact .inr ⟨o, h⟩
    | false => rcases h with h | ⟨o, _, _, h, _⟩; exact .inl ⟨_, h⟩; exact .inr ⟨o, h⟩
  rcases hk with ⟨u, r | ⟨o, r⟩⟩ | ⟨o, hk⟩
  · rw [f0] at r; cases r
  · rw [f0] at r; cases r
  · have hb := I.ok.mod.kin a o hk
    rcases f3 with z | z
    · exact I.ok.noex a o hb z
    · exact absurd (Nat.lt_of_lt_of_le (Heap.lt_size (I.ok.bs a o hb).1) z) (Nat.lt_irrefl _)
def ItEn (k : Bool) (K : PySem.W.Frag) (a : Addr) : It :=
  ⟨fun i H => ∃ (xs : List V) (x : V), SqB k K H a xs ∧ xs[i]? = some x, fun i H v H' => ∃ T x, v = .ref T ∧ H T = none ∧ H' = upd H T (.tup [.int (i : Nat), x]) ∧ ∀ xs, SqB k K H a xs → xs[i]? = some x, fun i H => ∃ xs : List V, SqB k K H a xs ∧ i = xs.length⟩
theorem turn_en {P : Program} {w : World} {K : PySem.W.Frag} {elts : List Expr} {kk : Nat} {tpos : Pos} (k : Bool) (a e it : Addr) (hne : e ≠ it) :
    Turn P w K (.Tuple elts kk tpos) (ItEn k K a) [e, it] e (fun i h => (∃ old, IsEnum h e it ((i : Nat) : Int) old) ∧ ItB k h it a i) where
  mem := by simp
  obj := fun i h st b hb => by
    obtain ⟨⟨old, he⟩, hi⟩ := st
    have e' : b = e ∨ b = it := by simpa using hb
    rcases e' with z | z
    · rw [z]; exact ⟨_, he, fun v q => nomatch q⟩
    · rw [z]; exact itB_obj hi
  keep := fun i h h' st kp => let ⟨⟨old, he⟩, hi⟩ := st; ⟨⟨old, kp e (by simp) _ he⟩, itB_at hi fun o q => kp it (by simp) o q⟩
  item := by
    intro X hP hw hK hc i pins s σ H E I hf st hg
    subst hP hw hK
    obtain ⟨⟨old, he⟩, hit⟩ := st
    obtain ⟨xs, x, hq, hx⟩ := hg
    obtain ⟨its, rv, p, hz⟩ := sqB_inv I hq
    obtain ⟨u, hu, ru⟩ := rv.get hx
    have nae : a ≠ e := sqB_some I hq (hf e (by simp))
    have nai : a ≠ it := sqB_some I hq (hf it (by simp))
    have W := GoesN.enumFrom (prog := X.prog) (w := X.w) (A := X.A) (elts := elts) (x1 := kk) (pos := tpos) 0 (drawsB (A := X.A.in1) (I.ok.hd hc) k it a nai its.toArray) e hne (by simp only [List.mem_cons, List.not_mem_nil, or_false, not_or]; exact ⟨hne, Ne.symm nae⟩) (by simp)
    have hi : i < its.toArray.size := by
      have := getElem?_lt hu
      simpa using this
    have z0 : ∀ j : Nat, (0 : Int) + (j : Int) = (j : Int) := fun j => by omega
    refine wpAny_mono (W.goes i s (fun v s2 => ∃ x H', Inv X pins σ H' s2 ∧ RelV x v ∧ (ItEn k X.K a).yld i H x H' ∧ ((∃ old, IsEnum s2.heap e it ((i + 1 : Nat) : Int) old) ∧ ItB k s2.heap it a (i + 1)) ∧ ∀ b ∈ [e, it], H' b = none) E hi ⟨⟨old, by rw [z0]; exact he⟩, hit, p⟩ fun v h' tk hY st' hk htk => ?_) (fun r s1 h1 => ?_) fun _ _ z => z
    · obtain ⟨T, t, y, rfl, hT, hy, hTup⟩ := hY
      obtain ⟨⟨old', he'⟩, hit', _⟩ := st'
      have ey : y = u := by
        have : its.toArray[i]? = some u := by simpa using hu
        rw [this] at hy; exact (Option.some.inj hy).symm
      subst ey
      have new : ObjOk X.prog X.w (upd H T (.tup [.int (i : Nat), x])) h' T (.tup [.int (i : Nat), x]) :=
        ⟨by show 2 ≤ sizeLine; decide, [.int i t, y], .cons ⟨_, rfl⟩ (.cons ru .nil), by rw [z0] at hTup; exact hTup⟩
      have I1 : Inv X pins σ (upd H T (.tup [.int (i : Nat), x])) { s with heap := h', toks := tk } := I.turnedNew (ch := [e, it]) hk hf hT new
      refine ⟨.ref T, _, I1, rfl, ⟨T, x, rfl, I.hok.fresh hT, rfl, fun ys hy => by rw [sqB_inj I hy hq]; exact hx⟩, ⟨⟨old', by rw [z0] at he'; exact he'⟩, hit'⟩, fun b hb => ?_⟩
      have hbl : b < s.heap.objs.size := by
        have e' : b = e ∨ b = it := by simpa using hb
        rcases e' with z | z
        · rw [z]; exact Heap.lt_size he
        · rw [z]; obtain ⟨o, q, _⟩ := itB_obj hit; exact Heap.lt_size q
      rw [upd_ne (Nat.ne_of_lt (Nat.lt_of_lt_of_le hbl hT))]
      exact (hf b hb).1
    · obtain ⟨v, hv, h2⟩ := h1
      exact ⟨v, hv, h2⟩
  done := by
    intro X hP hw hK hc i pins s σ H E I hf st hg
    subst hP hw hK
    obtain ⟨⟨old, he⟩, hit⟩ := st
    obtain ⟨xs, hq, hx⟩ := hg
    obtain ⟨its, rv, p, hz⟩ := sqB_inv I hq
    have nae : a ≠ e := sqB_some I hq (hf e (by simp))
    have nai : a ≠ it := sqB_some I hq (hf it (by simp))
    have W := GoesN.enumFrom (prog := X.prog) (w := X.w) (A := X.A) (elts := elts) (x1 := kk) (pos := tpos) 0 (drawsB (A := X.A.in1) (I.ok.hd hc) k it a nai its.toArray) e hne (by simp only [List.mem_cons, List.not_mem_nil, or_false, not_or]; exact ⟨hne, Ne.symm nae⟩) (by simp)
    have hl := rv.length
    have hi : its.toArray.size = i := by simp only [List.size_toArray]; omega
    have z0 : ∀ j : Nat, (0 : Int) + (j : Int) = (j : Int) := fun j => by omega
    exact W.stops s (fun s1 => Inv X pins σ H s1) E (by rw [hi]; exact ⟨⟨old, by rw [z0]; exact he⟩, hit, p⟩) fun h' tk hk _ => I.turnedL (ch := [e, it]) hk hf
  self := fun A i s Q E st h => let ⟨⟨_, he⟩, _⟩ := st; wpAny_pyIter_enum he h
theorem meets_enumerate_newB1 {v : Value} {o : Obj} {H : Heap → Prop} (B : Begins v o H) :
    Meets (Builtin.«enumerate.__new__» ⟨[.type "enumerate", v], []⟩) (fun _ R s => H s.heap ∧
      R (.ok (.ret (.ref (s.heap.push o).objs.size))) { s with heap := (s.heap.push o).push { cls := .type "enumerate", data := .fields #[.none, .bool false, .ref s.heap.objs.size, rawInt 0, .none, .none] } }) :=
  .of_wp fun prog w A R s h => by
    obtain ⟨hp, g, d, tk, os⟩ := s; obtain ⟨h1, h⟩ := h
    have hsub := sub_enumerate
    have q1 : ∀ {A' : Around} {E : Value → Shared → Prop} {Q : Value → Shared → Prop}, Q (.ref hp.objs.size) ⟨hp.push o, g, d, tk, os⟩ → wpAny (model prog w) A' (pyIter v) Q E ⟨hp, g, d, tk, os⟩ :=
      fun q => B.iter prog w _ _ ⟨hp, g, d, tk, os⟩ _ h1 q
    wp_walk using q1
    refine wpAny_stack_any fun st => wpAny_pure ?_
    split
    · rename_i c _ _ _ _ _
      cases (c == Value.type "enumerate")
      · wp_walk using q1
        exact ⟨_, rfl, h⟩
      · wp_walk using q1
        exact ⟨_, rfl, h⟩
    · wp_walk using q1
      exact ⟨_, rfl, h⟩
theorem enum_begins1 {prog : Program} {w : World} {A : Around} {E : Value → Shared → Prop} {s : Shared} {v : Value} {o : Obj} {H : Heap → Prop} {Q : Value → Shared → Prop} (B : Begins v o H) (h1 : H s.heap)
    (h : ∀ h', IsEnum h' (s.heap.objs.size + 1) s.heap.objs.size 0 .none → h'.get? s.heap.objs.size = some o → h'.objs.size = s.heap.objs.size + 2 →
      (∀ b o, s.heap.get? b = some o → h'.get? b = some o) → Q (.ref (s.heap.objs.size + 1)) { s with heap := h' }) :
    wpAny (model prog w) A (call (.type "enumerate") [v]) Q E s := by
  refine callType_new F.called_enumerate (by decide) (F.typeCall_enumerate_1 _) (F.newCall_enumerate_1 _) (fun obj => F.args_object_init_2 obj _) F.entry_enumerate_new
    (meets_enumerate_newB1 B) ⟨h1, ?_⟩
  have hz : (s.heap.push o).objs.size = s.heap.objs.size + 1 := Heap.size_push ..
  show _ ∧ _
  rw [hz]
  have he : IsEnum ((s.heap.push o).push { cls := .type "enumerate", data := .fields #[.none, .bool false, .ref s.heap.objs.size, rawInt 0, .none, .none] }) (s.heap.objs.size + 1) s.heap.objs.size 0 .none := by
    have := Heap.get?_push_size (s.heap.push o) (o := { cls := .type "enumerate", data := .fields #[.none, .bool false, .ref s.heap.objs.size, rawInt 0, .none, .none] }) rfl
    rw [hz] at this; exact this
  refine ⟨⟨_, he, rfl⟩, h _ he (Heap.get?_push_of_some _ (Heap.get?_push_size _ B.free)) (by rw [Heap.size_push, hz]) fun b o x => Heap.get?_push_of_some _ (Heap.get?_push_of_some _ x)⟩
def iEn (K : PySem.W.Frag) (ta : TA) : TI := fun σ H R => ta σ H fun vs H1 => ∃ k a xs, vs = [.ref a] ∧ SqB k K H1 a xs ∧ R (ItEn k K a) H1
theorem pi_en {X : Cx} {e : Expr} {ta : TA} {p pos tpos : Pos} {elts : List Expr} {kk : Nat} (hg : Gl X "enumerate") (hm : X.mg "enumerate" = none) (ha : PA X [e] ta) (hs : starEach [e] X.env = [(false, eval e X.env)] := by rfl) :
    PI X (.Tuple elts kk tpos) (.Call (.Name "enumerate" p) [e] [] pos) (iEn X.K ta) := by
  refine ⟨fun pins s σ H R I h => ?_⟩
  refine Call_ (ld_blt I hg hm boot_enumerate (PyProof.Rows.callWith_type1 (thn (ha.run pos pins s σ H _ I h) fun us s1 ⟨vs, H1, I1, r1, q1⟩ => ?_) hs rfl))
  obtain ⟨k, a, xs, ex, hq, q⟩ := q1
  subst ex
  cases r1 with
  | cons r rr =>
    cases rr
    cases r
    obtain ⟨its, rv, p', hz⟩ := sqB_inv I1 hq
    refine enum_begins1 (beginsB k a its.toArray) p' fun h' he hit hsz hk => wpAny_pyIter_enum he ?_
    have I2 : Inv X pins σ H1 { s1 with heap := h' } := I1.kept (t' := s1.toks) hk
    refine ⟨s1.heap.objs.size + 1, [s1.heap.objs.size + 1, s1.heap.objs.size], _, _, H1, rfl, I2, turn_en k a (s1.heap.objs.size + 1) s1.heap.objs.size (Nat.succ_ne_self _), ⟨⟨.none, he⟩, itB_begin hit⟩, fun b hb => ?_, q⟩
    have e' : b = s1.heap.objs.size + 1 ∨ b = s1.heap.objs.size := by simpa using hb
    have hle : s1.heap.objs.size ≤ b := by
      rcases e' with z | z
      · rw [z]; exact Nat.le_add_right _ _
      · rw [z]; exact Nat.le_refl _
    exact I1.fpOk hle (I1.hok.fresh hle)
def ItZp (k j : Bool) (K : PySem.W.Frag) (a b : Addr) : It :=
  ⟨fun i H => ∃ (xs ys : List V) (x y : V), SqB k K H a xs ∧ SqB j K H b ys ∧ xs[i]? = some x ∧ ys[i]? = some y,
    fun i H v H' => ∃ T x y, v = .ref T ∧ H T = none ∧ H' = upd H T (.tup [x, y]) ∧ (∀ xs, SqB k K H a xs → xs[i]? = some x) ∧ ∀ ys, SqB j K H b ys → ys[i]? = some y,
    fun i H => ∃ xs ys : List V, SqB k K H a xs ∧ SqB j K H b ys ∧ i = min xs.length ys.length⟩
structure ZpApart (z TI TO i1 i2 : Addr) : Prop where
  TIz : TI ≠ z
  TOz : TO ≠ z
  TITO : TI ≠ TO
  TIi1 : TI ≠ i1
  TIi2 : TI ≠ i2
  zi1 : z ≠ i1
  zi2 : z ≠ i2
  TOi1 : TO ≠ i1
  TOi2 : TO ≠ i2
  i12 : i1 ≠ i2
theorem turn_zp {P : Program} {w : World} {K : PySem.W.Frag} {elts : List Expr} {kk : Nat} {tpos : Pos} (k j : Bool) {a b z TI TO i1 i2 : Addr} (D : ZpApart z TI TO i1 i2) :
    Turn P w K (.Tuple elts kk tpos) (ItZp k j K a b) [z, TI, TO, i1, i2] z (fun i h => IsZip h z TI TO .none ∧ IsTupOf2 h TI (.ref i1) (.ref i2) ∧ (∃ x y, IsTupOf2 h TO x y) ∧ ItB k h i1 a i ∧ ItB j h i2 b i) where
  mem := by simp
  obj := fun i h st c hc => by
    obtain ⟨hz, hTI, ⟨x, y, hTO⟩, h1, h2⟩ := st
    have e' : c = z ∨ c = TI ∨ c = TO ∨ c = i1 ∨ c = i2 := by simpa using hc
    rcases e' with q | q | q | q | q
    · rw [q]; exact ⟨_, hz, fun v q => nomatch q⟩
    · rw [q]; exact ⟨_, hTI, fun v q => nomatch q⟩
    · rw [q]; exact ⟨_, hTO, fun v q => nomatch q⟩
    · rw [q]; exact itB_obj h1
    · rw [q]; exact itB_obj h2
  keep := fun i h h' st kp => by
    obtain ⟨hz, hTI, ⟨x, y, hTO⟩, h1, h2⟩ := st
    exact ⟨kp z (by simp) _ hz, kp TI (by simp) _ hTI, ⟨x, y, kp TO (by simp) _ hTO⟩, itB_at h1 fun o q => kp i1 (by simp) o q, itB_at h2 fun o q => kp i2 (by simp) o q⟩
  item := by
    intro X hP hw hK hc i pins s σ H E I hf st hg
    subst hP hw hK
    obtain ⟨hz, hTI, ⟨x0, y0, hTO⟩, h1, h2⟩ := st
    obtain ⟨xs, ys, x, y, hqx, hqy, hx, hy⟩ := hg
    obtain ⟨its, rv, p, _⟩ := sqB_inv I hqx
    obtain ⟨its2, rv2, p2, _⟩ := sqB_inv I hqy
    obtain ⟨u, hu, ru⟩ := rv.get hx
    obtain ⟨u2, hu2, ru2⟩ := rv2.get hy
    have na : ∀ c ∈ [z, TI, TO, i1, i2], a ≠ c := fun c hc => sqB_some I hqx (hf c hc)
    have nb : ∀ c ∈ [z, TI, TO, i1, i2], b ≠ c := fun c hc => sqB_some I hqy (hf c hc)
    have hh := I.ok.hd hc
    have SP : ZipSep2 z TI TO i1 i2 [i1, a] [i2, b] :=
      { TIz := D.TIz, TOz := D.TOz, TITO := D.TITO, TIi1 := D.TIi1, TIi2 := D.TIi2, mem1 := by simp, mem2 := by simp,
        zf1 := by simp [D.zi1, (na z (by simp)).symm], zf2 := by simp [D.zi2, (nb z (by simp)).symm], Tf1 := by simp [D.TOi1, (na TO (by simp)).symm], Tf2 := by simp [D.TOi2, (nb TO (by simp)).symm],
        sep1_2 := by simp [D.i12, (nb i1 (by simp)).symm], sep2_1 := by simp [D.i12.symm, (na i2 (by simp)).symm] }
    have W := GoesN.zip2 (prog := X.prog) (w := X.w) (A := X.A) (elts := elts) (x1 := kk) (pos := tpos) SP (drawsB (A := X.A.in1) hh k i1 a (na i1 (by simp)) its.toArray) (drawsB (A := X.A.in1) hh j i2 b (nb i2 (by simp)) its2.toArray)
    have hi : i < min its.toArray.size its2.toArray.size := by
      have q1 := getElem?_lt hu
      have q2 := getElem?_lt hu2
      simp only [List.size_toArray]; omega
    have hlt : ∀ c ∈ [z, TI, TO, i1, i2], c < s.heap.objs.size := fun c hcm => by
      have e' : c = z ∨ c = TI ∨ c = TO ∨ c = i1 ∨ c = i2 := by simpa using hcm
      rcases e' with q | q | q | q | q
      · rw [q]; exact Heap.lt_size hz
      · rw [q]; exact Heap.lt_size hTI
      · rw [q]; exact Heap.lt_size hTO
      · rw [q]; obtain ⟨_, e1, _⟩ := itB_obj h1; exact Heap.lt_size e1
      · rw [q]; obtain ⟨_, e2, _⟩ := itB_obj h2; exact Heap.lt_size e2
    refine wpAny_mono (W.goes i s (fun v s2 => ∃ x H', Inv X pins σ H' s2 ∧ RelV x v ∧ (ItZp k j X.K a b).yld i H x H' ∧ (IsZip s2.heap z TI TO .none ∧ IsTupOf2 s2.heap TI (.ref i1) (.ref i2) ∧ (∃ x y, IsTupOf2 s2.heap TO x y) ∧ ItB k s2.heap i1 a (i + 1) ∧ ItB j s2.heap i2 b (i + 1)) ∧ ∀ c ∈ [z, TI, TO, i1, i2], H' c = none) E hi
      ⟨hz, hTI, ⟨x0, y0, hTO⟩, ⟨h1, p⟩, h2, p2⟩ fun v h' tk hY st' hk htk => ?_) (fun r s1 h1 => ?_) fun _ _ z => z
    · obtain ⟨T, y1, y2, rfl, hT, hy1, hy2, hTup⟩ := hY
      obtain ⟨z', TI', TO', ⟨h1', _⟩, h2', _⟩ := st'
      have e1 : y1 = u := by
        have : its.toArray[i]? = some u := by simpa using hu
        rw [this] at hy1; exact (Option.some.inj hy1).symm
      have e2 : y2 = u2 := by
        have : its2.toArray[i]? = some u2 := by simpa using hu2
        rw [this] at hy2; exact (Option.some.inj hy2).symm
      subst e1 e2
      have new : ObjOk X.prog X.w (upd H T (.tup [x, y])) h' T (.tup [x, y]) := ⟨by show 2 ≤ sizeLine; decide, [y1, y2], .cons ru (.cons ru2 .nil), hTup⟩
      have I1 : Inv X pins σ (upd H T (.tup [x, y])) { s with heap := h', toks := tk } := I.turnedNew (ch := [z, TI, TO, i1, i2]) (fun c o hb q => hk c o (fun hm => hb (by
        have : c = z ∨ c = TO ∨ c = i1 ∨ c = i2 := by simpa using hm
        rcases this with q | q | q | q <;> simp [q])) q) hf hT new
      refine ⟨.ref T, _, I1, rfl, ⟨T, x, y, rfl, I.hok.fresh hT, rfl, fun l hl => by rw [sqB_inj I hl hqx]; exact hx, fun l hl => by rw [sqB_inj I hl hqy]; exact hy⟩, ⟨z', TI', TO', h1', h2'⟩, fun c hcm => ?_⟩
      rw [upd_ne (Nat.ne_of_lt (Nat.lt_of_lt_of_le (hlt c hcm) hT))]
      exact (hf c hcm).1
    · obtain ⟨v, hv, h2⟩ := h1
      exact ⟨v, hv, h2⟩
  done := by
    intro X hP hw hK hc i pins s σ H E I hf st hg
    subst hP hw hK
    obtain ⟨hz, hTI, ⟨x0, y0, hTO⟩, h1, h2⟩ := st
    obtain ⟨xs, ys, hqx, hqy, hend⟩ := hg
    obtain ⟨its, rv, p, _⟩ := sqB_inv I hqx
    obtain ⟨its2, rv2, p2, _⟩ := sqB_inv I hqy
    have na : ∀ c ∈ [z, TI, TO, i1, i2], a ≠ c := fun c hc => sqB_some I hqx (hf c hc)
    have nb : ∀ c ∈ [z, TI, TO, i1, i2], b ≠ c := fun c hc => sqB_some I hqy (hf c hc)
    have hh := I.ok.hd hc
    have SP : ZipSep2 z TI TO i1 i2 [i1, a] [i2, b] :=
      { TIz := D.TIz, TOz := D.TOz, TITO := D.TITO, TIi1 := D.TIi1, TIi2 := D.TIi2, mem1 := by simp, mem2 := by simp,
        zf1 := by simp [D.zi1, (na z (by simp)).symm], zf2 := by simp [D.zi2, (nb z (by simp)).symm], Tf1 := by simp [D.TOi1, (na TO (by simp)).symm], Tf2 := by simp [D.TOi2, (nb TO (by simp)).symm],
        sep1_2 := by simp [D.i12, (nb i1 (by simp)).symm], sep2_1 := by simp [D.i12.symm, (na i2 (by simp)).symm] }
    have W := GoesN.zip2 (prog := X.prog) (w := X.w) (A := X.A) (elts := elts) (x1 := kk) (pos := tpos) SP (drawsB (A := X.A.in1) hh k i1 a (na i1 (by simp)) its.toArray) (drawsB (A := X.A.in1) hh j i2 b (nb i2 (by simp)) its2.toArray)
    have l1 := rv.length
    have l2 := rv2.length
    have hi : min its.toArray.size its2.toArray.size = i := by simp only [List.size_toArray]; omega
    exact W.stops s (fun s1 => Inv X pins σ H s1) E (by rw [hi]; exact ⟨hz, hTI, ⟨x0, y0, hTO⟩, ⟨h1, p⟩, h2, p2⟩) fun h' tk hk _ => I.turnedL (ch := [z, TI, TO, i1, i2]) (fun c o hb q => hk c o (fun hm => hb (by
        have : c = z ∨ c = TO ∨ c = i1 ∨ c = i2 := by simpa using hm
        rcases this with q | q | q | q <;> simp [q])) q) hf
  self := fun A i s Q E st h => wpAny_pyIter_zip st.1 h
def iZp (K : PySem.W.Frag) (ta : TA) : TI := fun σ H R => ta σ H fun vs H1 => ∃ k j a b xs ys, vs = [.ref a, .ref b] ∧ SqB k K H1 a xs ∧ SqB j K H1 b ys ∧ R (ItZp k j K a b) H1
theorem pi_zp {X : Cx} {e e2 : Expr} {ta : TA} {p pos tpos : Pos} {elts : List Expr} {kk : Nat} (hg : Gl X "zip") (hm : X.mg "zip" = none) (ha : PA X [e, e2] ta)
    (hs : starEach [e, e2] X.env = (false, eval e X.env) :: starEach [e2] X.env := by rfl) (hpl : (backTo pos (starEach [e2] X.env)).any (·.1) = false := by rfl) :
    PI X (.Tuple elts kk tpos) (.Call (.Name "zip" p) [e, e2] [] pos) (iZp X.K ta) := by
  refine ⟨fun pins s σ H R I h => ?_⟩
  refine Call_ (ld_blt I hg hm PyProof.Rows.boot_zip (PyProof.Rows.callWith_type1 (thn (ha.run pos pins s σ H _ I h) fun us s1 ⟨vs, H1, I1, r1, q1⟩ => ?_) hs hpl))
  obtain ⟨k, j, a, b, xs, ys, ex, hqa, hqb, q⟩ := q1
  subst ex
  obtain ⟨u, u', rfl, ra, rb⟩ := vals2 r1
  cases ra
  cases rb
  obtain ⟨its, rv, p1, hz⟩ := sqB_inv I1 hqa
  obtain ⟨its2, rv2, p2, hz2⟩ := sqB_inv I1 hqb
  refine zip_begins2 (beginsB k a its.toArray) (beginsB j b its2.toArray) p1 p2 fun h' hz hTI hTO h1 h2 hsz hk => wpAny_pyIter_zip hz ?_
  have I2 : Inv X pins σ H1 { s1 with heap := h' } := I1.kept (t' := s1.toks) hk
  generalize hN : s1.heap.objs.size = n at *
  have D : ZpApart (n + 4) (n + 2) (n + 3) n (n + 1) :=
    ⟨show (n + 2 : Nat) ≠ n + 4 by omega, show (n + 3 : Nat) ≠ n + 4 by omega, show (n + 2 : Nat) ≠ n + 3 by omega, show (n + 2 : Nat) ≠ n by omega, show (n + 2 : Nat) ≠ n + 1 by omega,
      show (n + 4 : Nat) ≠ n by omega, show (n + 4 : Nat) ≠ n + 1 by omega, show (n + 3 : Nat) ≠ n by omega, show (n + 3 : Nat) ≠ n + 1 by omega, show (n : Nat) ≠ n + 1 by omega⟩
  refine ⟨n + 4, [n + 4, n + 2, n + 3, n, n + 1], _, _, H1, rfl, I2, turn_zp k j D, ⟨hz, hTI, ⟨_, _, hTO⟩, itB_begin h1, itB_begin h2⟩, fun c hc => ?_, q⟩
  have hle : s1.heap.objs.size ≤ c := by
    rw [hN]
    have e' : c = n + 4 ∨ c = n + 2 ∨ c = n + 3 ∨ c = n ∨ c = n + 1 := by simpa using hc
    rcases e' with z | z | z | z | z <;> rw [z]
    · exact (show (n : Nat) ≤ n + 4 by omega)
    · exact (show (n : Nat) ≤ n + 2 by omega)
    · exact (show (n : Nat) ≤ n + 3 by omega)
    · exact Nat.le_refl n
    · exact (show (n : Nat) ≤ n + 1 by omega)
  exact I1.fpOk hle (I1.hok.fresh hle)
def seqOf (L : Sto) (d : D) : Option (List D × List (Nat × D)) := match d with
  | .lst xs => some (xs, [])
  | .ro xs => some (xs, [])
  | .tup xs => some (xs, [])
  | .tg xs => some (xs, [])
  | .loc n => (match L[n]? with
    | some (.lst xs) => some (xs, [(n, .lst xs)])
    | _ => none)
  | _ => none
theorem DenL.get {G : Gb} {w : Wd} : ∀ {vs : List V} {ds : List D} {i : Nat} {d : D}, DenL G w vs ds → ds[i]? = some d → ∃ v, vs[i]? = some v ∧ Den G w v d
  | _, _, _, _, .nil, e => by simp at e
  | _, _, 0, _, .cons a t, e => by simp at e; subst e; exact ⟨_, rfl, a⟩
  | _, _, i + 1, _, .cons a t, e => by simpa using DenL.get t (by simpa using e)
theorem seq_at {G : Gb} {w : Wd} {L : Sto} {H : Hp} {v : V} {d : D} {xs : List D} {s : List (Nat × D)} (h : Den G w v d) (e : seqOf L d = some (xs, s)) :
    ∃ k a, v = .ref a ∧ ∀ w' L' H', w.le0 w' → Rel G w' L' H' → srcOk L' s → ∃ vs, SqB k G.K H' a vs ∧ DenL G w' vs xs := by
  cases h with
  | @tup a vs ds hq r =>
    cases e
    exact ⟨false, a, rfl, fun w' L' H' l R _ => ⟨vs, R.sqT (SqT.le0 l hq), DenL.le0 l r⟩⟩
  | @tg a vs ds hq r =>
    cases e
    exact ⟨false, a, rfl, fun w' L' H' l R _ => ⟨vs, R.sqT (SqT.le0 l hq.t), DenL.le0 l r⟩⟩
  | @lst a vs ds hq r =>
    cases e
    exact ⟨true, a, rfl, fun w' L' H' l R _ => ⟨vs, .inl (.inl (R.sub _ _ (l.dir _ _ hq))), DenL.le0 l r⟩⟩
  | @ro a vs ds hq r =>
    cases e
    exact ⟨true, a, rfl, fun w' L' H' l R _ => ⟨vs, R.sqL (SqL.le0 l hq), DenL.le0 l r⟩⟩
  | @loc n a hn =>
    dsimp only [seqOf] at e
    split at e
    · rename_i ys hy
      cases e
      refine ⟨true, a, rfl, fun w' L' H' l R so => ?_⟩
      obtain ⟨o, h1, h2⟩ := R.box n a _ (l.pre _ _ hn) (so (n, .lst xs) (by simp))
      cases h2 with
      | lst r => exact ⟨_, .inl (.inl h1), r⟩
    · cases e
  | _ => cases e
theorem seq_src {L : Sto} {d : D} {xs : List D} {s : List (Nat × D)} (e : seqOf L d = some (xs, s)) : srcOk L s := by
  cases d with
  | tup ds => cases e; intro p hp; cases hp
  | tg ds => cases e; intro p hp; cases hp
  | lst ds => cases e; intro p hp; cases hp
  | ro ds => cases e; intro p hp; cases hp
  | loc n =>
    dsimp only [seqOf] at e
    split at e
    · rename_i ys hy
      cases e
      intro p hp
      have := List.mem_singleton.mp hp
      subst this
      exact hy
    · cases e
  | _ => cases e
section
variable {S : Sc} {W : WX} {a b e c tg : Expr} {f fa fb : EF} {fl : AF} {pos p : Pos}
def dOfKey : Key → D
  | .inl i => .int i
  | .inr s => .str s
theorem DenK.keysD {G : Gb} {w : Wd} : ∀ {vs : List (Key × V)} {ds : List (Key × D)}, DenK G w vs ds → DenL G w (vs.map fun kv => kV kv.1) (ds.map fun kv => dOfKey kv.1)
  | _, _, .nil => .nil
  | _, _, @DenK.cons _ _ k _ _ _ _ a t => .cons (by cases k <;> constructor) (DenK.keysD t)
def iSeq (f : EF) : IF := fun ρ L => (f ρ L).bind fun d L1 => match seqOf L1 d with
  | some (xs, s) => .ok ⟨xs, s⟩ L1
  | none => (match d with
    | .dF kvs => .ok ⟨kvs.map fun kv => dOfKey kv.1, []⟩ L1
    | _ => .bad)
theorem itOk_keys {G : Gb} {w : Wd} {a : Addr} {o : Obj} {vs : List (Key × V)} {kds : List (Key × D)} (h : w.F a = some (.frz o (.dK vs))) (r : DenK G w vs kds) : ItOk G w [] (Itk a o vs) (kds.map fun kv => dOfKey kv.1) := by
  intro w1 L1 H1 l R _ i
  have hq : H1 a = some (.frz o (.dK vs)) := R.sub _ _ (l.dir _ _ h)
  have hk := (DenK.le0 l r).keysD
  refine ⟨fun d hd => ?_, fun hi => ?_⟩
  · obtain ⟨v, hv, dv⟩ := hk.get hd
    rw [List.getElem?_map] at hv
    obtain ⟨kv, e1, e2⟩ := Option.map_eq_some_iff.mp hv
    refine ⟨⟨hq, (List.getElem?_eq_some_iff.mp e1).1⟩, fun x H' y => ?_⟩
    obtain ⟨rfl, k, z, e3, rfl⟩ := y
    rw [e1] at e3
    cases e3
    subst e2
    exact ⟨w1, .refl _, R, dv⟩
  · have hl := hk.length
    rw [List.length_map] at hl
    exact ⟨hq, by omega⟩
theorem pi_or {X : Cx} {tg e : Expr} {t u : TI} (h : PI X tg e t) (k : PI X tg e u) : PI X tg e (fun σ H R => t σ H R ∨ u σ H R) := ⟨fun pins s σ H R I q => q.elim (h.run pins s σ H R I) (k.run pins s σ H R I)⟩
theorem PostI.bind {G : Gb} {α β : Type} {rel : Wd → β → α → Prop} {w : Wd} {r : Res α} {k : α → Sto → Res Its} {R : It → Hp → Prop} {E : XK} (p : PostI G w (r.bind k) R E) :
    Post G rel w r (fun v H => ∃ w' a L, w.le w' ∧ Rel G w' L H ∧ rel w' v a ∧ PostI G w' (k a L) R E) E := by
  cases r with
  | ok a L =>
    refine fun w2 H v l R0 d => ⟨w2, a, L, l, R0, d, ?_⟩
    have p' : PostI G w (k a L) R E := p
    cases hk : k a L with
    | ok its L2 => rw [hk] at p'; exact fun w3 H3 J l3 R3 so io => p' w3 H3 J (l.trans l3) R3 so io
    | err c x L2 => rw [hk] at p'; exact fun w3 H3 dx l3 R3 x3 C m => p' w3 H3 dx (l.trans l3) R3 x3 C m
    | bad => rw [hk] at p'; exact p'
  | err c q L => exact p
  | bad => exact p
def ItS (k : Bool) (K : PySem.W.Frag) (a : Addr) : It := match k with
  | true => Itl K a
  | false => Itt K a
theorem itOk_seq {G : Gb} {w : Wd} {k : Bool} {a : Addr} {xs : List D} {s : List (Nat × D)} (h : ∀ w' L' H', w.le0 w' → Rel G w' L' H' → srcOk L' s → ∃ vs, SqB k G.K H' a vs ∧ DenL G w' vs xs) :
    ItOk G w s (ItS k G.K a) xs := by
  intro w1 L1 H1 l R so i
  obtain ⟨vs, hq, r⟩ := h w1 L1 H1 l R so
  refine ⟨fun d hd => ?_, fun hi => ?_⟩
  · obtain ⟨v, hv, dv⟩ := r.get hd
    cases k with
    | true => exact ⟨⟨vs, v, hq, hv⟩, fun x H' ⟨e, y⟩ => by subst e; have := y vs hq; rw [hv] at this; cases this; exact ⟨w1, .refl _, R, dv⟩⟩
    | false => exact ⟨⟨vs, v, hq, hv⟩, fun x H' ⟨e, y⟩ => by subst e; have := y vs hq; rw [hv] at this; cases this; exact ⟨w1, .refl _, R, dv⟩⟩
  · have hl := r.length
    cases k with
    | true => exact ⟨vs, hq, by omega⟩
    | false => exact ⟨vs, hq, by omega⟩
theorem si_seq (he : SE S W e f) : SI S W tg e (iSeq f) := fun X h => by
  have hp : PI X tg e (fun σ H R => (iList X.K (tR S.g (Den S.g) W f) σ H R ∨ iTup X.K (tR S.g (Den S.g) W f) σ H R) ∨ iKeys (tR S.g (Den S.g) W f) σ H R) := pi_or (pi_or (pi_list (he X h)) (pi_tup (he X h))) (pi_keys (he X h))
  refine PI.imp hp fun σ H R ⟨w, ρ, L, R0, e, p⟩ => ?_
  rw [← h.K]
  unfold iSeq at p
  cases q : f ρ L with
  | bad => rw [q] at p; exact p.elim
  | err c x L1 => rw [q] at p; exact .inl (.inl ⟨w, ρ, L, R0, e, by rw [q]; exact p⟩)
  | ok d L1 =>
    rw [q] at p
    dsimp only [Res.bind] at p
    split at p
    · rename_i xs s hs
      refine .inl ?_
      have mk : ∀ (kk : Bool), (∀ (w1 : Wd) (H1 : Hp) (v : V), w.le w1 → Rel S.g w1 L1 H1 → Den S.g w1 v d → ∃ a, v = .ref a ∧ (∃ vs, SqB kk S.g.K H1 a vs) ∧ R (ItS kk S.g.K a) H1) →
          iList S.g.K (tR S.g (Den S.g) W f) σ H R ∨ iTup S.g.K (tR S.g (Den S.g) W f) σ H R := by
        intro kk hk
        cases kk with
        | true => exact .inl ⟨w, ρ, L, R0, e, by rw [q]; exact fun w1 H1 v l R1 dv => hk w1 H1 v l R1 dv⟩
        | false => exact .inr ⟨w, ρ, L, R0, e, by rw [q]; exact fun w1 H1 v l R1 dv => hk w1 H1 v l R1 dv⟩
      have kd : ∀ d : D, seqOf L1 d = some (xs, s) → ∃ kk : Bool, ∀ (w1 : Wd) (v : V), Den S.g w1 v d → ∃ a, v = .ref a ∧ ∀ w' L' H', w1.le0 w' → Rel S.g w' L' H' → srcOk L' s → ∃ vs, SqB kk S.g.K H' a vs ∧ DenL S.g w' vs xs := by
        intro d hs
        cases d with
        | tup ds => exact ⟨false, fun w1 v dv => by cases dv with | tup hq r => cases hs; exact ⟨_, rfl, fun w' L' H' l R _ => ⟨_, R.sqT (SqT.le0 l hq), DenL.le0 l r⟩⟩⟩
        | tg ds => exact ⟨false, fun w1 v dv => by cases dv with | tg hq r => cases hs; exact ⟨_, rfl, fun w' L' H' l R _ => ⟨_, R.sqT (SqT.le0 l hq.t), DenL.le0 l r⟩⟩⟩
        | lst ds => exact ⟨true, fun w1 v dv => by cases dv with | lst hq r => cases hs; exact ⟨_, rfl, fun w' L' H' l R _ => ⟨_, .inl (.inl (R.sub _ _ (l.dir _ _ hq))), DenL.le0 l r⟩⟩⟩
        | ro ds => exact ⟨true, fun w1 v dv => by cases dv with | ro hq r => cases hs; exact ⟨_, rfl, fun w' L' H' l R _ => ⟨_, R.sqL (SqL.le0 l hq), DenL.le0 l r⟩⟩⟩
        | loc n =>
          refine ⟨true, fun w1 v dv => ?_⟩
          obtain ⟨k, a, ea, hk⟩ := seq_at (H := H) dv hs
          cases dv with
          | loc hn =>
            cases ea
            refine ⟨_, rfl, fun w' L' H' l R so => ?_⟩
            dsimp only [seqOf] at hs
            split at hs
            · rename_i ys hy
              cases hs
              obtain ⟨o, h1, h2⟩ := R.box n _ _ (l.pre _ _ hn) (so (n, .lst xs) (by simp))
              cases h2 with
              | lst r => exact ⟨_, .inl (.inl h1), r⟩
            · cases hs
        | _ => cases hs
      obtain ⟨kk, hkk⟩ := kd d hs
      refine mk kk fun w1 H1 v l R1 dv => ?_
      obtain ⟨a, ea, ha⟩ := hkk w1 v dv
      have so := seq_src hs
      obtain ⟨vs, hq, _⟩ := ha w1 L1 H1 (.refl _) R1 so
      exact ⟨a, ea, ⟨vs, hq⟩, p w1 H1 _ l R1 so (itOk_seq ha)⟩
    · split at p
      · refine .inr ⟨w, ρ, L, R0, e, ?_⟩
        rw [q]
        intro w1 H1 v l R1 dv
        cases dv with
        | dF hq r => exact ⟨_, _, rfl, .inl ⟨_, R1.sub _ _ hq, p w1 H1 _ l R1 (fun z hz => by cases hz) (itOk_keys hq r)⟩⟩
      · exact p.elim
def rangeD (lo : Int) (n : Nat) : List D := (List.range n).map fun (i : Nat) => D.int (lo + (i : Int))
def small62 (i : Int) : Bool := decide (-4611686018427387904 ≤ i ∧ i < 4611686018427387904)
def iRange1 (f : AF) : IF := fun ρ L => (f ρ L).bind fun ds L1 => match ds with
  | [.int j] => if small62 j = true then .ok ⟨rangeD 0 j.toNat, []⟩ L1 else .bad
  | _ => .bad
def iRange2 (f : AF) : IF := fun ρ L => (f ρ L).bind fun ds L1 => match ds with
  | [.int i, .int j] => if small62 i = true ∧ small62 j = true then .ok ⟨rangeD i (j - i).toNat, []⟩ L1 else .bad
  | _ => .bad
theorem itOk_range {G : Gb} {w : Wd} {lo : Int} {n : Nat} : ItOk G w [] (Itr lo n) (rangeD lo n) := by
  intro w1 L1 H1 l R so i
  unfold rangeD
  refine ⟨fun d hd => ?_, fun hi => ?_⟩
  · rw [List.getElem?_map] at hd
    obtain ⟨k, hk, rfl⟩ := Option.map_eq_some_iff.mp hd
    have hk2 := getElem?_lt hk
    rw [List.length_range] at hk2
    rw [List.getElem?_range hk2] at hk
    cases hk
    exact ⟨hk2, fun x H' ⟨e, y⟩ => by subst e; rw [y]; exact ⟨w1, .refl _, R, .int _⟩⟩
  · have : (List.range n).length ≤ i := by rw [hi]; simp
    rw [List.length_range] at this
    exact this
theorem small62_ok {i : Int} (h : small62 i = true) : -(2 ^ 62) ≤ i ∧ i < 2 ^ 62 := by
  have := of_decide_eq_true h
  exact ⟨by omega, by omega⟩
theorem si_range1 (ha : SA S W [a] fl) (hg : Glb S "range" := by rfl) (hm : S.g.mg "range" = none := by assumption) (hs : ∀ env, starEach [a] env = [(false, eval a env)] := by intro _; rfl) :
    SI S W tg (.Call (.Name "range" p) [a] [] pos) (iRange1 fl) := fun X h =>
  PI.imp (pi_range1 (by show X.env.scope.names.lookup _ = _; rw [← h.sc]; exact hg) (by rw [← h.mg]; exact hm) (ha X h) (hs _)) fun σ H R ⟨w, ρ, L, R0, e, q⟩ =>
    ⟨w, ρ, L, R0, e, (PostI.bind (rel := DenL S.g) q).imp (fun vs H1 ⟨w1, ds, L1, l1, R1, d1, p1⟩ => by
      split at p1
      · rename_i j
        split at p1
        · rename_i hj
          cases d1 with
          | cons x t =>
            cases t
            cases x
            obtain ⟨k1, k2⟩ := small62_ok hj
            exact ⟨j, rfl, k1, k2, p1 w1 H1 _ (.refl _) R1 (fun _ z => nomatch z) itOk_range⟩
        · exact p1.elim
      · exact p1.elim) fun _ _ _ z => z⟩
def enumD : Nat → List D → List D
  | _, [] => []
  | i, d :: ds => .tup [.int (i : Int), d] :: enumD (i + 1) ds
theorem enumD_get : ∀ {ds : List D} {i j : Nat}, (enumD j ds)[i]? = (ds[i]?).map fun d => D.tup [.int ((j + i : Nat) : Int), d]
  | [], i, j => by simp [enumD]
  | d :: ds, 0, j => by simp [enumD]
  | d :: ds, i + 1, j => by
    show (enumD (j + 1) ds)[i]? = _
    rw [enumD_get, show j + 1 + i = j + (i + 1) by omega]
    simp
theorem enumD_length : ∀ {ds : List D} {j : Nat}, (enumD j ds).length = ds.length
  | [], _ => rfl
  | _ :: ds, j => by simp [enumD, enumD_length]
theorem newPair {G : Gb} {w1 : Wd} {L1 : Sto} {H H' : Hp} (R : Rel G w1 L1 H) {T : Addr} {x y : V} {d e : D} (hT : H T = none) (hH : H' = upd H T (.tup [x, y])) (dx : Den G w1 x d) (dy : Den G w1 y e) :
    ∃ w', w1.le w' ∧ Rel G w' L1 H' ∧ Den G w' (.ref T) (.tup [d, e]) := by
  obtain ⟨R2, l2⟩ := R.newF (o := .tup [x, y]) hT
  exact ⟨_, l2, by rw [hH]; exact R2, .tup (.inl (.inl upd_same)) (.cons (dx.le l2) (.cons (dy.le l2) .nil))⟩
def iEnumF (f : AF) : IF := fun ρ L => (f ρ L).bind fun ds L1 => match ds with
  | [d] => (match seqOf L1 d with
    | some (xs, s) => .ok ⟨enumD 0 xs, s⟩ L1
    | none => .bad)
  | _ => .bad
theorem si_enum {elts : List Expr} {kk : Nat} {tpos : Pos} (ha : SA S W [a] fl) (hg : Glb S "enumerate" := by rfl) (hm : S.g.mg "enumerate" = none := by assumption) (hs : ∀ env, starEach [a] env = [(false, eval a env)] := by intro _; rfl) :
    SI S W (.Tuple elts kk tpos) (.Call (.Name "enumerate" p) [a] [] pos) (iEnumF fl) := fun X h =>
  PI.imp (pi_en (by show X.env.scope.names.lookup _ = _; rw [← h.sc]; exact hg) (by rw [← h.mg]; exact hm) (ha X h) (hs _)) fun σ H R ⟨w, ρ, L, R0, e, q⟩ =>
    ⟨w, ρ, L, R0, e, (PostI.bind (rel := DenL S.g) q).imp (fun vs H1 ⟨w1, ds, L1, l1, R1, d1, p1⟩ => by
      split at p1
      · rename_i d
        split at p1
        · rename_i xs s hs
          cases d1 with
          | cons x t =>
            cases t
            obtain ⟨k, a, ea, hk⟩ := seq_at (H := H1) x hs
            subst ea
            have so := seq_src hs
            obtain ⟨vs, hq, _⟩ := hk w1 L1 H1 (.refl _) R1 so
            rw [← h.K]
            refine ⟨k, a, vs, rfl, hq, p1 w1 H1 _ (.refl _) R1 so fun w2 L2 H2 l2 R2 so2 i => ?_⟩
            obtain ⟨us, hq2, r2⟩ := hk w2 L2 H2 l2 R2 so2
            refine ⟨fun d hd => ?_, fun hi => ⟨us, hq2, ?_⟩⟩
            · rw [enumD_get, Nat.zero_add] at hd
              obtain ⟨d', hd', rfl⟩ := Option.map_eq_some_iff.mp hd
              obtain ⟨v, hv, dv⟩ := r2.get hd'
              refine ⟨⟨us, v, hq2, hv⟩, fun x H' ⟨T, y, ex, hT, hH, hy⟩ => ?_⟩
              have := hy us hq2
              rw [hv] at this; cases this
              subst ex
              exact newPair R2 hT hH (.int _) dv
            · rw [enumD_length] at hi; rw [r2.length]; exact hi
        · exact p1.elim
      · exact p1.elim) fun _ _ _ z => z⟩
def zipD (xs ys : List D) : List D := List.zipWith (fun x y => D.tup [x, y]) xs ys
def iZipF (f : AF) : IF := fun ρ L => (f ρ L).bind fun ds L1 => match ds with
  | [d, e] => (match seqOf L1 d, seqOf L1 e with
    | some (xs, s), some (ys, t) => .ok ⟨zipD xs ys, s ++ t⟩ L1
    | _, _ => .bad)
  | _ => .bad
theorem si_zip {elts : List Expr} {kk : Nat} {tpos : Pos} (ha : SA S W [a, b] fl) (hg : Glb S "zip" := by rfl) (hm : S.g.mg "zip" = none := by assumption)
    (hs : ∀ env, starEach [a, b] env = (false, eval a env) :: starEach [b] env := by intro _; rfl) (hpl : ∀ env, (backTo pos (starEach [b] env)).any (·.1) = false := by intro _; rfl) :
    SI S W (.Tuple elts kk tpos) (.Call (.Name "zip" p) [a, b] [] pos) (iZipF fl) := fun X h =>
  PI.imp (pi_zp (by show X.env.scope.names.lookup _ = _; rw [← h.sc]; exact hg) (by rw [← h.mg]; exact hm) (ha X h) (hs _) (hpl _)) fun σ H R ⟨w, ρ, L, R0, e, q⟩ =>
    ⟨w, ρ, L, R0, e, (PostI.bind (rel := DenL S.g) q).imp (fun vs H1 ⟨w1, ds, L1, l1, R1, d1, p1⟩ => by
      split at p1
      · rename_i d e
        split at p1
        · rename_i xs s ys t hs1 hs2
          cases d1 with
          | cons x tt =>
            cases tt with
            | cons y tt =>
              cases tt
              obtain ⟨k, a, ea, hk⟩ := seq_at (H := H1) x hs1
              obtain ⟨j, b, eb, hj⟩ := seq_at (H := H1) y hs2
              subst ea eb
              have so1 := seq_src hs1
              have so2 := seq_src hs2
              have so : srcOk L1 (s ++ t) := fun p hp => (List.mem_append.mp hp).elim (so1 p) (so2 p)
              obtain ⟨vs, hq, _⟩ := hk w1 L1 H1 (.refl _) R1 so1
              obtain ⟨us, hq', _⟩ := hj w1 L1 H1 (.refl _) R1 so2
              rw [← h.K]
              refine ⟨k, j, a, b, vs, us, rfl, hq, hq', p1 w1 H1 _ (.refl _) R1 so fun w2 L2 H2 l2 R2 so3 i => ?_⟩
              obtain ⟨vs2, hq2, r2⟩ := hk w2 L2 H2 l2 R2 fun p hp => so3 p (List.mem_append_left _ hp)
              obtain ⟨us2, hq3, r3⟩ := hj w2 L2 H2 l2 R2 fun p hp => so3 p (List.mem_append_right _ hp)
              refine ⟨fun d hd => ?_, fun hi => ⟨vs2, us2, hq2, hq3, ?_⟩⟩
              · unfold zipD at hd
                rw [List.getElem?_zipWith] at hd
                cases q1 : xs[i]? with
                | none => rw [q1] at hd; cases hd
                | some x1 =>
                  cases q2 : ys[i]? with
                  | none => rw [q1, q2] at hd; cases hd
                  | some y1 =>
                    rw [q1, q2] at hd
                    cases hd
                    obtain ⟨v, hv, dv⟩ := r2.get q1
                    obtain ⟨u, hu, du⟩ := r3.get q2
                    refine ⟨⟨vs2, us2, v, u, hq2, hq3, hv, hu⟩, fun x H' ⟨T, y, z, ex, hT, hH, hy, hz⟩ => ?_⟩
                    have e1 := hy vs2 hq2
                    have e2 := hz us2 hq3
                    rw [hv] at e1; cases e1
                    rw [hu] at e2; cases e2
                    subst ex
                    exact newPair R2 hT hH dv du
              · rw [r2.length, r3.length]
                unfold zipD at hi
                rw [List.length_zipWith] at hi; exact hi
        · exact p1.elim
      · exact p1.elim) fun _ _ _ z => z⟩
end
def lstOf (L : Sto) (d : D) : Option (List D) := match d with
  | .lst xs => some xs
  | .loc n => (match L[n]? with
    | some (.lst xs) => some xs
    | _ => none)
  | _ => none
theorem lst_at {G : Gb} {w : Wd} {L : Sto} {H : Hp} {v : V} {d : D} {xs : List D} (R : Rel G w L H) (h : Den G w v d) (e : lstOf L d = some xs) : ∃ a vs, v = .ref a ∧ H a = some (.lst vs) ∧ DenL G w vs xs := by
  cases h with
  | @lst a vs ds hq r => cases e; exact ⟨a, vs, rfl, R.sub _ _ hq, r⟩
  | @loc n a hn =>
    dsimp only [lstOf] at e
    split at e
    · rename_i ys hy
      cases e
      obtain ⟨o, h1, h2⟩ := R.box n a _ hn hy
      cases h2 with
      | lst r => exact ⟨a, _, rfl, h1, r⟩
    · cases e
  | _ => cases e
theorem DenL.append {G : Gb} {w : Wd} : ∀ {vs us : List V} {ds es : List D}, DenL G w vs ds → DenL G w us es → DenL G w (vs ++ us) (ds ++ es)
  | _, _, _, _, .nil, k => k
  | _, _, _, _, .cons a t, k => .cons a (DenL.append t k)
theorem DenL.take {G : Gb} {w : Wd} : ∀ {vs : List V} {ds : List D} (n : Nat), DenL G w vs ds → DenL G w (vs.take n) (ds.take n)
  | _, _, 0, _ => .nil
  | _, _, _ + 1, .nil => .nil
  | _, _, n + 1, .cons a t => .cons a (DenL.take n t)
theorem DenL.drop {G : Gb} {w : Wd} : ∀ {vs : List V} {ds : List D} (n : Nat), DenL G w vs ds → DenL G w (vs.drop n) (ds.drop n)
  | _, _, 0, h => h
  | _, _, _ + 1, .nil => .nil
  | _, _, n + 1, .cons a t => DenL.drop n t
theorem DenL.reverse {G : Gb} {w : Wd} {vs : List V} {ds : List D} (h : DenL G w vs ds) : DenL G w vs.reverse ds.reverse := by
  induction vs generalizing ds with
  | nil => cases h; exact .nil
  | cons v vs ih => cases h with | cons a t => rw [List.reverse_cons, List.reverse_cons]; exact (ih t).snoc a
theorem DenL.set {G : Gb} {w : Wd} {v : V} {d : D} (h : Den G w v d) : ∀ {vs : List V} {ds : List D} (n : Nat), DenL G w vs ds → DenL G w (vs.set n v) (ds.set n d)
  | _, _, _, .nil => .nil
  | _, _, 0, .cons a t => .cons h t
  | _, _, n + 1, .cons a t => .cons a (DenL.set h n t)
def dInts : List D → Option (List Int)
  | [] => some []
  | .int i :: r => (dInts r).map (i :: ·)
  | _ :: _ => none
theorem DenL.ints {G : Gb} {w : Wd} : ∀ {vs : List V} {ds : List D} {ns : List Int}, DenL G w vs ds → dInts ds = some ns → vs = ns.map V.int
  | _, _, _, .nil, e => by cases e; rfl
  | _, _, _, .cons a t, e => by
    cases a with
    | int i =>
      obtain ⟨ns, h, rfl⟩ := Option.map_eq_some_iff.mp e
      rw [DenL.ints t h] <;> rfl
    | _ => cases e
theorem DenL.of_ints {G : Gb} {w : Wd} : ∀ (ns : List Int), DenL G w (ns.map V.int) (ns.map D.int)
  | [] => .nil
  | n :: ns => .cons (.int n) (DenL.of_ints ns)
def dBls : List D → Option (List Bool)
  | [] => some []
  | .bl i :: r => (dBls r).map (i :: ·)
  | _ :: _ => none
theorem DenL.bls {G : Gb} {w : Wd} : ∀ {vs : List V} {ds : List D} {ns : List Bool}, DenL G w vs ds → dBls ds = some ns → vs = ns.map V.bl
  | _, _, _, .nil, e => by cases e; rfl
  | _, _, _, .cons a t, e => by
    cases a with
    | bl i =>
      obtain ⟨ns, h, rfl⟩ := Option.map_eq_some_iff.mp e
      rw [DenL.bls t h] <;> rfl
    | _ => cases e
def newL (xs : List D) (L : Sto) : Res D := if xs.length ≤ 16777216 then .ok (.lst xs) L else .bad
def newT (xs : List D) (L : Sto) : Res D := if xs.length ≤ 16777216 then .ok (.tup xs) L else .bad
section
variable {G : Gb} {w : Wd} {L : Sto} {H : Hp} {vs : List V} {xs : List D} {Q : VK} {E : XK}
theorem lineLe {n : Nat} (h : n ≤ 16777216) : n ≤ sizeLine := by rw [sizeLine_eq]; exact h
theorem lineLt {n : Nat} (h : n < 16777216) : n < sizeLine := by rw [sizeLine_eq]; exact h
theorem newL_post (p : Post G (Den G) w (newL xs L) Q E) : vs.length = xs.length → vs.length ≤ sizeLine := by
  unfold newL at p
  split at p
  · rename_i h; intro e; rw [e]; exact lineLe h
  · exact p.elim
theorem newL_go (p : Post G (Den G) w (newL xs L) Q E) (R : Rel G w L H) (d : DenL G w vs xs) (q : Addr) (hq : H q = none) : Q (.ref q) (upd H q (.lst vs)) := by
  unfold newL at p
  split at p
  · obtain ⟨R2, l2⟩ := R.newF (o := .lst vs) hq
    exact p _ _ _ l2 R2 (.lst upd_same (d.le l2))
  · exact p.elim
theorem newT_post (p : Post G (Den G) w (newT xs L) Q E) : vs.length = xs.length → vs.length ≤ sizeLine := by
  unfold newT at p
  split at p
  · rename_i h; intro e; rw [e]; exact lineLe h
  · exact p.elim
theorem newT_go (p : Post G (Den G) w (newT xs L) Q E) (R : Rel G w L H) (d : DenL G w vs xs) (q : Addr) (hq : H q = none) : Q (.ref q) (upd H q (.tup vs)) := by
  unfold newT at p
  split at p
  · obtain ⟨R2, l2⟩ := R.newF (o := .tup vs) hq
    exact p _ _ _ l2 R2 (.tup (.inl (.inl upd_same)) (d.le l2))
  · exact p.elim
end
def gAdd0 (d e : D) (L : Sto) : Res D := match d, e with
  | .int i, .int j => .ok (.int (i + j)) L
  | .str a, .str b => if a.length + b.length ≤ 16777216 then .ok (.str (a ++ b)) L else .bad
  | .tup xs, .tup ys => newT (xs ++ ys) L
  | d, e => (match lstOf L d, lstOf L e with
    | some xs, some ys => newL (xs ++ ys) L
    | _, _ => .bad)
def gAdd (d e : D) (L : Sto) : Res D := gAdd0 (lo d) (lo e) L
def gSub (d e : D) (L : Sto) : Res D := match d, e with
  | .int i, .int j => .ok (.int (i - j)) L
  | _, _ => .bad
def gMul0 (d e : D) (L : Sto) : Res D := match d, e with
  | .int i, .int j => if (-(2 ^ 64) < i ∧ i < 2 ^ 64) ∨ (-(2 ^ 64) < j ∧ j < 2 ^ 64) then .ok (.int (i * j)) L else .bad
  | .tup xs, .int k => if xs ≠ [] ∧ 2 ≤ k ∧ k ≤ 1000 ∧ xs.length ≤ 1000 then .ok (.tup (List.replicate k.toNat xs).flatten) L else .bad
  | d, .int k => (match lstOf L d with
    | some xs => if -(2 ^ 63) ≤ k ∧ k < 2 ^ 63 ∧ xs.length * k.toNat ≤ 16777216 then .ok (.lst (List.replicate k.toNat xs).flatten) L else .bad
    | _ => .bad)
  | _, _ => .bad
def gMul (d e : D) (L : Sto) : Res D := gMul0 (lo d) e L
def gDiv (d e : D) (L : Sto) : Res D := match d, e with
  | .int i, .int j => if 0 < j ∧ j.natAbs < 2 ^ 64 then .ok (.int (i / j)) L else .bad
  | _, _ => .bad
def gMod (d e : D) (L : Sto) : Res D := match d, e with
  | .int i, .int j => if 0 < j then .ok (.int (i % j)) L else .bad
  | _, _ => .bad
def gPow (d e : D) (L : Sto) : Res D := match d, e with
  | .int i, .int j => if 0 ≤ j ∧ j ≤ 1000 ∧ i.natAbs < 2 ^ 1000 then .ok (.int (i ^ j.toNat)) L else .bad
  | _, _ => .bad
def gNeg (d : D) (L : Sto) : Res D := match d with
  | .int i => .ok (.int (-i)) L
  | _ => .bad
def rPowW : R2 := rI (fun i j => 0 ≤ j ∧ j ≤ 1000 ∧ i.natAbs < 2 ^ 1000) fun i j => .int (i ^ j.toNat)
theorem op_powW {X : Cx} : OpR X (binaryOp .Pow) rPowW := opI fun i j t u s Q E hc q => by
  obtain ⟨h0, h1, h2⟩ := hc
  refine PyProof.Rows.pow_int h0 ?_ q
  have hb : (Builtin.Int.intBits i : Int) ≤ 1001 := by
    have : Builtin.Int.intBits i ≤ i.natAbs.log2 + 1 := by
      unfold Builtin.Int.intBits
      split <;> omega
    have h3 := PySem.Flt.log2_lt_of (n := i.natAbs) (k := 1000) (by decide) h2
    omega
  have : (Builtin.Int.intBits i : Int) * j ≤ 1001 * 1000 := Int.mul_le_mul hb h1 h0 (by decide)
  have e : (2 : Int) ^ 27 = 134217728 := by decide
  omega
section
variable {S : Sc} {W : WX} {a b e c : Expr} {fa fb f : EF} {fl : AF} {pos : Pos}
def rAddU (K : PySem.W.Frag) : R2 := fun x y H Q => (rI0 fun i j => V.int (i + j)) x y H Q ∨ rCat x y H Q ∨ rCatA K x y H Q ∨ (∃ i j, x = .str i ∧ y = .str j ∧ i.length + j.length ≤ sizeLine ∧ Q (.str (i ++ j)) H)
theorem op_addU {X : Cx} : OpR X (binaryOp .Add) (rAddU X.K) := op_add.or (op_cat.or (op_catA.or op_add_str))
theorem gAdd0_ok {G : Gb} : R2D G (rAddU G.K) gAdd0 := by
  intro w L H x y d e Q E R dx dy p
  have lists : (∀ xs ys, lstOf L d = some xs → lstOf L e = some ys → Post G (Den G) w (newL (xs ++ ys) L) Q E → rAddU G.K x y H Q) := fun xs ys h1 h2 p => by
    obtain ⟨a, vs, rfl, ha, da⟩ := lst_at R dx h1
    obtain ⟨b, us, rfl, hb, db⟩ := lst_at R dy h2
    have hl : (vs ++ us).length = (xs ++ ys).length := (da.append db).length
    refine .inr (.inl ⟨a, b, vs, us, rfl, rfl, ha, hb, ?_, fun q hq => newL_go p R (da.append db) q hq⟩)
    have := newL_post p hl
    rw [List.length_append] at this; exact this
  unfold gAdd0 at p
  split at p
  · cases dx; cases dy
    exact .inl ⟨_, _, rfl, rfl, Post.ok p (.refl w) R (.int _)⟩
  · rename_i a b
    cases dx; cases dy
    split at p
    · rename_i h
      exact .inr (.inr (.inr ⟨_, _, rfl, rfl, lineLe h, Post.ok p (.refl w) R (.str _)⟩))
    · exact p.elim
  · rename_i xs ys
    cases dx with
    | @tup a vs ds h1 r1 =>
      cases dy with
      | @tup b us es h2 r2 =>
        have hl : (vs ++ us).length = (xs ++ ys).length := (r1.append r2).length
        have hz := newT_post p hl
        rw [List.length_append] at hz
        have pk : ∀ {zs : List D}, newT zs L = .ok (.tup zs) L ∨ newT zs L = .bad := fun {zs} => by unfold newT; split <;> simp
        have p2 : Post G (Den G) w (.ok (.tup (xs ++ ys)) L) Q E := by
          rcases pk (zs := xs ++ ys) with q | q
          · rw [q] at p; exact p
          · rw [q] at p; exact p.elim
        refine .inr (.inr (.inl ⟨a, b, vs, us, rfl, rfl, R.sqT h1, R.sqT h2, hz, fun e0 => ?_, fun _ e0 => ?_, fun _ _ q hq => newT_go p R (r1.append r2) q hq⟩))
        · subst e0; cases r1; exact Post.ok p2 (.refl w) R (.tup h2 r2)
        · subst e0; cases r2; rw [List.append_nil] at p2; exact Post.ok p2 (.refl w) R (.tup h1 r1)
  · split at p
    · rename_i xs ys h1 h2
      exact lists xs ys h1 h2 p
    · exact p.elim
theorem gAdd_ok {G : Gb} : R2D G (rAddU G.K) gAdd := fun w L H x y d e Q E R dx dy p => gAdd0_ok w L H x y _ _ Q E R dx.lo dy.lo p
theorem se_add (ha : SE S W a fa) (hb : SE S W b fb) : SE S W (.BinOp a .Add b pos) (e2 gAdd fa fb) := fun X h => se_op (r := rAddU S.g.K) (fun X h => by rw [h.K]; exact op_addU) gAdd_ok ha hb X h
theorem gSub_ok {G : Gb} : R2D G (rI0 fun i j => V.int (i - j)) gSub := by
  intro w L H x y d e Q E R dx dy p
  unfold gSub at p
  split at p
  · cases dx; cases dy; exact ⟨_, _, rfl, rfl, Post.ok p (.refl w) R (.int _)⟩
  · exact p.elim
theorem se_sub (ha : SE S W a fa) (hb : SE S W b fb) : SE S W (.BinOp a .Sub b pos) (e2 gSub fa fb) := se_op (fun _ _ => op_sub) gSub_ok ha hb
def rMulU (K : PySem.W.Frag) : R2 := fun x y H Q => (rI CMul fun i j => V.int (i * j)) x y H Q ∨ rRep x y H Q ∨ rRepT K x y H Q
theorem op_mulU {X : Cx} : OpR X (binaryOp .Mult) (rMulU X.K) := op_mul.or (op_rep.or op_repT)
theorem DenL.rep {G : Gb} {w : Wd} {vs : List V} {ds : List D} (h : DenL G w vs ds) : ∀ n : Nat, DenL G w (List.replicate n vs).flatten (List.replicate n ds).flatten
  | 0 => .nil
  | n + 1 => by rw [List.replicate_succ, List.replicate_succ, List.flatten_cons, List.flatten_cons]; exact h.append (DenL.rep h n)
theorem gMul0_ok {G : Gb} : R2D G (rMulU G.K) gMul0 := by
  intro w L H x y d e Q E R dx dy p
  unfold gMul0 at p
  split at p
  · cases dx; cases dy
    split at p
    · rename_i h; exact .inl ⟨_, _, rfl, rfl, h, Post.ok p (.refl w) R (.int _)⟩
    · exact p.elim
  · rename_i xs k
    cases dy
    split at p
    · rename_i h
      cases dx with
      | @tup a vs ds h1 r1 =>
        have hl := r1.length
        refine .inr (.inr ⟨a, k, vs, rfl, rfl, R.sqT h1, fun e0 => h.1 (by subst e0; cases r1; rfl), h.2.1, h.2.2.1, by omega, fun q hq => ?_⟩)
        obtain ⟨R2, l2⟩ := R.newF (o := .tup (List.replicate k.toNat vs).flatten) hq
        exact p _ _ _ l2 R2 (.tup (.inl (.inl upd_same)) ((r1.le l2).rep _))
    · exact p.elim
  · cases dy
    split at p
    · rename_i xs hx
      split at p
      · rename_i h
        obtain ⟨a, vs, rfl, h1, r1⟩ := lst_at R dx hx
        have hl := r1.length
        refine .inr (.inl ⟨a, _, vs, rfl, rfl, h1, h.1, h.2.1, by rw [hl]; exact lineLe h.2.2, fun q hq => ?_⟩)
        obtain ⟨R2, l2⟩ := R.newF (o := .lst (List.replicate _ vs).flatten) hq
        exact p _ _ _ l2 R2 (.lst upd_same ((r1.le l2).rep _))
      · exact p.elim
    · exact p.elim
  · exact p.elim
theorem gMul_ok {G : Gb} : R2D G (rMulU G.K) gMul := fun w L H x y d e Q E R dx dy p => gMul0_ok w L H x y _ _ Q E R dx.lo dy p
theorem se_mul (ha : SE S W a fa) (hb : SE S W b fb) : SE S W (.BinOp a .Mult b pos) (e2 gMul fa fb) := fun X h => se_op (r := rMulU S.g.K) (fun X h => by rw [h.K]; exact op_mulU) gMul_ok ha hb X h
theorem gDiv_ok {G : Gb} : R2D G (rI CDivW fun i j => V.int (i / j)) gDiv := by
  intro w L H x y d e Q E R dx dy p
  unfold gDiv at p
  split at p
  · cases dx; cases dy
    split at p
    · rename_i h; exact ⟨_, _, rfl, rfl, wide_div h.1 h.2 (by decide) (by decide), Post.ok p (.refl w) R (.int _)⟩
    · exact p.elim
  · exact p.elim
theorem se_div (ha : SE S W a fa) (hb : SE S W b fb) : SE S W (.BinOp a .FloorDiv b pos) (e2 gDiv fa fb) := se_op (fun _ _ => op_fdivW) gDiv_ok ha hb
theorem gMod_ok {G : Gb} : R2D G (rI (fun _ j => 0 < j) fun i j => V.int (i % j)) gMod := by
  intro w L H x y d e Q E R dx dy p
  unfold gMod at p
  split at p
  · cases dx; cases dy
    split at p
    · rename_i h; exact ⟨_, _, rfl, rfl, h, Post.ok p (.refl w) R (.int _)⟩
    · exact p.elim
  · exact p.elim
theorem se_mod (ha : SE S W a fa) (hb : SE S W b fb) : SE S W (.BinOp a .Mod b pos) (e2 gMod fa fb) := se_op (fun _ _ => op_mod) gMod_ok ha hb
theorem gPow_ok {G : Gb} : R2D G rPowW gPow := by
  intro w L H x y d e Q E R dx dy p
  unfold gPow at p
  split at p
  · cases dx; cases dy
    split at p
    · rename_i h; exact ⟨_, _, rfl, rfl, h, Post.ok p (.refl w) R (.int _)⟩
    · exact p.elim
  · exact p.elim
theorem se_pow (ha : SE S W a fa) (hb : SE S W b fb) : SE S W (.BinOp a .Pow b pos) (e2 gPow fa fb) := se_op (fun _ _ => op_powW) gPow_ok ha hb
theorem gNeg_ok {G : Gb} : R1D G (rU fun i => V.int (-i)) gNeg := by
  intro w L H x d Q E R dx p
  unfold gNeg at p
  split at p
  · cases dx; exact ⟨_, rfl, Post.ok p (.refl w) R (.int _)⟩
  · exact p.elim
theorem se_neg (ha : SE S W a fa) : SE S W (.UnaryOp .USub a pos) (e1 gNeg fa) := se_un (fun _ _ => un_neg) gNeg_ok ha
mutual
def toPy : D → Option PyData
  | .non => some .none
  | .bl b => some (.bool b)
  | .int i => some (.int i)
  | .str s => some (.str s)
  | .tup xs => (toPyL xs).map .tuple
  | .tg xs => (toPyL xs).map .tuple
  | .lst xs => (toPyL xs).map .list
  | .ro xs => (toPyL xs).map .list
  | _ => none
def toPyL : List D → Option (List PyData)
  | [] => some []
  | d :: ds => match toPy d, toPyL ds with
    | some p, some ps => some (p :: ps)
    | _, _ => none
end
mutual
theorem Den.py {G : Gb} {w : Wd} {L : Sto} {H : Hp} (R : Rel G w L H) : ∀ {v : V} {d : D} {p : PyData}, Den G w v d → toPy d = some p → Dp G.K H v p
  | _, _, _, .non, e => by cases e; exact .non
  | _, _, _, .bl b, e => by cases e; exact .bl b
  | _, _, _, .int i, e => by cases e; exact .int i
  | _, _, _, .str s, e => by cases e; exact .str s
  | _, _, _, .tup h r, e => by
    obtain ⟨ps, h1, rfl⟩ := Option.map_eq_some_iff.mp e
    exact .tup (R.sqT h) (DenL.py R r h1)
  | _, _, _, .tg h r, e => by
    obtain ⟨ps, h1, rfl⟩ := Option.map_eq_some_iff.mp e
    exact .tup (R.sqT h.t) (DenL.py R r h1)
  | _, _, _, .lst h r, e => by
    obtain ⟨ps, h1, rfl⟩ := Option.map_eq_some_iff.mp e
    exact .lst (.inl (.inl (R.sub _ _ h))) (DenL.py R r h1)
  | _, _, _, .ro h r, e => by
    obtain ⟨ps, h1, rfl⟩ := Option.map_eq_some_iff.mp e
    exact .lst (R.sqL h) (DenL.py R r h1)
  | _, _, _, .dK _ _, e => by cases e
  | _, _, _, .dT _ _, e => by cases e
  | _, _, _, .ins _ _ _, e => by cases e
  | _, _, _, .loc _, e => by cases e
  | _, _, _, .fn _ _, e => by cases e
  | _, _, _, .ty _, e => by cases e
  | _, _, _, .sl _ _ _ _, e => by cases e
  | _, _, _, .dF _ _, e => by cases e
theorem DenL.py {G : Gb} {w : Wd} {L : Sto} {H : Hp} (R : Rel G w L H) : ∀ {v : List V} {d : List D} {p : List PyData}, DenL G w v d → toPyL d = some p → DpAll G.K H v p
  | _, _, _, .nil, e => by cases e; exact .nil
  | _, d :: ds, _, .cons a t, e => by
    cases h1 : toPy d with
    | none => simp only [toPyL, h1] at e; cases e
    | some p =>
      cases h2 : toPyL ds with
      | none => simp only [toPyL, h1, h2] at e; cases e
      | some ps =>
        simp only [toPyL, h1, h2] at e
        cases e
        exact .cons (Den.py R a h1) (DenL.py R t h2)
end
def seen (L : Sto) (d : D) : D := match lstOf L d with
  | some xs => .lst xs
  | none => d
theorem Den.pySeen {G : Gb} {w : Wd} {L : Sto} {H : Hp} (R : Rel G w L H) {v : V} {d : D} {p : PyData} (h : Den G w v d) (e : toPy (seen L d) = some p) : Dp G.K H v p := by
  unfold seen at e
  split at e
  · rename_i xs hx
    obtain ⟨a, vs, rfl, h1, r⟩ := lst_at R h hx
    obtain ⟨ps, h2, rfl⟩ := Option.map_eq_some_iff.mp e
    exact .lst (.inl (.inl h1)) (DenL.py R r h2)
  · exact h.py R e
def gEqB (L : Sto) (d e : D) : Option Bool := match toPy (seen L d), toPy (seen L e) with
  | some p, some q => if SeqAt.shaped p = true ∧ SeqAt.shaped q = true then some (PyData.eqv p q) else none
  | _, _ => none
def gEq (d e : D) (L : Sto) : Res D := match gEqB L d e with
  | some b => .ok (.bl b) L
  | none => .bad
def gNe (d e : D) (L : Sto) : Res D := match gEqB L d e with
  | some b => .ok (.bl (!b)) L
  | none => .bad
theorem gEqB_at {G : Gb} {w : Wd} {L : Sto} {H : Hp} (R : Rel G w L H) {x y : V} {d e : D} {b : Bool} (dx : Den G w x d) (dy : Den G w y e) (h : gEqB L d e = some b) :
    ∃ p q, Dp G.K H x p ∧ Dp G.K H y q ∧ SeqAt.shaped p = true ∧ SeqAt.shaped q = true ∧ PyData.eqv p q = b := by
  unfold gEqB at h
  split at h
  · rename_i p q h1 h2
    split at h
    · rename_i h3; cases h; exact ⟨p, q, dx.pySeen R h1, dy.pySeen R h2, h3.1, h3.2, rfl⟩
    · cases h
  · cases h
theorem gEq_ok {G : Gb} : R2D G (rEqD G.K) gEq := by
  intro w L H x y d e Q E R dx dy p
  unfold gEq at p
  split at p
  · rename_i b h
    obtain ⟨u, v, h1, h2, h3, h4, h5⟩ := gEqB_at R dx dy h
    exact ⟨u, v, h1, h2, h3, h4, by rw [h5]; exact Post.ok p (.refl w) R (.bl b)⟩
  · exact p.elim
theorem gNe_ok {G : Gb} : R2D G (rNeD G.K) gNe := by
  intro w L H x y d e Q E R dx dy p
  unfold gNe at p
  split at p
  · rename_i b h
    obtain ⟨u, v, h1, h2, h3, h4, h5⟩ := gEqB_at R dx dy h
    exact ⟨u, v, h1, h2, h3, h4, by rw [h5]; exact Post.ok p (.refl w) R (.bl _)⟩
  · exact p.elim
theorem Sc.Has.units {X : Cx} (h : S.Has W X) : X.A.units + 64 < cLine := by have := h.room.un; omega
theorem se_eq (ha : SE S W a fa) (hb : SE S W b fb) : SE S W (.Compare a [.Eq] [b] pos) (e2 gEq fa fb) := fun X h => se_cmp (r := rEqD S.g.K) (fun X h => by rw [h.K]; exact op_eqD h.units) gEq_ok ha hb (nomark _) X h
theorem st_eq (ha : SE S W a fa) (hb : SE S W b fb) : ST S W (.Compare a [.Eq] [b] pos) (fun ρ L => asB (e2 gEq fa fb ρ L)) := fun X h => st_cmp (r := rEqD S.g.K) (fun X h => by rw [h.K]; exact op_eqD h.units) gEq_ok ha hb (nomark _) X h
theorem se_ne (ha : SE S W a fa) (hb : SE S W b fb) : SE S W (.Compare a [.NotEq] [b] pos) (e2 gNe fa fb) := fun X h => se_cmp (r := rNeD S.g.K) (fun X h => by rw [h.K]; exact op_neD h.units) gNe_ok ha hb (nomark _) X h
theorem st_ne (ha : SE S W a fa) (hb : SE S W b fb) : ST S W (.Compare a [.NotEq] [b] pos) (fun ρ L => asB (e2 gNe fa fb ρ L)) := fun X h => st_cmp (r := rNeD S.g.K) (fun X h => by rw [h.K]; exact op_neD h.units) gNe_ok ha hb (nomark _) X h
def gLt0 (d e : D) (L : Sto) : Res D := match d, e with
  | .int i, .int j => .ok (.bl (decide (i < j))) L
  | .str i, .str j => .ok (.bl (decide (i.cps.toList < j.cps.toList))) L
  | .tup xs, .tup ys => (match dInts xs, dInts ys with
    | some ns, some ms => .ok (.bl (HT.lexLt ns ms)) L
    | _, _ => .bad)
  | _, _ => .bad
def gLt (d e : D) (L : Sto) : Res D := gLt0 (lo d) (lo e) L
def rLtU (K : PySem.W.Frag) : R2 := fun x y H Q => (rI0 fun i j => V.bl (decide (i < j))) x y H Q ∨ (∃ i j, x = .str i ∧ y = .str j ∧ Q (.bl (decide (i.cps.toList < j.cps.toList))) H) ∨ rLtT K x y H Q
theorem op_ltU {X : Cx} (hu : X.A.units < cLine) : OpR X (compareOp .Lt) (rLtU X.K) := op_lt.or (op_lt_str.or (op_ltT hu))
theorem gLt0_ok {G : Gb} : R2D G (rLtU G.K) gLt0 := by
  intro w L H x y d e Q E R dx dy p
  unfold gLt0 at p
  split at p
  · cases dx; cases dy; exact .inl ⟨_, _, rfl, rfl, Post.ok p (.refl w) R (.bl _)⟩
  · cases dx; cases dy; exact .inr (.inl ⟨_, _, rfl, rfl, Post.ok p (.refl w) R (.bl _)⟩)
  · split at p
    · rename_i ns ms h1 h2
      cases dx with
      | tup hx rx =>
        cases dy with
        | tup hy ry =>
          have e1 := rx.ints h1
          have e2 := ry.ints h2
          subst e1 e2
          exact .inr (.inr ⟨_, _, ns, ms, rfl, rfl, R.sqT hx, R.sqT hy, Post.ok p (.refl w) R (.bl _)⟩)
    · exact p.elim
  · exact p.elim
theorem gLt_ok {G : Gb} : R2D G (rLtU G.K) gLt := fun w L H x y d e Q E R dx dy p => gLt0_ok w L H x y _ _ Q E R dx.lo dy.lo p
def gIcmp (f : Int → Int → Bool) (d e : D) (L : Sto) : Res D := match d, e with
  | .int i, .int j => .ok (.bl (f i j)) L
  | _, _ => .bad
theorem gIcmp_ok {G : Gb} (f : Int → Int → Bool) : R2D G (rI0 fun i j => V.bl (f i j)) (gIcmp f) := by
  intro w L H x y d e Q E R dx dy p
  unfold gIcmp at p
  split at p
  · cases dx; cases dy; exact ⟨_, _, rfl, rfl, Post.ok p (.refl w) R (.bl _)⟩
  · exact p.elim
def gLe := gIcmp fun i j => decide (i ≤ j)
def gGt := gIcmp fun i j => decide (j < i)
def gGe := gIcmp fun i j => decide (j ≤ i)
theorem se_lt (ha : SE S W a fa) (hb : SE S W b fb) : SE S W (.Compare a [.Lt] [b] pos) (e2 gLt fa fb) := fun X h => se_cmp (r := rLtU S.g.K) (fun X h => by rw [h.K]; exact op_ltU (by have := h.units; omega)) gLt_ok ha hb (nomark _) X h
theorem st_lt (ha : SE S W a fa) (hb : SE S W b fb) : ST S W (.Compare a [.Lt] [b] pos) (fun ρ L => asB (e2 gLt fa fb ρ L)) := fun X h => st_cmp (r := rLtU S.g.K) (fun X h => by rw [h.K]; exact op_ltU (by have := h.units; omega)) gLt_ok ha hb (nomark _) X h
theorem se_le (ha : SE S W a fa) (hb : SE S W b fb) : SE S W (.Compare a [.LtE] [b] pos) (e2 gLe fa fb) := se_cmp (fun _ _ => op_le) (gIcmp_ok _) ha hb (nomark _)
theorem st_gt (ha : SE S W a fa) (hb : SE S W b fb) : ST S W (.Compare a [.Gt] [b] pos) (fun ρ L => asB (e2 gGt fa fb ρ L)) := st_cmp (fun _ _ => op_gt) (gIcmp_ok _) ha hb (nomark _)
end
theorem PE.or {X : Cx} {e : Expr} {t u : TE} (h : PE X e t) (k : PE X e u) : PE X e (fun σ H Q => t σ H Q ∨ u σ H Q) := ⟨fun pins s σ H Q I q => q.elim (h.run pins s σ H Q I) (k.run pins s σ H Q I)⟩
structure Bl (G : Gb) : Prop where
  range : G.mg "range" = none
  enumerate : G.mg "enumerate" = none
  zip : G.mg "zip" = none
  len : G.mg "len" = none
  tuple : G.mg "tuple" = none
  list : G.mg "list" = none
  int : G.mg "int" = none
  abs : G.mg "abs" = none
  max : G.mg "max" = none
  min : G.mg "min" = none
  sum : G.mg "sum" = none
  all : G.mg "all" = none
  any : G.mg "any" = none
  sorted : G.mg "sorted" = none
  isinstance : G.mg "isinstance" = none
  dict : G.mg "dict" = none
  set : G.mg "set" = none
  bool : G.mg "bool" = none
  str : G.mg "str" = none
  reversed : G.mg "reversed" = none
  repr : G.mg "repr" = none
  iter : G.mg "iter" = none
  next : G.mg "next" = none
theorem seq_now {G : Gb} {w : Wd} {L : Sto} {H : Hp} {v : V} {d : D} {xs : List D} {s : List (Nat × D)} (R : Rel G w L H) (h : Den G w v d) (e : seqOf L d = some (xs, s)) :
    ∃ k a vs, v = .ref a ∧ SqB k G.K H a vs ∧ DenL G w vs xs := by
  obtain ⟨k, a, ea, hk⟩ := seq_at (H := H) h e
  obtain ⟨vs, h1, h2⟩ := hk w L H (.refl w) R (seq_src e)
  exact ⟨k, a, vs, ea, h1, h2⟩
def sqlOf (L : Sto) (d : D) : Option (List D) := match d with
  | .ro xs => some xs
  | d => lstOf L d
theorem sql_at {G : Gb} {w : Wd} {L : Sto} {H : Hp} {v : V} {d : D} {xs : List D} (R : Rel G w L H) (h : Den G w v d) (e : sqlOf L d = some xs) : ∃ a vs, v = .ref a ∧ SqL G.K H a vs ∧ DenL G w vs xs := by
  cases h with
  | @ro a vs ds hq r => cases e; exact ⟨a, vs, rfl, R.sqL hq, r⟩
  | lst hq r => obtain ⟨a, vs, e1, h1, h2⟩ := lst_at R (.lst hq r) e; exact ⟨a, vs, e1, .inl (.inl h1), h2⟩
  | loc hn => obtain ⟨a, vs, e1, h1, h2⟩ := lst_at R (.loc hn) e; exact ⟨a, vs, e1, .inl (.inl h1), h2⟩
  | _ => cases e
def dFlat : D → Bool
  | .non => true
  | .bl _ => true
  | .int _ => true
  | .str _ => true
  | _ => false
def dEqF : D → D → Bool
  | .non, .non => true
  | .bl a, .bl b => a == b
  | .bl a, .int b => (if a then 1 else 0) == b
  | .int a, .bl b => a == (if b then 1 else 0)
  | .int a, .int b => a == b
  | .str a, .str b => a == b
  | _, _ => false
theorem Den.flat {G : Gb} {w : Wd} {v : V} {d : D} (h : Den G w v d) (e : dFlat d = true) : flatV v = true := by
  cases h <;> first | rfl | cases e
theorem Den.eqF {G : Gb} {w : Wd} {v u : V} {d e : D} (h : Den G w v d) (k : Den G w u e) (h1 : dFlat d = true) (h2 : dFlat e = true) : eqV v u = dEqF d e := by
  cases h <;> first
    | exact absurd h1 Bool.false_ne_true
    | (cases k <;> first | exact absurd h2 Bool.false_ne_true | rfl)
theorem DenL.flat {G : Gb} {w : Wd} : ∀ {vs : List V} {ds : List D}, DenL G w vs ds → ds.all dFlat = true → vs.all flatV = true
  | _, _, .nil, _ => rfl
  | _, _, .cons a t, e => by
    rw [List.all_cons] at e ⊢
    exact and2' (a.flat (and2 e).1) (t.flat (and2 e).2)
theorem DenL.inF {G : Gb} {w : Wd} {v : V} {d : D} (h : Den G w v d) (hd : dFlat d = true) : ∀ {vs : List V} {ds : List D}, DenL G w vs ds → ds.all dFlat = true → inV v vs = ds.any fun y => dEqF y d
  | _, _, .nil, _ => rfl
  | _, _, .cons a t, e => by
    rw [List.all_cons] at e
    have := DenL.inF h hd t (and2 e).2
    unfold inV at this ⊢
    rw [List.any_cons, List.any_cons, this, a.eqF h (and2 e).1 hd]
inductive DD where
  | k (kvs : List (Key × D))
  | t (kvs : List (List Key × D))
def dictOf (L : Sto) (d : D) : Option DD := match d with
  | .dK kvs => some (.k kvs)
  | .dT kvs => some (.t kvs)
  | .dF kvs => some (.k kvs)
  | .loc n => (match L[n]? with
    | some (.dK kvs) => some (.k kvs)
    | some (.dT kvs) => some (.t kvs)
    | _ => none)
  | _ => none
theorem dk_at {G : Gb} {w : Wd} {L : Sto} {H : Hp} {v : V} {d : D} {xs : List (Key × D)} (R : Rel G w L H) (h : Den G w v d) (e : dictOf L d = some (.k xs)) : ∃ a vs, v = .ref a ∧ ((∀ ks, d ≠ .dF ks) → H a = some (.dK vs)) ∧ Rd H a (.dK vs) ∧ DenK G w vs xs := by
  cases h with
  | @dK a vs ds hq r => cases e; exact ⟨a, vs, rfl, fun _ => R.sub _ _ hq, .inl (R.sub _ _ hq), r⟩
  | @dF a ob vs ds hq r => cases e; exact ⟨a, vs, rfl, fun z => (z _ rfl).elim, .inr ⟨ob, R.sub _ _ hq⟩, r⟩
  | @dT a vs ds hq r => cases e
  | @loc n a hn =>
    dsimp only [dictOf] at e
    split at e
    · rename_i ys hy
      cases e
      obtain ⟨o, h1, h2⟩ := R.box n a _ hn hy
      cases h2 with
      | dK r => exact ⟨a, _, rfl, fun _ => h1, .inl h1, r⟩
    · cases e
    · cases e
  | _ => cases e
theorem dt_at {G : Gb} {w : Wd} {L : Sto} {H : Hp} {v : V} {d : D} {xs : List (List Key × D)} (R : Rel G w L H) (h : Den G w v d) (e : dictOf L d = some (.t xs)) : ∃ a vs, v = .ref a ∧ H a = some (.dT vs) ∧ DenT G w vs xs := by
  cases h with
  | @dK a vs ds hq r => cases e
  | @dT a vs ds hq r => cases e; exact ⟨a, vs, rfl, R.sub _ _ hq, r⟩
  | @loc n a hn =>
    dsimp only [dictOf] at e
    split at e
    · cases e
    · rename_i ys hy
      cases e
      obtain ⟨o, h1, h2⟩ := R.box n a _ hn hy
      cases h2 with
      | dT r => exact ⟨a, _, rfl, h1, r⟩
    · cases e
  | _ => cases e
def dKey : D → Option Key
  | .int i => some (.inl i)
  | .str s => some (.inr s)
  | _ => none
def dKeys : List D → Option (List Key)
  | [] => some []
  | d :: ds => match dKey d, dKeys ds with
    | some k, some ks => some (k :: ks)
    | _, _ => none
theorem Den.key {G : Gb} {w : Wd} {v : V} {d : D} {k : Key} (h : Den G w v d) (e : dKey d = some k) : v = kV k := by
  cases h <;> cases e <;> rfl
theorem DenL.keys {G : Gb} {w : Wd} : ∀ {vs : List V} {ds : List D} {ks : List Key}, DenL G w vs ds → dKeys ds = some ks → vs = ks.map kV
  | _, _, _, .nil, e => by cases e; rfl
  | _, d :: ds, _, .cons a t, e => by
    unfold dKeys at e
    split at e
    · rename_i k ks h1 h2
      cases e
      rw [a.key h1, DenL.keys t h2] <;> rfl
    · cases e
def valD {κ : Type} [DecidableEq κ] (kvs : List (κ × D)) (k : κ) : Option D := (kvs.find? fun kv => decide (kv.1 = k)).map (·.2)
def putD {κ : Type} [DecidableEq κ] (kvs : List (κ × D)) (k : κ) (v : D) : List (κ × D) :=
  if (kvs.any fun kv => decide (kv.1 = k)) = true then kvs.map (fun kv => if kv.1 = k then (kv.1, v) else kv) else kvs ++ [(k, v)]
inductive OD (G : Gb) (w : Wd) : Option V → Option D → Prop where
  | none : OD G w .none .none
  | some {v : V} {d : D} (h : Den G w v d) : OD G w (some v) (some d)
theorem DenK.val {G : Gb} {w : Wd} (k : Key) : ∀ {vs : List (Key × V)} {ds : List (Key × D)}, DenK G w vs ds → OD G w (valV vs k) (valD ds k)
  | _, _, .nil => .none
  | _, _, @DenK.cons _ _ k' v d vs ds a t => by
    unfold valV valD
    rw [List.find?_cons, List.find?_cons]
    by_cases h : k' = k
    · simp only [h, decide_true]; exact .some a
    · simp only [h, decide_false]; exact DenK.val k t
theorem DenT.val {G : Gb} {w : Wd} (k : List Key) : ∀ {vs : List (List Key × V)} {ds : List (List Key × D)}, DenT G w vs ds → OD G w (valV vs k) (valD ds k)
  | _, _, .nil => .none
  | _, _, @DenT.cons _ _ k' v d vs ds a t => by
    unfold valV valD
    rw [List.find?_cons, List.find?_cons]
    by_cases h : k' = k
    · simp only [h, decide_true]; exact .some a
    · simp only [h, decide_false]; exact DenT.val k t
theorem DenK.any {G : Gb} {w : Wd} (k : Key) : ∀ {vs : List (Key × V)} {ds : List (Key × D)}, DenK G w vs ds → (vs.any fun kv => decide (kv.1 = k)) = ds.any fun kv => decide (kv.1 = k)
  | _, _, .nil => rfl
  | _, _, .cons a t => by rw [List.any_cons, List.any_cons, DenK.any k t]
theorem DenT.any {G : Gb} {w : Wd} (k : List Key) : ∀ {vs : List (List Key × V)} {ds : List (List Key × D)}, DenT G w vs ds → (vs.any fun kv => decide (kv.1 = k)) = ds.any fun kv => decide (kv.1 = k)
  | _, _, .nil => rfl
  | _, _, .cons a t => by rw [List.any_cons, List.any_cons, DenT.any k t]
theorem DenK.map {G : Gb} {w : Wd} {k : Key} {v : V} {d : D} (h : Den G w v d) : ∀ {vs : List (Key × V)} {ds : List (Key × D)}, DenK G w vs ds → DenK G w (vs.map fun kv => if kv.1 = k then (kv.1, v) else kv) (ds.map fun kv => if kv.1 = k then (kv.1, d) else kv)
  | _, _, .nil => .nil
  | _, _, @DenK.cons _ _ k' v' d' vs ds a t => by
    rw [List.map_cons, List.map_cons]
    by_cases hk : k' = k
    · simp only [hk, if_true]; exact .cons h (DenK.map h t)
    · simp only [hk, if_false]; exact .cons a (DenK.map h t)
theorem DenT.map {G : Gb} {w : Wd} {k : List Key} {v : V} {d : D} (h : Den G w v d) : ∀ {vs : List (List Key × V)} {ds : List (List Key × D)}, DenT G w vs ds → DenT G w (vs.map fun kv => if kv.1 = k then (kv.1, v) else kv) (ds.map fun kv => if kv.1 = k then (kv.1, d) else kv)
  | _, _, .nil => .nil
  | _, _, @DenT.cons _ _ k' v' d' vs ds a t => by
    rw [List.map_cons, List.map_cons]
    by_cases hk : k' = k
    · simp only [hk, if_true]; exact .cons h (DenT.map h t)
    · simp only [hk, if_false]; exact .cons a (DenT.map h t)
theorem DenK.snoc {G : Gb} {w : Wd} {k : Key} {v : V} {d : D} (h : Den G w v d) : ∀ {vs : List (Key × V)} {ds : List (Key × D)}, DenK G w vs ds → DenK G w (vs ++ [(k, v)]) (ds ++ [(k, d)])
  | _, _, .nil => .cons h .nil
  | _, _, .cons a t => .cons a (DenK.snoc h t)
theorem DenT.snoc {G : Gb} {w : Wd} {k : List Key} {v : V} {d : D} (h : Den G w v d) : ∀ {vs : List (List Key × V)} {ds : List (List Key × D)}, DenT G w vs ds → DenT G w (vs ++ [(k, v)]) (ds ++ [(k, d)])
  | _, _, .nil => .cons h .nil
  | _, _, .cons a t => .cons a (DenT.snoc h t)
theorem DenK.put {G : Gb} {w : Wd} {k : Key} {v : V} {d : D} {vs : List (Key × V)} {ds : List (Key × D)} (h : DenK G w vs ds) (hv : Den G w v d) : DenK G w (putK vs k v) (putD ds k d) := by
  unfold putK putD
  rw [h.any k]
  split
  · exact h.map hv
  · exact h.snoc hv
theorem DenT.put {G : Gb} {w : Wd} {k : List Key} {v : V} {d : D} {vs : List (List Key × V)} {ds : List (List Key × D)} (h : DenT G w vs ds) (hv : Den G w v d) : DenT G w (putK vs k v) (putD ds k d) := by
  unfold putK putD
  rw [h.any k]
  split
  · exact h.map hv
  · exact h.snoc hv
theorem DenK.length {G : Gb} {w : Wd} : ∀ {vs : List (Key × V)} {ds : List (Key × D)}, DenK G w vs ds → vs.length = ds.length
  | _, _, .nil => rfl
  | _, _, .cons a t => congrArg Nat.succ (DenK.length t)
theorem DenT.length {G : Gb} {w : Wd} : ∀ {vs : List (List Key × V)} {ds : List (List Key × D)}, DenT G w vs ds → vs.length = ds.length
  | _, _, .nil => rfl
  | _, _, .cons a t => congrArg Nat.succ (DenT.length t)
def gLook (L : Sto) (d k : D) : Option (Option D) := match dictOf L d with
  | some (.k kvs) => (match dKey k with
    | some key => some (valD kvs key)
    | none => none)
  | some (.t kvs) => (match k with
    | .tup xs => (match dKeys xs with
      | some ks => some (valD kvs ks)
      | none => none)
    | _ => none)
  | none => none
theorem look_at {G : Gb} {w : Wd} {L : Sto} {H : Hp} {v u : V} {d k : D} {o : Option D} (R : Rel G w L H) (h : Den G w v d) (hk : Den G w u k) (e : gLook L d k = some o)
    (ht : ∀ a vs, u = .ref a → SqT G.K w.F a vs → H a = some (.tup vs)) : ∃ a ov, v = .ref a ∧ DGet H a u ov ∧ OD G w ov o := by
  unfold gLook at e
  split at e
  · rename_i kvs hd
    split at e
    · rename_i key hkey
      cases e
      obtain ⟨a, vs, rfl, _, ha, r⟩ := dk_at R h hd
      rw [hk.key hkey]
      exact ⟨a, _, rfl, .inl ⟨vs, key, ha, rfl, rfl⟩, r.val key⟩
    · cases e
  · rename_i kvs hd
    split at e
    · rename_i xs
      split at e
      · rename_i ks hks
        cases e
        obtain ⟨a, vs, rfl, ha, r⟩ := dt_at R h hd
        cases hk with
        | @tup b us ds hq rr =>
          have := rr.keys hks
          subst this
          exact ⟨a, _, rfl, .inr ⟨vs, ks, b, .inl ha, rfl, ht _ _ rfl hq, rfl⟩, r.val ks⟩
      · cases e
    · cases e
  · cases e
section
variable {S : Sc} {W : WX} {a b e c : Expr} {es : List Expr} {fa fb fc f : EF} {fl : AF} {pos p : Pos}
def gInB (L : Sto) (d e : D) : Option Bool := match seqOf L e with
  | some (xs, _) => if dFlat d = true ∧ xs.all dFlat = true then some (xs.any fun y => dEqF y d) else
    (match toPy (seen L d), toPy (seen L e) with
    | some p, some (.list ps) => if SeqAt.shaped p = true ∧ SeqAt.shaped (.list ps) = true then some (ps.any fun z => PyData.eqv z p) else none
    | _, _ => none)
  | none => (match d with
    | .int _ => (gLook L e d).map Option.isSome
    | .str _ => (gLook L e d).map Option.isSome
    | _ => none)
def gIn (d e : D) (L : Sto) : Res D := match gInB L d e with
  | some b => .ok (.bl b) L
  | none => .bad
def gNotIn (d e : D) (L : Sto) : Res D := match gInB L d e with
  | some b => .ok (.bl (!b)) L
  | none => .bad
theorem Sc.Has.units65 {X : Cx} (h : S.Has W X) : X.A.units + 65 < cLine := by have := h.room.un; omega
def isNonD : D → Option Bool
  | .non => some true
  | .fn _ => none
  | _ => some false
theorem Den.isNon {G : Gb} {w : Wd} {v : V} {d : D} {b : Bool} (h : Den G w v d) (e : isNonD d = some b) : decide (v = .non) = b := by
  cases h <;> cases e <;> first | rfl | decide
def gIsN (d e : D) (L : Sto) : Res D := match e, isNonD d with
  | .non, some b => .ok (.bl b) L
  | _, _ => .bad
theorem gIsN_ok {G : Gb} : R2D G (fun x y H Q => y = .non ∧ Q (.bl (decide (x = .non))) H) gIsN := by
  intro w L H x y d e Q E R dx dy p
  unfold gIsN at p
  split at p
  · rename_i b hb
    cases dy
    exact ⟨rfl, by rw [dx.isNon hb]; exact Post.ok p (.refl w) R (.bl b)⟩
  · exact p.elim
theorem se_isN (ha : SE S W a fa) (hb : SE S W b fb) : SE S W (.Compare a [.Is] [b] pos) (e2 gIsN fa fb) := se_cmp (fun _ _ => op_isN) gIsN_ok ha hb (nomark _)
def eChain (g g' : D → D → Sto → Res D) (fa fb fc : EF) : EF := fun ρ L => (fa ρ L).bind fun d L1 => (fb ρ L1).bind fun e L2 => (asB (g d e L2)).bind fun k L3 =>
  if k = true then (fc ρ L3).bind fun c L4 => g' e c L4 else .ok (.bl false) L3
theorem tChain_of {r r' : R2} {g g' : D → D → Sto → Res D} (hr : R2D S.g r g) (hr' : R2D S.g r' g') {σ : St} {H : Hp} {Q : VK} (h : tR S.g (Den S.g) W (eChain g g' fa fb fc) σ H Q) :
    tChain r r' (tR S.g (Den S.g) W fa) (tR S.g (Den S.g) W fb) (tR S.g (Den S.g) W fc) σ H Q := by
  obtain ⟨w, ρ, L, R, e, p⟩ := h
  refine ⟨w, ρ, L, R, e, (Post.bind (rel := Den S.g) p).imp (fun x H1 ⟨w1, d, L1, l1, R1, d1, p1⟩ => ?_) fun _ _ _ z => z⟩
  refine ⟨w1, ρ, L1, R1, e.le l1, (Post.bind (rel := Den S.g) p1).imp (fun y H2 ⟨w2, d', L2, l2, R2, d2, p2⟩ => ?_) fun _ _ _ z => z⟩
  refine hr w2 L2 H2 x y d d' _ (fun c dx H' => W c dx σ H') R2 (d1.le l2) d2 ((Post.asB (Post.bind (rel := eqR) p2)).imp (fun z H3 ⟨k, hk, w3, kk, L3, l3, R3, e3, p3⟩ => ?_) fun _ _ _ z => z)
  cases e3
  refine ⟨k, hk, ?_⟩
  cases k with
  | false => exact Post.ok p3 (.refl _) R3 (.bl false)
  | true =>
    rw [if_pos rfl] at p3
    rw [if_pos rfl]
    refine ⟨w3, ρ, L3, R3, (e.le l1).le (l2.trans l3), (Post.bind (rel := Den S.g) p3).imp (fun y3 H4 ⟨w4, d4, L4, l4, R4, dd4, p4⟩ => ?_) fun _ _ _ z => z⟩
    exact hr' w4 L4 H4 y y3 d' d4 Q _ R4 (d2.le (l3.trans l4)) dd4 p4
theorem st_chain {op op' : CmpOp} {r r' : R2} {g g' : D → D → Sto → Res D} (ho : ∀ X, S.Has W X → OpR X (compareOp op) r) (ho' : ∀ X, S.Has W X → OpR X (compareOp op') r') (hr : R2D S.g r g) (hr' : R2D S.g r' g')
    (ha : SE S W a fa) (hb : SE S W b fb) (hc : SE S W c fc) (hm : lastMarks [op, op'] [b, c] = false := by with_unfolding_all rfl) : ST S W (.Compare a [op, op'] [b, c] pos) (fun ρ L => asB (eChain g g' fa fb fc ρ L)) := fun X h =>
  PT.imp (pt_chain (ho X h) (ho' X h) (ha X h) (hb X h) (hc X h) hm) fun σ H Q ⟨w, ρ, L, R, e, p⟩ => tChain_of hr hr' ⟨w, ρ, L, R, e, Post.asB p⟩
def opLe : ∀ X : Cx, S.Has W X → OpR X (compareOp .LtE) (rI0 fun i j => V.bl (decide (i ≤ j))) := fun _ _ => op_le
theorem gLe_ok {G : Gb} : R2D G (rI0 fun i j => V.bl (decide (i ≤ j))) gLe := gIcmp_ok _
def gLtI := gIcmp fun i j => decide (i < j)
theorem st_le_le (ha : SE S W a fa) (hb : SE S W b fb) (hc : SE S W c fc) (hm : lastMarks [.LtE, .LtE] [b, c] = false := by with_unfolding_all rfl) : ST S W (.Compare a [.LtE, .LtE] [b, c] pos) (fun ρ L => asB (eChain gLe gLe fa fb fc ρ L)) := st_chain opLe opLe gLe_ok gLe_ok ha hb hc hm
def truD (L : Sto) (d : D) : Option Bool := match d with
  | .non => some false
  | .bl b => some b
  | .int i => some (i != 0)
  | .str s => if s.length ≤ 16777216 then some ((s.length : Int) != 0) else none
  | .dF _ => none
  | d => (match seqOf L d with
    | some (xs, _) => some (!xs.isEmpty)
    | none => (match dictOf L d with
      | some (.k kvs) => some (!kvs.isEmpty)
      | _ => none))
theorem DenL.empty {G : Gb} {w : Wd} {vs : List V} {ds : List D} (h : DenL G w vs ds) : vs.isEmpty = ds.isEmpty := by cases h <;> rfl
theorem tru_at {G : Gb} {w : Wd} {L : Sto} {H : Hp} {v : V} {d : D} {k : Bool} (R : Rel G w L H) (h : Den G w v d) (e : truD L d = some k) : TruV G.K v H k := by
  have sq : ∀ {v d}, Den G w v d → ∀ xs s, seqOf L d = some (xs, s) → (!xs.isEmpty) = k → TruV G.K v H k := by
    intro v d h xs s hs hk
    obtain ⟨b, a, vs, rfl, hq, r⟩ := seq_now R h hs
    rw [← r.empty] at hk
    cases b with
    | true => exact .inl ⟨vs, hq, hk.symm⟩
    | false => exact .inr (.inl ⟨vs, hq, hk.symm⟩)
  have dk : ∀ {v d}, Den G w v d → (∀ ks, d ≠ .dF ks) → ∀ kvs, dictOf L d = some (.k kvs) → (!kvs.isEmpty) = k → TruV G.K v H k := by
    intro v d h nf kvs hs hk
    obtain ⟨a, vs, rfl, hq', _, r⟩ := dk_at R h hs
    have hq := hq' nf
    have : vs.isEmpty = kvs.isEmpty := by cases r <;> rfl
    rw [← this] at hk
    exact .inr (.inr ⟨vs, hq, hk.symm⟩)
  have gen : ∀ {v d}, Den G w v d → (∀ ks, d ≠ .dF ks) → (match seqOf L d with
    | some (xs, _) => some (!xs.isEmpty)
    | none => (match dictOf L d with
      | some (.k kvs) => some (!kvs.isEmpty)
      | _ => none)) = some k → TruV G.K v H k := by
    intro v d h nf e
    split at e
    · rename_i xs s hs; cases e; exact sq h _ _ hs rfl
    · split at e
      · rename_i kvs hs; cases e; exact dk h nf _ hs rfl
      · cases e
  cases h with
  | non => cases e; exact rfl
  | bl b => cases e; exact rfl
  | int i => cases e; exact rfl
  | str s =>
    unfold truD at e
    dsimp only at e
    split at e
    · rename_i h; cases e; exact ⟨lineLe h, rfl⟩
    · cases e
  | tup hq r => exact gen (.tup hq r) (fun _ z => nomatch z) e
  | tg hq r => exact gen (.tg hq r) (fun _ z => nomatch z) e
  | lst hq r => exact gen (.lst hq r) (fun _ z => nomatch z) e
  | ro hq r => exact gen (.ro hq r) (fun _ z => nomatch z) e
  | dK hq r => exact gen (.dK hq r) (fun _ z => nomatch z) e
  | dT hq r => exact gen (.dT hq r) (fun _ z => nomatch z) e
  | ins hq m r => exact gen (.ins hq m r) (fun _ z => nomatch z) e
  | loc hn => exact gen (.loc hn) (fun _ z => nomatch z) e
  | fn hm r => cases e
  | ty n => cases e
  | sl h d m r => cases e
  | dF h r => cases e
def tTru (f : EF) : TF := fun ρ L => (f ρ L).bind fun d L1 => match truD L1 d with
  | some k => .ok k L1
  | none => .bad
theorem st_truth (he : SE S W e f) (ht : ∀ (env : Env) whole, isTrue e env whole = (do let v ← whole; standAt e.pos; holding [v] (truthy v)) := by intro _ _; rfl) : ST S W e (tTru f) := fun X h =>
  PT.imp (pt_truth (he X h) (ht X.env)) fun σ H Q ⟨w, ρ, L, R, e, p⟩ => ⟨w, ρ, L, R, e, (Post.bind (rel := Den S.g) p).imp (fun x H1 ⟨w1, d, L1, l1, R1, d1, p1⟩ => by
    split at p1
    · rename_i k hk
      exact ⟨k, by rw [← h.K]; exact tru_at R1 d1 hk, Post.ok p1 (.refl _) R1 rfl⟩
    · exact p1.elim) fun _ _ _ z => z⟩
def eTup (f : AF) : EF := fun ρ L => (f ρ L).bind newT
def eLst (box : Bool) (f : AF) : EF := fun ρ L => (f ρ L).bind fun ds L1 => if ds.length ≤ 16777216 then lstOut box ds L1 else .bad
theorem se_tup {k} (ha : SA S W es fl) : SE S W (.Tuple es k pos) (eTup fl) := fun X h =>
  PE.imp (pe_tup (ha X h)) fun σ H Q ⟨w, ρ, L, R, e, p⟩ => ⟨w, ρ, L, R, e, (Post.bind (rel := DenL S.g) p).imp (fun x H1 ⟨w1, d, L1, l1, R1, d1, p1⟩ =>
    ⟨newT_post p1 d1.length, fun q hq => newT_go p1 R1 d1 q hq⟩) fun _ _ _ z => z⟩
theorem lstOut_go {G : Gb} {w : Wd} {L : Sto} {H : Hp} {vs : List V} {xs : List D} {Q : VK} {E : XK} {box : Bool} (p : Post G (Den G) w (lstOut box xs L) Q E) (R : Rel G w L H) (d : DenL G w vs xs) (q : Addr) (hq : H q = none) : Q (.ref q) (upd H q (.lst vs)) := by
  unfold lstOut at p
  split at p
  · obtain ⟨R2, l2⟩ := R.newB (o := .lst vs) (c := .lst xs) hq (.lst (DenL.le (w := w) (w' := ⟨w.F, w.φ ++ [q], w.prv⟩) ⟨⟨fun _ _ _ r => r, fun n a e => (List.getElem?_append_left (getElem?_lt e)).trans e, fun _ _ r => r⟩, rfl⟩ d))
    refine p _ _ _ l2 R2 (.loc ?_)
    show (w.φ ++ [q])[L.length]? = some q
    rw [← R.len, List.getElem?_append_right (Nat.le_refl _)]
    simp
  · obtain ⟨R2, l2⟩ := R.newF (o := .lst vs) hq
    exact p _ _ _ l2 R2 (.lst upd_same (d.le l2))
theorem se_lst (box : Bool) (ha : SA S W es fl) : SE S W (.List es pos) (eLst box fl) := fun X h =>
  PE.imp (pe_lst (ha X h)) fun σ H Q ⟨w, ρ, L, R, e, p⟩ => ⟨w, ρ, L, R, e, (Post.bind (rel := DenL S.g) p).imp (fun x H1 ⟨w1, d, L1, l1, R1, d1, p1⟩ => by
    split at p1
    · rename_i hz
      exact ⟨by rw [d1.length]; exact lineLe hz, fun q hq => lstOut_go p1 R1 d1 q hq⟩
    · exact p1.elim) fun _ _ _ z => z⟩
end
section
variable {S : Sc} {W : WX} {a b e c o : Expr} {es : List Expr} {fa fb fc f fo : EF} {fl : AF} {pos p apos cpos : Pos}
theorem RnD.or {G : Gb} {r r' : List V → Hp → VK → Prop} {g : List D → Sto → Res D} (h : RnD G r g) : RnD G (fun xs H Q => r xs H Q ∨ r' xs H Q) g := fun w L H x d Q E R dx p => .inl (h w L H x d Q E R dx p)
theorem en_of {r : List V → Hp → VK → Prop} {g : List D → Sto → Res D} (hr : RnD S.g r g) {σ : St} {H : Hp} {Q : VK} (q : tR S.g (Den S.g) W (en g fl) σ H Q) : tCB r (tR S.g (DenL S.g) W fl) σ H Q := by
  obtain ⟨w, ρ, L, R, e, p⟩ := q
  exact ⟨w, ρ, L, R, e, (Post.bind (rel := DenL S.g) p).imp (fun x H1 ⟨w1, d, L1, l1, R1, d1, p1⟩ => hr w1 L1 H1 x d Q _ R1 d1 p1) fun _ _ _ z => z⟩
theorem se_callB {x : Str} {id : String} {r : List V → Hp → VK → Prop} {g : List D → Sto → Res D} (hc : ∀ X, S.Has W X → CallR X (.builtin id) r) (hr : RnD S.g r g) (hm : S.g.mg x = none) (hv : bootBuiltins x = some (.builtin id)) (ha : SA S W (e :: es) fl)
    (hg : Glb S x) (hn : x ≠ "__name__") (hdb : (x == ("__debug__" : Str)) = false) (he : ∀ env, starEach (e :: es) env = (false, eval e env) :: starEach es env) (hpl : ∀ env, (backTo pos (starEach es env)).any (·.1) = false) :
    SE S W (.Call (.Name x p) (e :: es) [] pos) (en g fl) := fun X h =>
  PE.imp (pe_callB (hc X h) (by show X.env.scope.names.lookup _ = _; rw [← h.sc]; exact hg) (by rw [← h.mg]; exact hm) hv (ha X h) hn hdb (he _) (hpl _)) fun σ H Q q => en_of hr q
theorem se_callT {x : Str} {T : String} {r : List V → Hp → VK → Prop} {g : List D → Sto → Res D} (hc : ∀ X, S.Has W X → CallR X (.type T) r) (hr : RnD S.g r g) (hm : S.g.mg x = none) (hv : bootBuiltins x = some (.type T)) (ha : SA S W (e :: es) fl)
    (hg : Glb S x) (hn : x ≠ "__name__") (hdb : (x == ("__debug__" : Str)) = false) (he : ∀ env, starEach (e :: es) env = (false, eval e env) :: starEach es env) (hpl : ∀ env, (backTo pos (starEach es env)).any (·.1) = false) :
    SE S W (.Call (.Name x p) (e :: es) [] pos) (en g fl) := fun X h =>
  PE.imp (pe_callTy (hc X h) (by show X.env.scope.names.lookup _ = _; rw [← h.sc]; exact hg) (by rw [← h.mg]; exact hm) hv (ha X h) hn hdb (he _) (hpl _)) fun σ H Q q => en_of hr q
def gLen (ds : List D) (L : Sto) : Res D := match ds with
  | [d] => (match d with
    | .str s => if s.length ≤ 16777216 then .ok (.int s.length) L else .bad
    | d => (match seqOf L d with
      | some (xs, _) => .ok (.int xs.length) L
      | none => (match dictOf L d with
        | some (.k kvs) => .ok (.int kvs.length) L
        | some (.t kvs) => .ok (.int kvs.length) L
        | none => .bad)))
  | _ => .bad
theorem call_lenR {X : Cx} : CallR X (.builtin "len") (fun xs H Q => ∃ a kvs, xs = [V.ref a] ∧ Rd H a (.dK kvs) ∧ Q (.int kvs.length) H) := fun pins s σ H xs us Q I r ⟨a, kvs, e, ha, q⟩ => by
  subst e
  obtain ⟨u, e2, ru⟩ := vals1 r
  subst e2
  cases ru
  exact d_len I ha fun t _ I' => ⟨.int kvs.length, H, I', ⟨t, rfl⟩, q⟩
def rLenU (K : PySem.W.Frag) : List V → Hp → VK → Prop := fun xs H Q => (∃ x n, xs = [x] ∧ LenV K x H n ∧ Q (.int n) H) ∨ (∃ a kvs, xs = [V.ref a] ∧ Rd H a (.dK kvs) ∧ Q (.int kvs.length) H) ∨ rLenT xs H Q
theorem len_seq {G : Gb} {w : Wd} {L : Sto} {H : Hp} {v : V} {d : D} {Q : VK} {E : XK} (R : Rel G w L H) (h : Den G w v d)
    (p : Post G (Den G) w (match seqOf L d with
      | some (xs, _) => .ok (.int xs.length) L
      | none => (match dictOf L d with
        | some (.k kvs) => .ok (.int kvs.length) L
        | some (.t kvs) => .ok (.int kvs.length) L
        | none => .bad)) Q E) : rLenU G.K [v] H Q := by
  split at p
  · rename_i xs s hs
    obtain ⟨k, a, vs, rfl, hq, r⟩ := seq_now R h hs
    refine .inl ⟨_, vs.length, rfl, ?_, by rw [r.length]; exact Post.ok p (.refl w) R (.int _)⟩
    cases k with
    | true => exact .inl ⟨vs, hq, rfl⟩
    | false => exact .inr ⟨vs, hq, rfl⟩
  · split at p
    · rename_i kvs hd
      obtain ⟨a, vs, rfl, _, hq, r⟩ := dk_at R h hd
      exact .inr (.inl ⟨a, vs, rfl, hq, by rw [r.length]; exact Post.ok p (.refl w) R (.int _)⟩)
    · rename_i kvs hd
      obtain ⟨a, vs, rfl, hq, r⟩ := dt_at R h hd
      exact .inr (.inr ⟨a, vs, rfl, hq, by rw [r.length]; exact Post.ok p (.refl w) R (.int _)⟩)
    · exact p.elim
theorem gLen_ok {G : Gb} : RnD G (rLenU G.K) gLen := by
  intro w L H x ds Q E R dx p
  unfold gLen at p
  split at p
  · rename_i d
    cases dx with
    | cons h t =>
      cases t
      split at p
      · cases h
        split at p
        · rename_i hz
          exact .inl ⟨_, _, rfl, ⟨lineLe hz, rfl⟩, Post.ok p (.refl w) R (.int _)⟩
        · exact p.elim
      · exact len_seq R h p
  · exact p.elim
theorem se_len (B : Bl S.g) (ha : SA S W (e :: es) fl) (hg : Glb S "len" := by rfl) (he : ∀ env, starEach (e :: es) env = (false, eval e env) :: starEach es env := by intro _; rfl) (hpl : ∀ env, (backTo pos (starEach es env)).any (·.1) = false := by intro _; rfl) :
    SE S W (.Call (.Name "len" p) (e :: es) [] pos) (en gLen fl) := fun X h =>
  se_callB (id := "len") (r := rLenU S.g.K) (fun X h => by rw [h.K]; exact call_len.or (call_lenR.or call_len_dT)) gLen_ok B.len (by decide +kernel) ha hg (by decide) (by decide) he hpl X h
def gMax (ds : List D) (L : Sto) : Res D := match ds with
  | [d] => (match sqlOf L d with
    | some xs => (match dInts xs with
      | some ns => (match ns.max? with
        | some m => .ok (.int m) L
        | none => .bad)
      | none => .bad)
    | none => .bad)
  | [.int i, .int j] => .ok (.int (if j > i then j else i)) L
  | _ => .bad
def gMin (ds : List D) (L : Sto) : Res D := match ds with
  | [d] => (match sqlOf L d with
    | some xs => (match dInts xs with
      | some ns => (match ns.min? with
        | some m => .ok (.int m) L
        | none => .bad)
      | none => .bad)
    | none => .bad)
  | [.int i, .int j] => .ok (.int (if j < i then j else i)) L
  | _ => .bad
def rMaxU (K : PySem.W.Frag) : List V → Hp → VK → Prop := fun xs H Q => rMax K xs H Q ∨ ∃ i j, xs = [.int i, .int j] ∧ Q (.int (if j > i then j else i)) H
def rMinU (K : PySem.W.Frag) : List V → Hp → VK → Prop := fun xs H Q => rMin K xs H Q ∨ ∃ i j, xs = [.int i, .int j] ∧ Q (.int (if j < i then j else i)) H
theorem gMax_ok {G : Gb} : RnD G (rMaxU G.K) gMax := by
  intro w L H x ds Q E R dx p
  unfold gMax at p
  split at p
  · cases dx with
    | cons h t =>
      cases t
      split at p
      · rename_i xs hx
        split at p
        · rename_i ns hn
          split at p
          · rename_i m hm
            obtain ⟨a, vs, rfl, hq, r⟩ := sql_at R h hx
            have := r.ints hn
            subst this
            have hm2 := List.max?_eq_some_iff.mp hm
            refine .inl ⟨a, ns, rfl, hq, List.length_pos_of_mem hm2.1, fun m' h1 h2 => ?_⟩
            have : m' = m := Int.le_antisymm (hm2.2 _ h1) (h2 _ hm2.1)
            subst this
            exact Post.ok p (.refl w) R (.int _)
          · exact p.elim
        · exact p.elim
      · exact p.elim
  · cases dx with
    | cons h t =>
      cases t with
      | cons h2 t =>
        cases t
        cases h
        cases h2
        exact .inr ⟨_, _, rfl, Post.ok p (.refl w) R (.int _)⟩
  · exact p.elim
theorem gMin_ok {G : Gb} : RnD G (rMinU G.K) gMin := by
  intro w L H x ds Q E R dx p
  unfold gMin at p
  split at p
  · cases dx with
    | cons h t =>
      cases t
      split at p
      · rename_i xs hx
        split at p
        · rename_i ns hn
          split at p
          · rename_i m hm
            obtain ⟨a, vs, rfl, hq, r⟩ := sql_at R h hx
            have := r.ints hn
            subst this
            have hm2 := List.min?_eq_some_iff.mp hm
            refine .inl ⟨a, ns, rfl, hq, List.length_pos_of_mem hm2.1, fun m' h1 h2 => ?_⟩
            have : m' = m := Int.le_antisymm (h2 _ hm2.1) (hm2.2 _ h1)
            subst this
            exact Post.ok p (.refl w) R (.int _)
          · exact p.elim
        · exact p.elim
      · exact p.elim
  · cases dx with
    | cons h t =>
      cases t with
      | cons h2 t =>
        cases t
        cases h
        cases h2
        exact .inr ⟨_, _, rfl, Post.ok p (.refl w) R (.int _)⟩
  · exact p.elim
theorem se_max (B : Bl S.g) (ha : SA S W (e :: es) fl) (hg : Glb S "max" := by rfl) (he : ∀ env, starEach (e :: es) env = (false, eval e env) :: starEach es env := by intro _; rfl) (hpl : ∀ env, (backTo pos (starEach es env)).any (·.1) = false := by intro _; rfl) :
    SE S W (.Call (.Name "max" p) (e :: es) [] pos) (en gMax fl) := fun X h =>
  se_callB (id := "max") (r := rMaxU S.g.K) (fun X h => by rw [h.K]; exact (cr_max h.calm).or (call_max2 h.calm)) gMax_ok B.max (by decide +kernel) ha hg (by decide) (by decide) he hpl X h
theorem se_min (B : Bl S.g) (ha : SA S W (e :: es) fl) (hg : Glb S "min" := by rfl) (he : ∀ env, starEach (e :: es) env = (false, eval e env) :: starEach es env := by intro _; rfl) (hpl : ∀ env, (backTo pos (starEach es env)).any (·.1) = false := by intro _; rfl) :
    SE S W (.Call (.Name "min" p) (e :: es) [] pos) (en gMin fl) := fun X h =>
  se_callB (id := "min") (r := rMinU S.g.K) (fun X h => by rw [h.K]; exact (cr_min h.calm).or (call_min2 h.calm)) gMin_ok B.min (by decide +kernel) ha hg (by decide) (by decide) he hpl X h
def gAll (ds : List D) (L : Sto) : Res D := match ds with
  | [d] => (match sqlOf L d with
    | some xs => (match dBls xs with
      | some ns => .ok (.bl (ns.all id)) L
      | none => .bad)
    | none => .bad)
  | _ => .bad
theorem gAll_ok {G : Gb} : RnD G (rAll G.K) gAll := by
  intro w L H x ds Q E R dx p
  unfold gAll at p
  split at p
  · cases dx with
    | cons h t =>
      cases t
      split at p
      · rename_i xs hx
        split at p
        · rename_i ns hn
          obtain ⟨a, vs, rfl, hq, r⟩ := sql_at R h hx
          have := r.bls hn
          subst this
          exact ⟨a, ns, rfl, hq, Post.ok p (.refl w) R (.bl _)⟩
        · exact p.elim
      · exact p.elim
  · exact p.elim
theorem se_all (B : Bl S.g) (ha : SA S W (e :: es) fl) (hg : Glb S "all" := by rfl) (he : ∀ env, starEach (e :: es) env = (false, eval e env) :: starEach es env := by intro _; rfl) (hpl : ∀ env, (backTo pos (starEach es env)).any (·.1) = false := by intro _; rfl) :
    SE S W (.Call (.Name "all" p) (e :: es) [] pos) (en gAll fl) := fun X h =>
  se_callB (id := "all") (r := rAll S.g.K) (fun X h => by rw [h.K]; exact cr_all h.calm) gAll_ok B.all (by decide +kernel) ha hg (by decide) (by decide) he hpl X h
def gAbs (ds : List D) (L : Sto) : Res D := match ds with
  | [.int i] => .ok (.int (if i < 0 then -i else i)) L
  | _ => .bad
theorem gAbs_ok {G : Gb} : RnD G (fun xs H Q => ∃ i, xs = [.int i] ∧ Q (.int (if i < 0 then -i else i)) H) gAbs := by
  intro w L H x ds Q E R dx p
  unfold gAbs at p
  split at p
  · cases dx with
    | cons h t => cases t; cases h; exact ⟨_, rfl, Post.ok p (.refl w) R (.int _)⟩
  · exact p.elim
theorem se_abs (B : Bl S.g) (ha : SA S W (e :: es) fl) (hg : Glb S "abs" := by rfl) (he : ∀ env, starEach (e :: es) env = (false, eval e env) :: starEach es env := by intro _; rfl) (hpl : ∀ env, (backTo pos (starEach es env)).any (·.1) = false := by intro _; rfl) :
    SE S W (.Call (.Name "abs" p) (e :: es) [] pos) (en gAbs fl) := se_callB (id := "abs") (fun X h => call_abs) gAbs_ok B.abs (by decide +kernel) ha hg (by decide) (by decide) he hpl
def gInt (ds : List D) (L : Sto) : Res D := match ds with
  | [.int i] => .ok (.int i) L
  | [.bl k] => .ok (.int (if k then 1 else 0)) L
  | _ => .bad
theorem gInt_ok {G : Gb} : RnD G (fun xs H Q => (∃ i, xs = [.int i] ∧ Q (.int i) H) ∨ ∃ k, xs = [.bl k] ∧ Q (.int (if k then 1 else 0)) H) gInt := by
  intro w L H x ds Q E R dx p
  unfold gInt at p
  split at p
  · cases dx with
    | cons h t => cases t; cases h; exact .inl ⟨_, rfl, Post.ok p (.refl w) R (.int _)⟩
  · cases dx with
    | cons h t => cases t; cases h; exact .inr ⟨_, rfl, Post.ok p (.refl w) R (.int _)⟩
  · exact p.elim
theorem se_int1 (B : Bl S.g) (ha : SA S W (e :: es) fl) (hg : Glb S "int" := by rfl) (he : ∀ env, starEach (e :: es) env = (false, eval e env) :: starEach es env := by intro _; rfl) (hpl : ∀ env, (backTo pos (starEach es env)).any (·.1) = false := by intro _; rfl) :
    SE S W (.Call (.Name "int" p) (e :: es) [] pos) (en gInt fl) := se_callT (T := "int") (fun X h => call_int1) gInt_ok B.int (by decide +kernel) ha hg (by decide) (by decide) he hpl
theorem call_tuple_g {X : Cx} : CallR X (.type "tuple") (fun xs H Q => ∃ p ys, xs = [.ref p] ∧ ((SqL X.K H p ys ∧ ∀ l (o : Obj), o.dict = none → H l = none → Q (.ref l) (upd H l (.frz o (.tup ys)))) ∨ (SqT X.K H p ys ∧ Q (.ref p) H))) := by
  intro pins s σ H xs us Q I r h
  obtain ⟨p, ys, rfl, h⟩ := h
  obtain ⟨u, rfl, rx⟩ := vals1 r
  cases rx
  rcases h with ⟨hq, q⟩ | ⟨hq, q⟩
  · obtain ⟨its, r', pl, hz⟩ := I.list hq
    have hlen := r'.length
    refine call_tuple_list pl.isList (fun h' kp => ?_) (by simp only [List.size_toArray] <;> omega)
    have I1 : Inv X pins σ H { s with heap := h' } := I.kept (t' := s.toks) kp
    have I2 : Inv X pins σ (upd H h'.objs.size (.frz { cls := .type "tuple", data := .seq its.toArray } (.tup ys))) { s with heap := h'.push { cls := .type "tuple", data := .seq its.toArray } } :=
      I1.laid (t' := s.toks) (fun b o e => Heap.get?_push_of_some _ e) (Nat.le_refl _) (show ObjOk X.prog X.w _ _ _ (.frz _ (.tup ys)) from ⟨Heap.get?_push_size _ rfl, hz, its, r', IsTup.new _ _⟩)
    exact ⟨.ref h'.objs.size, _, I2, rfl, q _ _ rfl (I1.hok.fresh (Nat.le_refl _))⟩
  · obtain ⟨its, r', pl, hz⟩ := I.tuple hq
    exact call_tuple_same pl ⟨.ref p, H, I, rfl, q⟩
def newTG (xs : List D) (L : Sto) : Res D := if xs.length ≤ 16777216 then .ok (.tg xs) L else .bad
theorem newTG_post {G : Gb} {w : Wd} {L : Sto} {vs : List V} {xs : List D} {Q : VK} {E : XK} (p : Post G (Den G) w (newTG xs L) Q E) : vs.length = xs.length → vs.length ≤ sizeLine := by
  unfold newTG at p
  split at p
  · rename_i h; intro e; rw [e]; exact lineLe h
  · exact p.elim
theorem newTG_go {G : Gb} {w : Wd} {L : Sto} {H : Hp} {vs : List V} {xs : List D} {Q : VK} {E : XK} (p : Post G (Den G) w (newTG xs L) Q E) (R : Rel G w L H) (d : DenL G w vs xs) (q : Addr) (o : Obj) (ho : o.dict = none) (hq : H q = none) : Q (.ref q) (upd H q (.frz o (.tup vs))) := by
  unfold newTG at p
  split at p
  · obtain ⟨R2, l2⟩ := R.newF (o := .frz o (.tup vs)) hq
    exact p _ _ _ l2 R2 (.tg (.inl ⟨o, upd_same, ho⟩) (d.le l2))
  · exact p.elim
def gTuple (ds : List D) (L : Sto) : Res D := match ds with
  | [.tup xs] => .ok (.tup xs) L
  | [.tg xs] => .ok (.tg xs) L
  | [d] => (match sqlOf L d with
    | some xs => newTG xs L
    | none => .bad)
  | _ => .bad
def rTupleU (K : PySem.W.Frag) : List V → Hp → VK → Prop := fun xs H Q => ∃ p ys, xs = [.ref p] ∧ ((SqL K H p ys ∧ ∀ l (o : Obj), o.dict = none → H l = none → Q (.ref l) (upd H l (.frz o (.tup ys)))) ∨ (SqT K H p ys ∧ Q (.ref p) H))
theorem gTuple_ok {G : Gb} : RnD G (rTupleU G.K) gTuple := by
  intro w L H x ds Q E R dx p
  unfold gTuple at p
  split at p
  · cases dx with
    | cons h t =>
      cases t
      cases h with
      | tup hq r => exact ⟨_, _, rfl, .inr ⟨R.sqT hq, Post.ok p (.refl w) R (.tup hq r)⟩⟩
  · cases dx with
    | cons h t =>
      cases t
      cases h with
      | tg hq r => exact ⟨_, _, rfl, .inr ⟨R.sqT hq.t, Post.ok p (.refl w) R (.tg hq r)⟩⟩
  · cases dx with
    | cons h t =>
      cases t
      split at p
      · rename_i xs hx
        obtain ⟨a, vs, rfl, hq, r⟩ := sql_at R h hx
        exact ⟨a, vs, rfl, .inl ⟨hq, fun q o ho hq => newTG_go p R r q o ho hq⟩⟩
      · exact p.elim
  · exact p.elim
theorem se_tuple (B : Bl S.g) (ha : SA S W (e :: es) fl) (hg : Glb S "tuple" := by rfl) (he : ∀ env, starEach (e :: es) env = (false, eval e env) :: starEach es env := by intro _; rfl) (hpl : ∀ env, (backTo pos (starEach es env)).any (·.1) = false := by intro _; rfl) :
    SE S W (.Call (.Name "tuple" p) (e :: es) [] pos) (en gTuple fl) := fun X h =>
  se_callT (T := "tuple") (r := rTupleU S.g.K) (fun X h => by rw [h.K]; exact call_tuple_g) gTuple_ok B.tuple (by decide +kernel) ha hg (by decide) (by decide) he hpl X h
theorem pe_tupG {X : Cx} {x1} {t : TA} (h : PA X es t) : PE X (.Tuple es x1 pos) (fun σ H Q => t σ H fun xs H1 => xs.length ≤ sizeLine ∧ ∀ p (o : Obj), o.dict = none → H1 p = none → Q (.ref p) (upd H1 p (.frz o (.tup xs)))) := by
  refine ⟨fun pins s σ H Q I hq => ?_⟩
  refine wpAny_Tuple_spliced (thn (h.run pos pins s σ H _ I hq) fun us s1 ⟨xs, H1, I1, r, z, q⟩ => ⟨by rw [← r.length]; exact z, ?_⟩)
  have hf : H1 s1.heap.objs.size = none := I1.hok.fresh (Nat.le_refl _)
  refine ⟨.ref s1.heap.objs.size, upd H1 s1.heap.objs.size (.frz { cls := .type "tuple", data := .seq us.toArray } (.tup xs)), I1.laid (t' := s1.toks) (fun b u e => Heap.get?_push_of_some _ e) (Nat.le_refl _) ?_, rfl, q _ _ rfl hf⟩
  exact ⟨Heap.get?_push_size _ rfl, z, us, r, ⟨_, Heap.get?_push_size _ rfl, rfl, _, rfl⟩⟩
def eTupG (f : AF) : EF := fun ρ L => (f ρ L).bind newTG
theorem se_tupG {k} (ha : SA S W es fl) : SE S W (.Tuple es k pos) (eTupG fl) := fun X h =>
  PE.imp (pe_tupG (ha X h)) fun σ H Q ⟨w, ρ, L, R, e, p⟩ => ⟨w, ρ, L, R, e, (Post.bind (rel := DenL S.g) p).imp (fun x H1 ⟨w1, d, L1, l1, R1, d1, p1⟩ =>
    ⟨newTG_post p1 d1.length, fun q o ho hq => newTG_go p1 R1 d1 q o ho hq⟩) fun _ _ _ z => z⟩
def gList (box : Bool) (ds : List D) (L : Sto) : Res D := match ds with
  | [d] => (match seqOf L d with
    | some (xs, _) => lstOut box xs L
    | none => (match dictOf L d with
      | some (.k kvs) => lstOut box (kvs.map fun kv => dOfKey kv.1) L
      | _ => .bad))
  | _ => .bad
def rListR : List V → Hp → VK → Prop := fun xs H Q => ∃ p kvs, xs = [.ref p] ∧ Rd H p (.dK kvs) ∧ ∀ q, H q = none → Q (.ref q) (upd H q (.lst (kvs.map fun kv => kV kv.1)))
theorem call_listR {X : Cx} (hc : X.calm = true) : CallR X (.type "list") rListR := fun pins s σ H xs us Q I r ⟨p, kvs, e, hk, q⟩ => by
  rw [e] at r
  obtain ⟨u, e2, rx⟩ := vals1 r
  have e3 : u = Value.ref p := rx
  rw [e2, e3]
  obtain ⟨sz, nm, ys, kv, hd⟩ := dk_rd I.hok hk
  obtain ⟨ep, hat⟩ := hd.dictAt
  have ln : kvs.length = ys.length := kv.length
  rw [ln] at sz
  refine PySem.W.kdl_call (PySem.W.kdl_dict (knd := mixKind X.prog X.w) (kvs := ys) (ep := ep) nm) (I.ok.hd hc) hat sz fun h2 tk acc cap keep fin got => ?_
  have zz : acc.toList.length = acc.size := Array.length_toList
  have len2 : (kvs.map fun kv => kV kv.1).length ≤ sizeLine := by rw [List.length_map, ln]; exact sz
  have vv : Vals (kvs.map fun kv => kV kv.1) acc.toList := by
    refine vals_of_at (by rw [List.length_map, zz, got.1, ln]) fun j x w a1 a2 => ?_
    obtain ⟨k, y, b1, b2⟩ := got.2 j w (by rw [← Array.getElem?_toList]; exact a2)
    rw [List.getElem?_map] at a1
    obtain ⟨z, c1, c2⟩ := Option.map_eq_some_iff.mp a1
    have ky : (kvs.map Prod.fst)[j]? = some k := by
      have := KV.keys kv
      rw [this, List.getElem?_map, b1] <;> rfl
    rw [List.getElem?_map, c1] at ky
    cases ky
    rw [← c2]
    exact keyIs_rel b2
  refine ⟨.ref s.heap.objs.size, upd H s.heap.objs.size (.lst (kvs.map fun kv => kV kv.1)), I.laid keep (Nat.le_refl _) (show ObjOk X.prog X.w _ _ _ (.lst (kvs.map fun kv => kV kv.1)) from ⟨len2, acc.toList, cap, vv, ?_⟩), rfl, q _ (I.hok.fresh (Nat.le_refl _))⟩
  rw [Array.toArray_toList]; exact fin
def rListU (K : PySem.W.Frag) : List V → Hp → VK → Prop := fun xs H Q => (∃ p ys, xs = [.ref p] ∧ (SqL K H p ys ∨ SqT K H p ys) ∧ ∀ l, H l = none → Q (.ref l) (upd H l (.lst ys))) ∨ rListR xs H Q
theorem gList_ok {G : Gb} (box : Bool) : RnD G (rListU G.K) (gList box) := by
  intro w L H x ds Q E R dx p
  unfold gList at p
  split at p
  · cases dx with
    | cons h t =>
      cases t
      split at p
      · rename_i xs s hs
        obtain ⟨k, a, vs, rfl, hq, r⟩ := seq_now R h hs
        refine .inl ⟨a, vs, rfl, ?_, fun q hq => lstOut_go p R r q hq⟩
        cases k with
        | true => exact .inl hq
        | false => exact .inr hq
      · split at p
        · rename_i kvs hd
          obtain ⟨a, vs, rfl, _, hq, r⟩ := dk_at R h hd
          exact .inr ⟨a, vs, rfl, hq, fun q hq => lstOut_go p R r.keysD q hq⟩
        · exact p.elim
  · exact p.elim
theorem se_list (box : Bool) (B : Bl S.g) (ha : SA S W (e :: es) fl) (hg : Glb S "list" := by rfl) (he : ∀ env, starEach (e :: es) env = (false, eval e env) :: starEach es env := by intro _; rfl) (hpl : ∀ env, (backTo pos (starEach es env)).any (·.1) = false := by intro _; rfl) :
    SE S W (.Call (.Name "list" p) (e :: es) [] pos) (en (gList box) fl) := fun X h =>
  se_callT (T := "list") (r := rListU S.g.K) (fun X h => by rw [h.K]; exact call_list_of.or (call_listR h.calm)) (gList_ok box) B.list (by decide +kernel) ha hg (by decide) (by decide) he hpl X h
def rgOk (i j : Int) : Bool := small62 i && small62 j && decide ((j - i).toNat ≤ 16777216)
theorem rgOk_ok {i j : Int} (h : rgOk i j = true) : RgOk i j := by
  unfold rgOk at h
  obtain ⟨h1, h2⟩ := and2 h
  obtain ⟨h3, h4⟩ := and2 h1
  obtain ⟨a, b⟩ := small62_ok h3
  obtain ⟨c, d⟩ := small62_ok h4
  exact ⟨a, b, c, d, of_decide_eq_true h2⟩
theorem den_rg {G : Gb} {w : Wd} {i j : Int} : DenL G w (rgV i j) (rangeD i (j - i).toNat) := by
  unfold rgV rangeD
  have : ∀ l : List Nat, DenL G w (l.map fun k => V.int (i + (k : Nat))) (l.map fun (k : Nat) => D.int (i + (k : Int))) := fun l => by
    induction l with
    | nil => exact .nil
    | cons a t ih => exact .cons (.int _) ih
  exact this _
def eRange1 (f : EF) (k : List D → Sto → Res D) : EF := fun ρ L => (f ρ L).bind fun d L1 => match d with
  | .int j => if rgOk 0 j = true then k (rangeD 0 (j - 0).toNat) L1 else .bad
  | _ => .bad
theorem se_listRg1 {p1 p2 : Pos} (box : Bool) (B : Bl S.g) (ha : SE S W a fa) (hg : Glb S "list" := by rfl) (hg2 : Glb S "range" := by rfl) (na : ∀ env, starEach [a] env = (false, eval a env) :: starEach [] env := by intro _; rfl)
    (na2 : ∀ env, starEach [.Call (.Name "range" p1) [a] [] p2] env = (false, eval (.Call (.Name "range" p1) [a] [] p2) env) :: starEach [] env := by intro _; rfl) :
    SE S W (.Call (.Name "list" p) [.Call (.Name "range" p1) [a] [] p2] [] pos) (eRange1 fa (lstOut box)) := fun X h =>
  PE.imp (pe_listRg h.calm (by show X.env.scope.names.lookup _ = _; rw [← h.sc]; exact hg) (by rw [← h.mg]; exact B.list) (prg_1 (by show X.env.scope.names.lookup _ = _; rw [← h.sc]; exact hg2) (by rw [← h.mg]; exact B.range) (ha X h) (na _)) (na2 _)) fun σ H Q ⟨w, ρ, L, R, e, p⟩ =>
    ⟨w, ρ, L, R, e, (Post.bind (rel := Den S.g) p).imp (fun x H1 ⟨w1, d, L1, l1, R1, d1, p1⟩ => by
      split at p1
      · split at p1
        · rename_i hk
          cases d1
          exact ⟨_, rfl, rgOk_ok hk, fun q hq => lstOut_go p1 R1 den_rg q hq⟩
        · exact p1.elim
      · exact p1.elim) fun _ _ _ z => z⟩
def srtI (ns : List Int) : List Int := ns.mergeSort (fun a b => decide (a ≤ b))
theorem sorted_unique : ∀ {as bs : List Int}, as.Perm bs → as.Pairwise (· ≤ ·) → bs.Pairwise (· ≤ ·) → as = bs
  | [], bs, h, _, _ => by rw [List.nil_perm.mp h]
  | a :: as, bs, h, h1, h2 => by
    cases bs with
    | nil => exact absurd h.length_eq (by simp)
    | cons b bs =>
      rw [List.pairwise_cons] at h1 h2
      have ha : a ∈ b :: bs := h.subset (List.mem_cons_self)
      have hb : b ∈ a :: as := h.symm.subset (List.mem_cons_self)
      have e : a = b := by
        rcases List.mem_cons.mp ha with x | x
        · exact x
        · rcases List.mem_cons.mp hb with y | y
          · exact y.symm
          · exact Int.le_antisymm (h1.1 _ y) (h2.1 _ x)
      subst e
      rw [sorted_unique (List.Perm.cons_inv h) h1.2 h2.2]
theorem srtI_sorted (ns : List Int) : (srtI ns).Pairwise (· ≤ ·) := by
  have := List.pairwise_mergeSort (le := fun a b : Int => decide (a ≤ b)) (by intro a b c h1 h2; simp at *; omega) (by intro a b; simp; omega) ns
  exact this.imp fun h => by simpa using h
theorem srtI_perm (ns : List Int) : (srtI ns).Perm ns := List.mergeSort_perm ns _
theorem srtI_unique {ns ms : List Int} (h : ms.Perm ns) (h1 : ms.Pairwise (· ≤ ·)) : ms = srtI ns := sorted_unique (h.trans (srtI_perm ns).symm) h1 (srtI_sorted ns)
inductive Ty where
  | non | bl | int | str | tup | lst | dict
  deriving DecidableEq
def Ty.name : Ty → String
  | .non => "NoneType" | .bl => "bool" | .int => "int" | .str => "str" | .tup => "tuple" | .lst => "list" | .dict => "dict"
inductive Tc where
  | int | bl | str | tup | lst | dict
def Tc.name : Tc → String
  | .int => "int" | .bl => "bool" | .str => "str" | .tup => "tuple" | .lst => "list" | .dict => "dict"
def Tc.ty : Tc → Ty
  | .int => .int | .bl => .bl | .str => .str | .tup => .tup | .lst => .lst | .dict => .dict
def isiB (t : Ty) (c : Tc) : Bool := decide (t = c.ty) || (match t, c with
  | .bl, .int => true
  | _, _ => false)
theorem isiB_ok (t : Ty) (c : Tc) : kitB t.name c.name = some (isiB t c) := by
  cases t <;> cases c <;> decide +kernel
def tyOfL (L : Sto) (d : D) : Option Ty := match d with
  | .non => some .non
  | .bl _ => some .bl
  | .int _ => some .int
  | .str _ => some .str
  | .tup _ => some .tup
  | .tg _ => some .tup
  | .lst _ => some .lst
  | .dK _ => some .dict
  | .dT _ => some .dict
  | .dF _ => some .dict
  | .loc n => (match L[n]? with
    | some (.lst _) => some .lst
    | some (.dK _) => some .dict
    | some (.dT _) => some .dict
    | _ => none)
  | _ => none
theorem sqT_ty {K : PySem.W.Frag} {H : Hp} {a : Addr} {vs : List V} (h : SqT K H a vs) : TyX K H (.ref a) (.type "tuple") := by
  rcases h with (h | ⟨o, h⟩) | ⟨o, _, _, h, h2⟩
  · exact .base (.tup h)
  · exact .fTuple h
  · exact .kTuple h h2.1
theorem ty_at {G : Gb} {w : Wd} {L : Sto} {H : Hp} {v : V} {d : D} {t : Ty} (R : Rel G w L H) (h : Den G w v d) (e : tyOfL L d = some t) : TyX G.K H v (.type t.name) := by
  cases h with
  | non => cases e; exact .base .non
  | bl b => cases e; exact .base (.bl b)
  | int b => cases e; exact .base (.int b)
  | str b => cases e; exact .base (.str b)
  | tup hq r => cases e; exact sqT_ty (R.sqT hq)
  | tg hq r => cases e; exact sqT_ty (R.sqT hq.t)
  | lst hq r => cases e; exact .base (.lst (R.sub _ _ hq))
  | dK hq r => cases e; exact .base (.dK (R.sub _ _ hq))
  | dT hq r => cases e; exact .base (.dT (R.sub _ _ hq))
  | dF hq r => cases e; exact .fDict (R.sub _ _ hq)
  | loc hn =>
    dsimp only [tyOfL] at e
    split at e <;> first
      | (rename_i ys hy
         obtain ⟨o, h1, h2⟩ := R.box _ _ _ hn hy
         cases h2
         cases e
         first | exact .base (.lst h1) | exact .base (.dK h1) | exact .base (.dT h1))
      | cases e
  | _ => cases e
def gIx (d e : D) (L : Sto) : Res D := match e with
  | .int i => (match seqOf L d with
    | some (xs, _) => (match atI xs i with
      | some y => .ok y L
      | none => .bad)
    | none => (match d with
      | .str z => if z.length ≤ 16777216 then (match atI z.cps.toList i with
        | some c => .ok (.str ⟨#[c]⟩) L
        | none => .bad) else .bad
      | _ => (match gLook L d e with
        | some (some y) => .ok y L
        | _ => .bad)))
  | .str _ => (match gLook L d e with
    | some (some y) => .ok y L
    | _ => .bad)
  | _ => .bad
theorem DenL.atI {G : Gb} {w : Wd} {vs : List V} {ds : List D} {i : Int} {d : D} (r : DenL G w vs ds) (h : L2.atI ds i = some d) : ∃ v, L2.atI vs i = some v ∧ Den G w v d := by
  unfold L2.atI at h ⊢
  rw [← r.length] at h
  obtain ⟨j, h1, h2⟩ := Option.bind_eq_some_iff.mp h
  obtain ⟨v, h3, h4⟩ := r.get h2
  exact ⟨v, by rw [h1]; exact h3, h4⟩
def rIxU (K : PySem.W.Frag) : R2 := fun x y H Q => rIxL K x y H Q ∨ rIxT K x y H Q ∨ rIxS x y H Q
theorem pe_ixU {X : Cx} {a b : Expr} {pos : Pos} (hu : X.A.units + 1 < cLine) {t u : TE} (ha : PE X a t) (hb : PE X b u) (hs : PlainIx b) : PE X (.Subscript a b pos) (fun σ H Q => tOp (rIxU X.K) t u σ H Q ∨ tDGet t u σ H Q) :=
  PE.or (pe_ix (ix_list.or (ix_tup.or ix_str)) ha hb hs) (pe_dget hu ha hb hs)
theorem ix_dec {G : Gb} {w : Wd} {L : Sto} {H : Hp} {d e : D} {y : D} {L' : Sto} (p : gIx d e L = .ok y L') : L' = L ∧ ((∃ o, gLook L d e = some (some y) ∧ seqOf L d = none ∧ o = y) ∨
    (∃ i, e = .int i ∧ ((∃ xs s, seqOf L d = some (xs, s) ∧ L2.atI xs i = some y) ∨ ∃ z c, d = .str z ∧ z.length ≤ 16777216 ∧ L2.atI z.cps.toList i = some c ∧ y = .str ⟨#[c]⟩))) := by
  unfold gIx at p
  split at p
  · split at p
    · rename_i xs s hs
      split at p
      · rename_i yy hy
        cases p
        exact ⟨rfl, .inr ⟨_, rfl, .inl ⟨xs, s, hs, hy⟩⟩⟩
      · cases p
    · split at p
      · split at p
        · rename_i hz
          split at p
          · rename_i c hc
            cases p
            exact ⟨rfl, .inr ⟨_, rfl, .inr ⟨_, c, rfl, hz, hc, rfl⟩⟩⟩
          · cases p
        · cases p
      · split at p
        · rename_i hl
          cases p
          exact ⟨rfl, .inl ⟨_, hl, by assumption, rfl⟩⟩
        · cases p
  · split at p
    · rename_i hl
      cases p
      refine ⟨rfl, .inl ⟨_, hl, ?_, rfl⟩⟩
      unfold gLook at hl
      cases d <;> first | rfl | (dsimp only [dictOf] at hl; cases hl) | skip
      rename_i n
      dsimp only [dictOf] at hl
      dsimp only [seqOf]
      split at hl <;> first | cases hl | skip
      all_goals (rename_i hh; split at hh <;> first | cases hh | skip)
      all_goals (rename_i hq; rw [hq])
    · cases p
  · cases p
theorem se_ix (ha : SE S W a fa) (hb : SE S W b fb) (hs : PlainIx b := by intro _ _; rfl) : SE S W (.Subscript a b pos) (e2 gIx fa fb) := fun X h =>
  PE.imp (pe_ixU (by have := h.units; omega) (ha X h) (hb X h) hs) fun σ H Q ⟨w, ρ, L, R, e, p⟩ => by
    unfold e2 at p
    cases q1 : fa ρ L with
    | bad => rw [q1] at p; exact p.elim
    | err c x L1 => rw [q1] at p; exact .inl ⟨w, ρ, L, R, e, by rw [q1]; exact p⟩
    | ok d L1 =>
      rw [q1, Res.bind_ok] at p
      cases q2 : fb ρ L1 with
      | bad => rw [q2] at p; exact p.elim
      | err c x L2 => rw [q2] at p; exact .inl ⟨w, ρ, L, R, e, by rw [q1]; exact fun w1 H1 v l1 R1 d1 => ⟨w1, ρ, L1, R1, e.le l1, by rw [q2]; exact Post.le (r := .err c x L2) l1 p⟩⟩
      | ok k L2 =>
        rw [q2, Res.bind_ok] at p
        cases q3 : gIx d k L2 with
        | bad => rw [q3] at p; exact p.elim
        | err c x L3 =>
          exfalso
          unfold gIx at q3
          split at q3 <;> (try split at q3) <;> (try split at q3) <;> (try split at q3) <;> (try split at q3) <;> cases q3
        | ok y L3 =>
          rw [q3] at p
          obtain ⟨eL, hd⟩ := ix_dec (H := H) (G := S.g) (w := w) q3
          subst eL
          rcases hd with ⟨o, hl, hs, rfl⟩ | ⟨i, rfl, hh⟩
          · refine .inr ⟨w, ρ, L, R, e, by rw [q1]; exact fun w1 H1 v l1 R1 d1 => ⟨w1, ρ, L1, R1, e.le l1, by
              rw [q2]
              intro w2 H2 u l2 R2 d2
              have hk : ∀ b us, u = .ref b → SqT S.g.K w2.F b us → H2 b = some (.tup us) := by
                intro b us e1 _
                subst e1
                unfold gIx at q3
                split at q3
                · cases d2
                · cases d2
                · cases q3
              obtain ⟨a, ov, ea, g, od⟩ := look_at R2 (d1.le l2) d2 hl hk
              cases od with
              | some hv => exact ⟨a, _, ea, g, p w2 H2 _ (l1.trans l2) R2 hv⟩⟩⟩
          · refine .inl ⟨w, ρ, L, R, e, by rw [q1]; exact fun w1 H1 v l1 R1 d1 => ⟨w1, ρ, L1, R1, e.le l1, by
              rw [q2]
              intro w2 H2 u l2 R2 d2
              cases d2
              rw [← h.K]
              rcases hh with ⟨xs, s, hs, hy⟩ | ⟨z, c, rfl, hz, hc, rfl⟩
              · obtain ⟨kk, a, vs, rfl, hq, r⟩ := seq_now R2 (d1.le l2) hs
                obtain ⟨v', hv, dv⟩ := r.atI hy
                cases kk with
                | true => exact .inl ⟨a, vs, i, v', rfl, rfl, hq, hv, p w2 H2 _ (l1.trans l2) R2 dv⟩
                | false => exact .inr (.inl ⟨a, vs, i, v', rfl, rfl, hq, hv, p w2 H2 _ (l1.trans l2) R2 dv⟩)
              · cases d1
                exact .inr (.inr ⟨z, i, c, rfl, rfl, lineLe hz, hc, p w2 H2 _ (l1.trans l2) R2 (.str _)⟩)⟩⟩
def cutD (xs : List D) (lo hi : Option Int) : List D := (xs.drop (HT.sIx xs.length 0 lo)).take (HT.sIx xs.length xs.length hi - HT.sIx xs.length 0 lo)
theorem DenL.cut' {G : Gb} {w : Wd} {vs : List V} {ds : List D} (r : DenL G w vs ds) (lo hi : Option Int) : DenL G w (cutV vs lo hi) (cutD ds lo hi) := by
  unfold cutV cutD
  rw [r.length]
  exact (r.drop _).take _
abbrev OF := Env' → Sto → Res (Option Int)
def oNone : OF := fun _ L => .ok none L
def oSome (f : EF) : OF := fun ρ L => (f ρ L).bind fun d L1 => match d with
  | .int i => .ok (some i) L1
  | _ => .bad
def SO (S : Sc) (W : WX) (e : Option Expr) (f : OF) : Prop := ∀ X, S.Has W X → PO X e (tR S.g eqR W f)
theorem PO.imp {X : Cx} {e : Option Expr} {t u : TO} (h : PO X e t) (k : ∀ σ H Q, u σ H Q → t σ H Q) : PO X e u := ⟨fun pins s σ H Q I q => h.run pins s σ H Q I (k σ H Q q)⟩
theorem so_none : SO S W none oNone := fun X h => PO.imp po_none fun σ H Q ⟨w, ρ, L, R, e, p⟩ => Post.ok p (.refl w) R rfl
theorem so_some (ha : SE S W a fa) : SO S W (some a) (oSome fa) := fun X h => PO.imp (po_some (ha X h)) fun σ H Q ⟨w, ρ, L, R, e, p⟩ =>
  ⟨w, ρ, L, R, e, (Post.bind (rel := Den S.g) p).imp (fun v H1 ⟨w1, d, L1, l1, R1, d1, p1⟩ => by
    split at p1
    · cases d1; exact ⟨_, rfl, Post.ok p1 (.refl _) R1 rfl⟩
    · exact p1.elim) fun _ _ _ z => z⟩
def gSl0 (d : D) (lo hi : Option Int) (L : Sto) : Res D := match d with
  | .tup xs => .ok (.tup (cutD xs lo hi)) L
  | d => (match sqlOf L d with
    | some xs => .ok (.lst (cutD xs lo hi)) L
    | none => .bad)
def gSl (d : D) (l h : Option Int) (L : Sto) : Res D := gSl0 (lo d) l h L
def eSl (f : EF) (lo hi : OF) : EF := fun ρ L => (f ρ L).bind fun d L1 => (lo ρ L1).bind fun l L2 => (hi ρ L2).bind fun u L3 => gSl d l u L3
def rSlU (K : PySem.W.Frag) : V → Option Int → Option Int → Hp → VK → Prop := fun x lo hi H Q => rSlL K x lo hi H Q ∨ rSlA K x lo hi H Q
theorem gSl0_ok {G : Gb} {w : Wd} {L : Sto} {H : Hp} {x : V} {d : D} {lo hi : Option Int} {Q : VK} {E : XK} (R : Rel G w L H) (dx : Den G w x d) (p : Post G (Den G) w (gSl0 d lo hi L) Q E) : rSlU G.K x lo hi H Q := by
  unfold gSl0 at p
  split at p
  · rename_i xs
    cases dx with
    | @tup a vs _ hq r =>
      refine .inr ⟨a, vs, rfl, R.sqT hq, fun hw => ?_, fun hw q hq => ?_⟩
      · have hz : cutD xs lo hi = xs := by
          unfold cutD
          rw [← r.length, hw.1, hw.2, List.drop_zero, Nat.sub_zero, r.length]
          exact List.take_length
        rw [hz] at p
        exact Post.ok p (.refl w) R (.tup hq r)
      · obtain ⟨R2, l2⟩ := R.newF (o := .tup (cutV vs lo hi)) hq
        exact p _ _ _ l2 R2 (.tup (.inl (.inl upd_same)) ((r.cut' lo hi).le l2))
  · split at p
    · rename_i xs hx
      obtain ⟨a, vs, rfl, hq, r⟩ := sql_at R dx hx
      refine .inl ⟨a, vs, rfl, hq, fun q hq => ?_⟩
      obtain ⟨R2, l2⟩ := R.newF (o := .lst (cutV vs lo hi)) hq
      exact p _ _ _ l2 R2 (.lst upd_same ((r.cut' lo hi).le l2))
    · exact p.elim
theorem se_sl {lo hi : Option Expr} {fl fh : OF} {p2 : Pos} (ha : SE S W a fa) (hl : SO S W lo fl) (hh : SO S W hi fh) : SE S W (.Subscript a (.Slice lo hi none p2) pos) (eSl fa fl fh) := fun X h =>
  PE.imp (pe_slice (sl_list.or sl_tupA) (ha X h) (hl X h) (hh X h)) fun σ H Q ⟨w, ρ, L, R, e, p⟩ =>
    ⟨w, ρ, L, R, e, (Post.bind (rel := Den S.g) p).imp (fun v H1 ⟨w1, d, L1, l1, R1, d1, p1⟩ =>
      ⟨w1, ρ, L1, R1, e.le l1, (Post.bind (rel := eqR) p1).imp (fun l H2 ⟨w2, l', L2, l2, R2, d2, p2⟩ => by
        cases d2
        exact ⟨w2, ρ, L2, R2, (e.le l1).le l2, (Post.bind (rel := eqR) p2).imp (fun u H3 ⟨w3, u', L3, l3, R3, d3, p3⟩ => by
          cases d3
          rw [← h.K]
          exact gSl0_ok R3 (d1.le (l2.trans l3)).lo p3) fun _ _ _ z => z⟩) fun _ _ _ z => z⟩) fun _ _ _ z => z⟩
def eRev (f : EF) : EF := fun ρ L => (f ρ L).bind fun d L1 => match sqlOf L1 d with
  | some xs => .ok (.lst xs.reverse) L1
  | none => .bad
end
section
variable {S : Sc} {W : WX} {a b e c o : Expr} {es : List Expr} {fa fb fc f fo : EF} {fl : AF} {pos p apos cpos : Pos}
open Classical in
theorem tR_split {k : Env' → D → Sto → Res D} (P : D → Sto → Prop) {σ : St} {H : Hp} {Q : VK} (q : tR S.g (Den S.g) W (fun ρ L => (f ρ L).bind (k ρ)) σ H Q) :
    tR S.g (Den S.g) W (fun ρ L => (f ρ L).bind fun d L1 => if P d L1 then k ρ d L1 else .bad) σ H Q ∨ tR S.g (Den S.g) W (fun ρ L => (f ρ L).bind fun d L1 => if P d L1 then .bad else k ρ d L1) σ H Q := by
  obtain ⟨w, ρ, L, R, e, p⟩ := q
  cases q1 : f ρ L with
  | bad => dsimp only at p; rw [q1] at p; exact p.elim
  | err c x L1 => refine .inl ⟨w, ρ, L, R, e, ?_⟩; dsimp only at p ⊢; rw [q1] at p ⊢; exact p
  | ok d L1 =>
    by_cases h : P d L1
    · refine .inl ⟨w, ρ, L, R, e, ?_⟩
      dsimp only at p ⊢
      rw [q1] at p ⊢
      simp only [Res.bind_ok, h, if_true] at p ⊢
      exact p
    · refine .inr ⟨w, ρ, L, R, e, ?_⟩
      dsimp only at p ⊢
      rw [q1] at p ⊢
      simp only [Res.bind_ok, h, if_false] at p ⊢
      exact p
def isL (L : Sto) (d : D) : Bool := (sqlOf L d).isSome
def eBm (f : EF) (fl : AF) (g : D → List D → Sto → Res D) : EF := fun ρ L => (f ρ L).bind fun d L1 => if isL L1 d = true then (fl ρ L1).bind fun ds L2 => g d ds L2 else .bad
def RmD (G : Gb) (r : V → List V → Hp → VK → Prop) (g : D → List D → Sto → Res D) : Prop := ∀ (w : Wd) (L : Sto) (H : Hp) (x : V) (xs : List V) (d : D) (ds : List D) (Q : VK) (E : XK), Rel G w L H → Den G w x d → DenL G w xs ds → Post G (Den G) w (g d ds L) Q E → r x xs H Q
theorem isL_ty {G : Gb} {w : Wd} {L : Sto} {H : Hp} {v : V} {d : D} (R : Rel G w L H) (h : Den G w v d) (e : isL L d = true) : tyV G.K "list" v H := by
  obtain ⟨xs, hx⟩ := Option.isSome_iff_exists.mp e
  obtain ⟨a, vs, rfl, hq, r⟩ := sql_at R h hx
  exact .inl ⟨rfl, vs, hq⟩
theorem tBM_of {r : V → List V → Hp → VK → Prop} {g : D → List D → Sto → Res D} (hr : RmD S.g r g) {σ : St} {H : Hp} {Q : VK} (q : tR S.g (Den S.g) W (eBm f fl g) σ H Q) : tBM S.g.K "list" r (tR S.g (Den S.g) W f) (tR S.g (DenL S.g) W fl) σ H Q := by
  obtain ⟨w, ρ, L, R, e, p⟩ := q
  refine ⟨w, ρ, L, R, e, (Post.bind (rel := Den S.g) p).imp (fun x H1 ⟨w1, d, L1, l1, R1, d1, p1⟩ => ?_) fun _ _ _ z => z⟩
  split at p1
  · rename_i hl
    refine ⟨isL_ty R1 d1 hl, w1, ρ, L1, R1, e.le l1, (Post.bind (rel := DenL S.g) p1).imp (fun xs H2 ⟨w2, ds, L2, l2, R2, d2, p2⟩ => ?_) fun _ _ _ z => z⟩
    exact hr w2 L2 H2 x xs d ds Q _ R2 (d1.le l2) d2 p2
  · exact p1.elim
theorem se_bm {name : Str} {id : String} {r : V → List V → Hp → VK → Prop} {g : D → List D → Sto → Res D} (slot : Slot "list" name id) (hty : typeOf (.builtin id) = pure (.type "method_descriptor")) (hm : ∀ X, S.Has W X → MtR X id r) (hr : RmD S.g r g)
    (ho : SE S W o fo) (ha : SA S W (e :: es) fl) (hbase : ∀ env, attributeBase o name env (eval o env) = eval o env)
    (hfew : ∀ env, ((backTo cpos (starEach (e :: es) env)).all (fun x => !x.1) && (backToKw cpos (keywordEach [] env)).all (fun x => x.1.isSome) && decide ((e :: es).length + ([] : List Keyword).length + (if ([] : List Keyword).isEmpty then 0 else 1) < 30)) = true)
    (hline : (apos.endLine == cpos.line) = true) (hs : ∀ env, starEach (e :: es) env = (false, eval e env) :: starEach es env) (hplain : ∀ env, (backTo cpos (starEach es env)).any (·.1) = false) :
    SE S W (.Call (.Attribute o name apos) (e :: es) [] cpos) (eBm fo fl g) := fun X h =>
  PE.imp (pe_bm PySem.F.plainAttrs_list slot hty (hm X h) (ho X h) (ha X h) (hbase _) (hfew _) hline (hs _) (hplain _)) fun σ H Q q => by rw [← h.K]; exact tBM_of hr q
def boxL (L : Sto) (d : D) : Option (Nat × List D) := match d with
  | .loc n => (match L[n]? with
    | some (.lst xs) => some (n, xs)
    | _ => none)
  | _ => none
theorem box_at {G : Gb} {w : Wd} {L : Sto} {H : Hp} {v : V} {d : D} {n : Nat} {xs : List D} (R : Rel G w L H) (h : Den G w v d) (e : boxL L d = some (n, xs)) : ∃ a vs, v = .ref a ∧ w.φ[n]? = some a ∧ H a = some (.lst vs) ∧ DenL G w vs xs := by
  cases h with
  | @loc n a hn =>
    dsimp only [boxL] at e
    split at e
    · rename_i ys hy
      cases e
      obtain ⟨o, h1, h2⟩ := R.box _ _ _ hn hy
      cases h2 with
      | lst r => exact ⟨a, _, rfl, hn, h1, r⟩
    · cases e
  | _ => cases e
def gAppend (d : D) (ds : List D) (L : Sto) : Res D := match ds, boxL L d with
  | [y], some (n, xs) => if xs.length < 16777216 then .ok .non (L.set n (.lst (xs ++ [y]))) else .bad
  | _, _ => .bad
theorem gAppend_ok {G : Gb} : RmD G rAppend gAppend := by
  intro w L H x xs d ds Q E R dx dxs p
  unfold gAppend at p
  split at p
  · rename_i y n ys hb
    split at p
    · rename_i hz
      obtain ⟨a, vs, rfl, hn, ha, r⟩ := box_at R dx hb
      cases dxs with
      | cons h t =>
        cases t
        exact ⟨a, vs, _, rfl, rfl, ha, by rw [r.length]; exact lineLt hz, p w _ _ (.refl w) (R.put hn (.lst (r.snoc h))) .non⟩
    · exact p.elim
  · exact p.elim
def gLCount (d : D) (ds : List D) (L : Sto) : Res D := match ds, sqlOf L d with
  | [.int k], some xs => (match dInts xs with
    | some ns => .ok (.int (ns.count k : Nat)) L
    | none => .bad)
  | _, _ => .bad
theorem gLCount_ok {G : Gb} : RmD G (rCntI G.K) gLCount := by
  intro w L H x xs d ds Q E R dx dxs p
  unfold gLCount at p
  split at p
  · rename_i k ys hq
    split at p
    · rename_i ns hn
      obtain ⟨a, vs, rfl, hs, r⟩ := sql_at R dx hq
      have := r.ints hn
      subst this
      cases dxs with
      | cons h t =>
        cases t
        cases h
        exact ⟨a, ns, k, rfl, rfl, hs, Post.ok p (.refl w) R (.int _)⟩
    · exact p.elim
  · exact p.elim
theorem se_append (ho : SE S W o fo) (ha : SA S W [e] fl) (hbase : ∀ env, attributeBase o "append" env (eval o env) = eval o env := by intro _; rfl)
    (hfew : ∀ env, ((backTo cpos (starEach [e] env)).all (fun x => !x.1) && (backToKw cpos (keywordEach [] env)).all (fun x => x.1.isSome) && decide (([e] : List Expr).length + ([] : List Keyword).length + (if ([] : List Keyword).isEmpty then 0 else 1) < 30)) = true := by intro _; rfl)
    (hline : (apos.endLine == cpos.line) = true := by rfl) (hs : ∀ env, starEach [e] env = (false, eval e env) :: starEach [] env := by intro _; rfl) (hplain : ∀ env, (backTo cpos (starEach [] env)).any (·.1) = false := by intro _; rfl) :
    SE S W (.Call (.Attribute o "append" apos) [e] [] cpos) (eBm fo fl gAppend) := se_bm PySem.F.slot_list_append PySem.F.type_list_append (fun X h => mt_append) gAppend_ok ho ha hbase hfew hline hs hplain
def rCountT (K : PySem.W.Frag) : V → List V → Hp → VK → Prop := fun x xs H Q => ∃ (a : Addr) (y : V) (d : PyData) (vs : List V) (ds : List PyData), x = V.ref a ∧ xs = [y] ∧ SqT K H a vs ∧ DpAll K H vs ds ∧ Dp K H y d ∧
  SeqAt.shaped (.list ds) = true ∧ SeqAt.shaped d = true ∧ Q (.int ((ds.countP fun z => PyData.eqv z d : Nat) : Int)) H
theorem mt_tcount {X : Cx} (hu : X.A.units + 65 < cLine) : MtR X "tuple.count" (rCountT X.K) := by
  intro pins s σ H x xs v us Q I rx rxs h
  obtain ⟨a, y, d, vs, ds, rfl, rfl, hs, ha, hy, sl, sd, q⟩ := h
  cases rx
  cases rxs with
  | cons ry rt =>
    rename_i uy ut
    cases rt
    obtain ⟨bs, r1⟩ := Dp.reads I d y uy hy ry
    have hxs : PyData.canLayAll0 ds = true := SeqAt.canLay_of_shaped sl
    have hroom : X.A.units + 1 + min (PyData.depthAll ds) d.depth < cLine := room_in_shaped sd hu
    obtain ⟨its, rv, ⟨⟨cls, dd, data, sls⟩, ho, hc, n, hdt⟩, hlen⟩ := I.tuple hs
    simp only at hc hdt
    subst hc hdt
    obtain ⟨as, h4⟩ := Dp.readsAll I ds _ its ha rv
    have hmap : its.map (SeqAt.readOf s.heap) = ds := SeqAt.readsAll_map ds its as hxs h4
    refine call_meets PySem.F.slot_tuple_count ⟨_, ho, rfl⟩ PySem.F.entry_tuple_count (PySem.F.args_tuple_count_2 _ _)
      (SeqAt.tuple_countAt a its.toArray n dd sls uy (fun u => PyData.eqv (SeqAt.readOf s.heap u) d)) ⟨ho, SeqAt.items_eqAt (vs := its.toArray) (show ReadsAll s.heap its.toArray.toList ds as from h4) r1 hxs (SeqAt.canLay_of_shaped sd) hroom, ?_⟩
    refine ⟨.int ((ds.countP fun z => PyData.eqv z d : Nat) : Int), H, I.tok _, ⟨s.toks, ?_⟩, q⟩
    have : its.toArray.toList.countP (fun u => PyData.eqv (SeqAt.readOf s.heap u) d) = ds.countP fun z => PyData.eqv z d := by
      rw [← hmap, List.countP_map]; rfl
    rw [this]
theorem sqG_is {X : Cx} {pins : List (Addr × Obj)} {σ : St} {H : Hp} {s : Shared} {a : Addr} {xs : List V} (I : Inv X pins σ H s) (h : SqG X.K H a xs) : s.TypeIs (.ref a) "tuple" ∧ ∀ b, Value.ref a = .ref b → ∃ ob, s.heap.get? b = some ob ∧ ob.dict = none := by
  rcases h with ⟨o, h, hd⟩ | ⟨o, its, n, hk, hc, hd, _⟩
  · obtain ⟨e, _, its, _, o', e', hc, _⟩ := (show ObjOk X.prog X.w H s.heap a (.frz o (.tup xs)) from I.hok a _ h)
    rw [e] at e'
    cases e'
    exact ⟨⟨o, e, hc⟩, fun b z => by cases z; exact ⟨o, e, hd⟩⟩
  · exact ⟨⟨o, I.kIn a o hk, hc⟩, fun b z => by cases z; exact ⟨o, I.kIn _ o hk, hd⟩⟩
def tGM (K : PySem.W.Frag) (r : V → List V → Hp → VK → Prop) (to : TE) (t : TA) : TE := fun σ H Q => to σ H fun x H1 => (∃ a vs, x = .ref a ∧ SqG K H1 a vs) ∧ t σ H1 fun xs H2 => r x xs H2 Q
theorem pe_gm {X : Cx} {to : TE} {t : TA} {name : Str} {id : String} {r : V → List V → Hp → VK → Prop} (slot : Slot "tuple" name id) (hty : typeOf (.builtin id) = pure (.type "method_descriptor")) (hm : MtR X id r) (ho : PE X o to) (ha : PA X (e :: es) t)
    (hbase : attributeBase o name X.env (eval o X.env) = eval o X.env)
    (hfew : ((backTo cpos (starEach (e :: es) X.env)).all (fun x => !x.1) && (backToKw cpos (keywordEach [] X.env)).all (fun x => x.1.isSome) && decide ((e :: es).length + ([] : List Keyword).length + (if ([] : List Keyword).isEmpty then 0 else 1) < 30)) = true)
    (hline : (apos.endLine == cpos.line) = true) (hs : starEach (e :: es) X.env = (false, eval e X.env) :: starEach es X.env) (hplain : (backTo cpos (starEach es X.env)).any (·.1) = false) :
    PE X (.Call (.Attribute o name apos) (e :: es) [] cpos) (tGM X.K r to t) := by
  refine ⟨fun pins s σ H Q I h => ?_⟩
  refine wpAny_Call_method_late hbase hfew hline rfl (thn (ho.run pins s σ H _ I h) fun v s1 ⟨x, H1, I1, r1, ⟨a, vs, ex, hg⟩, q1⟩ => ?_)
  subst ex
  obtain rfl : v = Value.ref a := r1
  obtain ⟨h1, h2⟩ := sqG_is I1 hg
  refine ⟨"tuple", id, PySem.F.plainAttrs_tuple, slot, hty, h1, h2, ?_⟩
  have hA := ha.run cpos pins s1 σ H1 _ I1 q1
  rw [hs] at hA ⊢
  refine Calls.callWith_builtin (by show (false || (backTo cpos (starEach es X.env)).any (·.1)) = false; rw [hplain] <;> rfl) (Calls.evalArgs_plain ?_)
  exact thn hA fun us s2 ⟨xs, H2, I2, r2, q2⟩ => hm pins s2 σ H2 (.ref a) xs (.ref a) us Q I2 rfl r2 q2
end
section
variable {S : Sc} {W : WX} {a b e c o i : Expr} {es : List Expr} {fa fb fc f fo fi fx fk fv : EF} {fl : AF} {pos p apos cpos : Pos}
theorem canLay_ints : ∀ ns : List Int, PyData.canLayAll0 (ns.map PyData.int) = true
  | [] => rfl
  | n :: ns => canLay_ints ns
theorem depth_ints : ∀ ns : List Int, PyData.depthAll (ns.map PyData.int) ≤ 1
  | [] => by decide
  | n :: ns => by
    have h := depth_ints ns
    show max (PyData.depth (.int n)) (PyData.depthAll (ns.map PyData.int)) ≤ 1
    have : PyData.depth (.int n) ≤ 1 := by simp [PyData.depth]
    omega
theorem shaped_ints (ns : List Int) : SeqAt.shaped (.list (ns.map PyData.int)) = true := by
  refine and2' (canLay_ints ns) (decide_eq_true ?_)
  have h := depth_ints ns
  simp only [PyData.depth]
  omega
theorem dp_ints {K : PySem.W.Frag} {H : Hp} : ∀ ns : List Int, DpAll K H (ns.map V.int) (ns.map PyData.int)
  | [] => .nil
  | n :: ns => .cons (.int n) (dp_ints ns)
theorem count_ints (k : Int) : ∀ ns : List Int, ((ns.map PyData.int).countP fun z => PyData.eqv z (.int k)) = ns.count k
  | [] => rfl
  | n :: ns => by
    rw [List.map_cons, List.countP_cons, count_ints k ns, List.count_cons]
    rfl
def gTCount (d : D) (ds : List D) (L : Sto) : Res D := match ds, d with
  | [.int k], .tg xs => (match dInts xs with
    | some ns => .ok (.int (ns.count k : Nat)) L
    | none => .bad)
  | _, _ => .bad
theorem gTCount_ok {G : Gb} : RmD G (rCountT G.K) gTCount := by
  intro w L H x xs d ds Q E R dx dxs p
  unfold gTCount at p
  split at p
  · rename_i k ys
    split at p
    · rename_i ns hn
      cases dx with
      | tg hq r =>
        have := r.ints hn
        subst this
        cases dxs with
        | cons h t =>
          cases t
          cases h
          refine ⟨_, _, .int k, _, ns.map PyData.int, rfl, rfl, (R.sqG hq).t, dp_ints ns, .int k, shaped_ints ns, rfl, ?_⟩
          rw [count_ints]
          exact Post.ok p (.refl w) R (.int _)
    · exact p.elim
  · exact p.elim
def isG : D → Bool
  | .tg _ => true
  | _ => false
def gCount (d : D) (ds : List D) (L : Sto) : Res D := if isG d = true then gTCount d ds L else gLCount d ds L
def eCm (g : D → List D → Sto → Res D) (f : EF) (fl : AF) : EF := fun ρ L => (f ρ L).bind fun d L1 => if isG d = true ∨ isL L1 d = true then (fl ρ L1).bind fun ds L2 => g d ds L2 else .bad
theorem tGM_of {r : V → List V → Hp → VK → Prop} {g : D → List D → Sto → Res D} (hr : RmD S.g r g) {σ : St} {H : Hp} {Q : VK}
    (q : tR S.g (Den S.g) W (fun ρ L => (f ρ L).bind fun d L1 => if isG d = true then (fl ρ L1).bind fun ds L2 => g d ds L2 else .bad) σ H Q) : tGM S.g.K r (tR S.g (Den S.g) W f) (tR S.g (DenL S.g) W fl) σ H Q := by
  obtain ⟨w, ρ, L, R, e, p⟩ := q
  refine ⟨w, ρ, L, R, e, (Post.bind (rel := Den S.g) p).imp (fun x H1 ⟨w1, d, L1, l1, R1, d1, p1⟩ => ?_) fun _ _ _ z => z⟩
  split at p1
  · rename_i hl
    refine ⟨?_, w1, ρ, L1, R1, e.le l1, (Post.bind (rel := DenL S.g) p1).imp (fun xs H2 ⟨w2, ds, L2, l2, R2, d2, p2⟩ => hr w2 L2 H2 x xs d ds Q _ R2 (d1.le l2) d2 p2) fun _ _ _ z => z⟩
    cases d1 with
    | tg hq r => exact ⟨_, _, rfl, R1.sqG hq⟩
    | _ => cases hl
  · exact p1.elim
open Classical in
theorem tCm_of {r r' : V → List V → Hp → VK → Prop} {g g1 g2 : D → List D → Sto → Res D} (h1 : RmD S.g r g1) (h2 : RmD S.g r' g2) (hg : ∀ d ds L, g d ds L = if isG d = true then g1 d ds L else g2 d ds L) {σ : St} {H : Hp} {Q : VK} (q : tR S.g (Den S.g) W (eCm g f fl) σ H Q) :
    tGM S.g.K r (tR S.g (Den S.g) W f) (tR S.g (DenL S.g) W fl) σ H Q ∨ tBM S.g.K "list" r' (tR S.g (Den S.g) W f) (tR S.g (DenL S.g) W fl) σ H Q := by
  rcases tR_split (f := f) (k := fun ρ d L1 => if isG d = true ∨ isL L1 d = true then (fl ρ L1).bind fun ds L2 => g d ds L2 else .bad) (fun d _ => isG d = true) q with q | q
  · refine .inl (tGM_of h1 ?_)
    obtain ⟨w, ρ, L, R, e, p⟩ := q
    refine ⟨w, ρ, L, R, e, ?_⟩
    dsimp only at p ⊢
    cases q1 : f ρ L with
    | bad => rw [q1] at p; exact p
    | err c x L1 => rw [q1] at p; exact p
    | ok d L1 =>
      rw [q1] at p
      simp only [Res.bind_ok] at p ⊢
      by_cases hd : isG d = true
      · simp only [hd, if_true, true_or, hg] at p ⊢; exact p
      · simp only [hd, if_false] at p; exact p.elim
  · refine .inr (tBM_of h2 ?_)
    obtain ⟨w, ρ, L, R, e, p⟩ := q
    refine ⟨w, ρ, L, R, e, ?_⟩
    unfold eBm
    dsimp only at p ⊢
    cases q1 : f ρ L with
    | bad => rw [q1] at p; exact p
    | err c x L1 => rw [q1] at p; exact p
    | ok d L1 =>
      rw [q1] at p
      simp only [Res.bind_ok] at p ⊢
      by_cases hd : isG d = true
      · simp only [hd, if_true] at p; exact p.elim
      · have hd' : isG d = false := by simpa using hd
        simp only [hd', Bool.false_eq_true, if_false, false_or, hg] at p ⊢; exact p
theorem se_count (ho : SE S W o fo) (ha : SA S W [e] fl) (hbase : ∀ env, attributeBase o "count" env (eval o env) = eval o env := by intro _; rfl)
    (hfew : ∀ env, ((backTo cpos (starEach [e] env)).all (fun x => !x.1) && (backToKw cpos (keywordEach [] env)).all (fun x => x.1.isSome) && decide (([e] : List Expr).length + ([] : List Keyword).length + (if ([] : List Keyword).isEmpty then 0 else 1) < 30)) = true := by intro _; rfl)
    (hline : (apos.endLine == cpos.line) = true := by rfl) (hs : ∀ env, starEach [e] env = (false, eval e env) :: starEach [] env := by intro _; rfl) (hplain : ∀ env, (backTo cpos (starEach [] env)).any (·.1) = false := by intro _; rfl) :
    SE S W (.Call (.Attribute o "count" apos) [e] [] cpos) (eCm gCount fo fl) := fun X h =>
  PE.imp (PE.or (pe_gm PySem.F.slot_tuple_count PySem.F.type_tuple_count (mt_tcount h.units65) (ho X h) (ha X h) (hbase _) (hfew _) hline (hs _) (hplain _))
    (pe_bm PySem.F.plainAttrs_list PySem.F.slot_list_count PySem.F.type_list_count mt_lcount (ho X h) (ha X h) (hbase _) (hfew _) hline (hs _) (hplain _))) fun σ H Q q => by
    rw [← h.K]; exact tCm_of gTCount_ok gLCount_ok (fun _ _ _ => rfl) q
theorem PS.or {X : Cx} {e : Stmt} {t u : TS} (h : PS X e t) (k : PS X e u) : PS X e (fun D σ H => t D σ H ∨ u D σ H) := ⟨fun pins s σ H D I q => q.elim (h.run pins s σ H D I) (k.run pins s σ H D I)⟩
def putAt (d k v : D) (L : Sto) : Option Sto := match d with
  | .loc n => (match L[n]? with
    | some (.lst xs) => (match k with
      | .int i => (ixN xs.length i).map fun j => L.set n (.lst (xs.set j v))
      | _ => none)
    | some (.dK kvs) => (match dKey k with
      | some key => if kvs.length < 16777216 then some (L.set n (.dK (putD kvs key v))) else none
      | none => none)
    | _ => none)
  | _ => none
def sPut (fv fo fi : EF) : SF := fun ρ L => sBind (fv ρ L) ρ fun v L1 => sBind (fo ρ L1) ρ fun d L2 => sBind (fi ρ L2) ρ fun k L3 => match putAt d k v L3 with
  | some L' => .nx ρ L'
  | none => .bad
theorem putAt_cases {G : Gb} {w : Wd} {L L' : Sto} {H : Hp} {x y z : V} {d k v : D} (R : Rel G w L H) (dx : Den G w x d) (dy : Den G w y k) (dz : Den G w z v) (e : putAt d k v L = some L') :
    (∃ n, d = .loc n ∧ ∃ xs, L[n]? = some (.lst xs)) ∧ (∃ p xs i j H', x = .ref p ∧ y = .int i ∧ H p = some (.lst xs) ∧ ixN xs.length i = some j ∧ H' = upd H p (.lst (xs.set j z)) ∧ Rel G w L' H') ∨
    (∃ n, d = .loc n ∧ ∃ xs, L[n]? = some (.dK xs)) ∧ ∃ a H', x = .ref a ∧ DPut H a y z H' ∧ Rel G w L' H' := by
  cases dx with
  | @loc n a hn =>
    dsimp only [putAt] at e
    split at e
    · rename_i xs hxs
      split at e
      · rename_i i
        cases dy
        obtain ⟨j, hj, rfl⟩ := Option.map_eq_some_iff.mp e
        obtain ⟨ob, h1, h2⟩ := R.box _ _ _ hn hxs
        cases h2 with
        | lst r =>
          rw [← r.length] at hj
          exact .inl ⟨⟨n, rfl, xs, hxs⟩, a, _, i, j, _, rfl, rfl, h1, hj, rfl, R.put hn (.lst (r.set dz j))⟩
      · cases e
    · rename_i kvs hxs
      split at e
      · rename_i key hkey
        split at e
        · rename_i hz
          cases e
          obtain ⟨ob, h1, h2⟩ := R.box _ _ _ hn hxs
          cases h2 with
          | dK r =>
            rw [dy.key hkey]
            exact .inr ⟨⟨n, rfl, kvs, hxs⟩, a, _, rfl, DPut.k h1 (by rw [r.length]; exact lineLt hz), R.put hn (.dK (r.put dz))⟩
        · cases e
      · cases e
    · cases e
  | _ => cases e
theorem ss_put (hv : SE S W e fv) (ho : SE S W o fo) (hi : SE S W i fi) {spos : Pos}
    (hs : ∀ env, swapsWithSole [.Subscript o i spos] e pos.line env = pure false := by intro _; rfl) (hw : ∀ env, swappedStores [.Subscript o i spos] e env = pure none := by intro _; rfl)
    (h1 : ∀ env, (assignEach [.Subscript o i spos] env).map (·.2) = [assign (.Subscript o i spos) env] := by intro _; rfl)
    (ha : ∀ env v, assign (.Subscript o i spos) env v = (do
      let ov ← holding [v] (eval o env)
      let iv ← holding [v, ov] (eval i env)
      standAt spos
      holding [v, ov, iv] (setItem ov iv v)
      release [v, ov, iv] []) := by intro _ _; rfl)
    (hs2 : ∀ env, swapsWith e (some (.Subscript o i spos)) pos.line env = pure false := by intro _; rfl) :
    SS S W (.Assign [.Subscript o i spos] e pos) (sPut fv fo fi) := fun X h =>
  PS.imp (PS.or (ps_asg (hv X h) (pg_sub (ho X h) (hi X h) set_list (ha _)) (hs _) (hw _) (h1 _)) (ps_dput (by have := h.units; omega) (ho X h) (hi X h) (hv X h) (hs2 _))) fun D σ H ⟨w, ρ, L, R, e, p⟩ => by
    unfold sPut at p
    cases q1 : fv ρ L with
    | bad => rw [q1] at p; exact p.elim
    | err c x L1 => rw [q1] at p; exact .inl ⟨w, ρ, L, R, e, by rw [q1]; exact fun w1 H1 dx l R1 x1 C m => p w1 σ H1 dx l R1 (e.le l) x1 C m⟩
    | ok v L1 =>
      rw [q1, sBind_ok] at p
      cases q2 : fo ρ L1 with
      | bad => rw [q2] at p; exact p.elim
      | err c x L2 =>
        rw [q2] at p
        exact .inl ⟨w, ρ, L, R, e, by rw [q1]; exact fun w1 H1 u l1 R1 d1 => ⟨w1, ρ, L1, R1, e.le l1, by rw [q2]; exact fun w2 H2 dx l R2 x2 C m => p w2 σ H2 dx (l1.trans l) R2 ((e.le l1).le l) x2 C m⟩⟩
      | ok d L2 =>
        rw [q2, sBind_ok] at p
        cases q3 : fi ρ L2 with
        | bad => rw [q3] at p; exact p.elim
        | err c x L3 =>
          rw [q3] at p
          exact .inl ⟨w, ρ, L, R, e, by rw [q1]; exact fun w1 H1 u l1 R1 d1 => ⟨w1, ρ, L1, R1, e.le l1, by rw [q2]; exact fun w2 H2 u2 l2 R2 d2 => ⟨w2, ρ, L2, R2, (e.le l1).le l2, by
            rw [q3]; exact fun w3 H3 dx l R3 x3 C m => p w3 σ H3 dx ((l1.trans l2).trans l) R3 (((e.le l1).le l2).le l) x3 C m⟩⟩⟩
        | ok k L3 =>
          rw [q3, sBind_ok] at p
          cases q4 : putAt d k v L3 with
          | none => rw [q4] at p; exact p.elim
          | some L' =>
            rw [q4] at p
            by_cases hl : ∃ n, d = .loc n ∧ ∃ xs, L3[n]? = some (.lst xs)
            · refine .inl ⟨w, ρ, L, R, e, by rw [q1]; exact fun w1 H1 u l1 R1 d1 => ⟨w1, ρ, L1, R1, e.le l1, by rw [q2]; exact fun w2 H2 u2 l2 R2 d2 => ⟨w2, ρ, L2, R2, (e.le l1).le l2, by
                rw [q3]
                intro w3 H3 u3 l3 R3 d3
                rcases putAt_cases R3 (d2.le l3) d3 (d1.le (l2.trans l3)) q4 with ⟨_, pa, xs, ii, j, H', e1, e2, e3, e4, e5, R'⟩ | ⟨⟨n, e1, xs, e2⟩, _⟩
                · subst e5
                  exact ⟨pa, xs, ii, j, e1, e2, e3, e4, p w3 σ _ ((l1.trans l2).trans l3) R' (((e.le l1).le l2).le l3)⟩
                · obtain ⟨n', e3, ys, e4⟩ := hl
                  rw [e1] at e3; cases e3
                  rw [e2] at e4; cases e4⟩⟩⟩
            · refine .inr ⟨w, ρ, L, R, e, by rw [q1]; exact fun w1 H1 u l1 R1 d1 => ⟨w1, ρ, L1, R1, e.le l1, by rw [q2]; exact fun w2 H2 u2 l2 R2 d2 => ⟨w2, ρ, L2, R2, (e.le l1).le l2, by
                rw [q3]
                intro w3 H3 u3 l3 R3 d3
                rcases putAt_cases R3 (d2.le l3) d3 (d1.le (l2.trans l3)) q4 with ⟨z, _⟩ | ⟨_, a, H', e1, e2, R'⟩
                · exact absurd z hl
                · exact ⟨a, H', e1, e2, p w3 σ _ ((l1.trans l2).trans l3) R' (((e.le l1).le l2).le l3)⟩⟩⟩⟩
def dOut (box : Bool) (ds : List (Key × D)) (L : Sto) : Res D := if box = true then .ok (.loc L.length) (L ++ [.dK ds]) else .ok (.dK ds) L
def eDict0 (box : Bool) : EF := fun _ L => dOut box [] L
theorem dOut_go {G : Gb} {w : Wd} {L : Sto} {H : Hp} {vs : List (Key × V)} {xs : List (Key × D)} {Q : VK} {E : XK} {box : Bool} (p : Post G (Den G) w (dOut box xs L) Q E) (R : Rel G w L H) (d : DenK G w vs xs) (q : Addr) (hq : H q = none) : Q (.ref q) (upd H q (.dK vs)) := by
  unfold dOut at p
  split at p
  · obtain ⟨R2, l2⟩ := R.newB (o := .dK vs) (c := .dK xs) hq (.dK (DenK.le (w := w) (w' := ⟨w.F, w.φ ++ [q], w.prv⟩) ⟨⟨fun _ _ _ r => r, fun n a e => (List.getElem?_append_left (getElem?_lt e)).trans e, fun _ _ r => r⟩, rfl⟩ d))
    refine p _ _ _ l2 R2 (.loc ?_)
    show (w.φ ++ [q])[L.length]? = some q
    rw [← R.len, List.getElem?_append_right (Nat.le_refl _)]
    simp
  · obtain ⟨R2, l2⟩ := R.newF (o := .dK vs) hq
    exact p _ _ _ l2 R2 (.dK upd_same (d.le l2))
theorem se_dict0 (box : Bool) : SE S W (.Dict [] [] pos) (eDict0 box) := fun X h => PE.imp pe_dnewK fun σ H Q ⟨w, ρ, L, R, e, p⟩ => fun q hq => dOut_go p R .nil q hq
theorem dOut_end {G : Gb} {w0 w : Wd} {L : Sto} {H : Hp} {vs : List (Key × V)} {xs : List (Key × D)} {Q : VK} {E : XK} {box : Bool} {q : Addr} {o : HO} (p : Post G (Den G) w0 (dOut box xs L) Q E) (R : Rel G w L H) (l : w0.le0 w) (hp : w.prv q = some o)
    (hq : ∀ a u, w0.prv a = some u → a ≠ q ∧ w.prv a = some u) (d : DenK G w vs xs) : Q (.ref q) (upd H q (.dK vs)) := by
  have R1 := R.putP (o' := .dK vs) hp
  have l1 : w.le0 ⟨w.F, w.φ, upd w.prv q (.dK vs)⟩ := Wd.prv_le _ _
  have hp1 : (⟨w.F, w.φ, upd w.prv q (.dK vs)⟩ : Wd).prv q = some (.dK vs) := upd_same
  have hq1 : ∀ a u, w0.prv a = some u → a ≠ q ∧ (⟨w.F, w.φ, upd w.prv q (.dK vs)⟩ : Wd).prv a = some u := fun a u h => ⟨(hq a u h).1, by show upd w.prv q (.dK vs) a = some u; rw [upd_ne (hq a u h).1]; exact (hq a u h).2⟩
  unfold dOut at p
  cases box with
  | true =>
    rw [if_pos rfl] at p
    obtain ⟨Rz, lz⟩ := R1.outB hp1 (.dK (d.le0 l1)) w0.prv hq1
    refine p _ _ _ ⟨(l.trans l1).trans lz, rfl⟩ Rz (.loc ?_)
    show (w.φ ++ [q])[L.length]? = some q
    rw [← R.len, List.getElem?_append_right (Nat.le_refl _)]
    simp
  | false =>
    rw [if_neg (by decide)] at p
    obtain ⟨Rz, lz⟩ := R1.outP hp1 w0.prv hq1
    exact p _ _ _ ⟨(l.trans l1).trans lz, rfl⟩ Rz (.dK upd_same ((d.le0 l1).le0 lz))
abbrev PF := Env' → Sto → Res (List (D × D))
def prsF : List (EF × EF) → PF
  | [] => fun _ L => .ok [] L
  | (fk, fv) :: r => fun ρ L => (fk ρ L).bind fun k L1 => (fv ρ L1).bind fun v L2 => (prsF r ρ L2).bind fun ps L3 => .ok ((k, v) :: ps) L3
def trsOf (S : Sc) (W : WX) (fs : List (EF × EF)) : List (TE × TE) := fs.map fun p => (tR S.g (Den S.g) W p.1, tR S.g (Den S.g) W p.2)
inductive DenP (G : Gb) (w : Wd) : List (V × V) → List (D × D) → Prop where
  | nil : DenP G w [] []
  | cons {x y : V} {d e : D} {ps : List (V × V)} {qs : List (D × D)} (h : Den G w x d) (k : Den G w y e) (t : DenP G w ps qs) : DenP G w ((x, y) :: ps) ((d, e) :: qs)
theorem tPairs_of {σ : St} {ρ : Env'} : ∀ (fs : List (EF × EF)) {w : Wd} {L : Sto} {H : Hp} {Q : List (V × V) → Hp → Prop}, Rel S.g w L H → EnvR S.g w σ ρ → Post S.g (DenP S.g) w (prsF fs ρ L) Q (fun c dx H' => W c dx σ H') → tPairs (trsOf S W fs) σ H Q
  | [], w, L, H, Q, R, e, p => Post.ok p (.refl w) R .nil
  | (fk, fv) :: r, w, L, H, Q, R, e, p =>
    ⟨w, ρ, L, R, e, (Post.bind (rel := Den S.g) p).imp (fun x H1 ⟨w1, d, L1, l1, R1, d1, p1⟩ =>
      ⟨w1, ρ, L1, R1, e.le l1, (Post.bind (rel := Den S.g) p1).imp (fun y H2 ⟨w2, d', L2, l2, R2, d2, p2⟩ =>
        tPairs_of r R2 ((e.le l1).le l2) ((Post.bind (rel := DenP S.g) p2).imp (fun ps H3 ⟨w3, qs, L3, l3, R3, d3, p3⟩ =>
          Post.ok p3 (.refl _) R3 (.cons (d1.le (l2.trans l3)) (d2.le l3) d3)) fun _ _ _ z => z)) fun _ _ _ z => z⟩) fun _ _ _ z => z⟩
def SPs (S : Sc) (W : WX) (pos : Pos) (ks : List (Option Expr)) (vs : List Expr) (fs : List (EF × EF)) : Prop := ∀ X, S.Has W X → PPs X pos ks vs (trsOf S W fs)
theorem sp_nil : SPs S W pos [] [] [] := fun X h => pps_nil
theorem sp_cons {ks : List (Option Expr)} {vs : List Expr} {fs : List (EF × EF)} (hk : SE S W a fa) (hv : SE S W b fb) (hr : SPs S W pos ks vs fs) : SPs S W pos (some a :: ks) (b :: vs) ((fa, fb) :: fs) := fun X h => pps_cons (hk X h) (hv X h) (hr X h)
def keyPs : List (D × D) → Option (List (Key × D))
  | [] => some []
  | (k, v) :: r => match dKey k, keyPs r with
    | some k, some r => some ((k, v) :: r)
    | _, _ => none
def mergeD (kvs more : List (Key × D)) : List (Key × D) := more.foldl (fun acc kv => putD acc kv.1 kv.2) kvs
theorem keyPs_at {G : Gb} {w : Wd} : ∀ {ps : List (V × V)} {qs : List (D × D)} {kds : List (Key × D)}, DenP G w ps qs → keyPs qs = some kds → ∃ kvs : List (Key × V), ps = kvs.map (fun kv => (kV kv.1, kv.2)) ∧ DenK G w kvs kds
  | _, _, _, .nil, e => by cases e; exact ⟨[], rfl, .nil⟩
  | _, (k, v) :: qs, _, .cons h hk t, e => by
    unfold keyPs at e
    split at e
    · rename_i key r h1 h2
      cases e
      obtain ⟨kvs, rfl, d⟩ := keyPs_at t h2
      have := h.key h1
      subst this
      exact ⟨(key, _) :: kvs, rfl, .cons hk d⟩
    · cases e
theorem merge_den {G : Gb} {w : Wd} : ∀ {kvs more : List (Key × V)} {kds mds : List (Key × D)}, DenK G w kvs kds → DenK G w more mds → DenK G w (mergeK kvs more) (mergeD kds mds)
  | _, _, _, _, h, .nil => h
  | kvs, _, kds, _, h, @DenK.cons _ _ k v d vs ds a t => by
    show DenK G w (mergeK (putK kvs k v) vs) (mergeD (putD kds k d) ds)
    exact merge_den (DenK.put h a) t
def eDisp (box : Bool) (fs : List (EF × EF)) : EF := fun ρ L => (prsF fs ρ L).bind fun ps L1 => match keyPs ps with
  | some kds => if kds.length ≤ 15 then dOut box (mergeD [] kds) L1 else .bad
  | none => .bad
theorem se_disp (box : Bool) {ks : List (Option Expr)} {vs : List Expr} {fs : List (EF × EF)} (h : SPs S W pos ks vs fs) (hall : ks.all (·.isSome) = true := by rfl) (hl : ks.length = vs.length := by rfl) (h0 : ks ≠ [] := by exact List.cons_ne_nil _ _) (h15 : ks.length ≤ 15 := by decide) :
    SE S W (.Dict ks vs pos) (eDisp box fs) := fun X hX =>
  PE.imp (pe_disp (h X hX) hall hl h0 h15) fun σ H Q ⟨w, ρ, L, R, e, p⟩ => fun q hq => by
    have R2 := R.newP (o := .dK []) hq
    have l0 : w.le0 ⟨w.F, w.φ, upd w.prv q (.dK [])⟩ := Wd.prv_le _ _
    refine tPairs_of fs R2 (e.le0 l0) ?_
    unfold eDisp at p
    cases q1 : prsF fs ρ L with
    | bad => rw [q1] at p; exact p
    | err c x L1 =>
      rw [q1] at p
      intro w1 H1 dx l1 R1 x1 C m
      have hp : w1.prv q = some (.dK []) := by rw [l1.same]; exact upd_same
      have hq2 : ∀ a u, w.prv a = some u → a ≠ q ∧ w1.prv a = some u := fun a u h => by
        have na : a ≠ q := fun z => by rw [z] at h; rw [(R.prv _ _ h).1] at hq; cases hq
        exact ⟨na, by rw [l1.same]; show upd w.prv q (.dK []) a = some u; rw [upd_ne na]; exact h⟩
      obtain ⟨Rz, lz⟩ := R1.outP hp w.prv hq2
      refine p _ H1 dx ⟨(l0.trans l1.tole0).trans lz, rfl⟩ Rz ?_ C m
      rcases x1 with h | ⟨ad, fs, h1, h2, h3⟩
      · exact .inl h
      · exact .inr ⟨ad, fs, h1, lz.dir _ _ h2, h3.le0 lz⟩
    | ok ps L1 =>
      rw [q1] at p
      intro w1 H1 us l1 R1 d1
      dsimp only [Res.bind] at p
      split at p
      · rename_i kds hk
        split at p
        · rename_i hz
          obtain ⟨kvs, ep, dk⟩ := keyPs_at d1 hk
          have hp : w1.prv q = some (.dK []) := by rw [l1.same]; exact upd_same
          have hq2 : ∀ a u, w.prv a = some u → a ≠ q ∧ w1.prv a = some u := fun a u h => by
            have na : a ≠ q := fun z => by rw [z] at h; rw [(R.prv _ _ h).1] at hq; cases hq
            exact ⟨na, by rw [l1.same]; show upd w.prv q (.dK []) a = some u; rw [upd_ne na]; exact h⟩
          exact ⟨(R1.prv _ _ hp).1, kvs, ep, by rw [dk.length]; exact hz, dOut_end p R1 (l0.trans l1.tole0) hp hq2 (merge_den .nil dk)⟩
        · exact p.elim
      · exact p.elim
def isDk (L : Sto) (d : D) : Bool := (dictOf L d).isSome
theorem isDk_at {G : Gb} {w : Wd} {L : Sto} {H : Hp} {v : V} {d : D} (R : Rel G w L H) (h : Den G w v d) (e : isDk L d = true) : ∃ a, v = .ref a ∧ IsD H a := by
  obtain ⟨x, hx⟩ := Option.isSome_iff_exists.mp e
  cases x with
  | k kvs => obtain ⟨a, vs, rfl, _, hq, r⟩ := dk_at R h hx; exact ⟨a, rfl, .inl ⟨vs, hq⟩⟩
  | t kvs => obtain ⟨a, vs, rfl, hq, r⟩ := dt_at R h hx; exact ⟨a, rfl, .inr ⟨vs, .inl hq⟩⟩
def gLookK (L : Sto) (d k : D) : Option (Option D) := match dictOf L d, dKey k with
  | some (.k kvs), some key => some (valD kvs key)
  | _, _ => none
theorem lookK_at {G : Gb} {w : Wd} {L : Sto} {H : Hp} {v u : V} {d k : D} {o : Option D} (R : Rel G w L H) (h : Den G w v d) (hk : Den G w u k) (e : gLookK L d k = some o) : ∃ a ov, v = .ref a ∧ DGet H a u ov ∧ OD G w ov o := by
  unfold gLookK at e
  split at e
  · rename_i kvs key h1 h2
    cases e
    obtain ⟨a, vs, rfl, _, ha, r⟩ := dk_at R h h1
    rw [hk.key h2]
    exact ⟨a, _, rfl, .inl ⟨vs, key, ha, rfl, rfl⟩, r.val key⟩
  · cases e
def eGet2 (fo fk fx : EF) : EF := fun ρ L => (fo ρ L).bind fun d L1 => if isDk L1 d = true then (fk ρ L1).bind fun k L2 => (fx ρ L2).bind fun x L3 => match gLookK L3 d k with
  | some (some y) => .ok y L3
  | some none => .ok x L3
  | none => .bad else .bad
theorem OD.getD {G : Gb} {w : Wd} {ov : Option V} {od : Option D} {x : V} {d : D} (h : OD G w ov od) (hx : Den G w x d) : Den G w (ov.getD x) (od.getD d) := by
  cases h with
  | none => exact hx
  | some h => exact h
theorem se_get2 (ho : SE S W o fo) (hk : SE S W a fk) (hx : SE S W b fx) (m : ∀ X : Cx, M2 X o "get" apos a b cpos := by intro _; exact ⟨rfl, rfl, rfl, rfl⟩) : SE S W (.Call (.Attribute o "get" apos) [a, b] [] cpos) (eGet2 fo fk fx) := fun X h =>
  PE.imp (pe_dget2 (by have := h.units; omega) (ho X h) (hk X h) (hx X h) (m X)) fun σ H Q ⟨w, ρ, L, R, e, p⟩ =>
    ⟨w, ρ, L, R, e, (Post.bind (rel := Den S.g) p).imp (fun v H1 ⟨w1, d, L1, l1, R1, d1, p1⟩ => by
      split at p1
      · rename_i hd
        obtain ⟨a, rfl, ia⟩ := isDk_at R1 d1 hd
        refine ⟨a, rfl, ia, w1, ρ, L1, R1, e.le l1, (Post.bind (rel := Den S.g) p1).imp (fun y H2 ⟨w2, k, L2, l2, R2, d2, p2⟩ => ?_) fun _ _ _ z => z⟩
        refine ⟨w2, ρ, L2, R2, (e.le l1).le l2, (Post.bind (rel := Den S.g) p2).imp (fun z H3 ⟨w3, x, L3, l3, R3, d3, p3⟩ => ?_) fun _ _ _ z => z⟩
        cases hl : gLookK L3 d k with
        | none => rw [hl] at p3; exact p3.elim
        | some oo =>
          obtain ⟨a', ov, ea, g, od⟩ := lookK_at R3 (d1.le (l2.trans l3)) (d2.le l3) hl
          cases ea
          refine ⟨ov, g, ?_⟩
          rw [hl] at p3
          cases od with
          | none => exact Post.ok p3 (.refl _) R3 d3
          | some hv => exact Post.ok p3 (.refl _) R3 hv
      · exact p1.elim) fun _ _ _ z => z⟩
def boxK (L : Sto) (d : D) : Option (Nat × List (Key × D)) := match d with
  | .loc n => (match L[n]? with
    | some (.dK xs) => some (n, xs)
    | _ => none)
  | _ => none
theorem boxK_at {G : Gb} {w : Wd} {L : Sto} {H : Hp} {v : V} {d : D} {n : Nat} {xs : List (Key × D)} (R : Rel G w L H) (h : Den G w v d) (e : boxK L d = some (n, xs)) : ∃ a vs, v = .ref a ∧ w.φ[n]? = some a ∧ H a = some (.dK vs) ∧ DenK G w vs xs := by
  cases h with
  | @loc n a hn =>
    dsimp only [boxK] at e
    split at e
    · rename_i ys hy
      cases e
      obtain ⟨o, h1, h2⟩ := R.box _ _ _ hn hy
      cases h2 with
      | dK r => exact ⟨a, _, rfl, hn, h1, r⟩
    · cases e
  | _ => cases e
def eSetd (fo fk fx : EF) : EF := fun ρ L => (fo ρ L).bind fun d L1 => if isDk L1 d = true then (fk ρ L1).bind fun k L2 => (fx ρ L2).bind fun x L3 => match boxK L3 d, dKey k with
  | some (n, kvs), some key => if kvs.length < 16777216 then (match valD kvs key with
    | some y => .ok y L3
    | none => .ok x (L3.set n (.dK (putD kvs key x)))) else .bad
  | _, _ => .bad else .bad
theorem se_setd (ho : SE S W o fo) (hk : SE S W a fk) (hx : SE S W b fx) (m : ∀ X : Cx, M2 X o "setdefault" apos a b cpos := by intro _; exact ⟨rfl, rfl, rfl, rfl⟩) : SE S W (.Call (.Attribute o "setdefault" apos) [a, b] [] cpos) (eSetd fo fk fx) := fun X h =>
  PE.imp (pe_dsetd (ho X h) (hk X h) (hx X h) (m X)) fun σ H Q ⟨w, ρ, L, R, e, p⟩ =>
    ⟨w, ρ, L, R, e, (Post.bind (rel := Den S.g) p).imp (fun v H1 ⟨w1, d, L1, l1, R1, d1, p1⟩ => by
      split at p1
      · rename_i hd
        obtain ⟨a, rfl, ia⟩ := isDk_at R1 d1 hd
        refine ⟨a, rfl, ia, w1, ρ, L1, R1, e.le l1, (Post.bind (rel := Den S.g) p1).imp (fun y H2 ⟨w2, k, L2, l2, R2, d2, p2⟩ => ?_) fun _ _ _ z => z⟩
        refine ⟨w2, ρ, L2, R2, (e.le l1).le l2, (Post.bind (rel := Den S.g) p2).imp (fun z H3 ⟨w3, x, L3, l3, R3, d3, p3⟩ => ?_) fun _ _ _ z => z⟩
        split at p3
        · rename_i n kvs key hb hk2
          split at p3
          · rename_i hz
            obtain ⟨a', vs, ea, hn, ha, r⟩ := boxK_at R3 (d1.le (l2.trans l3)) hb
            cases ea
            refine ⟨vs, key, ha, (d2.le l3).key hk2, by rw [r.length]; exact lineLt hz, fun v hv => ?_, fun hv => ?_⟩
            · have od := r.val key
              rw [hv] at od
              generalize valD kvs key = vd at od p3
              cases od with
              | some hd => exact Post.ok p3 (.refl _) R3 hd
            · have od := r.val key
              rw [hv] at od
              generalize hvd : valD kvs key = vd at od p3
              cases od
              exact p3 w3 _ _ (.refl _) (R3.put hn (.dK (r.put d3))) d3
          · exact p3.elim
        · exact p3.elim
      · exact p1.elim) fun _ _ _ z => z⟩
end
abbrev CS := Env' → D → Sto → Res D
open Classical in
noncomputable def cGo (src : List (Nat × D)) (tg : GF) (t : TF) (step : CS) (ρ : Env') : List D → D → Sto → Res D
  | [], c, L => .ok c L
  | d :: ds, c, L => match tg d ρ with
    | none => .bad
    | some ρ1 => match t ρ1 L with
      | .ok true L1 => (match step ρ1 c L1 with
        | .ok c' L2 => if srcOk L2 src then cGo src tg t step ρ ds c' L2 else .bad
        | _ => .bad)
      | .ok false L1 => if srcOk L1 src then cGo src tg t step ρ ds c L1 else .bad
      | _ => .bad
def stepL (f : EF) : CS := fun ρ c L => match c, f ρ L with
  | .lst acc, .ok y L2 => if acc.length < 16777216 then .ok (.lst (acc ++ [y])) L2 else .bad
  | _, _ => .bad
def stepD (fk fv : EF) : CS := fun ρ c L => match c, fk ρ L with
  | .dK kvs, .ok k L1 => (match dKey k, fv ρ L1 with
    | some key, .ok v L2 => if kvs.length < 16777216 then .ok (.dK (putD kvs key v)) L2 else .bad
    | _, _ => .bad)
  | _, _ => .bad
noncomputable def stepN (it : IF) (vs : List Nat) (tg : GF) (t : TF) (step : CS) : CS := fun ρ c L => match it ρ L with
  | .ok its L1 => cGo its.src tg t step (wipeE ρ vs) its.ds c L1
  | _ => .bad
def boxOut (box : Bool) (c : D) (L : Sto) : Res D := if box = true then .ok (.loc L.length) (L ++ [c]) else .ok c L
noncomputable def eComp (box : Bool) (own : List Nat) (init : D) (it : IF) (tg : GF) (t : TF) (step : CS) : EF := fun ρ L => match it ρ L with
  | .ok its L1 => (cGo its.src tg t step (wipeE ρ own) its.ds init L1).bind (boxOut box)
  | .err c p L1 => .err c p L1
  | .bad => .bad
noncomputable def eCompO (out : D → Sto → Res D) (own : List Nat) (init : D) (it : IF) (tg : GF) (t : TF) (step : CS) : EF := fun ρ L => match it ρ L with
  | .ok its L1 => (cGo its.src tg t step (wipeE ρ own) its.ds init L1).bind out
  | .err c p L1 => .err c p L1
  | .bad => .bad
abbrev TB := St → Hp → (Hp → Prop) → Prop
def StepOk (G : Gb) (Dd : Addr) (B : TB) (step : CS) : Prop := ∀ (w : Wd) (ρ : Env') (σ : St) (L : Sto) (H : Hp) (c : D) (o : HO) (c' : D) (L' : Sto) (Nx : Hp → Prop), Rel G w L H → EnvR G w σ ρ → w.prv Dd = some o → BoxD G w o c → step ρ c L = .ok c' L' →
  (∀ w' H' o', w.le0 w' → w'.prv = upd w.prv Dd o' → Rel G w' L' H' → BoxD G w' o' c' → Nx H') → B σ H Nx
def bStepL (te : TE) (Dd : Addr) : TB := fun σ H Nx => te σ H fun y H7 => ∃ acc, H7 Dd = some (.lst acc) ∧ acc.length < sizeLine ∧ Nx (upd H7 Dd (.lst (acc ++ [y])))
def bStepD (tk tv : TE) (Dd : Addr) : TB := fun σ H Nx => tk σ H fun y H4 => tv σ H4 fun z H5 => ∃ kvs k, y = kV k ∧ H5 Dd = some (.dK kvs) ∧ kvs.length < sizeLine ∧ Nx (upd H5 Dd (.dK (putK kvs k z)))
def tLvl (wi : TI) (g : TG) (tt : TT) (B : TB) (vs : List Nat) : TB := fun σ H Nx => wi σ H fun J1 H4 => ∃ W1 : Nat → Nat → Hp → Prop, (∃ m, W1 0 m H4) ∧ ∀ j k H, W1 j k H →
  (J1.stop j H ∧ Nx H) ∨ (J1.go j H ∧ ∃ Nx1 : Hp → Prop, (∀ H', Nx1 H' → ∃ k', k' < k ∧ W1 (j + 1) k' H') ∧ ∀ x H', J1.yld j H x H' → g x (wipe σ vs) H' fun σ3 H5 => wipe σ3 vs = wipe σ vs ∧ tt σ3 H5 fun b H6 =>
    if b = true then B σ3 H6 Nx1 else Nx1 H6)
section
variable {G : Gb} {Dd : Addr}
theorem stepL_ok {f : EF} : StepOk G Dd (bStepL (tR G (Den G) W0 f) Dd) (stepL f) := by
  intro w ρ σ L H c o c' L' Nx R e hp hb hs hN
  unfold stepL at hs
  split at hs
  · rename_i acc y L2 q
    split at hs
    · rename_i hz
      cases hs
      refine ⟨w, ρ, L, R, e, ?_⟩
      rw [q]
      intro w1 H1 v l1 R1 d1
      cases hb with
      | @lst vs ds r =>
        have hp1 : w1.prv Dd = some (.lst vs) := by rw [l1.same]; exact hp
        refine ⟨vs, (R1.prv _ _ hp1).1, by rw [r.length]; exact lineLt hz, hN ⟨w1.F, w1.φ, upd w1.prv Dd (.lst (vs ++ [v]))⟩ _ (.lst (vs ++ [v])) (l1.tole0.trans (Wd.prv_le _ _)) (by rw [l1.same]) (R1.putP hp1) (.lst (((r.le l1).snoc d1).le0 (Wd.prv_le _ _)))⟩
    · cases hs
  · cases hs
theorem stepD_ok {fk fv : EF} : StepOk G Dd (bStepD (tR G (Den G) W0 fk) (tR G (Den G) W0 fv) Dd) (stepD fk fv) := by
  intro w ρ σ L H c o c' L' Nx R e hp hb hs hN
  unfold stepD at hs
  split at hs
  · rename_i kds k L1 q
    split at hs
    · rename_i key v L2 hk q2
      split at hs
      · rename_i hz
        cases hs
        refine ⟨w, ρ, L, R, e, ?_⟩
        rw [q]
        intro w1 H1 u l1 R1 d1
        refine ⟨w1, ρ, L1, R1, e.le l1, ?_⟩
        rw [q2]
        intro w2 H2 z l2 R2 d2
        cases hb with
        | @dK vs ds r =>
          have hp2 : w2.prv Dd = some (.dK vs) := by rw [l2.same, l1.same]; exact hp
          have l12 := l1.trans l2
          refine ⟨vs, key, d1.key hk, (R2.prv _ _ hp2).1, by rw [r.length]; exact lineLt hz, hN ⟨w2.F, w2.φ, upd w2.prv Dd (.dK (putK vs key z))⟩ _ (.dK (putK vs key z)) (l12.tole0.trans (Wd.prv_le _ _)) (by rw [l12.same]) (R2.putP hp2) (.dK (((r.le l12).put d2).le0 (Wd.prv_le _ _)))⟩
      · cases hs
    · cases hs
  · cases hs
theorem loop_ok {B : TB} {step : CS} (hB : StepOk G Dd B step) {its : Its} {J : It} {w1 : Wd} {L1 : Sto} {H1 : Hp} {o : HO} {c c' : D} {L' : Sto} {σ : St} {ρ : Env'} {own : List Nat} {ft : GF} {t : TF} {Nx : Hp → Prop}
    (io : ItOk G w1 its.src J its.ds) (R1 : Rel G w1 L1 H1) (so : srcOk L1 its.src) (hp : w1.prv Dd = some o) (hb : BoxD G w1 o c) (ew : EnvR G w1 (wipe σ own) (wipeE ρ own)) (hgo : cGo its.src ft t step (wipeE ρ own) its.ds c L1 = .ok c' L')
    (hN : ∀ w' H' o', w1.le0 w' → w'.prv = upd w1.prv Dd o' → Rel G w' L' H' → BoxD G w' o' c' → Nx H') :
    ∃ W : Nat → Nat → Hp → Prop, (∃ m, W 0 m H1) ∧ ∀ i m H, W i m H → (J.stop i H ∧ Nx H) ∨ (J.go i H ∧ ∃ Nx1 : Hp → Prop, (∀ H', Nx1 H' → ∃ m', m' < m ∧ W (i + 1) m' H') ∧ ∀ x H', J.yld i H x H' →
      tG G own ft x (wipe σ own) H' fun σ2 H2 => wipe σ2 own = wipe σ own ∧ tR G eqR W0 t σ2 H2 fun b H3 => if b = true then B σ2 H3 Nx1 else Nx1 H3) := by
  refine ⟨fun i m H => ∃ (w2 : Wd) (L2 : Sto) (o2 : HO) (c2 : D), w1.le0 w2 ∧ w2.prv = upd w1.prv Dd o2 ∧ Rel G w2 L2 H ∧ srcOk L2 its.src ∧ BoxD G w2 o2 c2 ∧ i ≤ its.ds.length ∧ m = its.ds.length - i ∧ cGo its.src ft t step (wipeE ρ own) (its.ds.drop i) c2 L2 = .ok c' L', ?_, ?_⟩
  · refine ⟨its.ds.length, w1, L1, o, c, .refl _, ?_, R1, so, hb, Nat.zero_le _, by simp, hgo⟩
    funext a
    unfold upd
    split
    · rename_i h; rw [h]; exact hp
    · rfl
  · rintro i m H ⟨w2, L2, o2, c2, l2, pv2, R2, so2, hb2, hi, rfl, p2⟩
    obtain ⟨k1, k2⟩ := io w2 L2 H l2 R2 so2 i
    by_cases hlt : i < its.ds.length
    · have hd : its.ds[i]? = some its.ds[i] := List.getElem?_eq_getElem hlt
      obtain ⟨g1, g2⟩ := k1 _ hd
      rw [List.drop_eq_getElem_cons hlt] at p2
      refine .inr ⟨g1, fun H => ∃ (w2 : Wd) (L2 : Sto) (o2 : HO) (c2 : D), w1.le0 w2 ∧ w2.prv = upd w1.prv Dd o2 ∧ Rel G w2 L2 H ∧ srcOk L2 its.src ∧ BoxD G w2 o2 c2 ∧ cGo its.src ft t step (wipeE ρ own) (its.ds.drop (i + 1)) c2 L2 = .ok c' L',
        fun H' ⟨w2, L2, o2, c2, x1, x2, x3, x4, x5, x6⟩ => ⟨its.ds.length - (i + 1), by omega, w2, L2, o2, c2, x1, x2, x3, x4, x5, hlt, rfl, x6⟩, fun x H' y => ?_⟩
      obtain ⟨w3, l3, R3, d3⟩ := g2 x H' y
      unfold cGo at p2
      cases qt : ft its.ds[i] (wipeE ρ own) with
      | none => simp only [qt] at p2; cases p2
      | some ρ3 =>
        simp only [qt] at p2
        have l13 : w1.le0 w3 := l2.trans l3.tole0
        refine ⟨w3, wipeE ρ own, L2, _, ρ3, R3, ew.le0 l13, d3, qt, fun σ3 e3 hw => ⟨hw.trans wipe_idem, w3, ρ3, L2, R3, e3, ?_⟩⟩
        cases qq : t ρ3 L2 with
        | bad => simp only [qq] at p2; cases p2
        | err _ _ _ => simp only [qq] at p2; cases p2
        | ok b L3 =>
          intro w4 H4 b' l4 R4 hb'
          subst hb'
          have pv4 : w4.prv = upd w1.prv Dd o2 := by rw [l4.same, l3.same]; exact pv2
          cases b' with
          | false =>
            simp only [qq] at p2
            rw [if_neg (by decide)]
            split at p2
            · rename_i hso
              exact ⟨w4, L3, o2, c2, l13.trans l4.tole0, pv4, R4, hso, (hb2.le0 l3.tole0).le0 l4.tole0, p2⟩
            · cases p2
          | true =>
            simp only [qq] at p2
            rw [if_pos rfl]
            cases qs : step ρ3 c2 L3 with
            | bad => simp only [qs] at p2; cases p2
            | err _ _ _ => simp only [qs] at p2; cases p2
            | ok c3 L4 =>
              simp only [qs] at p2
              split at p2
              · rename_i hso
                refine hB w4 ρ3 σ3 L3 H4 c2 o2 c3 L4 _ R4 (e3.le l4) (by rw [pv4]; exact upd_same) ((hb2.le0 l3.tole0).le0 l4.tole0) qs fun w5 H5 o5 l5 pv5 R5 hb5 => ?_
                exact ⟨w5, L4, o5, c3, (l13.trans l4.tole0).trans l5, by rw [pv5, pv4, upd_upd], R5, hso, hb5, p2⟩
              · cases p2
    · have hd : i = its.ds.length := by omega
      rw [List.drop_eq_nil_of_le (by omega)] at p2
      unfold cGo at p2
      cases p2
      exact .inl ⟨k2 hd, hN w2 H o2 l2 pv2 R2 hb2⟩
theorem lvl_ok {B : TB} {step : CS} (hB : StepOk G Dd B step) {fi : IF} {ft : GF} {t : TF} {own : List Nat} : StepOk G Dd (tLvl (tI G W0 fi) (tG G own ft) (tR G eqR W0 t) B own) (stepN fi own ft t step) := by
  intro w ρ σ L H c o c' L' Nx R e hp hb hs hN
  unfold stepN at hs
  refine ⟨w, ρ, L, R, e, ?_⟩
  cases q : fi ρ L with
  | bad => simp only [q] at hs; cases hs
  | err _ _ _ => simp only [q] at hs; cases hs
  | ok its L1 =>
    simp only [q] at hs
    intro w1 H1 J l1 R1 so io
    have hp1 : w1.prv Dd = some o := by rw [l1.same]; exact hp
    exact loop_ok hB io R1 so hp1 (hb.le l1) ((e.le l1).wipe own) hs fun w' H' o' l' pv' R' hb' => hN w' H' o' (l1.tole0.trans l') (by rw [pv', l1.same]) R' hb'
theorem ItOk.mono {w0 w : Wd} (l : w0.le0 w) {s : List (Nat × D)} {J : It} {ds : List D} (h : ItOk G w0 s J ds) : ItOk G w s J ds := fun w' L' H' l' R' so' i => h w' L' H' (l.trans l') R' so' i
theorem boxOut_end {w0 w : Wd} {L : Sto} {H : Hp} {o : HO} {c : D} {Q : VK} {E : XK} {box : Bool} (p : Post G (Den G) w0 (boxOut box c L) Q E) (R : Rel G w L H) (l : w0.le0 w) (hp : w.prv Dd = some o)
    (hq : ∀ a u, w0.prv a = some u → a ≠ Dd ∧ w.prv a = some u) (hb : BoxD G w o c) : Q (.ref Dd) H := by
  unfold boxOut at p
  cases box with
  | true =>
    rw [if_pos rfl] at p
    obtain ⟨Rz, lz⟩ := R.outB hp hb w0.prv hq
    refine p _ H (.ref Dd) ⟨l.trans lz, rfl⟩ Rz (.loc ?_)
    show (w.φ ++ [Dd])[L.length]? = some Dd
    rw [← R.len, List.getElem?_append_right (Nat.le_refl _)]
    simp
  | false =>
    rw [if_neg (by decide)] at p
    obtain ⟨Rz, lz⟩ := R.outP hp w0.prv hq
    refine p _ H (.ref Dd) ⟨l.trans lz, rfl⟩ Rz ?_
    have hb' := hb.le0 lz
    cases hb' with
    | lst r => exact .lst upd_same r
    | dK r => exact .dK upd_same r
    | dT r => exact .dT upd_same r
    | ins m r => exact .ins upd_same m r
end
section
variable {S : Sc} {W : WX} {a b e c tg iter elt tg1 iter1 kx vx : Expr} {es ifs ifs1 : List Expr} {fa fb f fk fv : EF} {pos : Pos}
theorem tTop_gen {out : D → Sto → Res D} {Qx : Addr → Hp → Prop} {own : List Nat} {fi : IF} {ft : GF} {t : TF} {init : D} {oi : HO} {step : CS} {B : Addr → TB} {σ : St} {H : Hp} {Q : VK} (hB : ∀ Dd, StepOk S.g Dd (B Dd) step) (hi : ∀ w, BoxD S.g w oi init)
    (q : tR S.g (Den S.g) W (eCompO out own init fi ft t step) σ H Q)
    (hout : ∀ (w0 w : Wd) (L : Sto) (H : Hp) (o : HO) (c : D) (Dd : Addr), Post S.g (Den S.g) w0 (out c L) Q (fun c dx H' => W c dx σ H') → Rel S.g w L H → w0.le0 w → w.prv Dd = some o → (∀ a u, w0.prv a = some u → a ≠ Dd ∧ w.prv a = some u) → BoxD S.g w o c → Qx Dd H) :
    tI S.g W fi σ H fun J H1 => ∀ D, H1 D = none → ∃ W1 : Nat → Nat → Hp → Prop, (∃ m, W1 0 m (upd H1 D oi)) ∧ ∀ i m H, W1 i m H →
      (J.stop i H ∧ Qx D H) ∨ (J.go i H ∧ ∃ Nx : Hp → Prop, (∀ H', Nx H' → ∃ m', m' < m ∧ W1 (i + 1) m' H') ∧ ∀ x H', J.yld i H x H' → tG S.g own ft x (wipe σ own) H' fun σ2 H2 => wipe σ2 own = wipe σ own ∧ tR S.g eqR W0 t σ2 H2 fun b H3 =>
        if b = true then B D σ2 H3 Nx else Nx H3) := by
  obtain ⟨w, ρ, L, R, e, p⟩ := q
  refine ⟨w, ρ, L, R, e, ?_⟩
  unfold eCompO at p
  cases q : fi ρ L with
  | bad => rw [q] at p; exact p
  | err c x L1 => rw [q] at p; exact p
  | ok its L1 =>
    rw [q] at p
    dsimp only at p
    intro w1 H1 J l1 R1 so io Dd hD
    have ew := (e.le l1).wipe own
    have R2 := R1.newP (o := oi) hD
    have l2 : w1.le0 ⟨w1.F, w1.φ, upd w1.prv Dd oi⟩ := Wd.prv_le _ _
    cases qg : cGo its.src ft t step (wipeE ρ own) its.ds init L1 with
    | bad => rw [qg] at p; exact p.elim
    | err _ _ _ =>
      exfalso
      revert qg
      generalize init = c0
      generalize L1 = Lz
      intro qg
      have : ∀ (ds : List D) (c : D) (L : Sto) (x : Str) (pp : List (Str × D)) (L' : Sto), cGo its.src ft t step (wipeE ρ own) ds c L ≠ .err x pp L' := by
        intro ds
        induction ds with
        | nil => intro c L x pp L' h; unfold cGo at h; cases h
        | cons d ds ih =>
          intro c L x pp L' h
          unfold cGo at h
          split at h
          · cases h
          · split at h
            · split at h
              · split at h
                · exact ih _ _ _ _ _ h
                · cases h
              · cases h
            · split at h
              · exact ih _ _ _ _ _ h
              · cases h
            · cases h
      exact this _ _ _ _ _ _ qg
    | ok c' L' =>
      rw [qg] at p
      refine loop_ok (hB Dd) (io.mono l2) R2 so upd_same (hi _) (ew.le0 l2) qg fun w' H' o' l' pv' R' hb' => ?_
      have p1 := Post.le l1 p
      refine hout _ _ _ _ _ _ _ p1 R' (l2.trans l') (by rw [pv']; exact upd_same) (fun a u h => ?_) hb'
      have na : a ≠ Dd := fun z => by rw [z] at h; rw [(R1.prv _ _ h).1] at hD; cases hD
      exact ⟨na, by rw [pv', upd_ne na]; show upd w1.prv Dd oi a = some u; rw [upd_ne na]; exact h⟩
theorem tTop_of {own : List Nat} {fi : IF} {ft : GF} {t : TF} {box : Bool} {init : D} {oi : HO} {step : CS} {B : Addr → TB} {σ : St} {H : Hp} {Q : VK} (hB : ∀ Dd, StepOk S.g Dd (B Dd) step) (hi : ∀ w, BoxD S.g w oi init)
    (q : tR S.g (Den S.g) W (eComp box own init fi ft t step) σ H Q) :
    tI S.g W fi σ H fun J H1 => ∀ D, H1 D = none → ∃ W1 : Nat → Nat → Hp → Prop, (∃ m, W1 0 m (upd H1 D oi)) ∧ ∀ i m H, W1 i m H →
      (J.stop i H ∧ Q (.ref D) H) ∨ (J.go i H ∧ ∃ Nx : Hp → Prop, (∀ H', Nx H' → ∃ m', m' < m ∧ W1 (i + 1) m' H') ∧ ∀ x H', J.yld i H x H' → tG S.g own ft x (wipe σ own) H' fun σ2 H2 => wipe σ2 own = wipe σ own ∧ tR S.g eqR W0 t σ2 H2 fun b H3 =>
        if b = true then B D σ2 H3 Nx else Nx H3) :=
  tTop_gen (out := boxOut box) (Qx := fun D H => Q (.ref D) H) hB hi q fun _ _ _ _ _ _ _ p R l hp hq hb => boxOut_end p R l hp hq hb
theorem se_lc2 {fi fi1 : IF} {ft ft1 : GF} {t t1 : TF} (box : Bool) {scope : Scope} (own : List (Str × Nat)) (vs1 : List Nat) (hN : S.N.Nodup) (hi : SI S W tg iter fi) (ok : blkC S.N S.sc scope own = true) (hv : ∀ i ∈ vs1, i ∈ own.map (·.2))
    (hg : SG (S.blk scope) W0 (own.map (·.2)) tg ft) (ht : STs (S.blk scope) W0 ifs t) (hi1 : SI (S.blk scope) W0 tg1 iter1 fi1) (hg1 : SG (S.blk scope) W0 vs1 tg1 ft1) (ht1 : STs (S.blk scope) W0 ifs1 t1) (he : SE (S.blk scope) W0 elt f)
    (hs : ∀ env x, foldedSetIterable iter env x = pure x := by intro _ _; rfl) (hs1 : ∀ env x, foldedSetIterable iter1 env x = pure x := by intro _ _; rfl) :
    SE S W (.ListComp elt [⟨tg, iter, ifs, 0⟩, ⟨tg1, iter1, ifs1, 0⟩] scope pos) (eComp box (own.map (·.2)) (.lst []) fi ft t (stepN fi1 vs1 ft1 t1 (stepL f))) := fun X h =>
  PE.imp (pe_lc2 (own := own) h.calm (by rw [← h.N]; exact hN) (hi X h) (blkOk_by (by rw [← h.N, ← h.sc]; exact ok)) hv (fun s H C cl fp => hg _ (h.blk s H C cl fp)) (fun s H C cl fp => ht _ (h.blk s H C cl fp)) (fun s H C cl fp => hi1 _ (h.blk s H C cl fp))
    (fun s H C cl fp => hg1 _ (h.blk s H C cl fp)) (fun s H C cl fp => ht1 _ (h.blk s H C cl fp)) (fun s H C cl fp => he _ (h.blk s H C cl fp)) (hs _) hs1)
    fun σ H Q q => tTop_of (B := fun Dd => tLvl (tI S.g W0 fi1) (tG S.g vs1 ft1) (tR S.g eqR W0 t1) (bStepL (tR S.g (Den S.g) W0 f) Dd) vs1) (fun _ => lvl_ok stepL_ok) (fun _ => .lst .nil) q
end
abbrev ClzTurn (comp : Expr) (k : Nat) (ipos : Pos) (tg : Expr) (ifs : List Expr) (body : Value → Env → Sem Fin → Sem Fin) : Prop := ∀ (it acc : Value) (env : Env), compTurn comp k it acc env = (do
  standAt ipos
  match ← pyNext it with
  | none => pure (.done .next)
  | some v =>
    letOwnedTupleGo tg it v
    assign tg env v
    let mut ok := true
    for c in ifs do
      if ok then ok ← isTrue c env (eval c env)
    if ok then
      body acc env (again (.compLoop comp k it acc env))
    else again (.compLoop comp k it acc env))
structure CompDen (comp : Expr) : Prop where
  loop : ∀ (prog : Program) (w : World) (k : Nat) (it acc : Value) (env : Env), (model prog w).den (.compLoop comp k it acc env) = (compTurn comp k it acc env).onRaise (fun x => do noteFrame x env; theTreesLotGoes x)
  start : ∀ (prog : Program) (w : World) (k : Nat) (it acc : Value) (env : Env), (model prog w).den (.compStart comp k it acc env) = (compStart comp k it acc env).onRaise (fun x => do noteFrame x env; standAt theWindowsPlace)
  loopA : ∀ (A : Around) (k : Nat) (it acc : Value) (env : Env), A.under (.compLoop comp k it acc env) = A
  startA : ∀ (A : Around) (k : Nat) (it acc : Value) (env : Env), A.under (.compStart comp k it acc env) = A
def inBody (comp : Expr) (k : Nat) (iter : Expr) : Value → Env → Sem Fin → Sem Fin := fun acc env cont => do
  let x ← eval iter env
  standAt iter.pos
  let x ← foldedSetIterable iter env x
  let _ ← runOwn (.compStart comp k (← holding [x] (pyIter x)) acc env) env
  cont
section
variable {prog : Program} {w : World} {A : Around} {R : Result → Shared → Prop} {s : Shared} {comp tg : Expr} {k : Nat} {ipos : Pos} {ifs : List Expr} {body : Value → Env → Sem Fin → Sem Fin} {it acc : Value} {env : Env}
theorem compLoopG (M : CompDen comp) (C : ClzTurn comp k ipos tg ifs body) (I : Nat → Shared → Prop)
    (turn : ∀ n s, I n s → wpAny (model prog w) A (pyNext it) (fun r s₁ => match r with
      | none => R (.ok .next) s₁
      | some v => wpAny (model prog w) A (letOwnedTupleGo tg it v) (fun _ s₁' => wpAny (model prog w) A (assign tg env v) (fun _ s₂ =>
          wpAny (model prog w) A (forIn ifs true fun c r => if r = true then do let ok ← isTrue c env (eval c env); pure (ForInStep.yield ok) else pure (ForInStep.yield r)) (fun ok s₃ =>
            if ok = true then wpAny (model prog w) A (body acc env (again (.compLoop comp k it acc env))) (fun fin s₄ => fin = .again (.compLoop comp k it acc env) ∧ ∃ m, m < n ∧ I m s₄) (notedBy (model prog w) A env fun e s' => R (.error e) s') s₃
            else ∃ m, m < n ∧ I m s₃) (notedBy (model prog w) A env fun e s' => R (.error e) s') s₂) (notedBy (model prog w) A env fun e s' => R (.error e) s') s₁') (notedBy (model prog w) A env fun e s' => R (.error e) s') s₁) (notedBy (model prog w) A env fun e s' => R (.error e) s') s)
    (n : Nat) (h : I n s) : codeAny (model prog w) A (.compLoop comp k it acc env) R s := by
  refine codeAny_loop rfl I (fun n s hI => ?_) n h
  rw [M.loop, M.loopA]
  refine wpAny_noted ?_
  rw [C]
  refine wpAny_bind (wpAny_standAt (wpAny_bind (wpAny_mono (turn n s hI) (fun r s₁ h₁ => ?_) fun _ _ h' => h')))
  cases r with
  | none => exact wpAny_pure h₁
  | some v =>
    refine wpAny_bind (wpAny_mono h₁ (fun _ s₁' h₁' => ?_) fun _ _ h' => h')
    refine wpAny_bind (wpAny_mono h₁' (fun _ s₂ h₂ => wpAny_bind (wpAny_mono h₂ (fun ok s₃ h₃ => ?_) fun _ _ h' => h')) fun _ _ h' => h')
    cases ok with
    | false => exact wpAny_pure ⟨rfl, h₃⟩
    | true =>
      refine wpAny_mono h₃ (fun fin s₄ h₄ => ?_) fun _ _ h' => h'
      obtain ⟨e, h4⟩ := h₄
      subst e
      exact ⟨rfl, h4⟩
theorem compStartG (M : CompDen comp) {t0 i0 : Expr} {ifs0 : List Expr} (hk : (clausesOf comp)[k]? = some ⟨t0, i0, ifs0, 0⟩) (h0 : codeAny (model prog w) A (.compLoop comp k it acc env) R s)
    (h : wpAny (model prog w) A (pyIter it) (fun it' s' => codeAny (model prog w) A (.compLoop comp k it' acc env) R s') (notedBy (model prog w) A env fun x s' => R (.error x) s') s) :
    codeAny (model prog w) A (.compStart comp k it acc env) R s := by
  refine codeAny_of_tree ?_
  rw [M.start, M.startA]
  refine wpAny_notedAt ?_
  unfold compStart
  rw [hk]
  show wpAny _ _ (ask >>= _) _ _ s
  refine wpAny_bind (wpAny_askSetting (wpAny_ite ?_))
  split
  · first
      | exact wpAny_bind (wpAny_pure (wpAny_pure (And.intro rfl h0)))
      | exact wpAny_pure (And.intro rfl h0)
  · first
      | exact wpAny_bind (wpAny_rule (wpAny_bind (wpAny_standAt (wpAny_bind (wpAny_mono h (fun it' s' h' => wpAny_pure (And.intro rfl h')) fun _ _ x => x)))))
      | (refine wpAny_bind (wpAny_rule ?_); show wpAny _ _ (standAt i0.pos >>= _) _ _ s; exact wpAny_bind (wpAny_standAt (wpAny_bind (wpAny_mono h (fun it' s' h' => wpAny_pure (And.intro rfl h')) fun _ _ x => x))))
end
def Body (X : Cx) (vs : List Nat) (B : TB) (m : Sem Fin → Sem Fin) : Prop := ∀ (pins : List (Addr × Obj)) (s : Shared) (σ : St) (H : Hp) (Nx : Hp → Prop) (cont : Sem Fin) (Qf : Fin → Shared → Prop) (E : Value → Shared → Prop), Inv X pins σ H s → B σ H Nx →
  (∀ s' H', Inv X pins (wipe σ vs) H' s' → Nx H' → wpAny (model X.prog X.w) X.A cont Qf E s') → wpAny (model X.prog X.w) X.A (m cont) Qf E s
theorem weak_wipe {X : Cx} {pins : List (Addr × Obj)} {σ : St} {H : Hp} {s : Shared} (vs : List Nat) (I : Inv X pins σ H s) : Inv X pins (wipe σ vs) H s := I.weak (wipe_length _ _) fun j v e => (wipe_some e).1
section
variable {X : Cx} {te tk tv : TE} {elt kx vx : Expr}
def bodyD (kx vx : Expr) : Value → Env → Sem Fin → Sem Fin := fun acc env cont => do
  (do
    let kv ← eval kx env
    let vv ← holding [kv] (eval vx env)
    match acc with
    | .ref d => do
      standAt { kx.pos with endLine := vx.pos.endLine, endCol := vx.pos.endCol }
      holding [kv, vv] (dictSet d kv vv)
    | _ => unsupported "internal:dictcomp")
  cont
theorem body_dict (hx : X.xe = fun _ _ => False) (hk : PE X kx tk) (hv : PE X vx tv) (D : Addr) : Body X [] (bStepD tk tv D) (bodyD kx vx (.ref D) X.env) := fun pins s σ H Nx cont Qf E I h hc => by
  have r := hk.run pins s σ H _ I h
  rw [hx] at r
  refine wpAny_bind (wpAny_bind (thnF r fun v s1 ⟨y, H1, I1, ry, h1⟩ => ?_))
  have r2 := hv.run pins s1 σ H1 _ I1 h1
  rw [hx] at r2
  refine wpAny_bind (wpAny_holding (thnF r2 fun u s2 ⟨z, H2, I2, rz, kvs, k, ek, hD, hz, nx⟩ => ?_))
  subst ek
  exact wpAny_bind (wpAny_standAt (wpAny_holding (d_dictSet I2 hD hz ry rz fun s3 I3 => hc _ _ I3 nx)))
theorem loop_body {comp tg iter : Expr} {k : Nat} {ipos : Pos} {ifs : List Expr} {body : Value → Env → Sem Fin → Sem Fin} {D : Addr} {wi : TI} {g : TG} {tt : TT} {B : TB} {vs vd : List Nat} (hx : X.xe = fun _ _ => False) (hc : X.calm = true) (M : CompDen comp) (C : ClzTurn comp k ipos tg ifs body) (hk : (clausesOf comp)[k]? = some ⟨tg, iter, ifs, 0⟩)
    (hi : PI X tg iter wi) (hg : PG X tg g) (ht : PTs X ifs tt) (hB : Body X vd B (body (.ref D) X.env)) (hd : ∀ i ∈ vd, i ∈ vs) (hs : ∀ x, foldedSetIterable iter X.env x = pure x) :
    Body X vs (tLvl wi g tt B vs) (inBody comp k iter (.ref D) X.env) := fun pins s σ H Nx cont Qf E I h hcont => by
  have r := hi.run pins s σ H _ I h
  rw [hx] at r
  refine wpAny_bind (thnF r fun xv s1 hx1 => ?_)
  refine wpAny_bind (wpAny_standAt (wpAny_bind (wpAny_of_eq (hs xv) ?_)))
  refine wpAny_bind (wpAny_holding (thnF hx1 fun itv s2 h2 => ?_))
  obtain ⟨it, fp, tn, J, H2, e, I2, T, st2, f2, W, ⟨m0, w0⟩, turn⟩ := h2
  subst e
  have stat : ∀ {H' : Hp}, (∀ b ∈ fp, H' b = none) → ∀ b ∈ fp, FpOk X pins H' b := fun hn b hb => ⟨hn b hb, (f2 b hb).2⟩
  have loop : codeAny (model X.prog X.w) X.A (.compLoop comp k (.ref it) (.ref D) X.env) (fun r s' => match r with
      | .ok _ => ∃ H', Inv X pins (wipe σ vs) H' s' ∧ Nx H'
      | .error _ => False) s2 := by
    refine compLoopG M C (fun n s' => ∃ i H', Inv X pins (wipe σ vs) H' s' ∧ tn i s'.heap ∧ (∀ b ∈ fp, H' b = none) ∧ W i n H') ?_ m0 ⟨0, H2, weak_wipe vs I2, st2, fun b hb => (f2 b hb).1, w0⟩
    rintro n s5 ⟨i, H5, I5, st5, n5, w5⟩
    rcases turn i n H5 w5 with ⟨stop, nx⟩ | ⟨go, Nx1, hNx, step⟩
    · refine thnF (T.done X rfl rfl rfl hc i _ s5 (wipe σ vs) H5 (fun _ _ => False) I5 (stat n5) st5 stop) fun r s6 ⟨hr, I6⟩ => ?_
      subst hr
      exact ⟨H5, I6, nx⟩
    · refine thnF (T.item X rfl rfl rfl hc i _ s5 (wipe σ vs) H5 (fun _ _ => False) I5 (stat n5) st5 go) fun r s6 ⟨u, hr, h6⟩ => ?_
      subst hr
      refine thnF h6 fun _ s7 ⟨x, H7, I7, r7, y7, st7, n7⟩ => ?_
      have I7' := I7.pinned (stat n7) (T.obj _ _ st7)
      have rg := hg.run _ s7 (wipe σ vs) H7 x u _ I7' r7 (step x H7 y7)
      rw [hx] at rg
      refine thnF rg fun _ s8 ⟨σ8, H8, I8, hw8, q8⟩ => ?_
      have rt := ht.run _ s8 σ8 H8 _ I8 q8
      rw [hx] at rt
      refine thnF rt fun b s9 ⟨H9, I9, q9⟩ => ?_
      have hw9 : wipe σ8 vs = wipe σ vs := hw8
      have fin : ∀ {σ9 : St} {s' : Shared} {H' : Hp}, Inv X (pins ++ pinsAt fp s7.heap) σ9 H' s' → (wipe σ vs).length = σ9.length → (∀ (j : Nat) v, (wipe σ vs)[j]? = some (some v) → σ9[j]? = some (some v)) → Nx1 H' →
          ∃ m, m < n ∧ ∃ i H', Inv X pins (wipe σ vs) H' s' ∧ tn i s'.heap ∧ (∀ b ∈ fp, H' b = none) ∧ W i m H' := fun {σ9 s' H'} I' hl hk nx => by
        obtain ⟨m', hm, w'⟩ := hNx H' nx
        have pin' : ∀ b ∈ fp, ∀ o, s7.heap.get? b = some o → s'.heap.get? b = some o ∧ H' b = none := fun b hb o e =>
          let z := I'.pin (b, o) (List.mem_append_right _ (List.mem_append_right _ (mem_pinsAt hb e)))
          ⟨z.1, z.2.1⟩
        refine ⟨m', hm, i + 1, H', I'.unpinned.weak hl hk, T.keep _ _ _ st7 fun b hb o e => (pin' b hb o e).1, fun b hb => ?_, w'⟩
        obtain ⟨o, e, _⟩ := T.obj _ _ st7 b hb
        exact (pin' b hb o e).2
      have hl8 : (wipe σ vs).length = σ8.length := by rw [← hw9, wipe_length]
      cases b with
      | false =>
        simp only [Bool.false_eq_true, if_false] at q9 ⊢
        exact fin I9 hl8 (fun j v e => by rw [← hw9] at e; exact (wipe_some e).1) q9
      | true =>
        simp only [if_true] at q9 ⊢
        refine hB _ s9 σ8 H9 _ _ _ _ I9 q9 fun s10 H10 I10 nx => ?_
        refine wpAny_pure ⟨rfl, ?_⟩
        refine fin I10 (by rw [wipe_length σ8 vd]; exact hl8) (fun j v e => ?_) nx
        rw [← hw9] at e
        obtain ⟨e1, e2⟩ := wipe_some e
        rw [wipe_out fun z => e2 (hd j z)]
        exact e1
  have start : codeAny (model X.prog X.w) X.A (.compStart comp k (.ref it) (.ref D) X.env) (fun r s' => match r with
      | .ok _ => ∃ H', Inv X pins (wipe σ vs) H' s' ∧ Nx H'
      | .error _ => False) s2 := compStartG M hk loop (T.self X.A 0 _ _ _ st2 loop)
  refine wpAny_bind (wpAny_runOwn ?_)
  rw [Around.mark_none]
  refine codeAny_mono start fun r s' hr => ?_
  cases r with
  | ok f =>
    obtain ⟨H', I', nx⟩ := hr
    first
      | exact wpAny_pure (hcont _ _ I' nx)
      | exact wpAny_bind (wpAny_pure (hcont _ _ I' nx))
      | exact hcont _ _ I' nx
  | error e => exact hr.elim
end
def tTop (wi : TI) (g : TG) (tt : TT) (B : Addr → TB) (o0 : HO) (vs : List Nat) : TE := fun σ H Q => wi σ H fun J H1 => ∀ D, H1 D = none → ∃ W : Nat → Nat → Hp → Prop, (∃ m, W 0 m (upd H1 D o0)) ∧ ∀ i m H, W i m H →
  (J.stop i H ∧ Q (.ref D) H) ∨ (J.go i H ∧ ∃ Nx : Hp → Prop, (∀ H', Nx H' → ∃ m', m' < m ∧ W (i + 1) m' H') ∧ ∀ x H', J.yld i H x H' → g x (wipe σ vs) H' fun σ2 H2 => wipe σ2 vs = wipe σ vs ∧ tt σ2 H2 fun b H3 =>
    if b = true then B D σ2 H3 Nx else Nx H3)
theorem comp_core {X : Cx} {pins : List (Addr × Obj)} {s : Shared} {σ : St} {H : Hp} {Q : VK} {comp tg iter : Expr} {ipos : Pos} {ifs : List Expr} {gs : List Comprehension} {body : Value → Env → Sem Fin → Sem Fin} {scope : Scope} {own : List (Str × Nat)} {vd : List Nat} {pos' : Pos} {wi : TI} {g : TG} {tt : TT} {B : Addr → TB} {use : Option (Value → Sem Unit)} {Qf : Value → Shared → Prop}
    {newAcc : Sem Value} {o0 : HO} {ob0 : Obj} (M : CompDen comp) (C : ClzTurn comp 0 ipos tg ifs body)
    (hcl : clausesOf comp = ⟨tg, iter, ifs, 0⟩ :: gs) (hacc : ∀ (A : Around) (E : Value → Shared → Prop) (s : Shared) (Q : Value → Shared → Prop), Q (.ref s.heap.objs.size) { s with heap := s.heap.push ob0 } → wpAny (model X.prog X.w) A newAcc Q E s)
    (hob : ∀ (H : Hp) (s : Shared), Inv X pins σ H s → ObjOk X.prog X.w (upd H s.heap.objs.size o0) (s.heap.push ob0) s.heap.objs.size o0)
    (hc : X.calm = true) (hN : X.N.Nodup) (I : Inv X pins σ H s) (hi : PI X tg iter wi) (ok : BlkOk X.N X.env.scope scope own) (hvd : ∀ i ∈ vd, i ∈ own.map (·.2))
    (hg : ∀ (s : Shared) (H : Hp) (C : Addr) (cl : List (Str × Addr)) (fp : List Addr), PG (X.blk s H scope (compEnvC scope cl C X.env) fp) tg g) (ht : ∀ (s : Shared) (H : Hp) (C : Addr) (cl : List (Str × Addr)) (fp : List Addr), PTs (X.blk s H scope (compEnvC scope cl C X.env) fp) ifs tt)
    (hB : ∀ (D : Addr) (s : Shared) (H : Hp) (C : Addr) (cl : List (Str × Addr)) (fp : List Addr), Body (X.blk s H scope (compEnvC scope cl C X.env) fp) vd (B D) (body (.ref D) (compEnvC scope cl C X.env)))
    (hs : ∀ x, foldedSetIterable iter X.env x = pure x)
    (h : tTop wi g tt B o0 (own.map (·.2)) σ H Q)
    (hRR : ∀ D C s' m H', Inv X pins σ H' s' → Q (.ref D) H' → s'.heap.Ns C m → FpOk X pins H' C → compPost (model X.prog X.w) X.A X.xe use Qf (.ref D) C (.ok .next) s') :
    wpAny (model X.prog X.w) X.A (comprehension comp scope X.env pos' newAcc false (eval iter X.env) use) Qf X.xe s := by
  have hfree : ∀ y ∈ scope.names, y.2 = .free → ∃ c, X.env.cells.lookup y.1 = some c := fun y hy e => by
    rcases ok.free y hy e with k | k
    · exact I.ok.has _ (.inl k)
    · exact I.ok.has _ (.inr k)
  refine wpAny_comprehension_free (use := use) hcl hs (closure_ok hfree) ok.kind (fun y hy e => by rw [ok.uniq y hy, e])
    (thn (hi.run pins s σ H _ I h) fun xv s1 hx => thn hx fun itv s2 h2 => ?_)
  obtain ⟨it, fp, tn, J, H2, e, I2, T, st2, f2, q⟩ := h2
  subst e
  refine hacc _ _ _ _ (newEnv_comp ?_)
  have hob2 := hob H2 s2 I2
  generalize hD : s2.heap.objs.size = D at hob2
  have hDn : H2 D = none := I2.hok.fresh (Nat.le_of_eq hD)
  obtain ⟨W, ⟨m0, w0⟩, turn⟩ := q D hDn
  generalize hs3 : ({ s2 with heap := s2.heap.push ob0 } : Shared) = s3
  have I3 : Inv X pins σ (upd H2 D o0) s3 := by
    rw [← hs3]
    exact I2.laid (t' := s2.toks) (fun b o e => Heap.get?_push_of_some _ e) (Nat.le_of_eq hD) hob2
  have h3 : s3.heap = s2.heap.push ob0 := by rw [← hs3]
  have sz : ∀ b ∈ fp, b < s2.heap.objs.size := fun b hb => by
    obtain ⟨o, e, _⟩ := T.obj _ _ st2 b hb
    exact Heap.lt_size e
  have f3 : ∀ b ∈ fp, FpOk X pins (upd H2 D o0) b ∧ b < s3.heap.objs.size := fun b hb => by
    have hlt := sz b hb
    refine ⟨⟨?_, (f2 b hb).2⟩, by rw [h3, Heap.size_push]; exact Nat.lt_succ_of_lt hlt⟩
    rw [upd_ne (by rw [← hD]; exact Nat.ne_of_lt hlt)]
    exact (f2 b hb).1
  have st3 : tn 0 s3.heap := T.keep _ _ _ st2 fun b _ o e => by rw [h3]; exact Heap.get?_push_of_some _ e
  have I4 := block_start I3 ok hN f3
  have pg := hg s3 (upd H2 D o0) s3.heap.objs.size (cellsFrom (s3.heap.objs.size + 1) scope.names (cloFrom X.env.cells scope.names [])) fp
  have pt := ht s3 (upd H2 D o0) s3.heap.objs.size (cellsFrom (s3.heap.objs.size + 1) scope.names (cloFrom X.env.cells scope.names [])) fp
  have pb := hB D s3 (upd H2 D o0) s3.heap.objs.size (cellsFrom (s3.heap.objs.size + 1) scope.names (cloFrom X.env.cells scope.names [])) fp
  show codeAny _ _ (.compStart comp 0 (.ref it) (.ref D) (compEnvC scope (cellsFrom (s3.heap.objs.size + 1) scope.names (cloFrom X.env.cells scope.names [])) s3.heap.objs.size X.env)) (compPost (model X.prog X.w) X.A X.xe use Qf (.ref D) s3.heap.objs.size) { s3 with heap := pushCells (s3.heap.push { cls := .type "dict", data := .dict #[] }) scope.names }
  have nfp : ∀ b ∈ fp, (upd H2 D o0) b = none := fun b hb => (f3 b hb).1.1
  generalize hce : compEnvC scope (cellsFrom (s3.heap.objs.size + 1) scope.names (cloFrom X.env.cells scope.names [])) s3.heap.objs.size X.env = ce at I4 pg pt pb ⊢
  have cL : ce.locals = s3.heap.objs.size := by subst hce; rfl
  generalize hH3 : upd H2 D o0 = H3 at I3 I4 pg pt pb w0 nfp f3
  generalize hs4 : ({ s3 with heap := pushCells (s3.heap.push { cls := .type "dict", data := .dict #[] }) scope.names } : Shared) = s4 at I4 ⊢
  have st4 : tn 0 s4.heap := T.keep _ _ _ st3 fun b _ o e => by rw [← hs4]; exact pushCells_keeps _ _ _ _ (Heap.get?_push_of_some _ e)
  have stat : ∀ {σ' : St} {H' : Hp} {s' : Shared}, Inv (X.blk s3 H3 scope ce fp) [] σ' H' s' → (∀ b ∈ fp, H' b = none) → ∀ b ∈ fp, FpOk (X.blk s3 H3 scope ce fp) [] H' b := fun {σ' H' s'} I' hn b hb =>
    ⟨hn b hb, (I'.ok.exf b hb).1, I'.ok.exfs b hb, .inl hb, fun x c e => (I'.ok.exf b hb).2 x c e, fun p hp => absurd (show p ∈ ([] : List (Addr × Obj)) ++ [] from hp) (by simp)⟩
  have loop : codeAny (model X.prog X.w) X.A (.compLoop comp 0 (.ref it) (.ref D) ce) (compPost (model X.prog X.w) X.A X.xe use Qf (.ref D) s3.heap.objs.size) s4 := by
    refine compLoopG M C (fun n s' => ∃ i H', Inv (X.blk s3 H3 scope ce fp) [] (wipe σ (own.map (·.2))) H' s' ∧ tn i s'.heap ∧ (∀ b ∈ fp, H' b = none) ∧ W i n H') ?_ m0 ⟨0, H3, I4, st4, nfp, w0⟩
    rintro n s5 ⟨i, H5, I5, st5, n5, w5⟩
    rcases turn i n H5 w5 with ⟨stop, qq⟩ | ⟨go, Nx, hNx, step⟩
    · have td := T.done (X.blk s3 H3 scope ce fp) rfl rfl rfl hc i [] s5 _ H5 (fun _ _ => False) I5 (stat I5 n5) st5 stop
      refine thnF td fun r s6 ⟨hr, I6⟩ => ?_
      subst hr
      have I7 : Inv X pins σ H5 s6 := I3.call' (ch := fp) I6.os I6.base I6.hok I6.bare fun b hb => ⟨(f3 b hb).1.2.2.2.1, (f3 b hb).1.2.1, (f3 b hb).1.2.2.2.2.1, (f3 b hb).1.2.2.2.2.2⟩
      have nC : H5 s3.heap.objs.size = none := by
        have z : H5 ce.locals = none := I6.free
        rw [cL] at z
        exact z
      obtain ⟨m, hn, _⟩ := I6.loc
      have hn : s6.heap.Ns ce.locals m := hn
      rw [cL] at hn
      exact hRR D s3.heap.objs.size s6 m H5 I7 qq hn (I3.fpOk (Nat.le_refl _) nC)
    · have ti := T.item (X.blk s3 H3 scope ce fp) rfl rfl rfl hc i [] s5 _ H5 (fun _ _ => False) I5 (stat I5 n5) st5 go
      refine thnF ti fun r s6 ⟨u, hr, h6⟩ => ?_
      subst hr
      refine thnF h6 fun _ s7 ⟨x, H7, I7, r7, y7, st7, n7⟩ => ?_
      have I7' := I7.pinned (stat I7 n7) (T.obj _ _ st7)
      refine thnF (pg.run _ s7 _ H7 x u _ I7' r7 (step x H7 y7)) fun _ s8 ⟨σ8, H8, I8, hw8, q8⟩ => ?_
      refine thnF (pt.run _ s8 σ8 H8 _ I8 q8) fun b s9 ⟨H9, I9, q9⟩ => ?_
      have fin : ∀ {σ9 : St} {s' : Shared} {H' : Hp}, Inv (X.blk s3 H3 scope ce fp) ([] ++ pinsAt fp s7.heap) σ9 H' s' → (wipe σ (own.map (·.2))).length = σ9.length → (∀ (j : Nat) v, (wipe σ (own.map (·.2)))[j]? = some (some v) → σ9[j]? = some (some v)) → Nx H' →
          ∃ m, m < n ∧ ∃ i H', Inv (X.blk s3 H3 scope ce fp) [] (wipe σ (own.map (·.2))) H' s' ∧ tn i s'.heap ∧ (∀ b ∈ fp, H' b = none) ∧ W i m H' := fun {σ9 s' H'} I' hl hk nx => by
        obtain ⟨m', hm, w'⟩ := hNx H' nx
        have pin' : ∀ b ∈ fp, ∀ o, s7.heap.get? b = some o → s'.heap.get? b = some o ∧ H' b = none := fun b hb o e =>
          let z := I'.pin (b, o) (List.mem_append_right _ (List.mem_append_right _ (mem_pinsAt hb e)))
          ⟨z.1, z.2.1⟩
        refine ⟨m', hm, i + 1, H', (I'.unpinned (pins := [])).weak hl hk, T.keep _ _ _ st7 fun b hb o e => (pin' b hb o e).1, fun b hb => ?_, w'⟩
        obtain ⟨o, e, _⟩ := T.obj _ _ st7 b hb
        exact (pin' b hb o e).2
      have hl8 : (wipe σ (own.map (·.2))).length = σ8.length := by rw [← hw8, wipe_length]
      cases b with
      | false =>
        simp only [Bool.false_eq_true, if_false] at q9 ⊢
        exact fin I9 hl8 (fun j v e => by rw [← hw8] at e; exact (wipe_some e).1) q9
      | true =>
        simp only [if_true] at q9 ⊢
        refine pb _ s9 σ8 H9 _ _ _ _ I9 q9 fun s10 H10 I10 nx => ?_
        refine wpAny_pure ⟨rfl, ?_⟩
        refine fin I10 (by rw [wipe_length σ8 vd]; exact hl8) (fun j v e => ?_) nx
        rw [← hw8] at e
        obtain ⟨e1, e2⟩ := wipe_some e
        rw [wipe_out fun z => e2 (hvd j z)]
        exact e1
  exact compStartG M (t0 := tg) (i0 := iter) (ifs0 := ifs) (by rw [hcl]; rfl) loop (T.self X.A 0 _ _ _ st4 loop)
theorem compDen_dict {kx vx : Expr} {gs : List Comprehension} {scope : Scope} {pos : Pos} : CompDen (.DictComp kx vx gs scope pos) := ⟨fun _ _ _ _ _ _ => rfl, fun _ _ _ _ _ _ => rfl, fun _ _ _ _ _ => rfl, fun _ _ _ _ _ => rfl⟩
section
variable {S : Sc} {W : WX} {kx vx elt tg iter tg1 iter1 tg2 iter2 : Expr} {ifs ifs1 ifs2 : List Expr} {f fk fv : EF} {pos : Pos}
theorem se_dc2 {fi fi1 : IF} {ft ft1 : GF} {t t1 : TF} (box : Bool) {scope : Scope} (own : List (Str × Nat)) (vs1 : List Nat) (hN : S.N.Nodup) (hi : SI S W tg iter fi) (ok : blkC S.N S.sc scope own = true) (hv : ∀ i ∈ vs1, i ∈ own.map (·.2))
    (hg : SG (S.blk scope) W0 (own.map (·.2)) tg ft) (ht : STs (S.blk scope) W0 ifs t) (hi1 : SI (S.blk scope) W0 tg1 iter1 fi1) (hg1 : SG (S.blk scope) W0 vs1 tg1 ft1) (ht1 : STs (S.blk scope) W0 ifs1 t1) (hk : SE (S.blk scope) W0 kx fk) (hx : SE (S.blk scope) W0 vx fv)
    (hs : ∀ env x, foldedSetIterable iter env x = pure x := by intro _ _; rfl) (hs1 : ∀ env x, foldedSetIterable iter1 env x = pure x := by intro _ _; rfl) :
    SE S W (.DictComp kx vx [⟨tg, iter, ifs, 0⟩, ⟨tg1, iter1, ifs1, 0⟩] scope pos) (eComp box (own.map (·.2)) (.dK []) fi ft t (stepN fi1 vs1 ft1 t1 (stepD fk fv))) := fun X h => by
  refine ⟨fun pins s σ H Q I q => ?_⟩
  rw [arm_eval_DictComp]
  have C0 : ClzTurn (.DictComp kx vx [⟨tg, iter, ifs, 0⟩, ⟨tg1, iter1, ifs1, 0⟩] scope pos) 0 iter.pos tg ifs (inBody (.DictComp kx vx [⟨tg, iter, ifs, 0⟩, ⟨tg1, iter1, ifs1, 0⟩] scope pos) 1 iter1) := fun _ _ _ => by rfl
  have C1 : ClzTurn (.DictComp kx vx [⟨tg, iter, ifs, 0⟩, ⟨tg1, iter1, ifs1, 0⟩] scope pos) 1 iter1.pos tg1 ifs1 (bodyD kx vx) := fun _ _ _ => by rfl
  have q2 := tTop_of (B := fun Dd => tLvl (tI S.g W0 fi1) (tG S.g vs1 ft1) (tR S.g eqR W0 t1) (bStepD (tR S.g (Den S.g) W0 fk) (tR S.g (Den S.g) W0 fv) Dd) vs1) (fun _ => lvl_ok stepD_ok) (fun _ => .dK .nil) q
  refine comp_core (vd := vs1) (own := own) (o0 := .dK []) (ob0 := { cls := .type "dict", data := .dict #[] }) (use := none) compDen_dict C0 rfl (fun A E s Q q => wpAny_newObj_type q) (fun H s I => dk_empty s.heap I.big) h.calm (by rw [← h.N]; exact hN) I (hi X h) (blkOk_by (by rw [← h.N, ← h.sc]; exact ok)) hv
    (fun s H C cl fp => hg _ (h.blk s H C cl fp)) (fun s H C cl fp => ht _ (h.blk s H C cl fp)) (fun D s H C cl fp => ?_) (hs _) q2 fun D C s' m H' I' q hn f => ⟨m, hn, fun h'' sb => ?_⟩
  · have hb := h.blk (scope := scope) s H C cl fp
    exact loop_body rfl hb.calm compDen_dict C1 rfl (hi1 _ hb) (hg1 _ hb) (ht1 _ hb) (body_dict rfl (hk _ hb) (hx _ hb) D) (fun i hi => nomatch hi) (hs1 _)
  · obtain ⟨f0, f1, f2, f3, f4, f5⟩ := f
    exact ⟨.ref D, H', I'.turned (t' := s'.toks) (fun b o hb e => (sb.2 b hb).trans e) f0 f1 f3 f4 f5, rfl, q⟩
end
structure FnX (gd : Bool) (P : Program) (w : World) (K : PySem.W.Frag) (mg : Str → Option Value) (base : Heap) (CX : CXT) (k : Nat) (f : Addr) (fd : FuncData) (ps : List Str) (sp : Sp) : Prop where
  len : ∀ vs H Q E, sp vs H Q E → vs.length = ps.length
  run : ∀ (A : Around) (outer : List Env) (s : Shared) (H : Hp) (args : Args) (us : List Value) (vs : List V) (Q : VK) (E : XK), Room k A → (gd = true → A.guards = some []) → Env0 P w K mg base A outer s H → BindsTo s fd args (ps.zip us) → Vals vs us → sp vs H Q E →
    codeAny (model P w) A (.call (.ref f) args) (CR CX outer P w H s Q E) s
section
variable {P : Program} {w : World} {K : PySem.W.Frag} {mg : Str → Option Value} {base : Heap} {CX : CXT} {k : Nat} {f : Addr} {fd : FuncData} {ps : List Str} {sp : Sp} {gd : Bool}
theorem FnX.ok (F : FnX false P w K mg base CX k f fd ps sp) : FnOk P w K mg base CX k f fd ps sp := ⟨F.len, fun A outer s H args us vs Q E hr e0 hb r q => F.run A outer s H args us vs Q E hr (fun z => nomatch z) e0 hb r q⟩
theorem FnX.of (F : FnOk P w K mg base CX k f fd ps sp) : FnX gd P w K mg base CX k f fd ps sp := ⟨F.len, fun A outer s H args us vs Q E hr _ e0 hb r q => F.run A outer s H args us vs Q E hr e0 hb r q⟩
theorem FnX.mono (F : FnX gd P w K mg base CX k f fd ps sp) {j : Nat} (h : k ≤ j) : FnX gd P w K mg base CX j f fd ps sp := ⟨F.len, fun A outer s H args us vs Q E hr => F.run A outer s H args us vs Q E (hr.mono h)⟩
theorem fnX_of {x qual : Str} {params : Arguments} {body : List Stmt} {scope : Scope} {dvs : List V} {kws : List (Str × V)} {N : List Str} (F : FunD K x qual params body scope dvs kws f fd) (S : FnScope N ps scope) (len : ∀ vs H Q E, sp vs H Q E → vs.length = ps.length)
    (hbody : ∀ (cdv : Value) (A : Around) (outer : List Env) (s : Shared) (H : Hp) (vs : List V) (Q : VK) (E : XK), Room k (A.deeper (envOfC qual scope s.heap.objs.size f cdv)) → (gd = true → A.guards = some []) → fd.code = cdv → sp vs H Q E →
      ∃ t, PSs (cxOf CX P w K mg base N qual scope f cdv A outer s H E) body t ∧ t { nx := fun _ H' => Q .non H', rt := Q } (L2.start N vs) H) : FnX gd P w K mg base CX (k + 1) f fd ps sp := by
  obtain ⟨oc, od, dV, kV, doc, pm, an, cdv, ct, osl, rfl, lk, hcd, _, _⟩ := F.ex
  exact ⟨len, fun A outer s H args us vs Q E hr hg e0 hb r q => LamX.run_ofS lk hcd S hr e0 hb r (len _ _ _ _ q) fun hr' => hbody cdv A outer s H vs Q E hr' hg rfl q⟩
end
section
variable {X : Cx} {CX : CXT} {k : Nat} {f : Addr} {fd : FuncData} {ps : List Str} {sp : Sp} {dvs : List V} {ds : List Value} {E : St → XK} {x : Str} {p pos : Pos} {e : Expr} {es : List Expr} {t : TA} {gd : Bool}
theorem run_fnX {pins : List (Addr × Obj)} {σ : L2.St} {H : Hp} {s : Shared} {Q : VK} {us : List Value} {vs : List V} (F : FnX gd X.prog X.w X.K X.mg X.base CX k f fd ps sp) (hr : Room k X.A) (hgd : gd = true → X.A.guards = some [])
    (hb : Binds X.K fd ps ds) (hd : Vals dvs ds) (hx : PassesAt CX X σ (E σ)) (I : Inv X pins σ H s) (r : Vals vs us) (h : sp (vs ++ dvs) H Q (E σ)) : wpAny (model X.prog X.w) X.A (call (.ref f) us) (EP X pins σ Q) X.xe s := by
  have rr : Vals (vs ++ dvs) (us ++ ds) := r.append hd
  have lh : (us ++ ds).length = ps.length := rr.length.symm.trans (F.len _ _ _ _ h)
  have run := F.run X.A X.stack s H ⟨us, []⟩ _ _ Q (E σ) hr hgd I.env0 (hb s us I.kIn lh) rr h
  refine wpAny_call (codeAny_mono run fun z s' hz => ?_)
  match z, hz with
  | .error er, hz => exact hx pins H s er s' I hz
  | .ok (.ret u), hz => exact I.after hz
  | .ok .next, hz => exact hz.elim
  | .ok .brk, hz => exact hz.elim
  | .ok .cont, hz => exact hz.elim
theorem pe_callX (F : FnX gd X.prog X.w X.K X.mg X.base CX k f fd ps sp) (hr : Room k X.A) (hgd : gd = true → X.A.guards = some []) (hg : Gl X x) (hm : X.mg x = some (.ref f)) (hk : PySem.W.keepIn X.K (.ref f) = true) (hb : Binds X.K fd ps ds) (hd : Vals dvs ds)
    (hx : ∀ σ, PassesAt CX X σ (E σ)) (ha : PA X (e :: es) t) (hdb : (x == ("__debug__" : Str)) = false) (he : starEach (e :: es) X.env = (false, eval e X.env) :: starEach es X.env) (hpl : (backTo pos (starEach es X.env)).any (·.1) = false) :
    PE X (.Call (.Name x p) (e :: es) [] pos) (tCallSD sp dvs E t) :=
  ⟨fun pins s σ H Q I h => wpAny_Call_Name_kw (ld_glob I hg hm (PySem.W.callWith_K (h₀ := X.base) I.ok.mod.kin hk (thn (ha.run pos pins s σ H _ I h) fun us s1 ⟨vs, H1, J, r, q⟩ => ⟨J.kIn, run_fnX F hr hgd hb hd (hx σ) J r q⟩) he hpl) hdb)⟩
end
def spD (G : Gb) (n : Nat) (m : List D → Sto → Res D) : Sp := fun vs H Q E => vs.length = n ∧ ∃ w L ds, Rel G w L H ∧ DenL G w vs ds ∧ Post G (Den G) w (m ds L) Q E
structure FnIs (gd : Bool) (G : Gb) (x : Str) (n k : Nat) (m : List D → Sto → Res D) (dd : List D) : Prop where
  ex : ∃ (f : Addr) (fd : FuncData) (ps : List Str) (ds : List Value) (dvs : List V), G.mg x = some (.ref f) ∧ PySem.W.keepIn G.K (.ref f) = true ∧ Binds G.K fd ps ds ∧ Vals dvs ds ∧ (∀ w, DenL G w dvs dd) ∧
    FnX gd G.P G.w G.K G.mg G.base (L2.CX G.P G.w) k f fd ps (spD G n m)
def eCall (n : Nat) (m : List D → Sto → Res D) (dd : List D) (fl : AF) : EF := fun ρ L => (fl ρ L).bind fun ds L1 => if (ds ++ dd).length = n then m (ds ++ dd) L1 else .bad
section
variable {S : Sc} {W : WX} {a b e c o i : Expr} {es : List Expr} {fl : AF} {pos p : Pos} {x : Str} {n k : Nat} {m : List D → Sto → Res D} {dd : List D} {gd : Bool}
theorem se_call (F : FnIs gd S.g x n k m dd) (hk : k ≤ S.k) (ha : SA S W (e :: es) fl) (hg : Glb S x := by rfl) (hdb : (x == ("__debug__" : Str)) = false := by decide)
    (he : ∀ env, starEach (e :: es) env = (false, eval e env) :: starEach es env := by intro _; rfl) (hpl : ∀ env, (backTo pos (starEach es env)).any (·.1) = false := by intro _; rfl) (hgd : gd = true → S.gd = true := by first | (intro z; cases z; done) | (intro _; rfl)) :
    SE S W (.Call (.Name x p) (e :: es) [] pos) (eCall n m dd fl) := fun X h => by
  obtain ⟨f, fd, ps, ds, dvs, hm, hkp, hb, hd, hdd, F⟩ := F.ex
  rw [h.P, h.w, h.K, h.mg, h.base] at F
  refine PE.imp (pe_callX (x := x) (E := WE W) F (h.room.mono hk) (fun z => h.gd (hgd z)) (by show X.env.scope.names.lookup _ = _; rw [← h.sc]; exact hg) (by rw [← h.mg]; exact hm) (by rw [← h.K]; exact hkp) (by rw [← h.K]; exact hb) hd (fun σ => L2.passAt h.takes σ) (ha X h) hdb (he _) (hpl _)) fun σ H Q ⟨w, ρ, L, R, e, p⟩ => ?_
  refine ⟨w, ρ, L, R, e, (Post.bind (rel := DenL S.g) p).imp (fun vs H1 ⟨w1, xs, L1, l1, R1, d1, p1⟩ => ?_) fun _ _ _ z => z⟩
  split at p1
  · rename_i hn
    have hl : (vs ++ dvs).length = n := by rw [← hn]; exact (d1.append (hdd w1)).length
    exact ⟨hl, w1, L1, xs ++ dd, R1, d1.append (hdd w1), p1⟩
  · exact p1.elim
end
def fin : SRes → Res D
  | .nx _ L => .ok .non L
  | .rt d L => .ok d L
  | .err c p _ L => .err c p L
  | _ => .bad
def startE (N : Nat) (ds : List D) : Env' := ds.map some ++ List.replicate (N - ds.length) none
theorem env_start {G : Gb} {w : Wd} {N : List Str} {vs : List V} {ds : List D} (h : DenL G w vs ds) : EnvR G w (L2.start N vs) (startE N.length ds) := by
  unfold L2.start startE
  rw [← h.length]
  refine ⟨by simp [h.length], fun i d q => ?_⟩
  by_cases hi : i < ds.length
  · rw [List.getElem?_append_left (by simpa using hi)] at q
    rw [List.getElem?_map] at q
    cases hd : ds[i]? with
    | none => rw [hd] at q; cases q
    | some d' =>
      rw [hd] at q
      cases q
      obtain ⟨v, hv, dv⟩ := h.get hd
      refine ⟨v, ?_, dv⟩
      rw [List.getElem?_append_left (by rw [List.length_map]; exact getElem?_lt hv), List.getElem?_map, hv] <;> rfl
  · rw [List.getElem?_append_right (by simpa using hi)] at q
    exfalso
    have := List.mem_of_getElem? q
    have := List.eq_of_mem_replicate this
    cases this
def mOf (N : Nat) (g : SF) : List D → Sto → Res D := fun ds L => fin (g (startE N ds) L)
noncomputable def mDrop (N : Nat) (g : SF) : List D → Sto → Res D := fun ds L => dropR L (mOf N g ds L)
section
variable {G : Gb} {x qual : Str} {params : Arguments} {body : List Stmt} {scope : Scope} {dvs : List V} {kws : List (Str × V)} {f : Addr} {fd : FuncData} {N ps : List Str} {k : Nat} {g : SF} {m : List D → Sto → Res D} {gd lm : Bool}
def LmOk (G : Gb) (qual : Str) (fd : FuncData) : Prop := ∃ c P, fd.code = .ref c ∧ LamX.TabB G.base G.mg c P ∧ (P, some ((qual ++ ".<locals>.") ++ "<lambda>")) ∈ G.tabs
theorem fin_post {w : Wd} {r : SRes} {Q : VK} {E : XK} (p : Post G (Den G) w (fin r) Q E) : PostS G w r { nx := fun _ H' => Q .non H', rt := Q } (fun c d _ H => E c d H) := by
  cases r with
  | nx ρ L => exact fun w1 σ H l R e => p w1 H .non l R .non
  | rt d L => exact fun w1 v H l R h => p w1 H v l R h
  | err c q ρ L => exact fun w1 σ H dx l R e x C m => p w1 H dx l R x C m
  | bk ρ L => exact p.elim
  | ct ρ L => exact p.elim
  | bad => exact p
theorem fn_body (F : FunD G.K x qual params body scope dvs kws f fd) (Sc0 : FnScope N ps scope) (hb : ∀ W, SSs ⟨G, N, scope, fun _ => true, k, gd, true, lm⟩ W body g)
    (hm : ∀ w L H ds Q E, Rel G w L H → Post G (Den G) w (m ds L) Q E → Post G (Den G) w (mOf N.length g ds L) Q E) (hlm : lm = true → LmOk G qual fd) :
    FnX gd G.P G.w G.K G.mg G.base (L2.CX G.P G.w) (k + 1) f fd ps (spD G ps.length m) := by
  refine fnX_of F Sc0 (fun vs H Q E h => h.1) fun cdv A outer s H vs Q E hr hgd ecd ⟨hl, w, L, ds, R, d, p⟩ => ?_
  have hX : Sc.Has ⟨G, N, scope, fun _ => true, k, gd, true, lm⟩ (fun c d _ H => E c d H) (cxOf (L2.CX G.P G.w) G.P G.w G.K G.mg G.base N qual scope f cdv A outer s H E) :=
    ⟨rfl, rfl, rfl, rfl, rfl, rfl, rfl, rfl, rfl, hr, hgd, fun _ => ⟨rfl, rfl⟩, fun z => (hlm z).elim fun c ⟨P, e, tb, hm⟩ => ⟨c, P, ecd.symm.trans e, tb, hm⟩, takes_of rfl rfl rfl rfl, passes_of rfl⟩
  refine ⟨_, hb _ _ hX, w, startE N.length ds, L, R, env_start d, fin_post (hm w L H ds Q E R p)⟩
theorem fnIs_plain (F : FunD G.K x qual params body scope dvs kws f fd) (Sc0 : FnScope N ps scope) (hb : ∀ W, SSs ⟨G, N, scope, fun _ => true, k, gd, true, lm⟩ W body g) {y : Str} (hy : G.mg y = some (.ref f)) {us : List Value} {dd : List D}
    (hB : Binds G.K fd ps us) (hd : Vals dvs us) (hdd : ∀ w, DenL G w dvs dd) (hlm : lm = true → LmOk G qual fd) : FnIs gd G y ps.length (k + 1) (mOf N.length g) dd :=
  ⟨f, fd, ps, us, dvs, hy, F.kp, hB, hd, hdd, fn_body F Sc0 hb (fun _ _ _ _ _ _ _ p => p) hlm⟩
theorem fnIs_drop (F : FunD G.K x qual params body scope dvs kws f fd) (Sc0 : FnScope N ps scope) (hb : ∀ W, SSs ⟨G, N, scope, fun _ => true, k, gd, true, lm⟩ W body g) {y : Str} (hy : G.mg y = some (.ref f)) {us : List Value} {dd : List D}
    (hB : Binds G.K fd ps us) (hd : Vals dvs us) (hdd : ∀ w, DenL G w dvs dd) (hlm : lm = true → LmOk G qual fd) : FnIs gd G y ps.length (k + 1) (mDrop N.length g) dd :=
  ⟨f, fd, ps, us, dvs, hy, F.kp, hB, hd, hdd, fn_body F Sc0 hb (fun w L H ds Q E R p => Post.drop R p) hlm⟩
end
theorem FnIs.imp {gd : Bool} {G : Gb} {x : Str} {n k : Nat} {m m' : List D → Sto → Res D} {dd : List D} (F : FnIs gd G x n k m dd) (h : ∀ ds L, ds.length = n → m' ds L = .bad ∨ m' ds L = m ds L) : FnIs gd G x n k m' dd := by
  obtain ⟨f, fd, ps, ds, dvs, h1, h2, h3, h4, h5, F⟩ := F.ex
  refine ⟨f, fd, ps, ds, dvs, h1, h2, h3, h4, h5, ⟨fun vs H Q E q => ?_, fun A outer s H args us vs Q E hr hgd e0 hb r q => ?_⟩⟩
  · obtain ⟨hl, w, L, ds, R, d, p⟩ := q
    refine F.len vs H Q E ⟨hl, w, L, ds, R, d, ?_⟩
    rcases h ds L (d.length.symm.trans hl) with z | z
    · rw [z] at p; exact p.elim
    · rw [z] at p; exact p
  · obtain ⟨hl, w, L, ds, R, d, p⟩ := q
    refine F.run A outer s H args us vs Q E hr hgd e0 hb r ⟨hl, w, L, ds, R, d, ?_⟩
    rcases h ds L (d.length.symm.trans hl) with z | z
    · rw [z] at p; exact p.elim
    · rw [z] at p; exact p
section
variable {S : Sc} {W : WX} {a b c e c o : Expr} {es : List Expr} {fa fb fc f : EF} {fl : AF} {pos p : Pos}
def sPar (i j : Nat) (fl : AF) : SF := fun ρ L => match fl ρ L with
  | .ok [d, e] L1 => .nx ((ρ.set i (some d)).set j (some e)) L1
  | .err c p L1 => .err c p ρ L1
  | _ => .bad
theorem ss_setN (i : Nat) {x : Str} {pos' : Pos} (hN : S.N.Nodup) (he : SE S W e f) (hi : S.N[i]? = some x := by rfl) (hx : Loc S.sc x := by first | exact Or.inl rfl | exact Or.inr rfl) (hs : ∀ env : Env, env.scope = S.sc → swapsWith e (some (.Name x pos')) pos.line env = pure false := by intro env h; cases env; cases h; rfl)
    (hf : S.fn x = true ∨ S.sc.names.lookup x = some .local := by first | exact .inl rfl | exact .inr rfl) : SS S W (.Assign [.Name x pos'] e pos) (sSet i f) := fun X h =>
  PS.imp (ps_set (i := i) (by rw [← h.N]; exact hN) (by rw [← h.N]; exact hi) (by rw [← h.sc]; exact hx) (he X h) (hs _ h.sc.symm) (by rw [← h.fn, ← h.sc]; exact hf)) fun D σ H ⟨w, ρ, L, R, e, p⟩ => ⟨w, ρ, L, R, e, (PostS.bind e p).imp (fun v H1 ⟨w1, d, L1, l1, R1, d1, p1⟩ =>
    p1 w1 _ H1 (Wd.le.refl _) R1 ((e.le l1).set i d1)) fun _ _ _ z => z⟩
theorem se_cst {x : Str} {v : V} {d : D} (hm : ∃ u, S.g.mg x = some u ∧ RelV v u) (hd : ∀ w, Den S.g w v d) (hg : Glb S x := by rfl) (hdb : (x == ("__debug__" : Str)) = false := by decide) : SE S W (.Name x pos) (eC d) := fun X h => by
  obtain ⟨u, h1, h2⟩ := hm
  exact se_glob (W := W) hg h1 h2 hd hdb X h
end
section
variable {prog : Program} {w : World} {A : Around} {E : Value → Shared → Prop} {s : Shared}
theorem collectT {t : Addr} {vs : List Value} {Q : List Value → Shared → Prop} (ht : IsTup s.heap t vs.toArray) (hz : vs.length ≤ sizeLine)
    (h : Q vs { s with heap := (s.heap.push (seqObj "list" #[] 0)).update s.heap.objs.size (Obj.mapSeq (· ++ vs.toArray)) }) : wpAny (model prog w) A (collect (.ref t)) Q E s := by
  obtain ⟨ob, hob, hcls, n, hdat⟩ := ht
  have hob' : (s.heap.push (seqObj "list" #[] 0)).get? t = some ob := Heap.get?_push_of_some _ hob
  have hnew : (s.heap.push (seqObj "list" #[] 0)).get? s.heap.objs.size = some (seqObj "list" #[] 0) := Heap.get?_push_size _ rfl
  unfold collect
  refine wpAny_bind (wpAny_runValue (codeAny_builtin entry_proto_collect' ?_))
  show wpAny _ _ (do again (.builtin "list.__iadd__" ⟨[← newList [], .ref t], []⟩)) _ _ s
  refine wpAny_bind (wpAny_newList (wpAny_pure ⟨Code.quiet_builtin _ (by decide +kernel), codeAny_builtin entry_list_iadd' ?_⟩))
  show wpAny _ _ (Builtin.List.listExtendWith (.ref s.heap.objs.size) (.ref t) (.ref s.heap.objs.size)) _ _ { s with heap := s.heap.push (seqObj "list" #[] 0) }
  unfold Builtin.List.listExtendWith
  refine wpAny_bind (wpAny_typeOf (T := "tuple") ⟨ob, hob', hcls⟩ ?_)
  have hty : (Value.type "tuple" == Value.type "tuple") = true := by rfl
  rw [if_pos (by rw [hty]; simp)]
  refine wpAny_bind (listItems_at hob' hdat (wpAny_bind (listItems_at (xs := #[]) (n := 0) hnew rfl ?_)))
  rw [if_neg (by simp)]
  refine wpAny_bind (listUpdate_at (xs := #[]) (n := 0) hnew rfl ?_ (Nat.zero_le _) (by show (#[] ++ vs.toArray).size ≤ sizeLine + 1; simp only [Array.size_append, List.size_toArray, List.length_nil]; omega))
  refine wpAny_pure ?_
  show wpAny (model prog w) A (do
    let o ← load s.heap.objs.size
    match o.data with
    | .seq xs _ => pure xs.toList
    | _ => unsupported "internal:collect") Q E { s with heap := (s.heap.push (seqObj "list" #[] 0)).update s.heap.objs.size (Obj.mapSeq (· ++ vs.toArray)) }
  refine wpAny_bind (wpAny_load (get?_update_seq hnew _) ?_)
  show wpAny _ _ (pure ((#[] : Array Value) ++ vs.toArray).toList) Q E _
  have he : ((#[] : Array Value) ++ vs.toArray).toList = vs := by simp
  rw [he]
  exact wpAny_pure h
theorem sortedT {t : Addr} {vs : List Value} {ltv : Value → Value → Bool} {Q : Value → Shared → Prop} (O : SrtO.Swo ltv) (ht : IsTup s.heap t vs.toArray) (hz : vs.length ≤ sizeLine)
    (hS : 2 ≤ vs.length → ∀ (h₁ : Heap) (a : Addr), SrtO.SortableO prog w A.in1.in1 { s with heap := h₁ } a vs ltv)
    (h : ∀ out : List Value, SrtO.Srtd ltv out → SrtO.Stb ltv out vs → Q (.ref (s.heap.objs.size + 1)) { s with heap := sortedAll s.heap vs out.toArray }) :
    wpAny (model prog w) A (call (.builtin "sorted") [.ref t]) Q E s := by
  refine Calls.call_function_entry kind_sorted plain_sorted entry_sorted (args_sorted1 _) ?_
  unfold Builtin.«sorted»
  refine wpAny_bind (m := checkCount "sorted" 1 1 _) (wpAny_pure (wpAny_bind (collectT ht hz (wpAny_bind (wpAny_newList ?_ hz)))))
  have hsz : ((s.heap.push (seqObj "list" #[] 0)).update s.heap.objs.size (Obj.mapSeq (· ++ vs.toArray))).objs.size = s.heap.objs.size + 1 := (Heap.size_update _ _ _).trans (size_push' _ _)
  generalize hh : (s.heap.push (seqObj "list" #[] 0)).update s.heap.objs.size (Obj.mapSeq (· ++ vs.toArray)) = h1 at hsz ⊢
  have hoL : (h1.push (seqObj "list" vs.toArray 0)).get? (s.heap.objs.size + 1) = some (seqObj "list" vs.toArray 0) := by rw [← hsz]; exact Heap.get?_push_size _ rfl
  show wpAny _ _ _ _ _ { s with heap := h1.push (seqObj "list" vs.toArray 0) }
  rw [hsz]
  refine wpAny_bind (wpAny_holding (wpAny_call_entry slot_list_sort ⟨_, hoL, rfl⟩ entry_list_sort (SrtO.list_sort_ord O hoL hz (fun h2 => hS h2 _ _) fun out hs hb => ⟨_, rfl, ?_⟩) (args_list_sort _)))
  subst hh
  exact wpAny_pure ⟨_, rfl, h out hs hb⟩
end
def rSortedTI (K : PySem.W.Frag) : List V → Hp → VK → Prop := fun vs H Q => ∃ (a : Addr) (ns : List Int), vs = [V.ref a] ∧ SqT K H a (ns.map V.int) ∧ ∀ (ms : List Int) (p : Addr), ms.Perm ns → ms.Pairwise (· ≤ ·) → H p = none → Q (.ref p) (upd H p (.lst (ms.map V.int)))
theorem cr_sortedTI {X : Cx} : CallR X (.builtin "sorted") (rSortedTI X.K) := by
  intro pins s σ H vs us Q I r h
  obtain ⟨a, ns, rfl, hs, q⟩ := h
  obtain ⟨its, rv, hl, hz⟩ := I.tuple hs
  rw [Vals.ref1 r]
  have hi := rv.ints
  have hzz := hz
  rw [List.length_map] at hzz
  refine sortedT SrtO.swo_int hl (by rw [← rv.length]; exact hz) (fun h2 _ _ => SrtO.ints_sortable hi h2) fun out h1 h2 => ?_
  obtain ⟨k1, k2, k3⟩ := SrtO.ints_out hi h1 h2
  obtain ⟨ep, he'⟩ := PyProof.Rows.sortedAll_at s.heap its out.toArray
  have hlen : ((out.map SrtO.iv).map V.int).length ≤ sizeLine := by rw [List.length_map, k2.length_eq]; exact hzz
  have new : ObjOk X.prog X.w (upd H (s.heap.objs.size + 1) (.lst ((out.map SrtO.iv).map V.int))) (sortedAll s.heap its out.toArray) (s.heap.objs.size + 1) (.lst ((out.map SrtO.iv).map V.int)) := ⟨hlen, out, ep, vals_of_ints k1, he'⟩
  exact ⟨.ref _, _, I.laid (t' := s.toks) (fun _ _ => PyProof.Rows.sortedAll_old) (Nat.le_succ _) new, rfl, q _ _ k2 k3 (I.hok.fresh (Nat.le_succ _))⟩
section
variable {S : Sc} {W : WX} {e : Expr} {es : List Expr} {fl : AF} {pos p : Pos}
def gSort (box : Bool) (ds : List D) (L : Sto) : Res D := match ds with
  | [d] => (match seqOf L d with
    | some (xs, _) => (match dInts xs with
      | some ns => lstOut box ((srtI ns).map D.int) L
      | none => .bad)
    | none => .bad)
  | _ => .bad
def rSortU2 (K : PySem.W.Frag) : List V → Hp → VK → Prop := fun vs H Q => rSortedI K vs H Q ∨ rSortedTI K vs H Q
theorem gSort_ok {G : Gb} (box : Bool) : RnD G (rSortU2 G.K) (gSort box) := by
  intro w L H x ds Q E R dx p
  unfold gSort at p
  split at p
  · cases dx with
    | cons h t =>
      cases t
      split at p
      · rename_i xs s hx
        split at p
        · rename_i ns hn
          obtain ⟨k, a, vs, rfl, hq, r⟩ := seq_now R h hx
          have := r.ints hn
          subst this
          have go : ∀ (ms : List Int) (q : Addr), ms.Perm ns → ms.Pairwise (· ≤ ·) → H q = none → Q (.ref q) (upd H q (.lst (ms.map V.int))) := fun ms q h1 h2 hq => by
            rw [srtI_unique h1 h2]
            exact lstOut_go p R (.of_ints _) q hq
          cases k with
          | true => exact .inl ⟨a, ns, rfl, hq, go⟩
          | false => exact .inr ⟨a, ns, rfl, hq, go⟩
        · exact p.elim
      · exact p.elim
  · exact p.elim
theorem se_sort (box : Bool) (B : Bl S.g) (ha : SA S W (e :: es) fl) (hg : Glb S "sorted" := by rfl) (he : ∀ env, starEach (e :: es) env = (false, eval e env) :: starEach es env := by intro _; rfl) (hpl : ∀ env, (backTo pos (starEach es env)).any (·.1) = false := by intro _; rfl) :
    SE S W (.Call (.Name "sorted" p) (e :: es) [] pos) (en (gSort box) fl) := fun X h =>
  se_callB (id := "sorted") (r := rSortU2 S.g.K) (fun X h => by rw [h.K]; exact cr_sortedI.or cr_sortedTI) (gSort_ok box) B.sorted (by decide +kernel) ha hg (by decide) (by decide) he hpl X h
end
section
variable {L : Sto} {i j k : Int} {xs ys ds : List D}
theorem eqQ : gAdd (.int i) (.int j) L = .ok (.int (i + j)) L := rfl
theorem erQ : gSub (.int i) (.int j) L = .ok (.int (i - j)) L := rfl
theorem gMul_int (h : (-(2 ^ 64) < i ∧ i < 2 ^ 64) ∨ (-(2 ^ 64) < j ∧ j < 2 ^ 64)) : gMul (.int i) (.int j) L = .ok (.int (i * j)) L := if_pos h
theorem gDiv_int (h : 0 < j) (h2 : j < 2 ^ 64) : gDiv (.int i) (.int j) L = .ok (.int (i / j)) L := if_pos ⟨h, by omega⟩
theorem gMod_int (h : 0 < j) : gMod (.int i) (.int j) L = .ok (.int (i % j)) L := if_pos h
theorem esQ : gNeg (.int i) L = .ok (.int (-i)) L := rfl
theorem etQ : gLt (.int i) (.int j) L = .ok (.bl (decide (i < j))) L := rfl
theorem euQ : gLe (.int i) (.int j) L = .ok (.bl (decide (i ≤ j))) L := rfl
theorem evQ : gGt (.int i) (.int j) L = .ok (.bl (decide (j < i))) L := rfl
theorem ewQ : gGe (.int i) (.int j) L = .ok (.bl (decide (j ≤ i))) L := rfl
theorem exQ : gLtI (.int i) (.int j) L = .ok (.bl (decide (i < j))) L := rfl
theorem eKQ : seqOf L (.tg xs) = some (xs, []) := rfl
theorem eLQ : seqOf L (.tup xs) = some (xs, []) := rfl
theorem eMQ : seqOf L (.lst xs) = some (xs, []) := rfl
theorem eNQ : seqOf L (.ro xs) = some (xs, []) := rfl
theorem seqOf_loc {n : Nat} (h : L[n]? = some (.lst xs)) : seqOf L (.loc n) = some (xs, [(n, .lst xs)]) := by simp only [seqOf, h]
theorem eOQ : sqlOf L (.lst xs) = some xs := rfl
theorem ePQ : sqlOf L (.ro xs) = some xs := rfl
theorem sqlOf_loc {n : Nat} (h : L[n]? = some (.lst xs)) : sqlOf L (.loc n) = some xs := by simp only [sqlOf, lstOf, h]
theorem lstOf_loc {n : Nat} (h : L[n]? = some (.lst xs)) : lstOf L (.loc n) = some xs := by simp only [lstOf, h]
theorem boxL_loc {n : Nat} (h : L[n]? = some (.lst xs)) : boxL L (.loc n) = some (n, xs) := by simp only [boxL, h]
theorem eyQ : gLen [.tg xs] L = .ok (.int xs.length) L := rfl
theorem ezQ : gLen [.tup xs] L = .ok (.int xs.length) L := rfl
theorem eAQ : gLen [.lst xs] L = .ok (.int xs.length) L := rfl
theorem eBQ : gLen [.ro xs] L = .ok (.int xs.length) L := rfl
theorem eCQ {kvs : List (Key × D)} : gLen [.dK kvs] L = .ok (.int kvs.length) L := rfl
theorem dInts_map : ∀ ns : List Int, dInts (ns.map D.int) = some ns
  | [] => rfl
  | n :: ns => by show (dInts (ns.map D.int)).map _ = _; rw [dInts_map ns]; rfl
theorem dBls_map : ∀ ns : List Bool, dBls (ns.map D.bl) = some ns
  | [] => rfl
  | n :: ns => by show (dBls (ns.map D.bl)).map _ = _; rw [dBls_map ns]; rfl
theorem eDQ : gInt [.int i] L = .ok (.int i) L := rfl
theorem eEQ {b : Bool} : gInt [.bl b] L = .ok (.int (if b then 1 else 0)) L := rfl
theorem gAbs_int : gAbs [.int i] L = .ok (.int (if i < 0 then -i else i)) L := rfl
theorem gTuple_lst (h : xs.length ≤ 16777216) : gTuple [.lst xs] L = .ok (.tg xs) L := by unfold gTuple; simp only [eOQ, newTG, if_pos h]
theorem eHQ : gTuple [.tg xs] L = .ok (.tg xs) L := rfl
theorem eIQ : gTuple [.tup xs] L = .ok (.tup xs) L := rfl
theorem eJQ : lstOut false xs L = .ok (.lst xs) L := rfl
theorem eFQ : gMax [.int i, .int j] L = .ok (.int (max i j)) L := by
  show Res.ok (D.int (if j > i then j else i)) L = _
  congr 2
  split <;> omega
theorem eGQ : gMin [.int i, .int j] L = .ok (.int (min i j)) L := by
  show Res.ok (D.int (if j < i then j else i)) L = _
  congr 2
  split <;> omega
end
section
variable {src : List (Nat × D)} {tg : GF} {t : TF} {f : EF} {body : SF} {ρ : Env'} {L : Sto}
theorem srcOk_nil : srcOk L [] := fun _ h => nomatch h
theorem lcGo_pure {α : Type} (enc : α → D) (p : α → Bool) (y : α → D) (hs : srcOk L src) : ∀ (xs : List α) (acc : List D), acc.length + xs.length ≤ 16777216 →
    (∀ a ∈ xs, ∃ ρ1, tg (enc a) ρ = some ρ1 ∧ t ρ1 L = .ok (p a) L ∧ (p a = true → f ρ1 L = .ok (y a) L)) → lcGo src tg t f ρ (xs.map enc) acc L = .ok (acc ++ (xs.filter p).map y) L
  | [], acc, _, _ => by simp [lcGo]
  | a :: xs, acc, hl, h => by
    obtain ⟨ρ1, h1, h2, h3⟩ := h a (List.mem_cons_self)
    have hr := fun acc hl => lcGo_pure enc p y hs xs acc hl fun b hb => h b (List.mem_cons_of_mem _ hb)
    rw [List.length_cons] at hl
    rw [List.map_cons, lcGo, h1]
    dsimp only
    rw [h2]
    cases hp : p a with
    | true =>
      dsimp only
      rw [h3 hp]
      dsimp only
      rw [if_pos ⟨by omega, hs⟩, hr _ (by rw [List.length_append, List.length_singleton]; omega)]
      simp [List.filter_cons, hp]
    | false =>
      dsimp only
      rw [if_pos hs, hr _ (by omega)]
      simp [List.filter_cons, hp]
theorem lcGo_map {α : Type} (enc : α → D) (y : α → D) (hs : srcOk L src) (xs : List α) (acc : List D) (hl : acc.length + xs.length ≤ 16777216)
    (h : ∀ a ∈ xs, ∃ ρ1, tg (enc a) ρ = some ρ1 ∧ f ρ1 L = .ok (y a) L) : lcGo src tg tTrue f ρ (xs.map enc) acc L = .ok (acc ++ xs.map y) L := by
  have e := lcGo_pure (t := tTrue) (f := f) (tg := tg) (ρ := ρ) enc (fun _ => true) y hs xs acc hl fun a ha => let ⟨ρ1, h1, h2⟩ := h a ha; ⟨ρ1, h1, rfl, fun _ => h2⟩
  rw [e, List.filter_eq_self.mpr fun _ _ => rfl]
theorem lcGo_inv {α : Type} (enc : α → D) (I : Sto → Prop) (P : α → D → Prop) (hs : ∀ L, I L → srcOk L src) : ∀ (xs : List α) (acc : List D) (L : Sto), I L → acc.length + xs.length ≤ 16777216 →
    (∀ a ∈ xs, ∀ L, I L → ∃ ρ1 y L', tg (enc a) ρ = some ρ1 ∧ f ρ1 L = .ok y L' ∧ I L' ∧ P a y) → ∃ ys L', lcGo src tg tTrue f ρ (xs.map enc) acc L = .ok (acc ++ ys) L' ∧ I L' ∧ ys.length = xs.length ∧ ∀ (i : Nat) a y, xs[i]? = some a → ys[i]? = some y → P a y
  | [], acc, L, hI, _, _ => ⟨[], L, by simp [lcGo], hI, rfl, fun i a y h => by simp at h⟩
  | a :: xs, acc, L, hI, hl, h => by
    obtain ⟨ρ1, y, L1, h1, h2, h3, h4⟩ := h a (List.mem_cons_self) L hI
    rw [List.length_cons] at hl
    obtain ⟨ys, L2, e, i2, l2, p2⟩ := lcGo_inv enc I P hs xs (acc ++ [y]) L1 h3 (by rw [List.length_append, List.length_singleton]; omega) fun b hb => h b (List.mem_cons_of_mem _ hb)
    refine ⟨y :: ys, L2, ?_, i2, by simp [l2], fun i b z hb hz => ?_⟩
    · rw [List.map_cons, lcGo, h1]
      dsimp only [tTrue]
      rw [h2]
      dsimp only
      rw [if_pos ⟨by omega, hs _ h3⟩, e]
      simp
    · cases i with
      | zero => simp at hb hz; subst hb hz; exact h4
      | succ i => exact p2 i b z (by simpa using hb) (by simpa using hz)
theorem forGo_inv (xs : List D) (I : Nat → Env' → Sto → Prop) (step : ∀ i d ρ L, xs[i]? = some d → I i ρ L → ∃ ρ1 ρ2 L2, tg d ρ = some ρ1 ∧ body ρ1 L = .nx ρ2 L2 ∧ srcOk L2 src ∧ I (i + 1) ρ2 L2) :
    ∀ (n : Nat) (i : Nat) (ρ : Env') (L : Sto), xs.length - i = n → i ≤ xs.length → I i ρ L → ∃ ρ' L', forGo tg body src (xs.drop i) ρ L = .nx ρ' L' ∧ I xs.length ρ' L'
  | 0, i, ρ, L, hn, hi, h => by
    have e : i = xs.length := by omega
    rw [List.drop_eq_nil_of_le (by omega)]
    exact ⟨ρ, L, by simp [forGo], by rw [← e]; exact h⟩
  | n + 1, i, ρ, L, hn, hi, h => by
    have hlt : i < xs.length := by omega
    obtain ⟨ρ1, ρ2, L2, h1, h2, h3, h4⟩ := step i xs[i] ρ L (List.getElem?_eq_getElem hlt) h
    obtain ⟨ρ', L', e, hI⟩ := forGo_inv xs I step n (i + 1) ρ2 L2 (by omega) (by omega) h4
    refine ⟨ρ', L', ?_, hI⟩
    rw [List.drop_eq_getElem_cons hlt, forGo]
    simp only [h1, h2, if_pos h3, e]
theorem sFor_inv {fi : IF} {its : Its} {L1 : Sto} (hi : fi ρ L = .ok its L1) (I : Nat → Env' → Sto → Prop) (h0 : I 0 ρ L1) (step : ∀ i d ρ L, its.ds[i]? = some d → I i ρ L → ∃ ρ1 ρ2 L2, tg d ρ = some ρ1 ∧ body ρ1 L = .nx ρ2 L2 ∧ srcOk L2 its.src ∧ I (i + 1) ρ2 L2) :
    ∃ ρ' L', sFor fi tg body ρ L = .nx ρ' L' ∧ I its.ds.length ρ' L' := by
  obtain ⟨ρ', L', e, h⟩ := forGo_inv its.ds I step its.ds.length 0 ρ L1 (by omega) (Nat.zero_le _) h0
  refine ⟨ρ', L', ?_, h⟩
  unfold sFor
  rw [hi]
  simpa using e
end
section
variable {it : IF} {tg : GF} {t : TF} {f : EF} {own : List Nat} {ρ : Env'} {L L1 L2 : Sto} {box : Bool}
theorem eLc_at {its : Its} {ds : List D} (hi : it ρ L = .ok its L1) (h : lcGo its.src tg t f (wipeE ρ own) its.ds [] L1 = .ok ds L2) : eLc box own it tg t f ρ L = lstOut box ds L2 := by
  unfold eLc; rw [hi]; dsimp only; rw [h]; rfl
theorem eLc_map {α : Type} (xs : List α) (enc : α → D) (y : α → D) {src : List (Nat × D)} (hi : it ρ L = .ok ⟨xs.map enc, src⟩ L1) (hs : srcOk L1 src) (hl : xs.length ≤ 16777216)
    (h : ∀ a ∈ xs, ∃ ρ1, tg (enc a) (wipeE ρ own) = some ρ1 ∧ f ρ1 L1 = .ok (y a) L1) : eLc box own it tg tTrue f ρ L = lstOut box (xs.map y) L1 := by
  refine eLc_at hi ?_
  have := lcGo_map (src := src) (tg := tg) (f := f) (ρ := wipeE ρ own) enc y hs xs [] (by simpa using hl) h
  simpa using this
theorem eLc_filter {α : Type} (xs : List α) (enc : α → D) (p : α → Bool) (y : α → D) {src : List (Nat × D)} (hi : it ρ L = .ok ⟨xs.map enc, src⟩ L1) (hs : srcOk L1 src) (hl : xs.length ≤ 16777216)
    (h : ∀ a ∈ xs, ∃ ρ1, tg (enc a) (wipeE ρ own) = some ρ1 ∧ t ρ1 L1 = .ok (p a) L1 ∧ (p a = true → f ρ1 L1 = .ok (y a) L1)) : eLc box own it tg t f ρ L = lstOut box ((xs.filter p).map y) L1 := by
  refine eLc_at hi ?_
  have := lcGo_pure (src := src) (tg := tg) (t := t) (f := f) (ρ := wipeE ρ own) enc p y hs xs [] (by simpa using hl) h
  simpa using this
theorem eLc_inv {α : Type} (xs : List α) (enc : α → D) (I : Sto → Prop) (P : α → D → Prop) {src : List (Nat × D)} (hi : it ρ L = .ok ⟨xs.map enc, src⟩ L1) (hs : ∀ L, I L → srcOk L src) (hl : xs.length ≤ 16777216) (h0 : I L1)
    (h : ∀ a ∈ xs, ∀ L, I L → ∃ ρ1 y L', tg (enc a) (wipeE ρ own) = some ρ1 ∧ f ρ1 L = .ok y L' ∧ I L' ∧ P a y) :
    ∃ ys L', eLc box own it tg tTrue f ρ L = lstOut box ys L' ∧ I L' ∧ ys.length = xs.length ∧ ∀ (i : Nat) a y, xs[i]? = some a → ys[i]? = some y → P a y := by
  obtain ⟨ys, L', e, h1, h2, h3⟩ := lcGo_inv (src := src) (tg := tg) (f := f) (ρ := wipeE ρ own) enc I P hs xs [] L1 h0 (by simpa using hl) h
  exact ⟨ys, L', eLc_at hi (by simpa using e), h1, h2, h3⟩
end
theorem gAll_map {α : Type} {L : Sto} (xs : List α) (p : α → Bool) : gAll [.lst (xs.map fun x => D.bl (p x))] L = .ok (.bl (xs.all p)) L := by
  have e : xs.map (fun x => D.bl (p x)) = (xs.map p).map D.bl := by rw [List.map_map]; rfl
  rw [e]
  unfold gAll
  simp only [eOQ, dBls_map]
  rw [List.all_map]; rfl
mutual
def eqD : D → D → Bool
  | .non, .non => true
  | .bl a, .bl b => a == b
  | .bl a, .int j => (if a then 1 else 0) == j
  | .int i, .bl b => i == (if b then 1 else 0)
  | .int i, .int j => i == j
  | .str x, .str y => x == y
  | .tup xs, .tup ys => eqDL xs ys
  | .tg xs, .tup ys => eqDL xs ys
  | .tup xs, .tg ys => eqDL xs ys
  | .tg xs, .tg ys => eqDL xs ys
  | .lst xs, .lst ys => eqDL xs ys
  | .ro xs, .lst ys => eqDL xs ys
  | .lst xs, .ro ys => eqDL xs ys
  | .ro xs, .ro ys => eqDL xs ys
  | _, _ => false
def eqDL : List D → List D → Bool
  | [], [] => true
  | x :: xs, y :: ys => eqD x y && eqDL xs ys
  | _, _ => false
end
mutual
def okD : Nat → D → Bool
  | _, .non => true
  | _, .bl _ => true
  | _, .int _ => true
  | _, .str s => PyData.strOk s
  | n + 1, .tup xs => okDL n xs
  | n + 1, .tg xs => okDL n xs
  | n + 1, .lst xs => okDL n xs
  | n + 1, .ro xs => okDL n xs
  | _, _ => false
def okDL : Nat → List D → Bool
  | _, [] => true
  | n, x :: xs => okD n x && okDL n xs
end
theorem toPyL_cons {d : D} {ds : List D} {p : PyData} {ps : List PyData} (h1 : toPy d = some p) (h2 : toPyL ds = some ps) : toPyL (d :: ds) = some (p :: ps) := by simp only [toPyL, h1, h2]
theorem okL_py {n : Nat} (ih : ∀ d, okD n d = true → ∃ p, toPy d = some p ∧ p.canLay0 = true ∧ p.depth ≤ n + 1) : ∀ ds : List D, okDL n ds = true → ∃ ps, toPyL ds = some ps ∧ PyData.canLayAll0 ps = true ∧ PyData.depthAll ps ≤ n + 1
  | [], _ => ⟨[], rfl, rfl, by simp [PyData.depthAll]⟩
  | d :: ds, h => by
    rw [okDL] at h
    obtain ⟨p, h1, h2, h3⟩ := ih d (and2 h).1
    obtain ⟨ps, k1, k2, k3⟩ := okL_py ih ds (and2 h).2
    refine ⟨p :: ps, toPyL_cons h1 k1, and2' h2 k2, ?_⟩
    simp only [PyData.depthAll]
    omega
theorem ok_py : ∀ (n : Nat) (d : D), okD n d = true → ∃ p, toPy d = some p ∧ p.canLay0 = true ∧ p.depth ≤ n + 1 := by
  intro n
  induction n with
  | zero =>
    intro d h
    cases d <;> first
      | exact absurd h Bool.false_ne_true
      | exact ⟨_, rfl, rfl, by simp [PyData.depth]⟩
      | exact ⟨_, rfl, h, by simp [PyData.depth]⟩
  | succ n ih =>
    intro d h
    cases d <;> first
      | exact absurd h Bool.false_ne_true
      | exact ⟨_, rfl, rfl, by simp [PyData.depth]⟩
      | exact ⟨_, rfl, h, by simp [PyData.depth]⟩
      | (rename_i xs
         obtain ⟨ps, h1, h2, h3⟩ := okL_py ih xs h
         first
           | (refine ⟨.tuple ps, ?_, h2, ?_⟩
              · exact (congrArg (Option.map PyData.tuple) h1 : _)
              · simp only [PyData.depth]; omega)
           | (refine ⟨.list ps, ?_, h2, ?_⟩
              · exact (congrArg (Option.map PyData.list) h1 : _)
              · simp only [PyData.depth]; omega))
theorem eqL_py {n : Nat} (ih : ∀ d e p q, okD n d = true → toPy d = some p → toPy e = some q → PyData.eqv p q = eqD d e) : ∀ (ds es : List D) (ps qs : List PyData), okDL n ds = true → toPyL ds = some ps → toPyL es = some qs → PyData.eqvAll ps qs = eqDL ds es
  | [], es, ps, qs, _, h1, h2 => by
    cases h1
    cases es with
    | nil => cases h2; rfl
    | cons e es =>
      simp only [toPyL] at h2
      split at h2
      · cases h2; rfl
      · cases h2
  | d :: ds, es, ps, qs, h, h1, h2 => by
    rw [okDL] at h
    simp only [toPyL] at h1
    split at h1
    · rename_i p ps' hp hps
      cases h1
      cases es with
      | nil => cases h2; rfl
      | cons e es =>
        simp only [toPyL] at h2
        split at h2
        · rename_i q qs' hq hqs
          cases h2
          show (PyData.eqv p q && PyData.eqvAll ps' qs') = (eqD d e && eqDL ds es)
          rw [ih d e p q (and2 h).1 hp hq, eqL_py ih ds es ps' qs' (and2 h).2 hps hqs]
        · cases h2
    · cases h1
theorem eq_py : ∀ (n : Nat) (d e : D) (p q : PyData), okD n d = true → toPy d = some p → toPy e = some q → PyData.eqv p q = eqD d e := by
  have flat : ∀ (d e : D) (p q : PyData), (match d with | .tup _ => False | .tg _ => False | .lst _ => False | .ro _ => False | _ => True) → toPy d = some p → toPy e = some q → PyData.eqv p q = eqD d e := by
    intro d e p q hf h1 h2
    cases d <;> first
      | exact hf.elim
      | (cases h1
         cases e <;> first
           | (cases h2; rfl)
           | (obtain ⟨ps, _, rfl⟩ := Option.map_eq_some_iff.mp h2; rfl)
           | cases h2
         done)
      | (cases h1; done)
  intro n
  induction n with
  | zero =>
    intro d e p q h h1 h2
    cases d <;> first
      | exact absurd h Bool.false_ne_true
      | exact flat _ e p q True.intro h1 h2
  | succ n ih =>
    intro d e p q h h1 h2
    cases d <;> first
      | exact absurd h Bool.false_ne_true
      | exact flat _ e p q True.intro h1 h2
      | (obtain ⟨ps, k1, rfl⟩ := Option.map_eq_some_iff.mp h1
         cases e <;> first
           | (cases h2; rfl)
           | (obtain ⟨qs, k2, rfl⟩ := Option.map_eq_some_iff.mp h2
              first
                | exact eqL_py ih _ _ ps qs h k1 k2
                | rfl)
           | cases h2)
theorem gEqB_ev {L : Sto} {d e : D} (h1 : okD 60 (seen L d) = true) (h2 : okD 60 (seen L e) = true) : gEqB L d e = some (eqD (seen L d) (seen L e)) := by
  obtain ⟨p, a1, a2, a3⟩ := ok_py 60 _ h1
  obtain ⟨q, b1, b2, b3⟩ := ok_py 60 _ h2
  unfold gEqB
  rw [a1, b1]
  dsimp only
  have s1 : SeqAt.shaped p = true := and2' a2 (decide_eq_true (by omega))
  have s2 : SeqAt.shaped q = true := and2' b2 (decide_eq_true (by omega))
  rw [if_pos ⟨s1, s2⟩, eq_py 60 _ _ p q h1 a1 b1]
theorem gEq_ev {L : Sto} {d e : D} (h1 : okD 60 (seen L d) = true) (h2 : okD 60 (seen L e) = true) : gEq d e L = .ok (.bl (eqD (seen L d) (seen L e))) L := by unfold gEq; rw [gEqB_ev h1 h2]
theorem gNe_ev {L : Sto} {d e : D} (h1 : okD 60 (seen L d) = true) (h2 : okD 60 (seen L e) = true) : gNe d e L = .ok (.bl (!eqD (seen L d) (seen L e))) L := by unfold gNe; rw [gEqB_ev h1 h2]
theorem okDL_ints (n : Nat) : ∀ r : List Int, okDL n (r.map .int) = true
  | [] => by simp [okDL]
  | x :: r => by
    rw [List.map_cons, okDL, okDL_ints n r]
    cases n <;> rfl
theorem drop_val {L L1 : Sto} {d : D} (ht : TakeOk L L1) (hb : d.bel L.length = true) : dropR L (.ok d L1) = .ok d (L1.take L.length) := dropR_ok ht (frz_bel hb)
theorem belL_ints (n : Nat) : ∀ r : List Int, belL n (r.map .int) = true
  | [] => rfl
  | x :: r => by rw [List.map_cons, belL, belL_ints n r]; rfl
theorem flat_rep {α : Type} (n : Nat) (x : α) : (List.replicate n [x]).flatten = List.replicate n x := by
  induction n with
  | zero => rfl
  | succ n ih => rw [List.replicate_succ, List.flatten_cons, ih, List.replicate_succ]; rfl
section
variable {src : List (Nat × D)} {tg : GF} {t : TF} {f fk fv : EF} {step : CS} {ρ : Env'} {L : Sto}
theorem cGo_lst {α : Type} (enc : α → D) (ys : α → List D) (hs : srcOk L src) : ∀ (xs : List α) (acc : List D), acc.length + (xs.flatMap ys).length ≤ 16777216 →
    (∀ a ∈ xs, ∀ acc : List D, acc.length + (ys a).length ≤ 16777216 → ∃ ρ1, tg (enc a) ρ = some ρ1 ∧ step ρ1 (.lst acc) L = .ok (.lst (acc ++ ys a)) L) → cGo src tg tTrue step ρ (xs.map enc) (.lst acc) L = .ok (.lst (acc ++ xs.flatMap ys)) L
  | [], acc, _, _ => by simp [cGo]
  | a :: xs, acc, hl, h => by
    rw [List.flatMap_cons, List.length_append] at hl
    obtain ⟨ρ1, h1, h2⟩ := h a (List.mem_cons_self) acc (by omega)
    have hr := cGo_lst enc ys hs xs (acc ++ ys a) (by rw [List.length_append]; omega) fun b hb => h b (List.mem_cons_of_mem _ hb)
    rw [List.map_cons, cGo]
    simp only [h1, tTrue, h2, if_pos hs]
    rw [hr, List.flatMap_cons, List.append_assoc]
theorem length_putD {κ : Type} [DecidableEq κ] (kvs : List (κ × D)) (k : κ) (v : D) : (putD kvs k v).length ≤ kvs.length + 1 := by
  unfold putD
  split
  · rw [List.length_map]; omega
  · rw [List.length_append]; simp
theorem length_mergeD : ∀ (more kvs : List (Key × D)), (mergeD kvs more).length ≤ kvs.length + more.length
  | [], kvs => Nat.le_refl _
  | m :: more, kvs => by
    show (mergeD (putD kvs m.1 m.2) more).length ≤ _
    have h1 := length_mergeD more (putD kvs m.1 m.2)
    have h2 := length_putD kvs m.1 m.2
    rw [List.length_cons]
    omega
theorem mergeD_append (kvs a b : List (Key × D)) : mergeD kvs (a ++ b) = mergeD (mergeD kvs a) b := List.foldl_append
theorem cGo_dict {α : Type} (enc : α → D) (ps : α → List (Key × D)) (hs : srcOk L src) : ∀ (xs : List α) (kvs : List (Key × D)), kvs.length + (xs.flatMap ps).length ≤ 16777216 →
    (∀ a ∈ xs, ∀ kvs : List (Key × D), kvs.length + (ps a).length ≤ 16777216 → ∃ ρ1, tg (enc a) ρ = some ρ1 ∧ step ρ1 (.dK kvs) L = .ok (.dK (mergeD kvs (ps a))) L) → cGo src tg tTrue step ρ (xs.map enc) (.dK kvs) L = .ok (.dK (mergeD kvs (xs.flatMap ps))) L
  | [], kvs, _, _ => by simp [cGo, mergeD]
  | a :: xs, kvs, hl, h => by
    rw [List.flatMap_cons, List.length_append] at hl
    obtain ⟨ρ1, h1, h2⟩ := h a (List.mem_cons_self) kvs (by omega)
    have hm := length_mergeD (ps a) kvs
    have hr := cGo_dict enc ps hs xs (mergeD kvs (ps a)) (by omega) fun b hb => h b (List.mem_cons_of_mem _ hb)
    rw [List.map_cons, cGo]
    simp only [h1, tTrue, h2, if_pos hs]
    rw [hr, List.flatMap_cons, mergeD_append]
theorem stepL_at {acc : List D} {y : D} (h : f ρ L = .ok y L) (hl : acc.length < 16777216) : stepL f ρ (.lst acc) L = .ok (.lst (acc ++ [y])) L := by
  unfold stepL
  simp only [h, if_pos hl]
theorem stepD_at {kvs : List (Key × D)} {k v : D} {key : Key} (h : fk ρ L = .ok k L) (hk : dKey k = some key) (hv : fv ρ L = .ok v L) (hl : kvs.length < 16777216) : stepD fk fv ρ (.dK kvs) L = .ok (.dK (putD kvs key v)) L := by
  unfold stepD
  simp only [h, hk, hv, if_pos hl]
theorem stepN_at {it : IF} {vs : List Nat} {its : Its} {c c' : D} (h : it ρ L = .ok its L) (hc : cGo its.src tg t step (wipeE ρ vs) its.ds c L = .ok c' L) : stepN it vs tg t step ρ c L = .ok c' L := by
  unfold stepN
  simp only [h, hc]
theorem eComp_at {it : IF} {own : List Nat} {its : Its} {c c' : D} {box : Bool} (h : it ρ L = .ok its L) (hc : cGo its.src tg t step (wipeE ρ own) its.ds c L = .ok c' L) : eComp box own c it tg t step ρ L = boxOut box c' L := by
  unfold eComp
  simp only [h, hc, Res.bind_ok]
end
def CXA (P : Program) : CXT := fun outer H s E u s' => ∃ w, L2.CX P w outer H s E u s'
theorem cxa_none {P : Program} (H : Hp) (s : Shared) (e : Value) (s' : Shared) (h : CXA P [] H s (fun _ _ _ => False) e s') : False := by
  obtain ⟨w, a, B, H', cls, d, _, _, _, _, _, _, _, h⟩ := h
  exact h
theorem fnX_any {gd : Bool} {P : Program} {w : World} {K : PySem.W.Frag} {mg : Str → Option Value} {base : Heap} {k : Nat} {f : Addr} {fd : FuncData} {ps : List Str} {sp sp' : Sp} (F : FnX gd P w K mg base (L2.CX P w) k f fd ps sp) (h : ∀ vs H Q E, sp' vs H Q E → sp vs H Q E) :
    FnX gd P w K mg base (CXA P) k f fd ps sp' := ⟨fun vs H Q E q => F.len vs H Q E (h vs H Q E q), fun A outer s H args us vs Q E hr hgd e0 hb r q => codeAny_mono (F.run A outer s H args us vs Q E hr hgd e0 hb r (h vs H Q E q)) fun r s' hq => by
  cases r with
  | ok fl => cases fl <;> exact hq
  | error e => exact ⟨w, hq⟩⟩
theorem law_sp {G : Gb} {m : List D → Sto → Res D} {ns : List Int} {H : Hp} {a : Addr} (hS : SqL G.K H a (ns.map V.int)) (hT : ∀ p ∈ G.tabs, H p.1 = some (.tbl #[])) (ht : ∃ L, m [.ro (ns.map .int)] [] = .ok (.bl true) L) : spD G 1 m [.ref a] H (fun v _ => v = .bl true) (fun _ _ _ => False) := by
  obtain ⟨L, e⟩ := ht
  have keep : ∀ b u, H b = some u → (∀ ps, u ≠ .tbl ps) → (if b ∈ G.tabs.map (·.1) then none else H b) = some u := fun b u e n => by
    by_cases z : b ∈ G.tabs.map (·.1)
    · obtain ⟨p, hp, rfl⟩ := List.mem_map.mp z
      rw [hT p hp] at e
      exact (n _ (Option.some.inj e).symm).elim
    · rw [if_neg z]; exact e
  have hS' : SqL G.K (fun b => if b ∈ G.tabs.map (·.1) then none else H b) a (ns.map V.int) := by
    rcases hS with (h | ⟨o, h⟩) | h
    · exact .inl (.inl (keep a _ h fun _ z => nomatch z))
    · exact .inl (.inr ⟨o, keep a _ h fun _ z => nomatch z⟩)
    · exact .inr h
  refine ⟨rfl, ⟨fun b => if b ∈ G.tabs.map (·.1) then none else H b, [], fun _ => none⟩, [], [.ro (ns.map .int)], ⟨fun b u e => ?_, rfl, List.nodup_nil, (fun _ h => nomatch h), (fun n a c h => ?_), (fun _ _ h => nomatch h), fun p hp => ?_⟩, .cons (.ro hS' (.of_ints ns)) .nil, ?_⟩
  · have e' : (if b ∈ G.tabs.map (·.1) then none else H b) = some u := e
    split at e'
    · cases e'
    · exact e'
  · simp at h
  · refine ⟨if_pos (List.mem_map.mpr ⟨p, hp, rfl⟩), (fun z => nomatch z), rfl, #[], hT p hp, trivial, fun q _ pos cv z => ?_⟩
    simp [codeAmong] at z
  · rw [e]
    intro w' H' v _ _ d
    cases d
    rfl
section
variable {P : Program} {w : World} {K : PySem.W.Frag} {mg mb : Str → Option Value} {CX : CXT} {k : Nat} {fa a : Addr} {cs : List (Addr × Addr)} {fd : FuncData} {x : Str} {sp : Sp} {s₁ : Shared} {vs : List Value} {ns : List Int}
theorem call_core (KX : K.In s₁.heap) (hns : s₁.heap.Ns mainGlobals mg) (hb : s₁.heap.Ns builtinsNs mb) (hbb : ∀ x : Str, x ≠ "__name__" → mb x = bootBuiltins x) (hlim : s₁.heap.NoLimit) (hg : s₁.gens = #[])
    (isT : ∀ b ∈ cs.map (·.2), s₁.heap.get? b = some { cls := .none, data := .fields #[] }) (nT : ∀ b ∈ cs.map (·.2), K.lookup b = none) (C : ∀ p ∈ cs, PySem.W.CodeHd s₁.heap p.1 p.2)
    (hbm : ∃ (bm : Addr) (ob : Obj), mg "__builtins__" = some (.ref bm) ∧ bm ≠ builtinsNs ∧ s₁.heap.get? bm = some ob ∧ ob.cls = .type "module" ∧ ob.dict = some builtinsNs ∧ ob.data = .plain)
    (ha : s₁.heap.get? a = some { cls := .type "list", data := .seq vs.toArray }) (hr : Room k callerA)
    (F : ∀ base : Heap, K.In base → base.Ns mainGlobals mg → (∀ p ∈ cs, LamX.TabB base mg p.1 p.2) → FnX true P w K mg base CX k fa fd [x] sp) (hbind : ∀ (s : Shared) (u : Value), BindsTo s fd ⟨[u], []⟩ [(x, u)])
    (hCX : ∀ H e s', CX [] H s₁ (fun _ _ _ => False) e s' → False) (H : Hp) (hok : HOk P w H s₁.heap) (hH : ∀ b ∈ cs.map (·.2), H b = some (.tbl #[]))
    (only : ∀ b u, H b = some u → b ∈ cs.map (·.2) ∨ (b = a ∧ K.lookup a = none ∧ ∃ o xs, u = .frz o (.lst xs))) (hsp : sp [.ref a] H (fun v _ => v = .bl true) fun _ _ _ => False) :
    codeAny (model P w) callerA (.call (.ref fa) ⟨[.ref a], []⟩) (fun r s' => r = .ok (.ret (.bool true)) ∧ OldK s₁.heap s'.heap ∧ s'.os = s₁.os ∧ AllBare s'.gens) s₁ := by
  have free : ∀ {b : Addr} {o : Obj}, s₁.heap.get? b = some o → (∀ vs n, o.data ≠ .seq vs n) → o.data ≠ .fields #[] → H b = none := fun {b o} e h1 h2 => by
    cases q : H b with
    | none => rfl
    | some u =>
      exfalso
      rcases only b u q with hm | ⟨rfl, _⟩
      · exact h2 (by cases (isT b hm).symm.trans e; rfl)
      · exact h1 _ _ (by cases ha.symm.trans e; rfl)
  have base : ∀ {b : Addr} {o : Obj}, s₁.heap.get? b = some o → H b = none → (hidT s₁.heap H).get? b = some o := fun e n => hidT_get e n
  have ofDict : ∀ {b : Addr} {m : Str → Option Value}, s₁.heap.Ns b m → (hidT s₁.heap H).Ns b m := fun {b m} ⟨o, es, ep, e, d, r⟩ => ⟨o, es, ep, base e (free e (fun vs n z => by rw [d] at z; cases z) fun z => by rw [d] at z; cases z), d, r⟩
  have KB : K.In (hidT s₁.heap H) := fun b o e => base (KX b o e) (by
    cases q : H b with
    | none => rfl
    | some u =>
      exfalso
      rcases only b u q with hm | ⟨rfl, n, _⟩
      · rw [nT b hm] at e; cases e
      · rw [n] at e; cases e)
  have M : L2.Mod K mg (hidT s₁.heap H) := ⟨KB, ofDict hns, ⟨mb, ofDict hb, hbb⟩, by obtain ⟨mc, h1, h2⟩ := hlim; exact ⟨mc, ofDict h1, h2⟩⟩
  have TB : ∀ p ∈ cs, LamX.TabB (hidT s₁.heap H) mg p.1 p.2 := fun p hp => by
    have tp := isT p.2 (List.mem_map.mpr ⟨p, hp, rfl⟩)
    have plainNot : ∀ {b : Addr} {o : Obj}, s₁.heap.get? b = some o → o.data = .plain → b ≠ p.2 := fun {b o} e d z => by rw [z, tp] at e; cases e; cases d
    constructor
    · obtain ⟨o, us, file, tf, flags, tg, inF, text, tt, e1, r1, r2, r3, r⟩ := C p hp
      exact ⟨o, us, file, tf, flags, tg, inF, text, tt, base e1 (free e1 (fun vs n z => by rw [r2] at z; cases z) fun z => by rw [r2] at z; cases z; simp at r3), r1, r2, r3, r⟩
    · obtain ⟨bm, ob, b1, b2, b3, b4, b5, b6⟩ := hbm
      refine ⟨bm, ob, b1, b2, fun z => ?_, plainNot b3 b6, base b3 (free b3 (fun vs n z => by rw [b6] at z; cases z) fun z => by rw [b6] at z; cases z), b4, b5, b6⟩
      obtain ⟨o, es, ep, e, hd, _⟩ := hns
      rw [z, e] at b3
      cases b3
      rw [hd] at b6
      cases b6
    · intro z
      obtain ⟨o, es, ep, e, hd, _⟩ := hns
      rw [z, tp] at e
      cases e
      cases hd
  have E0 : Env0 P w K mg (hidT s₁.heap H) callerA [] s₁ H := ⟨rfl, M, fun _ _ e => of_hidT e, Nat.le_of_eq (hidT_size _ _), trivial, (fun _ z => nomatch z), hok, .of_eq hg⟩
  refine codeAny_mono ((F _ KB (ofDict hns) TB).run callerA [] s₁ H ⟨[.ref a], []⟩ [.ref a] [.ref a] _ _ hr (fun _ => rfl) E0 (hbind s₁ (.ref a)) (.cons rfl .nil) hsp) fun r s' h => ?_
  match r, h with
  | .error e, h => exact (hCX H e s' h).elim
  | .ok .next, h => exact h.elim
  | .ok .brk, h => exact h.elim
  | .ok .cont, h => exact h.elim
  | .ok (.ret u), h =>
    obtain ⟨v, H', os, bare, un, hok', rv, q⟩ := h
    obtain rfl : v = .bl true := q
    obtain rfl : u = Value.bool true := rv
    have same : ∀ b o, b ∉ cs.map (·.2) → s₁.heap.get? b = some o → s'.heap.get? b = some o := fun b o nb e => by
      cases q : H b with
      | none => exact un.keep b o e q (fun z => nomatch z) (fun z => nomatch z)
      | some t =>
        rcases only b t q with hm | ⟨_, _, ob, xs, rfl⟩
        · exact (nb hm).elim
        · have e1 := (hok b _ q).1
          have e2 := (hok' b _ (un.frzs b ob _ q)).1
          rw [e] at e1
          cases e1
          exact e2
    have more : ∀ b ∈ cs.map (·.2), ∃ m : Array Value, s'.heap.get? b = some { cls := .none, data := .fields m } := fun b hm => by
      obtain ⟨m, z⟩ := un.tbls b #[] (hH b hm)
      exact ⟨_, hok' b _ z⟩
    refine ⟨rfl, ⟨fun b o e => ?_, fun b o e => ?_⟩, os, bare⟩
    · by_cases hm : b ∈ cs.map (·.2)
      · obtain ⟨m, z⟩ := more b hm
        obtain ⟨p, hp, rfl⟩ := List.mem_map.mp hm
        have tp := isT p.2 hm
        cases tp.symm.trans e
        exact .inr (.inl ⟨((C p hp).tab tp).isCodeTable, rfl, #[], m, rfl, by rw [Array.empty_append]; exact z⟩)
      · exact .inl (same b o hm e)
    · by_cases hm : b ∈ cs.map (·.2)
      · obtain ⟨m, z⟩ := more b hm
        exact ⟨_, z⟩
      · exact ⟨o, same b o hm e⟩
end
theorem walk_ofG {l : PySem.W.OpenLaw} {n k : Nat} {q : Program} {loose : List Str} {XP : (Str → Option Value) → Heap → Prop} {YP : World → Heap → Prop} {d : DefRec} {CX : CXT} {x : Str} (hn : l.most = some n) (hn2 : n ≤ sizeLine) (hdf : d.params.defaults = []) (hr : Room k callerA)
    (F : ∀ (w : World) (mg : Str → Option Value) (fa : Addr) (h : Heap), YP w h → h.Ns mainGlobals mg → mg d.name = some (.ref fa) → ∃ (K : PySem.W.Frag) (fd : FuncData) (cs : List (Addr × Addr)) (sp : Sp), K.In h ∧
      (∀ p ∈ cs, h.get? p.2 = some { cls := .none, data := .fields #[] }) ∧ (∀ p ∈ cs, K.lookup p.2 = none) ∧ (∀ p ∈ cs, PySem.W.CodeHd h p.1 p.2) ∧ (∀ (s : Shared) (u : Value), BindsTo s fd ⟨[u], []⟩ [(x, u)]) ∧
      (∀ (H : Hp) (a : Addr) (ns : List Int), ns.length ≤ n → (∀ p ∈ cs, H p.2 = some (.tbl #[])) → SqL K H a (ns.map V.int) → sp [.ref a] H (fun v _ => v = .bl true) fun _ _ _ => False) ∧
      ∀ base : Heap, K.In base → base.Ns mainGlobals mg → (∀ p ∈ cs, LamX.TabB base mg p.1 p.2) → FnX true l.prog w K mg base CX k fa fd [x] sp)
    (hCX : ∀ (H : Hp) (s : Shared) (e : Value) (s' : Shared), CX [] H s (fun _ _ _ => False) e s' → False) : PySem.W.WalkO q loose XP YP l.row.toRowW d [] (fun f vs => PySem.call f vs) := by
  refine Att.attach_call hn hdf fun w s₀ s₁ mg mb fa o pm cd doc a vs ns G Y ho hd hcd hmg hobj hints hlen hg => ?_
  obtain ⟨K, fd, cs, sp, KX, hT, nT, C, hb, hsp, hF⟩ := F w mg fa _ Y G.T.g hmg
  have rv := vals_ints hints
  have lv := hints.length
  have isT : ∀ b ∈ cs.map (·.2), s₁.heap.get? b = some { cls := .none, data := .fields #[] } := fun b hm => by
    obtain ⟨p, hp, rfl⟩ := List.mem_map.mp hm
    exact hT p hp
  have noK : ∀ b ∈ cs.map (·.2), K.lookup b = none := fun b hm => by
    obtain ⟨p, hp, rfl⟩ := List.mem_map.mp hm
    exact nT p hp
  have aT : a ∉ cs.map (·.2) := fun z => by
    cases congrArg Obj.data (Option.some.inj ((isT a z).symm.trans hobj))
  have hl : ns.length ≤ sizeLine := Nat.le_trans hlen hn2
  have go := call_core KX G.T.g G.T.b G.T.builtins G.T.nolimit hg isT noK C G.T.bmain hobj hr hF hb (fun H e s' => hCX H s₁ e s')
  have mem : ∀ p ∈ cs, p.2 ∈ cs.map (·.2) := fun p hp => List.mem_map.mpr ⟨p, hp, rfl⟩
  have tabOk : ∀ {H : Hp} b, b ∈ cs.map (·.2) → ObjOk l.prog w H s₁.heap b (.tbl #[]) := fun b hm => isT b hm
  cases hk : K.lookup a with
  | some o =>
    have e := KX a o hk
    rw [hobj] at e
    cases e
    refine go (fun b => if b ∈ cs.map (·.2) then some (.tbl #[]) else none) (fun b u z => ?_) (fun b hm => if_pos hm) (fun b u z => ?_) (hsp _ a ns hlen (fun p hp => if_pos (mem p hp)) (.inr ⟨_, vs.toArray, _, hk, rfl, rfl, rfl, by rw [List.size_toArray, lv]; exact hl, by simpa using rv⟩))
    · have z' : (if b ∈ cs.map (·.2) then some (HO.tbl #[]) else none) = some u := z
      split at z'
      · rename_i hm
        cases z'
        exact tabOk b hm
      · cases z'
    · have z' : (if b ∈ cs.map (·.2) then some (HO.tbl #[]) else none) = some u := z
      split at z'
      · rename_i hm
        exact .inl hm
      · cases z'
  | none =>
    refine go (fun b => if b = a then some (.frz { cls := .type "list", data := .seq vs.toArray } (.lst (ns.map V.int))) else if b ∈ cs.map (·.2) then some (.tbl #[]) else none) (fun b u z => ?_) (fun b hm => (if_neg fun z : b = a => aT (z ▸ hm)).trans (if_pos hm)) (fun b u z => ?_)
      (hsp _ a ns hlen (fun p hp => (if_neg fun z : p.2 = a => aT (z ▸ mem p hp)).trans (if_pos (mem p hp))) (.inl (.inr ⟨_, if_pos rfl⟩)))
    · have z' : (if b = a then some (HO.frz { cls := .type "list", data := .seq vs.toArray } (.lst (ns.map V.int))) else if b ∈ cs.map (·.2) then some (.tbl #[]) else none) = some u := z
      split at z'
      · rename_i hb
        cases z'
        rw [hb]
        exact ⟨hobj, by rw [List.length_map]; exact hl, vs, _, rv, hobj⟩
      · split at z'
        · rename_i hm
          cases z'
          exact tabOk b hm
        · cases z'
    · have z' : (if b = a then some (HO.frz { cls := .type "list", data := .seq vs.toArray } (.lst (ns.map V.int))) else if b ∈ cs.map (·.2) then some (.tbl #[]) else none) = some u := z
      split at z'
      · rename_i hb
        cases z'
        exact .inr ⟨hb, hk, _, _, rfl⟩
      · split at z'
        · rename_i hm
          exact .inl hm
        · cases z'
section
variable {ρ ρ1 : Env'} {L L1 L2 : Sto} {d e v : D} {r : SRes} {q : Res D} {f g : SF} {t u : TF} {fa fb : EF} {fl : AF} {ds : List D} {i n N : Nat} {b : Bool}
theorem ev_seq (h : f ρ L = .nx ρ1 L1) (k : g ρ1 L1 = r) : sSeq f g ρ L = r := by unfold sSeq; rw [h]; exact k
theorem ev_seqR (h : f ρ L = .rt d L1) : sSeq f g ρ L = .rt d L1 := by unfold sSeq; rw [h]
theorem ev_if_t (h : t ρ L = .ok true L1) (k : f ρ L1 = r) : sIf t f g ρ L = r := by unfold sIf; rw [h]; exact k
theorem ev_if_f (h : t ρ L = .ok false L1) (k : g ρ L1 = r) : sIf t f g ρ L = r := by unfold sIf; rw [h]; exact k
theorem ev_skip (h : t ρ L = .ok false L1) : sIf t f sSkip ρ L = .nx ρ L1 := ev_if_f h rfl
theorem ev_set (h : fa ρ L = .ok d L1) : sSet i fa ρ L = .nx (ρ.set i (some d)) L1 := by unfold sSet; rw [h]; rfl
theorem ev_ret (h : fa ρ L = .ok d L1) : sRet fa ρ L = .rt d L1 := by unfold sRet; rw [h]; rfl
theorem ev_m {F : SF} (h : F (startE N ds) L = .rt d L1) : mOf N F ds L = .ok d L1 := by unfold mOf; rw [h]; rfl
theorem ev_var (h : ρ[i]? = some (some d)) : eVar i ρ L = .ok d L := by unfold eVar; rw [h]
theorem ev_e2 {k : D → D → Sto → Res D} (h : fa ρ L = .ok d L1) (h2 : fb ρ L1 = .ok e L2) : e2 k fa fb ρ L = k d e L2 := by unfold e2; rw [h, Res.bind_ok, h2, Res.bind_ok]
theorem ev_en {k : List D → Sto → Res D} (h : fl ρ L = .ok ds L1) : en k fl ρ L = k ds L1 := by unfold en; rw [h]; rfl
theorem ev_cons (h : fa ρ L = .ok d L1) (h2 : fl ρ L1 = .ok ds L2) : aCons fa fl ρ L = .ok (d :: ds) L2 := by unfold aCons; rw [h, Res.bind_ok, h2]; rfl
theorem ev_one (h : fa ρ L = .ok d L1) : aCons fa aNil ρ L = .ok [d] L1 := ev_cons h rfl
theorem ev_call {m : List D → Sto → Res D} (h : fl ρ L = .ok ds L1) (hn : ds.length = n) : eCall n m [] fl ρ L = m ds L1 := by
  unfold eCall; rw [h]; dsimp only [Res.bind]; rw [List.append_nil, if_pos hn]
theorem ev_asB (h : fa ρ L = .ok (.bl b) L1) : asB (fa ρ L) = .ok b L1 := by rw [h]; rfl
end
def insAt (L : Sto) (d : D) : Option (Str × List (Str × D)) := match d with
  | .ins c fs => some (c, fs)
  | .loc n => (match L[n]? with
    | some (.ins c fs) => some (c, fs)
    | _ => none)
  | _ => none
theorem DenF.look {G : Gb} {w : Wd} (f : Str) : ∀ {fs : List (Str × V)} {gs : List (Str × D)} {d : D}, DenF G w fs gs → gs.lookup f = some d → ∃ v, fs.lookup f = some v ∧ Den G w v d
  | _, _, _, .nil, e => by cases e
  | _, _, d, .cons (k := k) (d := d') h t, e => by
    by_cases hk : f = k
    · subst hk
      rw [List.lookup_cons_self] at e
      cases e
      exact ⟨_, List.lookup_cons_self, h⟩
    · have hb : (f == k) = false := beq_eq_false_iff_ne.mpr hk
      rw [List.lookup_cons, hb] at e
      obtain ⟨v, h1, h2⟩ := DenF.look f t e
      exact ⟨v, by rw [List.lookup_cons, hb]; exact h1, h2⟩
def putFD (f : Str) (v : D) : List (Str × D) → List (Str × D)
  | [] => [(f, v)]
  | (g, x) :: r => if g = f then (g, v) :: r else (g, x) :: putFD f v r
theorem DenF.put {G : Gb} {w : Wd} {f : Str} {v : V} {d : D} (h : Den G w v d) : ∀ {fs : List (Str × V)} {gs : List (Str × D)}, DenF G w fs gs → DenF G w (putF f v fs) (putFD f d gs)
  | _, _, .nil => .cons h .nil
  | _, _, .cons (k := k) a t => by
    unfold putF putFD
    split
    · exact .cons h t
    · exact .cons a (DenF.put h t)
theorem DenF.length {G : Gb} {w : Wd} : ∀ {fs : List (Str × V)} {gs : List (Str × D)}, DenF G w fs gs → fs.length = gs.length
  | _, _, .nil => rfl
  | _, _, .cons a t => by rw [List.length_cons, List.length_cons, DenF.length t]
def gFld (c f : Str) (d : D) (L : Sto) : Res D := match insAt L d with
  | some (c', fs) => if c' = c then (match fs.lookup f with
    | some x => .ok x L
    | none => .bad) else .bad
  | none => .bad
def eFld (c f : Str) (fa : EF) : EF := fun ρ L => (fa ρ L).bind (gFld c f)
section
variable {S : Sc} {W : WX} {a b e o value : Expr} {es : List Expr} {fa fb fv fo : EF} {fl : AF} {pos p pos' apos : Pos}
def gFldPut (c f : Str) (y d : D) (L : Sto) : Option Sto := match d with
  | .loc n => (match L[n]? with
    | some (.ins c' fs) => if c' = c ∧ fs.length < 1000 then some (L.set n (.ins c (putFD f y fs))) else none
    | _ => none)
  | _ => none
def sFldPut (c f : Str) (fv fo : EF) : SF := fun ρ L => sBind (fv ρ L) ρ fun y L1 => sBind (fo ρ L1) ρ fun d L2 => match gFldPut c f y d L2 with
  | some L3 => .nx ρ L3
  | none => .bad
end
structure MkIs (gd : Bool) (G : Gb) (c : Str) (n k : Nat) (m : List D → Sto → Res D) (dd : List D) : Prop where
  ex : ∃ (C f : Addr) (fd : FuncData) (ps : List Str) (ds : List Value) (dvs : List V), G.mg c = some (.ref C) ∧ Mk G.K C f ∧ Binds G.K fd ps ds ∧ Vals dvs ds ∧ (∀ w, DenL G w dvs dd) ∧
    FnX gd G.P G.w G.K G.mg G.base (L2.CX G.P G.w) k f fd ps (spD G n m)
def eMk (n : Nat) (m : List D → Sto → Res D) (dd : List D) (fl : AF) : EF := fun ρ L => (fl ρ L).bind fun ds L1 => if (ds ++ dd).length + 1 = n then m (ds ++ dd) L1 else .bad
section
variable {S : Sc} {W : WX} {a b e c o : Expr} {es : List Expr} {fl : AF} {pos p : Pos} {x : Str} {n k : Nat} {m : List D → Sto → Res D} {dd : List D} {gd : Bool}
theorem Rel.fresh {G : Gb} {w : Wd} {L : Sto} {H : Hp} (R : Rel G w L H) {p : Addr} {o : HO} (hp : H p = none) : Rel G w L (upd H p o) := by
  have R1 := R.newP (o := o) hp
  refine ⟨R1.sub, R1.len, R1.nd, R1.free, fun n a c e1 e2 => ?_, fun a u e => ?_, R.tab.step (fun q a b c ⟨ps, d⟩ => ⟨a, b, c, upd_ne fun z => by rw [z, hp] at d; cases d⟩) fun c u e => e⟩
  · obtain ⟨ob, h1, h2⟩ := R1.box n a c e1 e2
    exact ⟨ob, h1, h2.le0 (Wd.prv_le ⟨w.F, w.φ, upd w.prv p o⟩ w.prv)⟩
  · obtain ⟨h1, h2, h3⟩ := R.prv a u e
    exact ⟨by rw [upd_ne (ne_of_none h1 hp)]; exact h1, h2, h3⟩
end
def spSl2 (C : Addr) : Sp := fun vs H Q E => ∃ a dx u v, vs = [.ref a, u, v] ∧ H a = some (.ins C dx []) ∧ dx ≠ a ∧ ∀ H', H' = SlX.slH H a C dx [some u, some v] → Q .non H'
structure SlIs (G : Gb) (c : Str) : Prop where
  ex : ∃ (C f : Addr) (fd : FuncData) (ps : List Str), G.mg c = some (.ref C) ∧ Mk G.K C f ∧ Binds G.K fd ps [] ∧ FnOk G.P G.w G.K G.mg G.base (L2.CX G.P G.w) 1 f fd ps (spSl2 C)
def gSl2 (c : Str) (ds : List D) (L : Sto) : Res D := if ds.length = 2 then .ok (.sl c ds) L else .bad
section
variable {S : Sc} {W : WX} {a b e o : Expr} {es : List Expr} {fa : EF} {fl : AF} {pos p : Pos} {c f : Str}
def gSlt (c : Str) (i : Nat) (d : D) (L : Sto) : Res D := match d with
  | .sl c' xs => if c' = c then (match xs[i]? with
    | some x => .ok x L
    | none => .bad) else .bad
  | _ => .bad
end
def clsOf (L : Sto) (d : D) : Option (Str × Bool) := match d with
  | .ins c _ => some (c, false)
  | .sl c _ => some (c, true)
  | .loc n => (match L[n]? with
    | some (.ins c _) => some (c, false)
    | _ => none)
  | _ => none
structure ClsT (G : Gb) (cs : List (Str × Bool)) : Prop where
  one : ∀ q ∈ cs, ∃ C, G.mg q.1 = some (.ref C) ∧ SlX.SIsi G.K C ∧ (q.2 = false → Cls G.K C) ∧ (q.2 = true → SlX.SCls G.K C) ∧ (∀ T : Tc, PySem.W.kitOne G.K (.ref C) (.type T.name) = some false) ∧ ∀ t : Ty, PySem.W.kitOne G.K (.type t.name) (.ref C) = some false
  two : ∀ q ∈ cs, ∀ r ∈ cs, ∀ C C', G.mg q.1 = some (.ref C) → G.mg r.1 = some (.ref C') → PySem.W.kitOne G.K (.ref C) (.ref C') = some (decide (q.1 = r.1))
def gIsiK (cs : List (Str × Bool)) (T : Tc) (d : D) (L : Sto) : Res D := match tyOfL L d with
  | some t => .ok (.bl (isiB t T)) L
  | none => (match clsOf L d with
    | some q => if q ∈ cs then .ok (.bl false) L else .bad
    | none => .bad)
def gIsiO (cs : List (Str × Bool)) (c2 : Str) (d : D) (L : Sto) : Res D := match tyOfL L d with
  | some t => .ok (.bl false) L
  | none => (match clsOf L d with
    | some q => if q ∈ cs then .ok (.bl (decide (q.1 = c2))) L else .bad
    | none => .bad)
theorem callR_or {X : Cx} {f : Value} {r1 r2 : List V → Hp → VK → Prop} (h1 : CallR X f r1) (h2 : CallR X f r2) : CallR X f (fun xs H Q => r1 xs H Q ∨ r2 xs H Q) := fun pins s σ H xs us Q I r h => h.elim (h1 pins s σ H xs us Q I r) (h2 pins s σ H xs us Q I r)
section
variable {S : Sc} {W : WX} {a b e o : Expr} {es : List Expr} {fa f : EF} {fl : AF} {pos p : Pos}
theorem isi_own {G : Gb} {w : Wd} {L : Sto} {H : Hp} {v cv : V} {d : D} {q : Str × Bool} {cs : List (Str × Bool)} {u : Value} {b0 : Bool} {Q : VK} (T : ClsT G cs) (R : Rel G w L H) (h : Den G w v d) (e : clsOf L d = some q) (hq : q ∈ cs)
    (cv' : ClsV cv u) (hr : RelV cv u) (hk : ∀ C, G.mg q.1 = some (.ref C) → PySem.W.kitOne G.K (.ref C) u = some b0) (k : Q (.bl b0) H) : rIsi G.K [v, cv] H Q ∨ SlX.rIsiSl G.K u [v, cv] H Q := by
  obtain ⟨C, m, is, k1, k2, _, _⟩ := T.one q hq
  have hk2 := hk C m
  cases h with
  | @ins a C' dx c fs gs hi m' r =>
    cases e
    rw [m] at m'
    cases m'
    exact .inl ⟨.ref a, cv, .ref C, u, b0, rfl, cv', .base (.ins (R.sub _ _ hi) (k1 rfl) is.ca is.cn is.ct is.cm), hk2, k⟩
  | @sl a C' dx c vs ds hi hd m' r =>
    cases e
    rw [m] at m'
    cases m'
    exact .inr ⟨a, C, dx, vs.map some, cv, b0, rfl, hr, fun w hw => cv'.eq hw, .inr ⟨R.sub _ _ hi, R.sub _ _ hd⟩, k2 rfl, is, hk2, k⟩
  | @loc n a hn =>
    dsimp only [clsOf] at e
    split at e
    · rename_i c' fs' hy
      cases e
      obtain ⟨o, h1, h2⟩ := R.box n a _ hn hy
      cases h2 with
      | ins m' r =>
        rw [m] at m'
        cases m'
        exact .inl ⟨.ref a, cv, .ref C, u, b0, rfl, cv', .base (.ins h1 (k1 rfl) is.ca is.cn is.ct is.cm), hk2, k⟩
    · cases e
  | _ => cases e
theorem se_isiK {cs : List (Str × Bool)} (CT : ClsT S.g cs) (T : Tc) {x : Str} {pT : Pos} (B : Bl S.g) (hm : S.g.mg x = none) (hx : bootBuiltins x = some (.type T.name)) (ha : SE S W e f) (hg : Glb S "isinstance" := by rfl) (hgT : Glb S x := by rfl)
    (he : ∀ env, starEach [e, .Name x pT] env = (false, eval e env) :: starEach [.Name x pT] env := by intro _; rfl)
    (he2 : ∀ env, starEach [.Name x pT] env = (false, eval (.Name x pT) env) :: starEach [] env := by intro _; rfl)
    (hpl : ∀ env, (backTo pos (starEach [.Name x pT] env)).any (·.1) = false := by intro _; rfl) (hn : x ≠ "__name__" := by decide) (hd : (x == ("__debug__" : Str)) = false := by decide) :
    SE S W (.Call (.Name "isinstance" p) [e, .Name x pT] [] pos) (e1 (gIsiK cs T) f) := fun X h =>
  PE.imp (pe_callB (callR_or (call_isi (X := X)) (SlX.call_isiSl (X := X) (.type T.name))) (by show X.env.scope.names.lookup _ = _; rw [← h.sc]; exact hg) (by rw [← h.mg]; exact B.isinstance) (by decide +kernel)
    (pa_cons (ha X h) (pa_cons (pe_bltn (v := .ty T.name) (by show X.env.scope.names.lookup _ = _; rw [← h.sc]; exact hgT) (by rw [← h.mg]; exact hm) hx rfl hn hd) pa_nil (he2 _)) (he _)) (by decide) (by decide) (he _) (hpl _)) fun σ H Q ⟨w, ρ, L, R, e, p⟩ =>
    ⟨w, ρ, L, R, e, (Post.bind (rel := Den S.g) p).imp (fun v H1 ⟨w1, d, L1, l1, R1, d1, p1⟩ => by
      unfold gIsiK at p1
      split at p1
      · rename_i t ht
        exact .inl ⟨_, _, _, _, isiB t T, rfl, .ty _, by rw [← h.K]; exact ty_at R1 d1 ht, kit_ty (isiB_ok t T), Post.ok p1 (.refl _) R1 (.bl _)⟩
      · split at p1
        · rename_i q hq
          split at p1
          · rename_i hc
            have k := isi_own (cv := .ty T.name) (u := .type T.name) (b0 := false) (Q := Q) CT R1 d1 hq hc (.ty _) rfl (fun C m => by
              obtain ⟨C', m', _, _, _, k, _⟩ := CT.one q hc
              rw [m] at m'; cases m'; exact k T) (Post.ok p1 (.refl _) R1 (.bl _))
            rw [h.K] at k
            exact k
          · exact p1.elim
        · exact p1.elim) fun _ _ _ z => z⟩
end
abbrev P2 := Int × Int
def pairD (p : P2) : D := .tup [.int p.1, .int p.2]
def l2 (p : P2) : List Int := [p.1, p.2]
abbrev Chk := PySem.W.Frag → Bool
def fa (f : He.Fa) : Chk := fun K => f.ok K
def obsZ (ck : List Chk) (fn : List He.DefD) (K : PySem.W.Frag) : He.AlD := ((ck.all fun f => f K) && fn.all fun d => d.ok K, fn.map fun d => He.fnW K d.at_)
def SaysZ (ck : List Chk) (fn : List He.DefD) (K : PySem.W.Frag) : Prop := obsZ ck fn K = He.valD fn
section
variable {ck : List Chk} {fn : List He.DefD} {K : PySem.W.Frag}
theorem SaysZ.all (c : SaysZ ck fn K) : ((ck.all fun f => f K) && fn.all fun d => d.ok K) = true := congrArg (fun z : He.AlD => z.1) c
theorem SaysZ.chk (c : SaysZ ck fn K) (i : Nat) {f : Chk} (h : ck[i]? = some f := by rfl) : f K = true := List.all_eq_true.mp (and2 c.all).1 f (List.mem_of_getElem? h)
theorem SaysZ.def_ (c : SaysZ ck fn K) (i : Nat) {d : He.DefD} (h : fn[i]? = some d := by rfl) : ∃ fd, FunD K d.name d.qual d.params d.body d.scope (d.dvs K) (d.kws K) (He.fAd K d.at_) fd := by
  have h2 := List.all_eq_true.mp (and2 c.all).2 d (List.mem_of_getElem? h)
  have e : fn.map (fun d => He.fnW K d.at_) = fn.map He.DefD.val := congrArg (fun z : He.AlD => z.2) c
  have e2 : He.fnW K d.at_ = d.val := by
    have z : (fn.map fun d => He.fnW K d.at_)[i]? = (fn.map He.DefD.val)[i]? := by rw [e]
    rw [List.getElem?_map, List.getElem?_map, h] at z
    exact Option.some.inj z
  exact He.DefD.funD e2 h2
end
section
variable {K : PySem.W.Frag} {h : Heap} {mg : Str → Option Value} {P : Program} {w : World} {base : Heap} {tb : List (Addr × Option Str)}
def eqV (a b : Option Value) : Bool := decide (a = b)
def eqB (a b : Option Bool) : Bool := decide (a = b)
def chkSC (c : Str) : Chk := fun K => PySem.W.plainGet K (He.ga K c) Str.empty && (PySem.W.isClsIn K (He.ga K c) && (PySem.W.plainOver K (He.ga K c) && He.eqO (PySem.W.findIn K (.ref (He.ga K c)) "__setattr__") (some (some (.builtin "object.__setattr__")))))
theorem chkSC_ok {c : Str} (e : chkSC c K = true) : SlX.SCls K (He.ga K c) := by
  obtain ⟨h1, e⟩ := and2 e
  obtain ⟨h2, e⟩ := and2 e
  obtain ⟨h3, e⟩ := and2 e
  exact ⟨h1, h2, h3, He.eqO_ok e⟩
def tcAll : List Tc := [.int, .bl, .str, .tup, .lst, .dict]
def tyAll : List Ty := [.non, .bl, .int, .str, .tup, .lst, .dict]
def chkI1 (q : Str × Bool) : Chk := fun K => fa (.glo q.1) K && (He.eqO (PySem.W.findIn K (.ref (He.ga K q.1)) "__class__") (some (some (.builtin "object.__class__"))) && (He.eqO (PySem.W.specialIn K (.builtin "object.__class__") "__get__") (some (some (.builtin "getset_descriptor.__get__"))) &&
  (eqB (PySem.W.takesIn K (.builtin "object.__class__")) (some true) && (eqB (PySem.W.mroIn K (He.ga K q.1) (.type "object")) (some true) && ((if q.2 then chkSC q.1 K else fa (.cls q.1) K) && ((tcAll.all fun T => eqB (PySem.W.kitOne K (.ref (He.ga K q.1)) (.type T.name)) (some false)) &&
  tyAll.all fun t => eqB (PySem.W.kitOne K (.type t.name) (.ref (He.ga K q.1))) (some false)))))))
def chkT (cs : List (Str × Bool)) : Chk := fun K => (cs.all fun q => chkI1 q K) && cs.all fun q => cs.all fun r => eqB (PySem.W.kitOne K (.ref (He.ga K q.1)) (.ref (He.ga K r.1))) (some (decide (q.1 = r.1)))
theorem clsT_of (X : K.In h) (Gn : h.Ns mainGlobals mg) {cs : List (Str × Bool)} (e : chkT cs K = true) : ClsT ⟨P, w, K, mg, base, tb⟩ cs := by
  obtain ⟨e1, e2⟩ := and2 e
  have glo : ∀ q ∈ cs, mg q.1 = some (.ref (He.ga K q.1)) := fun q hq => He.glo_ok X Gn (and2 (List.all_eq_true.mp e1 q hq)).1
  refine ⟨fun q hq => ?_, fun q hq r hr C C' h1 h2 => ?_⟩
  · obtain ⟨h1, k⟩ := and2 (List.all_eq_true.mp e1 q hq)
    obtain ⟨h2, k⟩ := and2 k
    obtain ⟨h3, k⟩ := and2 k
    obtain ⟨h4, k⟩ := and2 k
    obtain ⟨h5, k⟩ := and2 k
    obtain ⟨h6, k⟩ := and2 k
    obtain ⟨h7, k⟩ := and2 k
    refine ⟨He.ga K q.1, glo q hq, ⟨He.eqO_ok h2, He.eqO_ok h3, of_decide_eq_true h4, of_decide_eq_true h5⟩, fun hb => ?_, fun hb => ?_, fun T => ?_, fun t => ?_⟩
    · rw [hb, if_neg (by decide)] at h6
      exact He.cls_ok h6
    · rw [hb, if_pos rfl] at h6
      exact chkSC_ok h6
    · exact of_decide_eq_true (List.all_eq_true.mp h7 T (by cases T <;> simp [tcAll]))
    · exact of_decide_eq_true (List.all_eq_true.mp k t (by cases t <;> simp [tyAll]))
  · have k := of_decide_eq_true (List.all_eq_true.mp (List.all_eq_true.mp e2 q hq) r hr)
    have g1 := glo q hq
    have g2 := glo r hr
    dsimp only at h1 h2
    rw [g1] at h1
    rw [g2] at h2
    cases h1
    cases h2
    exact k
end
def inCls (s : Stmt) (j : Nat) : Stmt := match s with
  | .ClassDef _ _ _ b _ _ _ _ _ _ _ => b.getD j (.Pass ⟨0, 0, 0, 0⟩)
  | _ => .Pass ⟨0, 0, 0, 0⟩
structure MetIs (gd : Bool) (G : Gb) (c x : Str) (n k : Nat) (m : List D → Sto → Res D) (dd : List D) : Prop where
  ex : ∃ (C f : Addr) (fd : FuncData) (ps : List Str) (ds : List Value) (dvs : List V), G.mg c = some (.ref C) ∧ Cls G.K C ∧ Meth G.K C x f ∧ Binds G.K fd ps ds ∧ Vals dvs ds ∧ (∀ w, DenL G w dvs dd) ∧
    FnX gd G.P G.w G.K G.mg G.base (L2.CX G.P G.w) k f fd ps (spD G n m)
section
variable {gd : Bool} {S : Sc} {W : WX} {e o : Expr} {es : List Expr} {fo : EF} {fl : AF} {pos apos : Pos} {c x : Str} {n k : Nat} {m : List D → Sto → Res D} {dd : List D}
structure PrpIs (G : Gb) (c x : Str) (k : Nat) (m : List D → Sto → Res D) : Prop where
  ex : ∃ (C p g : Addr) (fd : FuncData) (ps : List Str), G.mg c = some (.ref C) ∧ Cls G.K C ∧ PropOf G.K C x p g ∧ Binds G.K fd ps [] ∧ FnOk G.P G.w G.K G.mg G.base (L2.CX G.P G.w) k g fd ps (spD G 1 m)
def okR : Res D → Res D
  | .ok d L => .ok d L
  | _ => .bad
theorem okR_post {G : Gb} {w : Wd} {r : Res D} {Q : VK} {E E' : XK} (p : Post G (Den G) w (okR r) Q E) : Post G (Den G) w r Q E' := by
  cases r with
  | ok d L => exact p
  | err _ _ _ => exact p.elim
  | bad => exact p.elim
end
end DS
set_option Elab.async false
set_option linter.all false
set_option maxRecDepth 100000
set_option maxHeartbeats 4000000
namespace PySem.W
open PySem
section
variable {A : Around} {E : Value → Shared → Prop} {s : Shared} {K : Frag} {x C f : Addr} {ox : Obj} {od : Option Obj} {name : Str}
end
end PySem.W
namespace DS
open PySem PySem.Spec L2
open PyProof.Rows hiding St
structure OpIs (G : Gb) (c : Str) (nm : String) (k : Nat) (m : List D → Sto → Res D) : Prop where
  ex : ∃ (C f : Addr) (fd : FuncData) (ps : List Str), G.mg c = some (.ref C) ∧ PySem.W.selfFirst G.K C = true ∧ PySem.W.findIn G.K (.ref C) (PySem.dunder nm) = some (some (.ref f)) ∧ PySem.W.isFn G.K (.ref f) = true ∧
    Binds G.K fd ps [] ∧ FnOk G.P G.w G.K G.mg G.base (L2.CX G.P G.w) k f fd ps (spD G 2 m)
structure SpcIs (G : Gb) (c x : Str) (k : Nat) (m : List D → Sto → Res D) : Prop where
  ex : ∃ (C f : Addr) (fd : FuncData) (ps : List Str), G.mg c = some (.ref C) ∧ PySem.W.findIn G.K (.ref C) x = some (some (.ref f)) ∧ PySem.W.isFn G.K (.ref f) = true ∧ Binds G.K fd ps [] ∧ FnOk G.P G.w G.K G.mg G.base (L2.CX G.P G.w) k f fd ps (spD G 1 m)
structure CMtIs (G : Gb) (c x : Str) (n k : Nat) (m : List D → Sto → Res D) : Prop where
  ex : ∃ (C : Addr) (mc : Value) (p g : Addr) (fd : FuncData) (ps : List Str), G.mg c = some (.ref C) ∧ ClX.CRead G.K C mc ∧ ClX.CMet G.K C mc x p g ∧ Binds G.K fd ps [] ∧ FnOk G.P G.w G.K G.mg G.base (L2.CX G.P G.w) k g fd ps (spD G n m)
inductive Way where
  | glo (x : Str) | met (c x : Str) | prp (c x : Str) | cmt (c x : Str)
def recAd (K : PySem.W.Frag) (p : Addr) (T : String) : Addr := match PySem.W.recIn K p T with
  | some (.ref g :: _) => g
  | _ => 0
def Way.ad (K : PySem.W.Frag) : Way → Addr
  | .glo x => He.ga K x
  | .met c x => He.ma K (He.ga K c) x
  | .prp c x => recAd K (He.ma K (He.ga K c) x) "property"
  | .cmt c x => recAd K (He.ma K (He.ga K c) x) "classmethod"
structure DefZ where
  way : Way
  d : He.DefD
def fnAt (K : PySem.W.Frag) (a : Addr) : He.FnW := match K.lookup a with
  | some ⟨_, _, .func fd, _⟩ => some (fd.name, fd.qualname, fd.params, fd.body, fd.scope, fd.globals, fd.closure, fd.builtins)
  | _ => none
def DefZ.ok (K : PySem.W.Frag) (z : DefZ) : Bool := PySem.W.keepIn K (.ref (z.way.ad K)) && (match K.lookup (z.way.ad K) with
  | some ⟨_, _, .func fd, _⟩ => PySem.W.codeIn K fd.code z.d.qual && (He.dflB K fd.defaults (z.d.dvs K) && He.kwdB K fd.kwdefaults (z.d.kws K))
  | _ => false)
theorem DefZ.funD {K : PySem.W.Frag} {z : DefZ} (e : fnAt K (z.way.ad K) = z.d.val) (c : z.ok K = true) : ∃ fd, FunD K z.d.name z.d.qual z.d.params z.d.body z.d.scope (z.d.dvs K) (z.d.kws K) (z.way.ad K) fd := by
  obtain ⟨kp, c2⟩ := and2 c
  unfold fnAt at e
  generalize hq : K.lookup (z.way.ad K) = q at e c2
  match q, hq with
  | none, _ => cases c2
  | some ⟨oc, od, .func ⟨n1, n2, n3, n4, n5, n6, n7, n8, n9, n10, n11, n12, n13, n14, n15⟩, osl⟩, hq =>
    have e2 : (some (n1, n2, n3, n4, n5, n6, n7, n15) : He.FnW) = some (z.d.name, z.d.qual, z.d.params, .stmts z.d.body, z.d.scope, mainGlobals, [], builtinsNs) := e
    simp only [Option.some.injEq, Prod.mk.injEq] at e2
    obtain ⟨h1, h2, h3, h4, h5, h6, h7, h8⟩ := e2
    subst h1 h2 h3 h4 h5 h6 h7 h8
    obtain ⟨k1, k2⟩ := and2 (show (PySem.W.codeIn K n13 z.d.qual && (He.dflB K n8 (z.d.dvs K) && He.kwdB K n9 (z.d.kws K))) = true from c2)
    obtain ⟨k3, k4⟩ := and2 k2
    exact ⟨_, ⟨oc, od, n8, n9, n10, n11, n12, n13, n14, osl, rfl, hq, k1, He.dflB_ok k3, He.kwdB_ok k4⟩, kp⟩
def obsY (ck : List Chk) (fn : List DefZ) (K : PySem.W.Frag) : He.AlD := ((ck.all fun f => f K) && fn.all fun d => d.ok K, fn.map fun d => fnAt K (d.way.ad K))
def valY (fn : List DefZ) : He.AlD := (true, fn.map fun z => z.d.val)
def SaysY (ck : List Chk) (fn : List DefZ) (K : PySem.W.Frag) : Prop := obsY ck fn K = valY fn
section
variable {ck : List Chk} {fn : List DefZ} {K : PySem.W.Frag}
theorem SaysY.all (c : SaysY ck fn K) : ((ck.all fun f => f K) && fn.all fun d => d.ok K) = true := congrArg (fun z : He.AlD => z.1) c
theorem SaysY.chk (c : SaysY ck fn K) (i : Nat) {f : Chk} (h : ck[i]? = some f := by rfl) : f K = true := List.all_eq_true.mp (and2 c.all).1 f (List.mem_of_getElem? h)
theorem SaysY.def_ (c : SaysY ck fn K) (i : Nat) {z : DefZ} (h : fn[i]? = some z := by rfl) : ∃ fd, FunD K z.d.name z.d.qual z.d.params z.d.body z.d.scope (z.d.dvs K) (z.d.kws K) (z.way.ad K) fd := by
  have h2 := List.all_eq_true.mp (and2 c.all).2 z (List.mem_of_getElem? h)
  have e : fn.map (fun d => fnAt K (d.way.ad K)) = fn.map fun z => z.d.val := congrArg (fun z : He.AlD => z.2) c
  refine DefZ.funD ?_ h2
  have y : (fn.map fun d => fnAt K (d.way.ad K))[i]? = (fn.map fun z => z.d.val)[i]? := by rw [e]
  rw [List.getElem?_map, List.getElem?_map, h] at y
  exact Option.some.inj y
end
section
variable {K : PySem.W.Frag} {h : Heap} {mg : Str → Option Value} {P : Program} {w : World} {base : Heap}
end
end DS
set_option Elab.async false
set_option linter.all false
set_option maxRecDepth 100000
set_option maxHeartbeats 4000000
namespace PySem.W
open PySem
section
variable {prog : Program} {w : World} {A : Around} {E : Value → Shared → Prop} {s : Shared} {K : Frag} {x C f : Addr} {ox : Obj} {od : Option Obj} {b tb : Value}
end
end PySem.W
namespace DS
open PySem PySem.Spec L2
open PyProof.Rows hiding St
structure OwnIs (gd : Bool) (G : Gb) (c x : Str) (n k : Nat) (m : List D → Sto → Res D) : Prop where
  ex : ∃ (C f : Addr) (fd : FuncData) (ps : List Str), G.mg c = some (.ref C) ∧ PySem.W.findIn G.K (.ref C) x = some (some (.ref f)) ∧ PySem.W.isFn G.K (.ref f) = true ∧ PySem.W.fnIn G.K f = true ∧ Binds G.K fd ps [] ∧
    FnX gd G.P G.w G.K G.mg G.base (L2.CX G.P G.w) k f fd ps (spD G n m)
section
variable {X : Cx} {gd : Bool} {k : Nat} {C f : Addr} {fd : FuncData} {ps : List Str} {sp : Sp} {pins : List (Addr × Obj)} {σ : L2.St} {H : Hp} {s : Shared}
def insH (C : Addr) (x : V) (H : Hp) : Prop := ∃ a dx fs, x = .ref a ∧ H a = some (.ins C dx fs)
theorem insH.at {x : V} {v : Value} (h : insH C x H) (I : Inv X pins σ H s) (r : RelV x v) : ∃ a ox od, x = .ref a ∧ v = .ref a ∧ PySem.W.InstAt s.heap a ox C od := by
  obtain ⟨a, dx, fs, rfl, ha⟩ := h
  cases (show v = Value.ref a from r)
  obtain ⟨mA, O, _, _, _, _⟩ := ins_get I.hok ha
  obtain ⟨od, J, _⟩ := O.look
  exact ⟨a, _, od, rfl, rfl, J⟩
end
structure EqC (G : Gb) (c : Str) : Prop where
  ex : ∃ C, G.mg c = some (.ref C) ∧ PySem.W.findIn G.K (.ref C) "__ne__" = some (some (.builtin "object.__ne__")) ∧ PySem.W.mroIn G.K C (.type "object") = some true ∧ ∀ t : Ty, PySem.W.notFirst G.K C (.type t.name) = true
section
variable {S : Sc} {W : WX} {gd : Bool} {a b e : Expr} {es : List Expr} {fa fb : EF} {fl : AF} {pos p : Pos} {c : Str} {k : Nat} {m : List D → Sto → Res D}
section
variable {cs : List (Str × Bool)} (CT : ClsT S.g cs) (F : OwnIs gd S.g c "__eq__" 2 k m) (N : EqC S.g c) (hc : (c, false) ∈ cs) (hk : k + 1 ≤ S.k) (ha : SE S W a fa) (hb : SE S W b fb)
include CT F N hc hk ha hb
end
end
end DS
set_option Elab.async false
set_option linter.all false
set_option maxRecDepth 100000
set_option maxHeartbeats 4000000
namespace DS
open PySem PySem.W PySem.Spec L2
open PyProof.Rows hiding St
def exBody (n1 n2 f : Str) (p : Fin 10 → Pos) : List Stmt :=
  [.Expr (.Call (.Attribute (.Call (.Name "super" (p 0)) [] [] (p 1)) "__init__" (p 2)) [.Name n2 (p 3)] [] (p 4)) (p 5), .Assign [.Attribute (.Name n1 (p 6)) f (p 7)] (.Name n2 (p 8)) (p 9)]
structure ExText (n1 n2 f : Str) (p : Fin 10 → Pos) (scope : Scope) (params : Arguments) : Prop where
  kind : scope.kind = .function
  co : scope.isCoroutine = false
  gen : scope.isGenerator = false
  nocell : ∀ x ∈ scope.names, x.2 ≠ .cell
  sup : scope.names.lookup ("super" : Str) = some .globalImplicit
  cls : scope.names.lookup ("__class__" : Str) = some .free
  l1 : scope.names.lookup n1 = some .local
  l2 : scope.names.lookup n2 = some .local
  ne : n1 ≠ n2
  d1 : (n1 == ("__debug__" : Str)) = false
  d2 : (n2 == ("__debug__" : Str)) = false
  head : ∃ ar, (params.posonlyargs ++ params.args).head? = some ar ∧ ar.arg = n1
  sw0 : ∀ env, swapsWith (.Call (.Attribute (.Call (.Name "super" (p 0)) [] [] (p 1)) "__init__" (p 2)) [.Name n2 (p 3)] [] (p 4)) none (p 5).line env = pure false
  sw1 : ∀ env, swapsWith (.Name n2 (p 8)) (some (.Attribute (.Name n1 (p 6)) f (p 7))) (p 9).line env = pure false
  pl : ∃ pl : Env → Sem Bool, ∀ env : Env, eval (.Call (.Attribute (.Call (.Name "super" (p 0)) [] [] (p 1)) "__init__" (p 2)) [.Name n2 (p 3)] [] (p 4)) env = (do
      let ov ← attributeBase (.Call (.Name "super" (p 0)) [] [] (p 1)) "__init__" env (eval (.Call (.Name "super" (p 0)) [] [] (p 1)) env)
      standAt (p 2).atName
      let (f, first) ← holding [ov] (getMethod ov "__init__" (pl env))
      callWith (p 4) f first (backTo (p 4) (starEach [.Name n2 (p 3)] env)) [])
  st : ∀ env : Env, starEach [.Name n2 (p 3)] env = (false, eval (.Name n2 (p 3)) env) :: starEach [] env
structure ExI (P : Program) (K : Frag) (C fI cc cda : Addr) (n1 n2 f : Str) (p : Fin 10 → Pos) (params : Arguments) (scope : Scope) (bmB : List Value) (B newId initId : String) : Prop where
  over : excOver K C bmB = true
  ini : excInitIn K C bmB newId = true
  hd : hasDictIn K C = true
  tk : takerIn K C f = some none
  sa : findIn K (.ref C) "__setattr__" = some (some (.builtin "object.__setattr__"))
  su : ks_superIn K C C "__init__" = some (some (.builtin initId))
  sB : subIn K (.ref C) (.type B) = some true
  sC : mroIn K C (.ref C) = some true
  op : nsIn K cStatics "thirdparty.any" = some none
  fn : ∃ oc od fd sl, K.lookup fI = some ⟨oc, od, .func fd, sl⟩ ∧ fd.params = params ∧ fd.body = .stmts (exBody n1 n2 f p) ∧ fd.scope = scope ∧ fd.globals = mainGlobals ∧ fd.closure = [(("__class__" : Str), cc)] ∧ fd.builtins = builtinsNs ∧ fd.code = .ref cda ∧ codeIn K (.ref cda) fd.qualname = true ∧
    ∀ (s : Shared) (u v : Value), BindsTo s fd ⟨[u, v], []⟩ [(n1, u), (n2, v)]
  file : ∃ a b vs sl file tf, K.lookup cda = some ⟨a, b, .fields vs, sl⟩ ∧ vs[2]? = some (.str file tf) ∧ ((P.main.file : Str) == file) = true
  cell : ∃ cl cld csl, K.lookup cc = some ⟨cl, cld, .cell (some (.ref C)), csl⟩
  init : findIn K (.ref C) "__init__" = some (some (.ref fI))
  isfn : isFn K (.ref fI) = true
  exc : subIn K (.ref C) (.type "BaseException") = some true
  ty : typeIn K (.ref C) = some (.type "type")
  kp : keepIn K (.ref C) = true
  top : (P.main.scope.names.lookup ("super" : Str)).isSome = false
section
variable {prog : Program} {w : World} {A : Around} {s : Shared} {K : Frag} {C fI cc cda e t : Addr} {n1 n2 f : Str} {p : Fin 10 → Pos} {params : Arguments} {scope : Scope} {bmB : List Value} {B newId initId : String} {R : Result → Shared → Prop} {v : Value} {mg mb : Str → Option Value}
theorem ns_of {h h' : Heap} {L : Addr} {m : Str → Option Value} (k : ∀ b o, b ≠ e → h.get? b = some o → h'.get? b = some o) (ne : L ≠ e) (n : h.Ns L m) : h'.Ns L m := by
  obtain ⟨o, es, ep, a, b, c⟩ := n
  exact ⟨o, es, ep, k _ _ ne a, b, c⟩
theorem exi_run (T : ExI prog K C fI cc cda n1 n2 f p params scope bmB B newId initId) (X0 : ExText n1 n2 f p scope params) (SF : StoreFacts B bmB "object.__setattr__" "object") (FB : ExcBaseFacts B newId initId bmB) (KF : KxsFacts B initId)
    (hroom : A.depth < recursionLimit) (X : K.In s.heap) (hlim : s.heap.NoLimit) (hg : s.heap.Ns mainGlobals mg) (hgs : mg ("super" : Str) = none) (hb : s.heap.Ns builtinsNs mb) (hbs : mb ("super" : Str) = some (.type "super")) (he : s.heap.get? e = some (excObj C t none .none)) (hKe : K.lookup e = none)
    (hR : ∀ (h' : Heap) (tk : Nat) (dx t1 : Addr), (∀ b o, b ≠ e → s.heap.get? b = some o → h'.get? b = some o) → s.heap.objs.size ≤ dx → h'.get? e = some (excObj C t1 (some dx) .none) → h'.Ns1 dx (fun y => if y = f then some v else none) → R (.ok (.ret .none)) { s with heap := h', toks := tk }) :
    codeAny (model prog w) A (.call (.ref fI) ⟨[.ref e, v], []⟩) R s := by
  obtain ⟨oc, od, fd, sl, lk, e1, e2, e3, e4, e5, e6, e7, e8, hbind⟩ := T.fn
  obtain ⟨fa, fb, vs, fsl, file, tf, lc, hvs, hfile⟩ := T.file
  obtain ⟨cl, cld, csl, lcell⟩ := T.cell
  obtain ⟨ar, har, harg⟩ := X0.head
  obtain ⟨pl, hpl⟩ := X0.pl
  obtain ⟨nm, N', qn, bs, bm, hdct, sn, sub, ab, col, dd, k0, k1, k2, k3, k5, hC, hT⟩ := excInit_of X T.ini
  have leL : e < s.heap.objs.size := Heap.lt_size he
  have LneE : s.heap.objs.size ≠ e := Nat.ne_of_gt leL
  have gne : (mainGlobals : Addr) ≠ e := fun z => by
    obtain ⟨o, es, ep, a, b, _⟩ := hg
    rw [z, he] at a
    cases a
    cases b
  have bne : (builtinsNs : Addr) ≠ e := fun z => by
    obtain ⟨o, es, ep, a, b, _⟩ := hb
    rw [z, he] at a
    cases a
    cases b
  have Cne : C ≠ e := fun z => by
    rw [z, he] at hC
    cases hC
  refine ks_codeAny_call_defAt (binds := [(n1, .ref e), (n2, v)]) hroom (X _ _ lk) rfl hlim (by rw [e7]; exact codeRec_of X e8) e2 (hbind _ _ _) (by rw [e3]; exact X0.nocell) (by
    rw [e3]
    intro x hx
    rcases List.mem_cons.mp hx with rfl | hx
    · exact X0.l1
    · rcases List.mem_cons.mp hx with rfl | hx
      · exact X0.l2
      · cases hx) (fun h₀ hns keep => ?_) (by rw [e3]; exact X0.co) (by rw [e3]; exact X0.gen) (by rw [e3]; exact X0.kind)
  obtain ⟨env, henv⟩ : ∃ env, env = callEnv fd s.heap.objs.size fI := ⟨_, rfl⟩
  rw [← henv]
  have hsc : env.scope = scope := by rw [henv, ← e3]; rfl
  have hloc : env.locals = s.heap.objs.size := by rw [henv]; rfl
  have hglob : env.globals = mainGlobals := by rw [henv, ← e4]; rfl
  have hbl : env.builtins = builtinsNs := by rw [henv, ← e6]; rfl
  have hcells : env.cells = [(("__class__" : Str), cc)] := by rw [henv, ← e5]; rfl
  have hfu : env.func = some fI := by rw [henv]; rfl
  have hco : env.code = .ref cda := by rw [henv, ← e7]; rfl
  have hk : env.scope.kind = .function := by rw [hsc]; exact X0.kind
  have kf : ∀ y, env.kindOf y = scope.names.lookup y := fun y => by rw [← hsc]; rfl
  have m1 : (fun x => List.lookup x [(n1, Value.ref e), (n2, v)].reverse) n1 = some (.ref e) := by
    have hb' : (n1 == n2) = false := beq_eq_false_iff_ne.mpr X0.ne
    show List.lookup n1 [(n2, v), (n1, Value.ref e)] = _
    rw [List.lookup_cons, hb', List.lookup_cons_self]
  have m2 : (fun x => List.lookup x [(n1, Value.ref e), (n2, v)].reverse) n2 = some v := by
    show List.lookup n2 [(n2, v), (n1, Value.ref e)] = _
    rw [List.lookup_cons_self]
  have X1 : K.In h₀ := X.keeps keep
  obtain ⟨oD, hD1, hD2⟩ : ∃ oD, h₀.get? C = some oD ∧ oD.data = .cls ⟨nm, bs, .ref C :: bm, N', qn, hdct, sn, sub, ab, col, false⟩ := ⟨_, keep _ _ hC, rfl⟩
  refine ks_wpAt_execs_cons (ks_wpAt_Expr_any (ks_wpAt_MethodCall (pl := pl env) (ks_wpAt_super_base (by rw [kf]; exact X0.sup) (by rw [kf]; exact X0.cls) (by decide) hfu (X1 _ _ lk) rfl (by rw [e1]; exact har) hco (X1 _ _ lc) rfl hvs hfile T.top ?_) (hpl env)) (by unfold interactive; rw [hk] <;> rfl) (X0.sw0 env))
  refine ks_loadName_global hk (by rw [kf]; exact X0.sup) (Calls.loadGlobal_builtin (mg := mg) (mb := mb) (by rw [hglob]; exact ns_of (e := e) (fun b o _ => keep b o) gne hg) hgs (by rw [hbl]; exact ns_of (e := e) (fun b o _ => keep b o) bne hb) hbs ⟨rfl, ?_⟩)
  refine wpAny_loadName_free hk (by rw [kf]; exact X0.cls) (by rw [hcells] <;> rfl) ⟨_, X1 _ _ lcell, rfl⟩ ?_
  rw [harg]
  refine wpAny_loadName_local hk (by rw [kf]; exact X0.l1) (by rw [hloc]; exact hns) m1 ?_
  refine ks_wpAny_isType_cls hD1 hD2 ⟨rfl, ?_⟩
  refine ks_wpAny_call_super hD1 hD2 (keep _ _ he) rfl (fun c z => by cases z) (looks_mroIn X1 T.sC) fun h1 hso k1' => ?_
  have X2 : K.In h1 := X1.keeps k1'
  have I2 : InstAt h1 e (excObj C t none .none) C none := ⟨k1' _ _ (keep _ _ he), rfl, rfl, trivial⟩
  obtain ⟨cd, hcd⟩ : ∃ cd, clsIn K C = some cd := Option.isSome_iff_exists.mp (by obtain ⟨cd, hc, _⟩ := any_some T.hd; rw [hc]; rfl)
  have hsu := T.su
  unfold ks_superIn at hsu
  rw [hcd] at hsu
  refine kxs_getMethod KF hso (looks_opaque X2 T.op) (l₀ := cd.mro) (fun A Q E s k q => wpAny_bind ((looks_clsIn X2 hcd) A _ E s k (wpAny_pure q))) rfl X2 hsu (I2.type.andThen (looks_subIn X2 T.sB)) (Ne.symm Cne) (by decide) ?_
  have k12 : ∀ b o, s.heap.get? b = some o → (h1.push (kxs_mw initId e)).get? b = some o := fun b o z => Heap.get?_push_of_some _ (k1' _ _ (keep _ _ z))
  have hns1 : h1.Ns s.heap.objs.size fun x => List.lookup x [(n1, Value.ref e), (n2, v)].reverse := by
    obtain ⟨o, es, ep, a, b, c⟩ := hns
    exact ⟨o, es, ep, k1' _ _ a, b, c⟩
  have hnsL : (h1.push (kxs_mw initId e)).Ns s.heap.objs.size fun x => List.lookup x [(n1, Value.ref e), (n2, v)].reverse := by
    obtain ⟨o, es, ep, a, b, c⟩ := hns1
    exact ⟨o, es, ep, Heap.get?_push_of_some _ a, b, c⟩
  have hmw : (h1.push (kxs_mw initId e)).get? h1.objs.size = some (kxs_mw initId e) := Heap.get?_push_at rfl rfl
  rw [X0.st env]
  refine kxs_callWith (i := initId) (x := e) rfl (Calls.evalArgs_plain (Calls.spliced_cons (wpAny_Name (wpAny_loadName_local hk (by rw [kf]; exact X0.l2) (by rw [hloc]; exact hnsL) m2 (Calls.spliced_nil ⟨hmw, ?_⟩)) X0.d2)))
  have he2 : (h1.push (kxs_mw initId e)).get? e = some (excObj C t none .none) := k12 _ _ he
  have hC2 := k12 _ _ hC
  refine wpAny_call (codeAny_of_tree ?_)
  show wpAny _ _ (callAny (.ref h1.objs.size) _) _ _ _
  simp only [callAny]
  refine wpAny_bind (wpAny_load hmw ?_)
  simp only [kxs_mw, show (Value.type "method-wrapper" == Value.type "method" || Value.type "method-wrapper" == Value.type "builtin_function_or_method" || Value.type "method-wrapper" == Value.type "method-wrapper") = true by decide, if_true]
  refine KFB.if_so (by decide) ?_
  refine wpAny_bind (check_bound_init FB.toExcCallFacts hC2 he2 rfl ?_)
  refine wpAny_bind (wpAny_pure (wpAny_pure ?_))
  refine ⟨plainId_quiet FB.init.plain _, codeAny_builtin FB.initEntry ?_⟩
  refine exc_init_tree (cls := .ref C) (t0 := t) (dv := none) (c2 := .none) (c3 := .none) (b4 := .bool false) he2 (by show 1 ≤ sizeLine; rw [sizeLine_eq]; omega) fun h3 k3' e3' _ => ?_
  have k13 : ∀ b o, b ≠ e → s.heap.get? b = some o → h3.get? b = some o := fun b o n z => k3' b o n (k12 b o z)
  have X3 : K.In h3 := fun b o z => k13 b o (fun y => by rw [y, hKe] at z; cases z) (X b o z)
  have hns3 : h3.Ns s.heap.objs.size fun x => List.lookup x [(n1, Value.ref e), (n2, v)].reverse := ns_of (e := e) k3' LneE hnsL
  refine ks_wpAt_execs_cons (ks_wpAt_Assign_Attr (wpAt_of_wpAny (wpAny_Name (wpAny_loadName_local hk (by rw [kf]; exact X0.l2) (by rw [hloc]; exact hns3) m2 (wpAny_Name (wpAny_loadName_local hk (by rw [kf]; exact X0.l1) (by rw [hloc]; exact hns3) m1 ?_) X0.d1)) X0.d2)) (X0.sw1 env))
  have I3 : InstAt h3 e (excObj C (h1.push (kxs_mw initId e)).objs.size none .none) C none := ⟨e3', rfl, rfl, trivial⟩
  refine set_plain (od := none) X3 I3 T.sa (osa_openX (od := none) SF X3 I3 T.over T.tk fun b => ?_)
  have hdC : cd.hasDict = true := by
    obtain ⟨cd', hc', hd'⟩ := any_some T.hd
    rw [hcd] at hc'
    cases hc'
    exact hd'
  refine wpAny_bind (wpAny_pure (wpAny_bind (instanceDict_exc e3' (looks_clsIn X3 hcd) hdC ?_)))
  have hxs : e ≠ h3.objs.size := Nat.ne_of_lt (Heap.lt_size e3')
  refine HandSPX.store_in_new ?_ fun h4 tk4 hn4 hs4 => ?_
  · exact ⟨_, #[], _, (Heap.get?_update_ne _ _ _ _ hxs.symm).trans (Heap.get?_push_at rfl rfl), rfl, fun e he => absurd he (by simp), fun _ => rfl⟩
  · refine wpAt_of_wpAny (wpAny_execs_nil ?_)
    refine hR h4 tk4 h3.objs.size (h1.push (kxs_mw initId e)).objs.size (fun b o hb ho => ?_) ?_ ?_ hn4
    · have q := k13 b o hb ho
      exact (hs4.2 b (Nat.ne_of_lt (Heap.lt_size q))).trans ((Heap.get?_update_ne _ _ _ _ hb).trans (Heap.get?_push_of_some _ q))
    · obtain ⟨o, es, ep, a, _⟩ := hns3
      exact Nat.le_of_lt (Heap.lt_size a)
    · exact (hs4.2 e hxs).trans (Heap.get?_update_self _ (Heap.get?_push_of_some _ e3') rfl)
end
section
variable {X : Cx} {C fI cc cda : Addr} {n1 n2 f x : Str} {p : Fin 10 → Pos} {params : Arguments} {scope : Scope} {bmB : List Value} {B newId initId : String} {e : Expr} {te : TE} {q1 pos : Pos}
theorem pmk_exi (T : ExI X.prog X.K C fI cc cda n1 n2 f p params scope bmB B newId initId) (X0 : ExText n1 n2 f p scope params) (SF : StoreFacts B bmB "object.__setattr__" "object") (FB : ExcBaseFacts B newId initId bmB) (KF : KxsFacts B initId) (hg : Gl X x) (hm : X.mg x = some (.ref C))
    (hsup : X.mg ("super" : Str) = none) (hr : Room 1 X.A) (he : PE X e te) (hdb : (x == ("__debug__" : Str)) = false) (hs : starEach [e] X.env = (false, eval e X.env) :: starEach [] X.env) :
    PMk X (.Call (.Name x q1) [e] [] pos) (fun σ H Q => te σ H fun v H1 => ∀ dd, H1 dd = none → Q (.ref C) (some dd) (upd H1 dd (.xd [(f, v)]))) := by
  intro pins s σ H Q I h
  have ha : PA X [e] (tCons te tNil) := pa_cons he pa_nil hs
  refine wpAny_Call_Name_kw (ld_glob I hg hm ?_ hdb)
  refine PySem.W.callWith_K (h₀ := X.base) I.ok.mod.kin T.kp (thn (ha.run pos pins s σ H (fun vs H1 => match vs with
    | [v] => ∀ dd, H1 dd = none → Q (.ref C) (some dd) (upd H1 dd (.xd [(f, v)]))
    | _ => False) I h) fun us s1 ⟨vs, H1, I1, r1, hq⟩ => ⟨I1.kIn, ?_⟩) hs (by rfl)
  obtain ⟨v, rfl⟩ : ∃ v, vs = [v] := by
    match vs, hq with
    | [v], _ => exact ⟨v, rfl⟩
    | [], hq => exact hq.elim
    | _ :: _ :: _, hq => exact hq.elim
  obtain ⟨u, rfl, ru⟩ := r1.one
  obtain ⟨hp, g, dr, tk, os⟩ := s1
  obtain ⟨nm, N', qn, bs, bm, hdct, sn, sub, ab, col, dd, k0, k1, k2, k3, k5, hC, hT⟩ := excInit_of I1.kIn T.ini
  have kk : ∀ b o, hp.get? b = some o → ((hp.push (kdv_tup [u])).push (HandSPX.excO C hp.objs.size)).get? b = some o := fun b o z => Heap.get?_push_of_some _ (Heap.get?_push_of_some _ z)
  have hget : ((hp.push (kdv_tup [u])).push (HandSPX.excO C hp.objs.size)).get? (hp.objs.size + 1) = some (HandSPX.excO C hp.objs.size) := by heap_get
  obtain ⟨mb, hb1, hb2⟩ := I1.ok.mod.blt
  have bkeep : ∀ b o, X.base.get? b = some o → ((hp.push (kdv_tup [u])).push (HandSPX.excO C hp.objs.size)).get? b = some o := fun b o z => kk b o (I1.bk b o z)
  have hKe : X.K.lookup (hp.objs.size + 1) = none := by
    cases q : X.K.lookup (hp.objs.size + 1) with
    | none => rfl
    | some o => exact absurd (Heap.lt_size (I1.kIn _ _ q)) (Nat.not_lt.mpr (Nat.le_succ _))
  refine wpAny_call (HandSPX.call_own FB hT hC (looks_findIn I1.kIn T.init) (fun self => bind_fn I1.kIn self (beq_iff_eq.mp T.isfn)) (by show 1 ≤ sizeLine; rw [sizeLine_eq]; omega)
    (exi_run T X0 SF FB KF (hr.make C [u] []).depth (I1.kIn.keeps kk) (I1.nolimit.keeps kk) (I1.ok.mod.glob.keeps bkeep) hsup (hb1.keeps bkeep) ((hb2 _ (by decide)).trans (by decide +kernel)) hget hKe fun h' tk' dx t1 k le e' n => ?_))
  refine ⟨rfl, ?_⟩
  have na : H1 (hp.objs.size + 1) = none := I1.hok.fresh (Nat.le_succ _)
  have hdx1 : hp.objs.size + 1 < dx := by
    have z : (hp.push (kdv_tup [u])).objs.size = hp.objs.size + 1 := Heap.size_push ..
    have z2 : ((hp.push (kdv_tup [u])).push (HandSPX.excO C hp.objs.size)).objs.size = hp.objs.size + 1 + 1 := by rw [Heap.size_push, z]
    have le' : ((hp.push (kdv_tup [u])).push (HandSPX.excO C hp.objs.size)).objs.size ≤ dx := le
    omega
  have nd : H1 dx = none := I1.hok.fresh (show hp.objs.size ≤ dx by omega)
  have nda : dx ≠ hp.objs.size + 1 := Nat.ne_of_gt hdx1
  have kold : ∀ b o, hp.get? b = some o → h'.get? b = some o := fun b o z => k b o (Nat.ne_of_lt (Nat.lt_succ_of_lt (Heap.lt_size z))) (kk b o z)
  have at_ : ∀ b u, H1 b = some u → upd (upd H1 (hp.objs.size + 1) (exo (hp.objs.size + 1) C (some dx))) dx (exd dx [(f, v)]) b = some u := fun b u z => by rw [upd_ne (ne_of_none z nd), upd_ne (ne_of_none z na)]; exact z
  have eH : upd (del (upd (upd H1 (hp.objs.size + 1) (exo (hp.objs.size + 1) C (some dx))) dx (exd dx [(f, v)])) (hp.objs.size + 1)) dx (.xd [(f, v)]) = upd H1 dx (.xd [(f, v)]) := by
    funext b
    by_cases h1 : b = dx
    · rw [h1, upd_same, upd_same]
    · rw [upd_ne h1, upd_ne h1]
      by_cases h2 : b = hp.objs.size + 1
      · rw [h2, del_same, na]
      · rw [del_ne h2, upd_ne h1, upd_ne h2]
  refine mk_end (g1 := g) (d1 := dr) (t1 := tk) (os1 := os) (a := hp.objs.size + 1) (hp := hp) (hp2 := (hp.push (kdv_tup [u])).push (HandSPX.excO C hp.objs.size)) (H1 := H1) (H2 := upd (upd H1 (hp.objs.size + 1) (exo (hp.objs.size + 1) C (some dx))) dx (exd dx [(f, v)])) (fs := [(f, v)]) (raises_own T.exc T.ty) I1 (Nat.le_succ _) kk ?_ ?_ rfl I1.bare (by rw [upd_ne (Ne.symm nda), upd_same]) upd_same nd (by rw [eH]; exact hq dx nd)
  · have nb : ∀ b o, ((hp.push (kdv_tup [u])).push (HandSPX.excO C hp.objs.size)).get? b = some o → b ≠ dx := fun b o z y => by
      have := Heap.lt_size z
      rw [y] at this
      exact absurd this (Nat.not_lt.mpr le)
    have nA : ∀ b, upd H1 (hp.objs.size + 1) (exo (hp.objs.size + 1) C none) b = none → b ≠ hp.objs.size + 1 := fun b z y => by rw [y, upd_same] at z; cases z
    have old : ∀ b u, upd H1 (hp.objs.size + 1) (exo (hp.objs.size + 1) C none) b = some u → (∀ d', u ≠ exo (hp.objs.size + 1) C d') → H1 b = some u := fun b u z y => by
      by_cases hb : b = hp.objs.size + 1
      · rw [hb, upd_same] at z
        exact absurd (Option.some.inj z).symm (y none)
      · rwa [upd_ne hb] at z
    exact { keep := fun b o z n _ _ => k b o (nA b n) z
            slot := fun b o z n _ _ => ⟨o.slots, k b o (nA b n) z⟩
            free := fun b o z n _ => by rw [upd_ne (nb b o z), upd_ne (nA b n)]; rwa [upd_ne (nA b n)] at n
            there := fun b o z _ => by
              by_cases hb : b = hp.objs.size + 1
              · rw [hb]; exact ⟨_, e'⟩
              · exact ⟨o, k b o hb z⟩
            tups := fun b xs z => at_ b _ (old b _ z fun d' y => exo_tup y.symm)
            frzs := fun b o u z => at_ b _ (old b _ z fun d' y => exo_frz y.symm)
            tbls := fun b ps z => ⟨#[], by rw [Array.append_empty]; exact at_ b _ (old b _ z fun d' y => exo_tbl y.symm)⟩ }
  · intro b o z
    by_cases h1 : b = dx
    · rw [h1, upd_same] at z
      cases z
      rw [h1]
      refine exd_ok n fun g => ?_
      have := relO_put (f := f) ru (fs := []) (mA := fun _ => none) (fun g => by simp [RelO]) g
      exact this
    · rw [upd_ne h1] at z
      by_cases h2 : b = hp.objs.size + 1
      · rw [h2, upd_same] at z
        cases z
        rw [h2]
        exact exo_ok e'
      · rw [upd_ne h2] at z
        exact (I1.hok b o z).stay (fun c v' _ y => kold c v' y) (fun c y => at_ c _ y) fun c xs y => at_ c _ y
end
def rReprD (K : PySem.W.Frag) : List V → Hp → VK → Prop := fun xs H Q => ∃ x p, xs = [x] ∧ Dp K H x p ∧ p.showable = true ∧ p.hasDict = false ∧ p.shown.length ≤ sizeLine ∧ p.depth ≤ 50 ∧ Q (.str p.shown) H
theorem call_reprD {X : Cx} (hg : X.A.guards = some []) (hu : X.A.units + 60 < cLine) : CallR X (.builtin "repr") (rReprD X.K) := by
  intro pins s σ H xs us Q I r ⟨x, p, e, hp, h1, h2, h3, h4, q⟩
  subst e
  obtain ⟨u, rfl, ru⟩ := r.one
  obtain ⟨as, rd⟩ := Dp.reads I p x u hp ru
  have fin : ∀ (t : Tok) (tk : Nat), EP X pins σ Q (.str p.shown t) { s with toks := tk } := fun t tk => ⟨.str p.shown, H, I.tok tk, ⟨t, rfl⟩, q⟩
  have big : ∀ a, u = .ref a → wpAny (model X.prog X.w) X.A (call (.builtin "repr") [u]) (EP X pins σ Q) X.xe s := fun a ea => by
    subst ea
    exact repr_of_reads' rd h1 (PyData.noDict_hsm h2) hg (by omega) (fun _ _ z => z) (fun h' t tk k => ⟨.str p.shown, H, I.kept (t' := tk) k, ⟨t, rfl⟩, q⟩) h3
  cases rd with
  | none => exact PySem.P.repr_of_none (fin _ _)
  | bool b => exact PySem.P.repr_of_bool (by cases b <;> exact fin _ _)
  | int i t => exact PySem.P.repr_of_int (of_decide_eq_true h1) (fin _ _)
  | str x t => exact PySem.P.repr_of_str (fin _ _) h3
  | list a b c d => exact big _ rfl
  | tuple a b c d => exact big _ rfl
  | dict a b c d e => exact big _ rfl
def gReprP (p : PyData) (L : Sto) : Res D := if p.showable = true ∧ p.hasDict = false ∧ p.shown.length ≤ 16777216 ∧ p.depth ≤ 50 then .ok (.str p.shown) L else .bad
def gRepr1 (d : D) (L : Sto) : Res D := match toPy (seen L d) with
  | some p => gReprP p L
  | none => .bad
def gRepr (ds : List D) (L : Sto) : Res D := match ds with
  | [d] => gRepr1 d L
  | _ => .bad
theorem gRepr_ok {G : Gb} : RnD G (rReprD G.K) gRepr := by
  intro w L H x ds Q E R dx p
  unfold gRepr at p
  split at p
  · rename_i d
    unfold gRepr1 at p
    split at p
    · rename_i q hq
      unfold gReprP at p
      split at p
      · rename_i hc
        cases dx with
        | cons h t =>
          cases t
          exact ⟨_, q, rfl, h.pySeen R hq, hc.1, hc.2.1, lineLe hc.2.2.1, hc.2.2.2, Post.ok p (.refl w) R (.str _)⟩
      · exact p.elim
    · exact p.elim
  · exact p.elim
section
variable {S : Sc} {W : WX} {e : Expr} {es : List Expr} {fl : AF} {pos p : Pos}
theorem se_repr (B : Bl S.g) (ha : SA S W (e :: es) fl) (hgd : S.gd = true := by rfl) (hg : Glb S "repr" := by rfl) (he : ∀ env, starEach (e :: es) env = (false, eval e env) :: starEach es env := by intro _; rfl) (hpl : ∀ env, (backTo pos (starEach es env)).any (·.1) = false := by intro _; rfl) :
    SE S W (.Call (.Name "repr" p) (e :: es) [] pos) (en gRepr fl) := fun X h =>
  se_callB (id := "repr") (r := rReprD S.g.K) (fun X h => by rw [h.K]; exact call_reprD (h.gd hgd) (by have := h.units; omega)) gRepr_ok B.repr (by decide +kernel) ha hg (by decide) (by decide) he hpl X h
end
def gStr (ds : List D) (L : Sto) : Res D := match ds with
  | [.int i] => if i.natAbs.log2 < 1920 then .ok (.str (toString i)) L else .bad
  | [.str x] => .ok (.str x) L
  | _ => .bad
def rStrU : List V → Hp → VK → Prop := fun xs H Q => (∃ i, xs = [.int i] ∧ i.natAbs.log2 < 1920 ∧ Q (.str (toString i)) H) ∨ ∃ a, xs = [.str a] ∧ Q (.str a) H
theorem gStr_ok {G : Gb} : RnD G rStrU gStr := by
  intro w L H x ds Q E R dx p
  unfold gStr at p
  split at p
  · split at p
    · rename_i hc
      cases dx with
      | cons h t =>
        cases t
        cases h
        exact .inl ⟨_, rfl, hc, Post.ok p (.refl w) R (.str _)⟩
    · exact p.elim
  · cases dx with
    | cons h t =>
      cases t
      cases h
      exact .inr ⟨_, rfl, Post.ok p (.refl w) R (.str _)⟩
  · exact p.elim
theorem call_strU {X : Cx} : CallR X (.type "str") rStrU := fun pins s σ H xs us Q I r h => h.elim (call_str_int pins s σ H xs us Q I r) (SkE.call_str_str pins s σ H xs us Q I r)
end DS
namespace L2
open PySem PySem.Spec PyProof.Rows
abbrev Sute := Addr → Value → Option Addr → TS
def Ends.bare (D : Ends) (i : Nat) : Ends := { nx := fun σ H => D.nx (σ.set i none) H, rt := D.rt, bk := fun σ H => D.bk (σ.set i none) H, ct := fun σ H => D.ct (σ.set i none) H }
def asTS (as : Option Nat) (ts : Sute) (D : Ends) (a : Addr) (cls : Value) (d : Option Addr) (σ : St) (H : Hp) : Prop := match as with
  | none => ts a cls d D σ H
  | some i => ts a cls d (D.bare i) (σ.set i (some (.ref a))) H
def wMix (K : PySem.W.Frag) (Wout : WX) (D : Ends) : List (Value × Option Nat × Sute) → WX
  | [] => Wout
  | q :: r => fun cls d σ H => ∃ b, PySem.W.exmOne K cls q.1 = some b ∧ (b = true → ∀ a, H a = none → asTS q.2.1 q.2.2 D a cls d σ H) ∧ (b = false → wMix K Wout D r cls d σ H)
inductive HdsM (X : Cx) : List ExceptHandler → List (Value × Option Nat × Sute) → Prop
  | nil : HdsM X [] []
  | bare {x : Str} {c : Value} {ts : Sute} {b₀ : Stmt} {suite : List Stmt} {np pos' : Pos} {hds : List ExceptHandler} {l : List (Value × Option Nat × Sute)} (hc : Names X x c)
      (hsu : ∀ (a : Addr) (oe : Obj) (cls : Value) (d : Option Addr) (pn : List (Addr × Obj)), Zc cls d oe → (∃ vs, oe.data = .fields vs) → PSs (X.suite a ((a, oe) :: pn)) (b₀ :: suite) (ts a cls d)) (r : HdsM X hds l) :
      HdsM X (.ExceptHandler (some (.Name x np)) none (b₀ :: suite) pos' :: hds) ((c, none, ts) :: l)
  | as_ {x n : Str} {i : Nat} {c : Value} {ts : Sute} {b₀ : Stmt} {suite : List Stmt} {np pos' : Pos} {hds : List ExceptHandler} {l : List (Value × Option Nat × Sute)} (hc : Names X x c) (hi : X.N[i]? = some n) (hln : X.env.kindOf n = some .local)
      (hsu : ∀ (a : Addr) (oe : Obj) (cls : Value) (d : Option Addr) (pn : List (Addr × Obj)), Zc cls d oe → (∃ vs, oe.data = .fields vs) → PSs (X.suite a ((a, oe) :: pn)) (b₀ :: suite) (ts a cls d)) (r : HdsM X hds l) :
      HdsM X (.ExceptHandler (some (.Name x np)) (some n) (b₀ :: suite) pos' :: hds) ((c, some i, ts) :: l)
section
variable {X : Cx} {body : List Stmt} {h₀ : ExceptHandler} {hds : List ExceptHandler} {l : List (Value × Option Nat × Sute)} {pos : Pos} {tb : WX → TS} {Wout : WX}
theorem suite_end {pins : List (Addr × Obj)} {a : Addr} {oe : Obj} {D : Ends} {i : Nat} {n : Str} {pos' : Pos} (ok : X.Ok) (hN : X.N.Nodup) (hi : X.N[i]? = some n) (hln : X.env.kindOf n = some .local) {f : Flow} {s6 : Shared}
    (h : SP (X.suite a ((a, oe) :: (X.pn ++ pins))) [] (D.bare i) f s6) : wpAny (model X.prog X.w) X.A (do bindName X.env n .none; unbindBehindTheSuite X.env n pos') (fun _ s7 => SP X pins D f s7) X.xe s6 := by
  match f, h with
  | .next, ⟨σ6, H6, J, q⟩ => exact gone_ok (J.unsuite ok) hN hi hln fun s7 J7 => ⟨_, _, J7, q⟩
  | .brk, ⟨σ6, H6, J, q⟩ => exact gone_ok (J.unsuite ok) hN hi hln fun s7 J7 => ⟨_, _, J7, q⟩
  | .cont, ⟨σ6, H6, J, q⟩ => exact gone_ok (J.unsuite ok) hN hi hln fun s7 J7 => ⟨_, _, J7, q⟩
  | .ret u, ⟨v6, σ6, H6, J, rv, q⟩ => exact gone_ok (J.unsuite ok) hN hi hln fun s7 J7 => ⟨_, _, _, J7, rv, q⟩
theorem suite_out {pins : List (Addr × Obj)} {a : Addr} {oe : Obj} {D : Ends} (ok : X.Ok) {f : Flow} {s6 : Shared} (h : SP (X.suite a ((a, oe) :: (X.pn ++ pins))) [] D f s6) : SP X pins D f s6 := by
  match f, h with
  | .next, ⟨σ6, H6, J, q⟩ => exact ⟨_, _, J.unsuite ok, q⟩
  | .brk, ⟨σ6, H6, J, q⟩ => exact ⟨_, _, J.unsuite ok, q⟩
  | .cont, ⟨σ6, H6, J, q⟩ => exact ⟨_, _, J.unsuite ok, q⟩
  | .ret u, ⟨v6, σ6, H6, J, rv, q⟩ => exact ⟨_, _, _, J.unsuite ok, rv, q⟩
theorem ps_try_mix (hs : X.stack = X.env :: X.outer) (hf : X.env.frame = some X.env.locals) (hN : X.N.Nodup) (tk : Takes X Wout) (hh : HdsM X (h₀ :: hds) l)
    (hb : ∀ (W : WX) (pn : List (Addr × Obj)) (xe : Value → Shared → Prop), Takes (X.tr pn xe) W → PassesOwn (model X.prog X.w) X.A X.env xe → PSs (X.tr pn xe) body (tb W)) : PS X (.Try body (h₀ :: hds) [] [] pos) (fun D σ H => tb (wMix X.K Wout D l) D σ H) := by
  refine ⟨fun pins s σ H D I h => wpAny_Try_except ?_⟩
  have ok := I.ok
  have hfr : X.A.frames = some (X.env :: X.outer) := ok.frames.trans (congrArg some hs)
  refine wpAny_mono ((hb (wMix X.K Wout D l) (X.pn ++ pins) (fun e s₁ => wpAny (model X.prog X.w) X.A (noteFrame e X.env) (fun _ s₂ => wpAny (model X.prog X.w) X.A (setFlight e none) (fun _ s₃ =>
      wpAny (model X.prog X.w) X.A (handleBy e X.env (h₀ :: hds)) (SP X pins D) X.xe s₃) X.xe s₂) X.xe s₁) (fun u s' flown => ?caught) PassesOwn.looking).run [] s σ H D (I.toTry _) h) (fun f s1 hsp => ?quiet) fun e s1 he => he
  case quiet =>
    match f, hsp with
    | .next, ⟨σ', H', J, q⟩ => exact wpAny_execs_nil ⟨σ', H', J.ofTry ok, q⟩
    | .brk, ⟨σ', H', J, q⟩ => exact ⟨σ', H', J.ofTry ok, q⟩
    | .cont, ⟨σ', H', J, q⟩ => exact ⟨σ', H', J.ofTry ok, q⟩
    | .ret u, ⟨v, σ', H', J, r, q⟩ => exact ⟨v, σ', H', J.ofTry ok, r, q⟩
  case caught =>
    obtain ⟨a, B, sI, pins', σ', H', cls, d, rfl, J', nb, up, sky, na, os, ag, wish⟩ := flown
    have J : Inv X pins σ' H' sI := J'.ofTry ok
    refine Sky.land Zc.steady hfr hf (show Sky B (X.env :: X.outer) a (Zc cls d) X.env.locals s'.heap from hs ▸ sky) fun h3 fl3 up3 => ?_
    have J3 : Inv X pins σ' H' { s' with heap := h3 } := J.landed nb fl3.1 (up.trans up3) os ag
    obtain ⟨oe3, vs3, he3, hz3, hd3⟩ := fl3.there
    have nfr : a ∉ frs (X.env :: X.outer) := fun hm => by
      obtain ⟨_, o', e', hnf⟩ := fl3.2.2.1.mem hm
      rw [he3] at e'
      cases e'
      exact hnf _ hd3
    have nL : a ≠ X.env.locals := fun z => nfr (List.mem_filterMap.mpr ⟨X.env, List.mem_cons_self, hf.trans (congrArg some z.symm)⟩)
    have nF : a ∉ X.fs := fun hm => by
      obtain ⟨e, he, q⟩ := List.mem_filterMap.mp hm
      exact nfr (List.mem_filterMap.mpr ⟨e, List.mem_cons_of_mem _ he, q⟩)
    have S3 := J3.suite he3 hd3 na nL nF
    have go : ∀ {hs' : List ExceptHandler} {l' : List (Value × Option Nat × Sute)}, HdsM X hs' l' → wMix X.K Wout D l' cls d σ' H' → wpAny (model X.prog X.w) X.A (handleBy (.ref a) X.env hs') (SP X pins D) X.xe { s' with heap := h3 } := by
      intro hs' l' hk
      have ask : ∀ {x : Str} {c : Value} {np : Pos} {b : Bool} {Q : Bool → Shared → Prop} {E1 E2 : Value → Shared → Prop}, Names X x c → PySem.W.exmOne X.K cls c = some b → Q b { s' with heap := h3 } →
          wpAny (model X.prog X.w) (X.A.mark (some (.ref a))) (eval (.Name x np) X.env) (fun t s₄ => wpAny (model X.prog X.w) (X.A.mark (some (.ref a))) (excMatches (.ref a) t) Q E1 s₄) E2 { s' with heap := h3 } := by
        intro x c np b Q E1 E2 hc hb1 q
        have LT : PySem.W.Looks (model X.prog X.w) h3 (typeOf (.ref a)) cls := fun A Q E s k q => wpAny_typeOf_ref (k _ _ he3) (by rw [hz3.1]; exact q)
        have fin := (PySem.W.exm_one (M := model X.prog X.w) J3.kIn LT hb1).here (A := X.A.mark (some (.ref a))) (E := E1) (s := { s' with heap := h3 }) q
        obtain ⟨hg, hdbg, hm | ⟨hm, hv, hnn⟩⟩ := hc
        · exact ld_glob (X := X.suite a ((a, oe3) :: (X.pn ++ pins))) S3 hg hm fin hdbg
        · exact ld_blt (X := X.suite a ((a, oe3) :: (X.pn ++ pins))) S3 hg hm hv fin hnn hdbg
      induction hk with
      | nil =>
        intro wo
        refine wpAny_handleBy_nil ?_
        obtain ⟨k1, k2, k3, oe, vs, T, oT, ts', he, hz, hd, h1, hr⟩ := id fl3
        unfold PySem.passOn
        refine wpAny_bind (wpAny_field he hd h1 ?_)
        rw [if_neg (show ¬ ((Value.ref T == Value.none) = true) from by simp)]
        have on : wpAny (model X.prog X.w) X.A (setFlight (.ref a) X.env.frame) (fun _ s4 => wpAny (model X.prog X.w) X.A (throw (.ref a) : Sem Flow) (SP X pins D) X.xe s4) X.xe { s' with heap := h3 } := by
          rw [hf]
          exact HandSPX.setFlight_upZ fl3 fun h4 hh4 up4 => wpAny_throw (tk _ _ ⟨a, B, sI, pins, σ', H', cls, d, rfl, J, nb, (up.trans up3).trans up4, .inr (.inr (by rw [hs]; exact hh4)), na, os, ag, wo⟩)
        first
          | exact wpAny_bind (wpAny_pure (wpAny_bind on))
          | exact wpAny_bind on
      | bare hc hsu r ih =>
        intro ⟨b, hb1, hyes, hno⟩
        refine wpAny_handleBy_cons (codeAny_handlers_test (ask hc hb1 ?_)) (by intro q; cases q)
        cases b with
        | false => exact ih (hno rfl)
        | true =>
          refine codeAny_handlers_suite (HandSPX.lands_againZ fl3 fun h4 fl4 up4 => ?_)
          have J4 : Inv X pins σ' H' { s' with heap := h4 } := J.landed nb fl4.1 ((up.trans up3).trans up4) os ag
          obtain ⟨oe4, vs4, he4, hz4, hd4⟩ := fl4.there
          exact wpAny_mono ((hsu a oe4 cls d (X.pn ++ pins) hz4 ⟨_, hd4⟩).run [] _ _ H' _ (J4.suite he4 hd4 na nL nF) (hyes rfl a na)) (fun f s6 hsp => suite_out ok hsp) fun _ _ z => False.elim z
      | as_ hc hi hln hsu r ih =>
        intro ⟨b, hb1, hyes, hno⟩
        refine wpAny_handleBy_cons (codeAny_handlers_test (ask hc hb1 ?_)) (by intro q; cases q)
        cases b with
        | false => exact ih (hno rfl)
        | true =>
          refine codeAny_handlers_suite_as (HandSPX.lands_againZ fl3 fun h4 fl4 up4 => ?_)
          have J4 : Inv X pins σ' H' { s' with heap := h4 } := J.landed nb fl4.1 ((up.trans up3).trans up4) os ag
          obtain ⟨oe4, vs4, he4, hz4, hd4⟩ := fl4.there
          refine store_ok (X := X.suite a ((a, oe4) :: (X.pn ++ pins))) (v := .ref a) (J4.suite he4 hd4 na nL nF) hN hi (.inl hln) rfl (fun s5 S5 => ?_) (.inr hln)
          exact wpAny_mono ((hsu a oe4 cls d (X.pn ++ pins) hz4 ⟨_, hd4⟩).run [] s5 _ H' _ S5 (hyes rfl a na)) (fun f s6 hsp => suite_end ok hN hi hln hsp) fun _ _ z => False.elim z
    exact go hh wish
end
end L2
set_option Elab.async false
set_option linter.all false
set_option maxRecDepth 100000
set_option maxHeartbeats 4000000
namespace LamY
open PySem PySem.Spec PyProof.Rows L2 LamX
structure LamT (sc scope : Scope) (ys : List Str) : Prop where
  kind : scope.kind = .function
  co : scope.isCoroutine = false
  gen : scope.isGenerator = false
  nocell : ∀ y ∈ scope.names, y.2 ≠ .cell
  own : ∀ y ∈ scope.names, y.2 = .local → y.1 ∈ ys
  par : ∀ y ∈ ys, scope.names.lookup y = some .local
  free : ∀ y ∈ scope.names, y.2 = .free → sc.names.lookup y.1 = some .cell ∨ sc.names.lookup y.1 = some .free
def lamTB (sc scope : Scope) (ys : List Str) : Bool := (decide (scope.kind = .function) && (!scope.isCoroutine && !scope.isGenerator)) && ((scope.names.all fun y => !decide (y.2 = .cell) && ((!decide (y.2 = .local) || decide (y.1 ∈ ys)) &&
  (!decide (y.2 = .free) || (decide (sc.names.lookup y.1 = some .cell) || decide (sc.names.lookup y.1 = some .free))))) && ys.all fun y => decide (scope.names.lookup y = some .local))
theorem lamT_by {sc scope : Scope} {ys : List Str} (h : lamTB sc scope ys = true) : LamT sc scope ys := by
  unfold lamTB at h
  simp only [Bool.and_eq_true, Bool.or_eq_true, Bool.not_eq_true', decide_eq_true_eq, decide_eq_false_iff_not, List.all_eq_true] at h
  obtain ⟨⟨h1, h2, h3⟩, h4, h5⟩ := h
  exact ⟨h1, h2, h3, fun y hy => (h4 y hy).1, fun y hy e => (h4 y hy).2.1.elim (fun n => absurd e n) id, h5, fun y hy e => (h4 y hy).2.2.elim (fun n => absurd e n) id⟩
abbrev lamO (q : Str) (params : Arguments) (body : Expr) (scope : Scope) (clos : List (Str × Addr)) (dV doc pm cv ctv : Value) : Obj := { cls := .type "function", data := .func (PySem.W.kdv_fn "<lambda>" q params (.expr body) scope clos dV doc pm cv ctv) }
section
variable {M : Model} {A : Around} {E : Value → Shared → Prop} {s : Shared} {params : Arguments} {body : Expr} {scope : Scope} {pos : Pos} {Q : Value → Shared → Prop} {env : Env}
theorem lam_eval0 (hdef : defaultsOf params env = ([], [])) (h : wpAny M A (makeTail "<lambda>" (env.qual ++ "<lambda>") params (.expr body) scope env .none .none none pos pos.line) Q E s) : wpAny M A (eval (.Lambda params body scope pos) env) Q E s :=
  PySem.W.kla_eval hdef (by rw [makeFunction_eq]; simp only [List.zip_nil_right, List.filterMap_nil, List.isEmpty_nil, if_true, pure_bind]; exact h)
theorem lam_eval1 {d : Expr} {v : Value} (hdef : defaultsOf params env = ([eval d env], [])) (hd : ∀ {Q : Value → Shared → Prop}, (∀ t, Q v { s with toks := t }) → wpAny M A (eval d env) Q E s)
    (h : ∀ t, wpAny M A (makeTail "<lambda>" (env.qual ++ "<lambda>") params (.expr body) scope env (.ref s.heap.objs.size) .none none pos pos.line) Q E { s with heap := s.heap.push (PySem.W.kdv_tup [v]), toks := t }) : wpAny M A (eval (.Lambda params body scope pos) env) Q E s := by
  rw [arm_eval_Lambda, hdef]
  show wpAny M A (do let dv ← evalAll [eval d env]; let kdv ← holding dv (evalAllOpt []); makeFunction "<lambda>" (env.qual ++ "<lambda>") params (.expr body) scope env dv kdv [] pos pos.line) Q E s
  refine wpAny_bind (wpAny_bind (hd fun t => ?_))
  refine wpAny_bind (wpAny_holding (wpAny_pure (wpAny_pure (wpAny_bind (wpAny_holding (wpAny_pure ?_))))))
  rw [makeFunction_eq]
  simp only [List.zip_nil_right, List.filterMap_nil, List.isEmpty_nil, List.isEmpty_cons, Bool.false_eq_true, if_false, if_true, pure_bind]
  exact wpAny_bind (wpAny_newTextTuple (h t))
end
section
variable {X : Cx} {pins : List (Addr × Obj)} {σ : L2.St} {H : Hp} {s : Shared}
def Made (P c' : Addr) (q : Str) (H H1 : Hp) : Prop := H1 = H ∨ (H c' = none ∧ ∃ ps ps' : Array Value, H P = some (.tbl ps) ∧ TriplesOk ps'.toList ∧ H1 = upd (upd H P (.tbl ps')) c' (CodeO c' q) ∧ ∀ (pos : Pos) (cv : Value), codeAmong pos ps'.toList = some cv → codeAmong pos ps.toList = some cv ∨ cv = .ref c')
theorem lam_tail {c P : Addr} {params : Arguments} {body : Expr} {scope : Scope} {pos : Pos} {dV : Value} {E : Value → Shared → Prop} {Q : Value → Shared → Prop} (I : Inv X pins σ H s) (TB : TabB X.base X.mg c P) (hcode : X.env.code = .ref c) (hT : TabS H P (X.env.qual ++ "<lambda>"))
    (hfree : ∀ y ∈ scope.names, y.2 = .free → ∃ c, X.env.cells.lookup y.1 = some c)
    (h : ∀ (f c' : Addr) (doc pm ctv : Value) (H1 : Hp) (s' : Shared), Inv X pins σ H1 s' → Made P c' (X.env.qual ++ "<lambda>") H H1 → (∀ b o, b ≠ P → s.heap.get? b = some o → s'.heap.get? b = some o) → s'.heap.get? f = some (lamO (X.env.qual ++ "<lambda>") params body scope (cloFrom X.env.cells scope.names []) dV doc pm (.ref c') ctv) →
      H1 f = none → f ∉ frs X.stack → H1 c' = some (CodeO c' (X.env.qual ++ "<lambda>")) → Q (.ref f) s') :
    wpAny (model X.prog X.w) X.A (makeTail "<lambda>" (X.env.qual ++ "<lambda>") params (.expr body) scope X.env dV .none none pos pos.line) Q E s := by
  obtain ⟨ps, hP, ht, ha⟩ := hT
  have bP : s.heap.BuiltinsAt X.mg P := TB.bm.keeps I.bk
  have oP : s.heap.get? P = some { cls := .none, data := .fields ps } := I.hok P _ hP
  have away : ∀ f, s.heap.objs.size ≤ f → f ∉ frs X.stack := fun f hf z => by
    rcases List.mem_cons.mp (I.stkSub _ z) with e | e
    · exact Nat.lt_irrefl _ (Nat.lt_of_lt_of_le (e ▸ I.lt : f < s.heap.objs.size) hf)
    · exact I.nofs hf e
  cases hc : codeAmong pos ps.toList with
  | some cv =>
    obtain ⟨c', rfl, hco⟩ := ha pos cv hc
    refine PySem.W.kdv_makeTailHit (mg := X.mg) (closure_ok hfree) I.ok.glob (I.mod.glob.keeps I.bk) hcode (TB.code.keeps I.bk) oP ht hc bP fun ctv doc h' tk hx hsz => ?_
    exact h h'.objs.size c' doc ((X.mg "__name__").getD .none) ctv H _ (I.kept fun b o e => Heap.get?_push_of_some _ (hx b o e)) (.inl rfl) (fun b o _ e => Heap.get?_push_of_some _ (hx b o e)) (Heap.get?_push_size _ rfl) (I.hok.fresh hsz) (away _ hsz) hco
  | none =>
    refine PySem.W.kdv_makeTail (mg := X.mg) (closure_ok hfree) I.ok.glob (I.mod.glob.keeps I.bk) hcode (TB.code.keeps I.bk) oP ht hc TB.gP bP fun c' ctv doc h' tk hx hge hlt hrec htb => ?_
    obtain ⟨c2, oc, vs, t, e2, hoc, hd, hv⟩ := hrec
    cases e2
    have hsz : s.heap.objs.size ≤ h'.objs.size := Nat.le_trans hge (Nat.le_of_lt hlt)
    have nC : H c' = none := I.hok.fresh hge
    have neP : ∀ b, s.heap.objs.size ≤ b → b ≠ P := fun b hb z => by
      have := Heap.lt_size oP
      rw [← z] at this
      exact Nat.lt_irrefl _ (Nat.lt_of_lt_of_le this hb)
    have eL : (ps ++ #[rawInt pos.line, rawInt pos.col, .ref c']).toList = ps.toList ++ [rawInt pos.line, rawInt pos.col, .ref c'] := by simp
    have J := inv_table (t' := tk) (more := #[rawInt pos.line, rawInt pos.col, .ref c']) (h' := h'.push (lamO (X.env.qual ++ "<lambda>") params body scope (cloFrom X.env.cells scope.names []) dV doc ((X.mg "__name__").getD .none) (.ref c') ctv)) I hP
      (fun b o hb e => Heap.get?_push_of_some _ (hx b o hb e)) (Heap.get?_push_of_some _ htb) hge ⟨oc, vs, t, Heap.get?_push_of_some _ hoc, hd, hv⟩
    refine h h'.objs.size c' doc ((X.mg "__name__").getD .none) ctv _ _ J (.inr ⟨nC, ps, _, hP, by rw [eL]; exact PySem.TriplesOk_snoc _ _ _ _ ht, rfl, fun p' cv z => ?_⟩) (fun b o hb e => Heap.get?_push_of_some _ (hx b o hb e)) (Heap.get?_push_size _ rfl) ?_ (away _ hsz) upd_same
    · rw [eL] at z
      exact among_app _ ht z
    · rw [upd_ne (Nat.ne_of_gt hlt), upd_ne (neP _ hsz)]
      exact I.hok.fresh hsz
end
section
variable {X : Cx} {pins : List (Addr × Obj)} {σ : L2.St} {H HZ : Hp} {s s1 : Shared}
theorem lam_start {A : Around} {outer : List Env} {E : XK} {scope : Scope} {ys : List Str} {f c' : Addr} {h₁ : Heap} {tk : Nat} {m : Str → Option Value} (I : Inv X pins σ H s) (L : LamT X.env.scope scope ys) (e0 : Env0 X.prog X.w X.K X.mg X.base A outer s1 HZ) (hd : A.handled = none)
    (wp : List Nat) (hwp : ∀ (i : Nat) (y : Str) (v : V), X.N[i]? = some y → (wipe σ wp)[i]? = some (some v) → y ∉ ys) (un : Un (frs X.stack) [] H HZ s.heap s1.heap) (hns : h₁.Ns s1.heap.objs.size m) (kp : ∀ b o, s1.heap.get? b = some o → h₁.get? b = some o) :
    Inv (lamCx X A outer s1 HZ E scope f c') [] (wipe σ wp) HZ { s1 with heap := h₁, toks := tk } := by
  have has : ∀ y ∈ scope.names, y.2 = .free → ∃ c, X.env.cells.lookup y.1 = some c := fun y hy e => (L.free y hy e).elim (fun k => I.ok.has _ (.inl k)) fun k => I.ok.has _ (.inr k)
  have cm : ∀ {y c}, (cloFrom X.env.cells scope.names []).lookup y = some c → X.env.cells.lookup y = some c := fun {y c} e => by
    rcases cloFrom_mem (PySem.mem_of_lookup e) with hm | ⟨h1, h2⟩
    · exact nomatch hm
    · obtain ⟨c1, hc⟩ := has _ h1 rfl
      have hc' : X.env.cells.lookup y = some c1 := hc
      rw [hc'] at h2
      rw [hc', h2]
      rfl
  have look : ∀ {y}, scope.names.lookup y = some .free → ∃ c, (cloFrom X.env.cells scope.names []).lookup y = some c := fun {y} hl => mem_lookup (cloFrom_has (cells := X.env.cells) (acc := []) (PySem.mem_of_lookup hl))
  have cellK : ∀ {c : Addr} {v : Option Value}, H c = none → s.heap.IsCell c v → h₁.IsCell c v := fun {c v} n ⟨o, ho, hd⟩ => by
    obtain ⟨sl, q⟩ := un.any ho n (by simp)
    exact ⟨_, kp _ _ q, hd⟩
  have noA : ∀ b : Addr, b ∉ (lamCx X A outer s1 HZ E scope f c').ex := fun b z => nomatch (show b ∈ ([] : List Addr) from z)
  refine ⟨⟨e0.mod, L.kind, rfl, rfl, Nat.le_refl _, fun y z c e1 e2 => I.ok.inj y z c (cm e1) (cm e2), fun y hy => ?_, fun y c z _ => ?_, fun _ => hd, Around.frames_deeper e0.frames, .inr ⟨rfl, rfl⟩, fun b z => absurd z (noA b), e0.bs, e0.bsz, fun b _ _ => noA b,
      fun b z => absurd z (noA b), e0.funs, e0.frf⟩, rfl, e0.bare, Un.kept kp, ⟨_, hns, fun i y v e1 e2 e3 => ?_⟩, fun y c e => ?_, e0.hok.fresh (Nat.le_refl _), fun y c e => ?_, (fun q hq => nomatch (show q ∈ ([] : List (Addr × Obj)) ++ [] from hq)), e0.hok.kept kp, by rw [wipe_length]; exact I.len⟩
  · rcases (show scope.names.lookup y = some .cell ∨ scope.names.lookup y = some .free from hy) with hy | hy
    · exact absurd rfl (L.nocell _ (PySem.mem_of_lookup hy))
    · exact look hy
  · exact nomatch (show false = true from z)
  · rcases (show Vis scope y from e3) with k | k | k
    · exact absurd (L.own _ (PySem.mem_of_lookup k) rfl) (hwp i y v e1 e2)
    · exact absurd rfl (L.nocell _ (PySem.mem_of_lookup k))
    · obtain ⟨m', hn, hl⟩ := I.loc
      have e2' : σ[i]? = some (some v) := by
        by_cases hi : i ∈ wp
        · rw [DS.wipe_get hi] at e2
          split at e2 <;> cases e2
        · rwa [wipe_out hi] at e2
      have hvis : Vis X.env.scope y := (L.free _ (PySem.mem_of_lookup k) rfl).elim (fun k => .inr (.inl k)) (fun k => .inr (.inr k))
      obtain ⟨w', r, q⟩ := hl i y v e1 e2' hvis
      obtain ⟨c2, h2⟩ := look k
      refine ⟨w', r, .inr ⟨.inr k, c2, h2, ?_⟩⟩
      have c1 := cm h2
      rcases q with ⟨k', _⟩ | ⟨_, c3, e', z⟩
      · have k1 : X.env.scope.names.lookup y = some .local := k'
        rcases L.free _ (PySem.mem_of_lookup k) rfl with k2 | k2 <;> exact nomatch (show some NameKind.local = some _ from k1.symm.trans k2)
      · rw [c1] at e'
        cases e'
        exact cellK (I.freeC y _ c1) z
  · obtain ⟨w', z⟩ := I.cell y c (cm e)
    exact ⟨w', cellK (I.freeC y c (cm e)) z⟩
  · obtain ⟨v, o, ho, hd⟩ := I.cell y c (cm e)
    exact un.free c o ho (I.freeC y c (cm e)) (by simp)
theorem pe_actY {CXg : CXT} {Eg : XK} {Ng : List Str} {qg : Str} {sg : Scope} {g f c' : Addr} {cdg dV doc pm ctv : Value} {params : Arguments} {body : Expr} {scope : Scope} {ys : List Str} {bs : List (Str × Value)} {k i : Nat} {a : Str} {pn : List (Addr × Obj)} {xe : Value → Shared → Prop} {W : WX} {tb : XK → TE} {p1 p2 : Pos}
    (I : Inv X pins σ H s) (L : LamT X.env.scope scope ys) (wp : List Nat) (hwp : ∀ (i : Nat) (y : Str) (v : V), X.N[i]? = some y → (wipe σ wp)[i]? = some (some v) → y ∉ ys)
    (hf : s.heap.get? f = some (lamO (X.env.qual ++ "<lambda>") params body scope (cloFrom X.env.cells scope.names []) dV doc pm (.ref c') ctv)) (hfn : H f = none) (hfr : f ∉ frs X.stack)
    (hbs : bs.map (·.1) = ys) (hbind : ∀ s' : Shared, (∀ b o, s.heap.get? b = some o → H b = none → b ∉ frs X.stack → s'.heap.get? b = some o) → BindsTo s' (PySem.W.kdv_fn "<lambda>" (X.env.qual ++ "<lambda>") params (.expr body) scope (cloFrom X.env.cells scope.names []) dV doc pm (.ref c') ctv) ⟨[], []⟩ bs)
    (tk : Takes ((cxOf CXg X.prog X.w X.K X.mg X.base Ng qg sg g cdg X.A X.stack s H Eg).tr pn xe) W) (hr : Room (k + 1) (X.A.deeper (envOfC qg sg s.heap.objs.size g cdg)))
    (hbody : ∀ (A : Around) (outer : List Env) (s : Shared) (H : Hp) (E : XK), Room k (A.deeper (lamEnv X scope s.heap.objs.size f c')) → A.guards = X.A.guards → PE (lamCx X A outer s H E scope f c') body (tb E))
    (hN : Ng[i]? = some a) (hv : Vis sg a) (hd : (a == ("__debug__" : Str)) = false) (hcd : (a == ("__classdict__" : Str)) = false) :
    PE ((cxOf CXg X.prog X.w X.K X.mg X.base Ng qg sg g cdg X.A X.stack s H Eg).tr pn xe) (.Call (.Name a p1) [] [] p2)
      (fun σZ HZ Q => σZ[i]? = some (some (.ref f)) ∧ HZ c' = some (CodeO c' (X.env.qual ++ "<lambda>")) ∧ tb (WE W σZ) (wipe σ wp) HZ Q) := by
  refine ⟨fun pinsZ sZ σZ HZ Q IZ ⟨hs, hc, ht⟩ => ?_⟩
  refine wpAny_Call_Name_kw (thn ((pe_var (pos := p1) (i := i) hN hv hd hcd).run pinsZ sZ σZ HZ (fun v H1 => v = .ref f ∧ H1 = HZ) IZ ⟨.ref f, hs, rfl, rfl⟩) fun u s1 ⟨v, H1, I1, r1, ev, eH⟩ => ?_)
  subst ev
  rw [eH] at I1
  obtain rfl : u = Value.ref f := r1
  have un : Un (frs X.stack) [] H HZ s.heap s1.heap := I1.base
  have kept : ∀ b o, s.heap.get? b = some o → H b = none → b ∉ frs X.stack → s1.heap.get? b = some o := fun b o e n m => un.keep b o e n m (by simp)
  have of1 := kept f _ hf hfn hfr
  refine PySem.W.callWith_F0 ⟨_, _, _, _, of1⟩ ?_
  obtain ⟨⟨oc, vs, t, hoc, hdc, hvc⟩, _, _⟩ := I1.hok c' _ hc
  have rc : codeAny (model X.prog X.w) (X.A.deeper (envOfC qg sg s.heap.objs.size g cdg)) (.call (.ref f) ⟨[], []⟩) (CR (L2.CX X.prog X.w) (envOfC qg sg s.heap.objs.size g cdg :: X.stack) X.prog X.w HZ s1 Q (WE W σZ)) s1 := by
    refine PySem.W.kla_callFunE hr.depth of1 rfl L.co L.gen rfl ⟨c', oc, vs, t, rfl, hoc, hdc, hvc⟩ (hbind s1 kept _ _ _ _ ?_)
    refine wpAny_newFunctionEnv L.nocell (fun y hy => L.par _ (hbs ▸ List.mem_map.mpr ⟨y, hy, rfl⟩)) (fun h₁ hns hsb => ⟨I1.nolimit.fresh _ hsb, ?_⟩) L.kind
    have kp : ∀ b o, s1.heap.get? b = some o → h₁.get? b = some o := fun b o e => hsb.extBut b o (Nat.ne_of_lt (Heap.lt_size e)) (Heap.get?_push_of_some _ e)
    have J := lam_start (E := WE W σZ) (f := f) (c' := c') (tk := s1.toks + bs.length) I L I1.env0 hr.hd wp hwp un hns kp
    refine PySem.W.kla_codeExpr (wpAny_mono ((hbody _ _ s1 HZ (WE W σZ) (hr.deeper _) rfl).run [] _ _ HZ Q J ht) (fun v s' ⟨w', H', J', rv, q⟩ => ?_) fun e s' hq => hq)
    exact ⟨w', H', J'.os, J'.bare, J'.base, J'.hok, rv, q⟩
  refine wpAny_call (codeAny_mono rc fun r s' hq => ?_)
  match r, hq with
  | .error e, hq => exact L2.passAt tk σZ pinsZ HZ s1 e s' I1 hq
  | .ok (.ret u), hq => exact I1.after hq
  | .ok .next, hq => exact hq.elim
  | .ok .brk, hq => exact hq.elim
  | .ok .cont, hq => exact hq.elim
end
end LamY
set_option Elab.async false
set_option linter.all false
set_option maxRecDepth 100000
set_option maxHeartbeats 4000000
namespace DS
open PySem PySem.Spec L2
open PyProof.Rows hiding St
structure ExcIs (G : Gb) (c : Str) : Prop where
  ex : ∃ (C : Addr) (bmB : List Value) (B newId initId : String), G.mg c = some (.ref C) ∧ ExcBaseFacts B newId initId bmB ∧ PySem.W.excIn G.K C bmB newId = true ∧ PySem.W.keepIn G.K (.ref C) = true ∧ PySem.W.subIn G.K (.ref C) (.type "BaseException") = some true ∧ PySem.W.typeIn G.K (.ref C) = some (.type "type")
structure ExfIs (G : Gb) (c f : Str) : Prop where
  ex : ∃ (C fI cc cda : Addr) (n1 n2 : Str) (p : _root_.Fin 10 → Pos) (params : Arguments) (scope : Scope) (bmB : List Value) (B newId initId : String), G.mg c = some (.ref C) ∧ ExI G.P G.K C fI cc cda n1 n2 f p params scope bmB B newId initId ∧ ExText n1 n2 f p scope params ∧ StoreFacts B bmB "object.__setattr__" "object" ∧
    ExcBaseFacts B newId initId bmB ∧ PySem.W.KxsFacts B initId
  sup : G.mg ("super" : Str) = none
def sRaise0 (c : Str) (f : EF) : SF := fun ρ L => sBind (f ρ L) ρ fun _ L1 => .err c [] ρ L1
def sRaiseF (c fld : Str) (f : EF) : SF := fun ρ L => sBind (f ρ L) ρ fun d L1 => .err c [(fld, d)] ρ L1
section
variable {S : Sc} {W : WX} {e : Expr} {f : EF} {c fld : Str} {pos p q : Pos}
theorem ss_raise0 (F : ExcIs S.g c) (he : SE S W e f) (hg : Glb S c := by rfl) (hs : ∀ env, starEach [e] env = (false, eval e env) :: starEach [] env := by intro _; rfl) (hdb : (c == ("__debug__" : Str)) = false := by decide) :
    SS S W (.Raise (some (.Call (.Name c p) [e] [] q)) none pos) (sRaise0 c f) := fun X h => by
  obtain ⟨C, bmB, B, newId, initId, hm, FB, h1, h2, h3, h4⟩ := F.ex
  have hm0 := hm
  rw [h.K] at h1 h2 h3 h4
  rw [h.mg] at hm
  refine PS.imp (ps_raise h.calm h.takes (SkE.pmk_own1 FB h1 hm h2 (raises_own h3 h4) (by show X.env.scope.names.lookup _ = _; rw [← h.sc]; exact hg) (he X h) (hs _) hdb)) fun D σ H ⟨w, ρ, L, R, e, p⟩ => ?_
  exact ⟨w, ρ, L, R, e, (PostS.bind (σ := σ) e p).imp (fun v H1 ⟨w1, d, L1, l1, R1, d1, p1⟩ => p1 w1 σ H1 none (.refl _) R1 (e.le l1) (.inl ⟨rfl, rfl⟩) C hm0) fun _ _ _ z => z⟩
theorem ss_raiseF (F : ExfIs S.g c fld) (hk : 1 ≤ S.k) (he : SE S W e f) (hg : Glb S c := by rfl) (hs : ∀ env, starEach [e] env = (false, eval e env) :: starEach [] env := by intro _; rfl) (hdb : (c == ("__debug__" : Str)) = false := by decide) :
    SS S W (.Raise (some (.Call (.Name c p) [e] [] q)) none pos) (sRaiseF c fld f) := fun X h => by
  obtain ⟨C, fI, cc, cda, n1, n2, pp, params, scope, bmB, B, newId, initId, hm, T, X0, SF, FB, KF⟩ := F.ex
  have hm0 := hm
  rw [h.P, h.K] at T
  rw [h.mg] at hm
  refine PS.imp (ps_raise h.calm h.takes (pmk_exi T X0 SF FB KF (by show X.env.scope.names.lookup _ = _; rw [← h.sc]; exact hg) hm (by rw [← h.mg]; exact F.sup) (h.room.mono hk) (he X h) hdb (hs _))) fun D σ H ⟨w, ρ, L, R, e, p⟩ => ?_
  refine ⟨w, ρ, L, R, e, (PostS.bind (σ := σ) e p).imp (fun v H1 ⟨w1, d, L1, l1, R1, d1, p1⟩ => ?_) fun _ _ _ z => z⟩
  intro dd hdd
  obtain ⟨R2, l2⟩ := R1.newF (o := .xd [(fld, v)]) hdd
  exact p1 _ σ _ (some dd) l2 R2 ((e.le l1).le l2) (.inr ⟨dd, _, rfl, upd_same, .cons (d1.le l2) .nil⟩) C hm0
end
structure ExcT (G : Gb) (xs : List (Str × List Str)) : Prop where
  one : ∀ q ∈ xs, ∃ C, G.mg q.1 = some (.ref C)
  two : ∀ q ∈ xs, ∀ r ∈ xs, ∀ C C', G.mg q.1 = some (.ref C) → G.mg r.1 = some (.ref C') → PySem.W.exmOne G.K (.ref C) (.ref C') = some (decide (r.1 ∈ q.2))
def isExc (xs : List (Str × List Str)) (c c' : Str) : Bool := match xs.lookup c with
  | some ss => decide (c' ∈ ss)
  | none => false
def hasExc (xs : List (Str × List Str)) (c : Str) : Bool := (xs.lookup c).isSome
theorem ExcT.at {G : Gb} {xs : List (Str × List Str)} (T : ExcT G xs) {c c' : Str} {C C' : Addr} (h1 : hasExc xs c = true) (h2 : hasExc xs c' = true) (m : G.mg c = some (.ref C)) (m' : G.mg c' = some (.ref C')) : PySem.W.exmOne G.K (.ref C) (.ref C') = some (isExc xs c c') := by
  obtain ⟨ss, e1⟩ := Option.isSome_iff_exists.mp h1
  obtain ⟨tt, e2⟩ := Option.isSome_iff_exists.mp h2
  have r := T.two _ (PySem.mem_of_lookup e1) _ (PySem.mem_of_lookup e2) C C' m m'
  unfold isExc
  rw [e1]
  exact r
abbrev HF := Str → List (Str × D) → EF
structure HdD where
  c : Str
  as : Option Nat
  f : HF
structure Sc.HasH (S : Sc) (X : Cx) : Prop where
  P : S.g.P = X.prog
  w : S.g.w = X.w
  K : S.g.K = X.K
  mg : S.g.mg = X.mg
  base : S.g.base = X.base
  N : S.N = X.N
  sc : S.sc = X.env.scope
  un : X.A.units + 70 < cLine
  gd : S.gd = true → X.A.guards = some []
theorem Sc.Has.hot {S : Sc} {W : WX} {X : Cx} (h : S.Has W X) : S.HasH X := ⟨h.P, h.w, h.K, h.mg, h.base, h.N, h.sc, by have := h.room.un; omega, h.gd⟩
def tRH (g : Gb) (i : Option Nat) (a : Addr) (cls : Value) (d : Option Addr) (f : HF) : TE := fun σ H Q => ∃ w ρ L c p, Rel g w L H ∧ EnvR g w σ ρ ∧ (∀ j, i = some j → σ[j]? = some (some (.ref a))) ∧ (∃ C, g.mg c = some (.ref C) ∧ cls = .ref C) ∧ ExcP g w H d p ∧
  Post g (Den g) w (f c p ρ L) Q fun _ _ _ => False
def SEH (S : Sc) (i : Option Nat) (e : Expr) (f : HF) : Prop := ∀ (X : Cx) (a : Addr) (oe : Obj) (cls : Value) (d : Option Addr) (pn : List (Addr × Obj)), S.HasH X → Zc cls d oe → (∃ vs, oe.data = .fields vs) → PE (X.suite a ((a, oe) :: pn)) e (tRH S.g i a cls d f)
def tRHA (g : Gb) (i : Option Nat) (a : Addr) (cls : Value) (d : Option Addr) (f : Str → List (Str × D) → AF) : TA := fun σ H Q => ∃ w ρ L c p, Rel g w L H ∧ EnvR g w σ ρ ∧ (∀ j, i = some j → σ[j]? = some (some (.ref a))) ∧ (∃ C, g.mg c = some (.ref C) ∧ cls = .ref C) ∧ ExcP g w H d p ∧
  Post g (DenL g) w (f c p ρ L) Q fun _ _ _ => False
def SAH (S : Sc) (i : Option Nat) (es : List Expr) (f : Str → List (Str × D) → AF) : Prop := ∀ (X : Cx) (a : Addr) (oe : Obj) (cls : Value) (d : Option Addr) (pn : List (Addr × Obj)), S.HasH X → Zc cls d oe → (∃ vs, oe.data = .fields vs) → PA (X.suite a ((a, oe) :: pn)) es (tRHA S.g i a cls d f)
theorem ExcP.le {G : Gb} {w w' : Wd} {H H' : Hp} {d : Option Addr} {p : List (Str × D)} (h : ExcP G w H d p) (l : w.le w') : ExcP G w' H' d p := by
  rcases h with h | ⟨a, fs, h1, h2, h3⟩
  · exact .inl h
  · exact .inr ⟨a, fs, h1, l.dir _ _ h2, h3.le l⟩
def XfIs (G : Gb) (c f : Str) : Prop := ∃ C, G.mg c = some (.ref C) ∧ XfC G.K C ∧ PySem.W.findIn G.K (.ref C) f = some none
section
variable {S : Sc} {i : Option Nat} {e a b : Expr} {f fa fb : HF} {pos p : Pos} {es : List Expr} {fl : Str → List (Str × D) → AF}
theorem seh_const {d : D} {v : V} (hp : ∀ X : Cx, PE X e (tC v)) (hd : ∀ G w, Den G w v d) : SEH S i e (fun _ _ => eC d) := fun X a oe cls dx pn h z hf =>
  PE.imp (hp _) fun σ H Q ⟨w, ρ, L, c, p, R, e, _, _, _, q⟩ => q.ok (.refl w) R (hd S.g w)
theorem seh_str {x : Str} {j : Nat} : SEH S i (.Constant (.str x) j pos) (fun _ _ => eC (.str x)) := seh_const (fun _ => pe_str) fun _ _ => .str x
def hFld (c0 fld : Str) : HF := fun c p _ L => if c = c0 then (match p.lookup fld with
  | some d => .ok d L
  | none => .bad) else .bad
theorem seh_fld (c0 : Str) {j : Nat} {x fld : Str} (T : XfIs S.g c0 fld) (hN : S.N[j]? = some x := by rfl) (hv : Vis S.sc x := by first | exact Or.inl rfl | exact Or.inr (Or.inl rfl) | exact Or.inr (Or.inr rfl))
    (hd : (x == ("__debug__" : Str)) = false := by decide) (hcd : (x == ("__classdict__" : Str)) = false := by decide) (hb : ∀ env : Env, attributeBase (.Name x p) fld env (eval (.Name x p) env) = eval (.Name x p) env := by intro _; rfl) :
    SEH S (some j) (.Attribute (.Name x p) fld pos) (hFld c0 fld) := fun X a oe cls dx pn h z hf => by
  obtain ⟨C, hm, hx, hno⟩ := T
  rw [h.K] at hx hno
  refine PE.imp (pe_xf (C := C) hx hno z hf (pe_var (X := X.suite a ((a, oe) :: pn)) (i := j) (by show X.N[j]? = _; rw [← h.N]; exact hN) (by show Vis X.env.scope x; rw [← h.sc]; exact hv) hd hcd) (hb _)) fun σ H Q ⟨w, ρ, L, c, pp, R, e, ha, ⟨C', m', ec⟩, ep, q⟩ => ?_
  unfold hFld at q
  split at q
  · rename_i hc
    subst hc
    rw [hm] at m'
    cases m'
    split at q
    · rename_i d hl
      rcases ep with ⟨rfl, _⟩ | ⟨dd, fs, rfl, h2, h3⟩
      · cases hl
      · obtain ⟨v, h4, h5⟩ := h3.look _ hl
        exact ⟨.ref a, ha j rfl, rfl, ec, dd, fs, v, rfl, R.sub _ _ h2, h4, q.ok (.refl w) R h5⟩
    · exact q.elim
  · exact q.elim
theorem seh_op {op : Operator} {r : R2} {g : D → D → Sto → Res D} (ho : ∀ X, S.HasH X → ∀ a pn, OpR (X.suite a pn) (binaryOp op) r) (hr : R2D S.g r g) (ha : SEH S i a fa) (hb : SEH S i b fb) : SEH S i (.BinOp a op b pos) (fun c p => e2 g (fa c p) (fb c p)) := fun X x oe cls dx pn h z hf =>
  PE.imp (pe_op (ho X h x _) (ha X x oe cls dx pn h z hf) (hb X x oe cls dx pn h z hf)) fun σ H Q ⟨w, ρ, L, c, p, R, e, hi, hc, ep, q⟩ => by
    refine ⟨w, ρ, L, c, p, R, e, hi, hc, ep, (Post.bind (rel := Den S.g) q).imp (fun u H1 ⟨w1, d, L1, l1, R1, d1, p1⟩ => ?_) fun _ _ _ z => z⟩
    refine ⟨w1, ρ, L1, c, p, R1, e.le l1, hi, hc, ep.le l1, (Post.bind (rel := Den S.g) p1).imp (fun y H2 ⟨w2, d', L2, l2, R2, d2, p2⟩ => ?_) fun _ _ _ z => z⟩
    exact hr w2 L2 H2 u y d d' Q _ R2 (d1.le l2) d2 p2
theorem seh_add (ha : SEH S i a fa) (hb : SEH S i b fb) : SEH S i (.BinOp a .Add b pos) (fun c p => e2 gAdd (fa c p) (fb c p)) := fun X x oe cls dx pn h z hf =>
  seh_op (r := rAddU S.g.K) (fun Y hY x pn => by rw [hY.K]; exact op_addU (X := Y.suite x pn)) gAdd_ok ha hb X x oe cls dx pn h z hf
theorem sah_nil : SAH S i [] (fun _ _ => aNil) := fun X a oe cls dx pn h z hf => PA.imp pa_nil fun σ H Q ⟨w, ρ, L, c, p, R, e, _, _, _, q⟩ => Post.ok q (.refl w) R .nil
theorem sah_cons (he : SEH S i e f) (hr : SAH S i es fl) (hs : ∀ env, starEach (e :: es) env = (false, eval e env) :: starEach es env := by intro _; rfl) : SAH S i (e :: es) (fun c p => aCons (f c p) (fl c p)) := fun X a oe cls dx pn h z hf =>
  PA.imp (pa_cons (he X a oe cls dx pn h z hf) (hr X a oe cls dx pn h z hf) (hs _)) fun σ H Q ⟨w, ρ, L, c, p, R, e, hi, hc, ep, q⟩ => by
    refine ⟨w, ρ, L, c, p, R, e, hi, hc, ep, (Post.bind (rel := Den S.g) q).imp (fun u H1 ⟨w1, d, L1, l1, R1, d1, p1⟩ => ?_) fun _ _ _ z => z⟩
    refine ⟨w1, ρ, L1, c, p, R1, e.le l1, hi, hc, ep.le l1, (Post.bind (rel := DenL S.g) p1).imp (fun y H2 ⟨w2, ds, L2, l2, R2, d2, p2⟩ => ?_) fun _ _ _ z => z⟩
    exact Post.ok p2 (.refl _) R2 (.cons (d1.le l2) d2)
theorem seh_en {g : List D → Sto → Res D} {r : List V → Hp → VK → Prop} (hr : RnD S.g r g) {X : Cx} {x : Addr} {cls : Value} {dx : Option Addr} {σ : L2.St} {H : Hp} {Q : VK} (q : tRH S.g i x cls dx (fun c p => en g (fl c p)) σ H Q) : tRHA S.g i x cls dx fl σ H fun vs H1 => r vs H1 Q := by
  obtain ⟨w, ρ, L, c, p, R, e, hi, hc, ep, q⟩ := q
  exact ⟨w, ρ, L, c, p, R, e, hi, hc, ep, (Post.bind (rel := DenL S.g) q).imp (fun u H1 ⟨w1, d, L1, l1, R1, d1, p1⟩ => hr w1 L1 H1 u d Q _ R1 d1 p1) fun _ _ _ z => z⟩
theorem seh_repr (B : Bl S.g) (ha : SAH S i (e :: es) fl) (hgd : S.gd = true := by rfl) (hg : Glb S "repr" := by rfl) (he : ∀ env, starEach (e :: es) env = (false, eval e env) :: starEach es env := by intro _; rfl) (hpl : ∀ env, (backTo pos (starEach es env)).any (·.1) = false := by intro _; rfl) :
    SEH S i (.Call (.Name "repr" p) (e :: es) [] pos) (fun c p => en gRepr (fl c p)) := fun X x oe cls dx pn h z hf =>
  PE.imp (pe_callB (X := X.suite x ((x, oe) :: pn)) (id := "repr") (r := rReprD S.g.K) (by rw [h.K]; exact call_reprD (X := X.suite x ((x, oe) :: pn)) (h.gd hgd) (by have := h.un; show X.A.units + 60 < cLine; omega)) (by show X.env.scope.names.lookup _ = _; rw [← h.sc]; exact hg) (by show X.mg _ = _; rw [← h.mg]; exact B.repr) (by decide +kernel)
    (ha X x oe cls dx pn h z hf) (by decide) (by decide) (he _) (hpl _)) fun σ H Q q => seh_en (X := X) gRepr_ok q
theorem seh_strC (B : Bl S.g) (ha : SAH S i (e :: es) fl) (hg : Glb S "str" := by rfl) (he : ∀ env, starEach (e :: es) env = (false, eval e env) :: starEach es env := by intro _; rfl) (hpl : ∀ env, (backTo pos (starEach es env)).any (·.1) = false := by intro _; rfl) :
    SEH S i (.Call (.Name "str" p) (e :: es) [] pos) (fun c p => en gStr (fl c p)) := fun X x oe cls dx pn h z hf =>
  PE.imp (pe_callTy (X := X.suite x ((x, oe) :: pn)) (T := "str") (r := rStrU) call_strU (by show X.env.scope.names.lookup _ = _; rw [← h.sc]; exact hg) (by show X.mg _ = _; rw [← h.mg]; exact B.str) (by decide +kernel)
    (ha X x oe cls dx pn h z hf) (by decide) (by decide) (he _) (hpl _)) fun σ H Q q => seh_en (X := X) gStr_ok q
end
structure Cl where
  c : Str
  as : Option Nat
  to : Option Nat
  f : HF
def OwnE (S : Sc) (x : Str) : Prop := Glb S x ∧ (x == ("__debug__" : Str)) = false
inductive HdJ (S : Sc) : List ExceptHandler → List Cl → Prop
  | nil : HdJ S [] []
  | ret {x : Str} {np p1 pos' : Pos} {e : Expr} {f : HF} {hds : List ExceptHandler} {l : List Cl} (hx : OwnE S x) (he : SEH S none e f) (r : HdJ S hds l) : HdJ S (.ExceptHandler (some (.Name x np)) none [.Return (some e) p1] pos' :: hds) (⟨x, none, none, f⟩ :: l)
  | as_ {x n : Str} {i : Nat} {np p1 pos' : Pos} {e : Expr} {f : HF} {hds : List ExceptHandler} {l : List Cl} (hx : OwnE S x) (hi : S.N[i]? = some n) (hl : S.sc.names.lookup n = some .local) (he : SEH S (some i) e f) (r : HdJ S hds l) :
      HdJ S (.ExceptHandler (some (.Name x np)) (some n) [.Return (some e) p1] pos' :: hds) (⟨x, some i, none, f⟩ :: l)
  | set {x y : Str} {j : Nat} {np p1 py pos' : Pos} {e : Expr} {f : HF} {hds : List ExceptHandler} {l : List Cl} (hx : OwnE S x) (hj : S.N[j]? = some y) (hl : S.sc.names.lookup y = some .local) (hs : ∀ env, swapsWith e (some (.Name y py)) p1.line env = pure false) (he : SEH S none e f) (r : HdJ S hds l) :
      HdJ S (.ExceptHandler (some (.Name x np)) none [.Assign [.Name y py] e p1] pos' :: hds) (⟨x, none, some j, f⟩ :: l)
def Cl.run (q : Cl) (c : Str) (p : List (Str × D)) (ρ : Env') (L : Sto) : SRes := match q.as with
  | none => (match q.f c p ρ L with
    | .ok d L1 => (match q.to with
      | none => .rt d L1
      | some j => .nx (ρ.set j (some d)) L1)
    | _ => .bad)
  | some i => if i < ρ.length then (match q.f c p (ρ.set i none) L, q.to with
    | .ok d L1, none => .rt d L1
    | _, _ => .bad) else .bad
def pickH (xs : List (Str × List Str)) (c : Str) (p : List (Str × D)) (ρ : Env') (L : Sto) : List Cl → SRes
  | [] => .err c p ρ L
  | q :: r => if hasExc xs q.c = true then (if isExc xs c q.c = true then q.run c p ρ L else pickH xs c p ρ L r) else .bad
def Cl.ts (g : Gb) (q : Cl) : Sute := fun a cls d E σ H => tRH g q.as a cls d q.f σ H fun v H' => match q.to with
  | none => E.rt v H'
  | some j => E.nx (σ.set j (some v)) H'
theorem EnvR.setN {G : Gb} {w : Wd} {σ : L2.St} {ρ : Env'} (e : EnvR G w σ ρ) (i : Nat) (x : Option V) : EnvR G w (σ.set i x) (ρ.set i none) := by
  refine ⟨by rw [List.length_set, List.length_set, e.1], fun j y q => ?_⟩
  by_cases hj : i = j
  · subst hj
    by_cases hi : i < ρ.length
    · rw [List.getElem?_set_self hi] at q
      cases q
    · rw [List.getElem?_eq_none (by rw [List.length_set]; omega)] at q
      cases q
  · rw [List.getElem?_set_ne hj] at q
    obtain ⟨u, a, b⟩ := e.2 j y q
    exact ⟨u, by rw [List.getElem?_set_ne hj]; exact a, b⟩
section
variable {S : Sc} {W : WX} {X : Cx} {G : Gb}
def clM (G : Gb) (q : Cl) : Value × Option Nat × Sute := ((match G.mg q.c with
  | some v => v
  | none => .none), q.as, q.ts G)
theorem hds_of (h : S.HasH X) : ∀ {hds : List ExceptHandler} {l : List Cl}, X.N.Nodup → HdJ S hds l → (∀ q ∈ l, ∃ C, S.g.mg q.c = some (.ref C)) → HdsM X hds (l.map (clM S.g)) := by
  intro hds l hN hj
  have nm : ∀ {x : Str}, OwnE S x → (∃ C, S.g.mg x = some (.ref C)) → Names X x (match S.g.mg x with | some v => v | none => .none) := fun {x} hx ⟨C, hm⟩ => by
    refine ⟨by show X.env.scope.names.lookup _ = _; rw [← h.sc]; exact hx.1, hx.2, .inl ?_⟩
    rw [← h.mg, hm]
  induction hj with
  | nil => exact fun _ => .nil
  | ret hx he r ih =>
    intro hC
    refine .bare (nm hx (hC _ List.mem_cons_self)) (fun a oe cls d pn z hf => ?_) (ih fun q hq => hC q (List.mem_cons_of_mem _ hq))
    exact pss_one (PS.imp (ps_ret (he X a oe cls d pn h z hf)) fun D σ H q => q)
  | as_ hx hi hl he r ih =>
    intro hC
    refine .as_ (nm hx (hC _ List.mem_cons_self)) (by rw [← h.N]; exact hi) (by show X.env.scope.names.lookup _ = _; rw [← h.sc]; exact hl) (fun a oe cls d pn z hf => ?_) (ih fun q hq => hC q (List.mem_cons_of_mem _ hq))
    exact pss_one (PS.imp (ps_ret (he X a oe cls d pn h z hf)) fun D σ H q => q)
  | @set x y j np p1 py pos' e f hds l hx hj hl hs he r ih =>
    intro hC
    refine .bare (nm hx (hC _ List.mem_cons_self)) (fun a oe cls d pn z hf => ?_) (ih fun q hq => hC q (List.mem_cons_of_mem _ hq))
    exact pss_one (PS.imp (ps_set (X := X.suite a ((a, oe) :: pn)) (i := j) hN (by show X.N[j]? = _; rw [← h.N]; exact hj) (by show Loc X.env.scope _; rw [← h.sc]; exact .inl hl) (he X a oe cls d pn h z hf) (hs _) (.inr (by show X.env.scope.names.lookup _ = _; rw [← h.sc]; exact hl))) fun D σ H q => q)
theorem pick_wish {xs : List (Str × List Str)} (T : ExcT G xs) {D : Ends} {Wout : WX} {c : Str} {p : List (Str × DS.D)} {C : Addr} (hc : hasExc xs c = true) (hm : G.mg c = some (.ref C)) {w : Wd} {ρ : Env'} {L : Sto} {σ : L2.St} {H : Hp} {dx : Option Addr}
    (R : Rel G w L H) (e : EnvR G w σ ρ) (x : ExcP G w H dx p) : ∀ {l : List Cl}, (∀ q ∈ l, ∃ C, G.mg q.c = some (.ref C)) → PostS G w (pickH xs c p ρ L l) D Wout → wMix G.K Wout D (l.map (clM G)) (.ref C) dx σ H := by
  intro l
  induction l with
  | nil => exact fun _ q => q w σ H dx (.refl w) R e x C hm
  | cons q r ih =>
    intro hC hp
    obtain ⟨C', hm'⟩ := hC q List.mem_cons_self
    unfold pickH at hp
    split at hp
    · rename_i hq
      refine ⟨isExc xs c q.c, ?_, fun hb a ha => ?_, fun hb => ?_⟩
      · show PySem.W.exmOne G.K (.ref C) (clM G q).1 = _
        unfold clM
        rw [hm']
        exact T.at hc hq hm hm'
      · rw [if_pos hb] at hp
        obtain ⟨qc, qa, qt, qf⟩ := q
        unfold Cl.run at hp
        cases qa with
        | none =>
          show Cl.ts G ⟨qc, none, qt, qf⟩ a (.ref C) dx D σ H
          refine ⟨w, ρ, L, c, p, R, e, (fun j z => nomatch z), ⟨C, hm, rfl⟩, x, ?_⟩
          dsimp only at hp
          show Post G (Den G) w (qf c p ρ L) _ _
          cases hr : qf c p ρ L with
          | ok d L1 =>
            rw [hr] at hp
            intro w2 H2 v l2 R2 dv
            cases qt with
            | none => exact hp w2 v H2 l2 R2 dv
            | some j => exact hp w2 _ H2 l2 R2 ((e.le l2).set j dv)
          | err c2 p2 L1 => rw [hr] at hp; exact hp.elim
          | bad => rw [hr] at hp; exact hp.elim
        | some i =>
          show Cl.ts G ⟨qc, some i, qt, qf⟩ a (.ref C) dx (D.bare i) (σ.set i (some (.ref a))) H
          dsimp only at hp
          split at hp
          · rename_i hi
            refine ⟨w, ρ.set i none, L, c, p, R, e.setN i _, fun j z => ?_, ⟨C, hm, rfl⟩, x, ?_⟩
            · cases z
              exact List.getElem?_set_self (by rw [e.1]; exact hi)
            · show Post G (Den G) w (qf c p (ρ.set i none) L) _ _
              cases hr : qf c p (ρ.set i none) L with
              | ok d L1 =>
                rw [hr] at hp
                intro w2 H2 v l2 R2 dv
                cases qt with
                | none => exact hp w2 v H2 l2 R2 dv
                | some j => exact hp.elim
              | err c2 p2 L1 => rw [hr] at hp; exact hp.elim
              | bad => rw [hr] at hp; exact hp.elim
          · exact hp.elim
      · rw [if_neg (by rw [hb]; decide)] at hp
        exact ih (fun z hz => hC z (List.mem_cons_of_mem _ hz)) hp
    · exact hp.elim
theorem Sc.Has.tr {S : Sc} {W W2 : WX} {X : Cx} (h : S.Has W X) {pn : List (Addr × Obj)} {xe : Value → Shared → Prop} (tk : Takes (X.tr pn xe) W2) (ps : PassesOwn (model X.prog X.w) X.A X.env xe) : S.Has W2 (X.tr pn xe) :=
  ⟨h.P, h.w, h.K, h.mg, h.base, h.N, h.sc, h.fn, h.calm, h.room, h.gd, h.top, h.lm, tk, ps⟩
end
section
variable {G : Gb} {w : Wd} {L : Sto} {H : Hp} {P c' : Addr} {q : Str}
theorem tabS_of (R : Rel G w L H) (hP : (P, some q) ∈ G.tabs) : LamX.TabS H P q := by
  obtain ⟨_, _, _, ps, h1, h2, h3⟩ := R.tab _ hP
  refine ⟨ps, h1, h2, fun pos cv e => ?_⟩
  obtain ⟨c, e1, e2⟩ := h3 q rfl pos cv e
  exact ⟨c, e1, R.sub _ _ e2⟩
theorem Rel.tbl (R : Rel G w L H) (hP : (P, some q) ∈ G.tabs) (hu : ∀ p ∈ G.tabs, p.1 = P → p.2 = some q) {ps' : Array Value} (ht : TriplesOk ps'.toList) (hc : ∀ (pos : Pos) (cv : Value), codeAmong pos ps'.toList = some cv → ∃ c, cv = .ref c ∧ w.F c = some (LamX.CodeO c q)) :
    Rel G w L (upd H P (.tbl ps')) := by
  obtain ⟨n1, n2, n3, ps, h1, _, _⟩ := R.tab _ hP
  have other : ∀ b, b ≠ P → upd H P (.tbl ps') b = H b := fun b z => upd_ne z
  refine ⟨fun a o e => ?_, R.len, R.nd, R.free, fun n a c e1 e2 => ?_, fun a o e => ?_, fun p hp => ?_⟩
  · rw [other a fun z => by rw [z] at e; rw [n1] at e; cases e]
    exact R.sub a o e
  · rw [other a fun z => n2 (z ▸ List.mem_of_getElem? e1)]
    exact R.box n a c e1 e2
  · rw [other a fun z => by rw [z] at e; rw [n3] at e; cases e]
    exact R.prv a o e
  · obtain ⟨m1, m2, m3, qs, k1, k2, k3⟩ := R.tab p hp
    by_cases z : p.1 = P
    · refine ⟨m1, m2, m3, ps', by rw [z]; exact upd_same, ht, fun q' e' pos cv hcv => ?_⟩
      rw [hu p hp z] at e'
      cases e'
      exact hc pos cv hcv
    · exact ⟨m1, m2, m3, qs, by rw [other _ z]; exact k1, k2, k3⟩
theorem Rel.made {H1 : Hp} (R : Rel G w L H) (m : LamY.Made P c' q H H1) (hP : (P, some q) ∈ G.tabs) (hu : ∀ p ∈ G.tabs, p.1 = P → p.2 = some q) : ∃ w', w.le w' ∧ Rel G w' L H1 := by
  rcases m with rfl | ⟨hc, ps, ps', hp, ht, rfl, hcs⟩
  · exact ⟨w, .refl w, R⟩
  · obtain ⟨R2, l2⟩ := R.newF (o := LamX.CodeO c' q) hc
    have ne : c' ≠ P := fun z => by rw [z, hp] at hc; cases hc
    obtain ⟨_, _, _, qs, k1, _, k3⟩ := R.tab _ hP
    have eq : qs = ps := by
      have z : H P = some (HO.tbl qs) := k1
      rw [hp] at z
      cases z
      rfl
    subst eq
    refine ⟨_, l2, ?_⟩
    have R3 := R2.tbl hP hu ht fun pos cv e => by
      rcases hcs pos cv e with k | k
      · obtain ⟨c, e1, e2⟩ := k3 q rfl pos cv k
        refine ⟨c, e1, ?_⟩
        have nc : c ≠ c' := fun z => by
          have := R.sub _ _ e2
          rw [z, hc] at this
          cases this
        exact (upd_ne nc).trans e2
      · exact ⟨c', k, upd_same⟩
    have sw : upd (upd H c' (LamX.CodeO c' q)) P (.tbl ps') = upd (upd H P (.tbl ps')) c' (LamX.CodeO c' q) := by
      funext b
      by_cases b1 : b = c'
      · rw [b1, upd_ne ne, upd_same, upd_same]
      · by_cases b2 : b = P
        · rw [b2, upd_same, upd_ne (fun z => ne z.symm), upd_same]
        · rw [upd_ne b2, upd_ne b1, upd_ne b1, upd_ne b2]
    rwa [sw] at R3
end
def fin2 (c : Str) : SRes → Res D
  | .nx _ L => .ok (.str c) L
  | .rt d L => .ok d L
  | .err c p _ L => .err c p L
  | _ => .bad
def mMet (xs : List (Str × List Str)) (l : List Cl) (c : Str) (n : Nat) (act : Sto → Res D) (L : Sto) : Res D := match act L with
  | .ok _ L1 => .ok (.str c) L1
  | .err e p L1 => if hasExc xs e = true then fin2 c (pickH xs e p (List.replicate n none) L1 l) else .bad
  | .bad => .bad
def Gives (G : Gb) (gd : Bool) (x a : Str) (sg : Scope) (Ng : List Str) (f : Addr) (cdg : Value) (body : List Stmt) (k : Nat) (TT : (Sto → Res D) → Sto → Res D) : Prop :=
  ∀ (A : Around) (outer : List Env) (s : Shared) (H : Hp) (fa c' : Addr) (q : Str) (Q : VK) (act : Sto → Res D) (tl : XK → Hp → VK → Prop) (w : Wd) (L : Sto), (gd = true → A.guards = some []) → Room k (A.deeper (envOfC x sg s.heap.objs.size f cdg)) →
    (∀ (W : WX) (pn : List (Addr × Obj)) (xe : Value → Shared → Prop) (p1 p2 : Pos), Takes ((cxOf C8.CX0 G.P G.w G.K G.mg G.base Ng x sg f cdg A outer s H C8.E0).tr pn xe) W →
      PE ((cxOf C8.CX0 G.P G.w G.K G.mg G.base Ng x sg f cdg A outer s H C8.E0).tr pn xe) (.Call (.Name a p1) [] [] p2) (fun σZ HZ Q => σZ[0]? = some (some (.ref fa)) ∧ HZ c' = some (LamX.CodeO c' q) ∧ tl (WE W σZ) HZ Q)) →
    (∀ (E : XK) (H' : Hp) (Q' : VK) (w' : Wd) (L' : Sto), w.le w' → Rel G w' L' H' → Post G (Den G) w' (act L') Q' E → tl E H' Q') → H c' = some (LamX.CodeO c' q) → Rel G w L H → Post G (Den G) w (TT act L) Q (fun _ _ _ => False) →
    ∃ t, PSs (cxOf C8.CX0 G.P G.w G.K G.mg G.base Ng x sg f cdg A outer s H C8.E0).nox body t ∧ t { nx := fun _ H' => Q .non H', rt := Q } (L2.start Ng [.ref fa]) H
theorem fin2_post {G : Gb} {w : Wd} {c : Str} {r : SRes} {Q : VK} {E : XK} {D0 : Ends} {W : WX} (hn : ∀ σ H, Q (.str c) H → D0.nx σ H) (hr : ∀ v H, Q v H → D0.rt v H) (hw : ∀ cls d σ H, E cls d H → W cls d σ H) (p : Post G (Den G) w (fin2 c r) Q E) : PostS G w r D0 W := by
  cases r with
  | nx ρ L => exact fun w1 σ H l R e => hn σ H (p w1 H _ l R (.str c))
  | rt d L => exact fun w1 v H l R h => hr v H (p w1 H v l R h)
  | err e q ρ L => exact fun w1 σ H dx l R en x C m => hw _ _ _ _ (p w1 H dx l R x C m)
  | bk ρ L => exact p.elim
  | ct ρ L => exact p.elim
  | bad => exact p.elim
theorem met_gives {G : Gb} {gd : Bool} {x a c : Str} {sg : Scope} {Ng : List Str} {f : Addr} {cdg : Value} {k : Nat} {xs : List (Str × List Str)} {h₀ : ExceptHandler} {hds : List ExceptHandler} {l : List Cl} {p1 p2 p3 p4 p5 p6 : Pos} {j : Nat}
    (T : ExcT G xs) (hN : Ng.Nodup) (h0 : Ng[0]? = some a) (hh : HdJ ⟨G, Ng, sg, fun _ => true, k, gd, true, false⟩ (h₀ :: hds) l) (hC : ∀ q ∈ l, ∃ C, G.mg q.c = some (.ref C)) (hs : ∀ env, swapsWith (.Call (.Name a p1) [] [] p2) none p3.line env = pure false := by intro _; rfl) :
    Gives G gd x a sg Ng f cdg [.Try [.Expr (.Call (.Name a p1) [] [] p2) p3] (h₀ :: hds) [] [] p4, .Return (some (.Constant (.str c) j p5)) p6] k (mMet xs l c Ng.length) := by
  intro A outer s H fa c' q Q act tl w L hgd hr hact htl hc R p
  have hot : Sc.HasH ⟨G, Ng, sg, fun _ => true, k, gd, true, false⟩ (cxOf C8.CX0 G.P G.w G.K G.mg G.base Ng x sg f cdg A outer s H C8.E0).nox := ⟨rfl, rfl, rfl, rfl, rfl, rfl, rfl, by have := hr.un; show (A.deeper _).units + 70 < cLine; omega, hgd⟩
  have st0 : (L2.start Ng [V.ref fa])[0]? = some (some (V.ref fa)) := rfl
  have len : (L2.start Ng [V.ref fa]).length = Ng.length := by
    have : 0 < Ng.length := getElem?_lt h0
    unfold L2.start
    simp
    omega
  have en : EnvR G w (L2.start Ng [V.ref fa]) (List.replicate Ng.length none) := by
    refine ⟨by rw [len, List.length_replicate], fun i d e => ?_⟩
    have := List.eq_of_mem_replicate (List.mem_of_getElem? e)
    cases this
  refine ⟨_, pss_cons (ps_try_mix (X := (cxOf C8.CX0 G.P G.w G.K G.mg G.base Ng x sg f cdg A outer s H C8.E0).nox) (Wout := fun _ _ _ _ => False) (l := l.map (clM G))
    (tb := fun W D σ H => ∃ L, Rel G w L H ∧ EnvR G w σ (List.replicate Ng.length none) ∧ σ[0]? = some (some (.ref fa)) ∧ H c' = some (LamX.CodeO c' q) ∧ PostS G w (match act L with
      | .ok _ L1 => .nx (List.replicate Ng.length none) L1
      | .err e p L1 => .err e p (List.replicate Ng.length none) L1
      | .bad => .bad) D W) rfl rfl hN LamX.takes0 (hds_of hot hN hh hC) fun W pn xe tk _ => ?_) (pss_one (ps_ret pe_str)), ?_⟩
  · refine ⟨fun pins s' σ H' D I ⟨L, R, e, e0, ec, p⟩ => ?_⟩
    refine (pss_one (ps_expr (pos := p3) (hact W pn xe p1 p2 tk) (hs _))).run pins s' σ H' D I ⟨e0, ec, htl _ _ _ w L (.refl w) R ?_⟩
    cases hr2 : act L with
    | ok d L1 =>
      rw [hr2] at p
      exact fun w1 H1 v l1 R1 _ => p w1 σ H1 l1 R1 (e.le l1)
    | err e2 p2 L1 =>
      rw [hr2] at p
      exact fun w1 H1 dx l1 R1 x1 C m => p w1 σ H1 dx l1 R1 (e.le l1) x1 C m
    | bad => rw [hr2] at p; exact p.elim
  · refine ⟨L, R, en, st0, hc, ?_⟩
    unfold mMet at p
    cases hr2 : act L with
    | ok d L1 =>
      rw [hr2] at p
      exact fun w1 σ1 H1 l1 R1 _ => p w1 H1 _ l1 R1 (.str c)
    | err e2 p2 L1 =>
      rw [hr2] at p
      dsimp only at p
      split at p
      · rename_i hx
        intro w1 σ1 H1 dx l1 R1 e1 x1 C hm
        exact pick_wish T hx hm R1 e1 x1 hC (PostS.le l1 (fin2_post (E := fun _ _ _ => False) (fun _ _ z => z) (fun _ _ z => z) (fun _ _ _ _ z => z.elim) p))
      · exact p.elim
    | bad => rw [hr2] at p; exact p.elim
structure LamIs (gd : Bool) (G : Gb) (x : Str) (k : Nat) (TT : (Sto → Res D) → Sto → Res D) : Prop where
  ex : ∃ (f : Addr) (oc dV kV doc pm cdv ct : Value) (an od : Option Addr) (osl : Array (Option Value)) (pg : Arguments) (bg : List Stmt) (sg : Scope) (Ng : List Str) (a : Str), G.mg x = some (.ref f) ∧ PySem.W.keepIn G.K (.ref f) = true ∧
    G.K.lookup f = some ⟨oc, od, .func (PySem.W.fnOf x x pg bg sg dV kV doc pm an cdv ct), osl⟩ ∧ PySem.W.codeIn G.K cdv x = true ∧ L2.Binds G.K (PySem.W.fnOf x x pg bg sg dV kV doc pm an cdv ct) [a] [] ∧ FnScope Ng [a] sg ∧ Ng[0]? = some a ∧ Vis sg a ∧
    (a == ("__debug__" : Str)) = false ∧ (a == ("__classdict__" : Str)) = false ∧ Gives G gd x a sg Ng f cdv bg k TT
def Sc.lam (S : Sc) (scope : Scope) (k : Nat) : Sc := ⟨S.g, S.N, scope, fun _ => false, k, S.gd, false, false⟩
theorem Sc.Has.lam {S : Sc} {W : WX} {X : Cx} (h : S.Has W X) {scope : Scope} {kb : Nat} {A : Around} {outer : List Env} {s : Shared} {H : Hp} {E : XK} {f c' : Addr} (hr : Room kb (A.deeper (LamX.lamEnv X scope s.heap.objs.size f c'))) (hg : A.guards = X.A.guards) :
    (S.lam scope kb).Has (fun c d _ H => E c d H) (LamX.lamCx X A outer s H E scope f c') :=
  ⟨h.P, h.w, h.K, h.mg, h.base, h.N, rfl, rfl, rfl, hr, fun z => hg.trans (h.gd z), (fun z => nomatch z), (fun z => nomatch z), takes_of rfl rfl rfl rfl, passes_of rfl⟩
def eLam (TT : (Sto → Res D) → Sto → Res D) (wp : List Nat) (fb : EF) : EF := fun ρ L => okR (TT (fun L' => fb (wipeE ρ wp) L') L)
section
variable {S : Sc} {W : WX} {gd : Bool} {x : Str} {k kb : Nat} {TT : (Sto → Res D) → Sto → Res D} {params : Arguments} {body : Expr} {scope : Scope} {fb : EF} {p lpos pos : Pos}
theorem se_lam0 (F : LamIs gd S.g x k TT) (hk : k + 1 ≤ S.k) (hkb : kb + 1 ≤ k) (hlm : S.lm = true) (hu : ∀ p ∈ S.g.tabs, ∀ r ∈ S.g.tabs, p.1 = r.1 → p.2 = r.2) (hL : LamY.lamTB S.sc scope [] = true)
    (hb : ∀ W, SE (S.lam scope kb) W body fb) (hgd : gd = true → S.gd = true) (hg : Glb S x := by rfl) (hdb : (x == ("__debug__" : Str)) = false := by decide)
    (hbind : ∀ (q : Str) (cl : List (Str × Addr)) (doc pm cv ctv : Value), bindArgs (PySem.W.kdv_fn "<lambda>" q params (.expr body) scope cl .none doc pm cv ctv) ⟨[], []⟩ = pure [] := by intros; rfl) (hdef : ∀ env, defaultsOf params env = ([], []) := by intro _; rfl) :
    SE S W (.Call (.Name x p) [.Lambda params body scope lpos] [] pos) (eLam TT [] fb) := fun X h => by
  obtain ⟨g, oc, dV, kV, doc0, pm0, cdv, ct, an, od, osl, pg, bg, sg, Ng, a, hm, hkp, lk, hcg, hB, Sg, hNg, hva, hd, hcd, hG⟩ := F.ex
  obtain ⟨c, P, hcode, TB, hmT⟩ := h.lm hlm
  have LT : LamY.LamT X.env.scope scope [] := by rw [← h.sc]; exact LamY.lamT_by hL
  refine ⟨fun pins s σ H Q I ⟨w, ρ, L, R, en, q⟩ => ?_⟩
  have hu' : ∀ p ∈ S.g.tabs, p.1 = P → p.2 = some (X.env.qual ++ "<lambda>") := fun p hp z => hu p hp _ hmT z
  refine wpAny_Call_Name_kw (ld_glob I (by show X.env.scope.names.lookup _ = _; rw [← h.sc]; exact hg) (by rw [← h.mg]; exact hm) ?_ hdb)
  refine PySem.W.callWith_K (h₀ := X.base) I.ok.mod.kin (by rw [← h.K]; exact hkp) ?_ (by rfl) (by rfl)
  show wpAny _ _ (spliced ((false, eval (.Lambda params body scope lpos) X.env) :: backTo pos (starEach [] X.env))) _ _ s
  refine Calls.spliced_cons (LamY.lam_eval0 (hdef _) (LamY.lam_tail I (by rw [← h.base, ← h.mg]; exact TB) hcode (tabS_of R hmT) (fun y hy e => (LT.free y hy e).elim (fun k => I.ok.has _ (.inl k)) fun k => I.ok.has _ (.inr k)) fun f c' doc pm ctv H1 s' I1 md kp hf hfn hfr hco => ?_))
  refine Calls.spliced_nil ⟨I1.kIn, ?_⟩
  obtain ⟨w1, l1, R1⟩ := R.made md hmT hu'
  have en1 := en.le l1
  have rc : codeAny (model X.prog X.w) X.A (.call (.ref g) ⟨[.ref f], []⟩) (CR C8.CX0 X.stack X.prog X.w H1 s' Q C8.E0) s' := by
    refine LamX.run_ofS (N := Ng) (ps := [a]) (us := [.ref f]) (vs := [.ref f]) (k := k) (by rw [← h.K]; exact lk) (by rw [← h.K]; exact hcg) Sg (h.room.mono hk) I1.env0 ((by rw [← h.K]; exact hB : L2.Binds X.K _ [a] []) s' [.ref f] I1.kIn rfl) (.cons rfl .nil) rfl fun hr' => ?_
    have hG2 := hG X.A X.stack s' H1 f c' (X.env.qual ++ "<lambda>") Q (fun L' => fb ρ L') (fun E HZ Q' => tR S.g (Den S.g) (fun c d _ H => E c d H) fb σ HZ Q') w1 L (fun z => h.gd (hgd z)) hr'
    rw [h.P, h.w, h.K, h.mg, h.base] at hG2
    obtain ⟨t', ht', hq'⟩ := hG2 (fun W2 pn xe p1 p2 tk => LamY.pe_actY (X := X) (i := 0) (k := kb) (bs := []) (ys := []) I1 LT [] (fun _ _ _ _ _ z => nomatch z) hf hfn hfr rfl (fun _ _ => BindsTo.of_eq (hbind _ _ _ _ _ _)) tk (hr'.mono hkb) (tb := fun E σ HZ Q' => tR S.g (Den S.g) (fun c d _ H => E c d H) fb σ HZ Q') (fun A outer s2 H2 E hr2 gg => hb _ _ (h.lam hr2 gg)) hNg hva hd hcd)
      (fun E H' Q' w' L' lw R' p' => ⟨w', ρ, L', R', en1.le lw, p'⟩) hco (by have z := R1; exact z) (Post.le l1 (okR_post q))
    exact ⟨t', ht'.nox, hq'⟩
  refine wpAny_call (codeAny_mono rc fun r s2 hq => ?_)
  match r, hq with
  | .error e, hq => exact (show False from hq).elim
  | .ok (.ret u), hq => exact I1.after hq
  | .ok .next, hq => exact hq.elim
  | .ok .brk, hq => exact hq.elim
  | .ok .cont, hq => exact hq.elim
theorem se_lam1 {y : Str} {i : Int} {j : Nat} {pc : Pos} (wp : List Nat) (F : LamIs gd S.g x k TT) (hk : k + 1 ≤ S.k) (hkb : kb + 1 ≤ k) (hlm : S.lm = true) (hu : ∀ p ∈ S.g.tabs, ∀ r ∈ S.g.tabs, p.1 = r.1 → p.2 = r.2) (hL : LamY.lamTB S.sc scope [y] = true) (hwp : ∀ (i : Nat) (z : Str), S.N[i]? = some z → i ∉ wp → z ≠ y)
    (hb : ∀ W, SE (S.lam scope kb) W body fb) (hgd : gd = true → S.gd = true) (hg : Glb S x := by rfl) (hdb : (x == ("__debug__" : Str)) = false := by decide)
    (hbind : ∀ (q : Str) (cl : List (Str × Addr)) (T0 : Addr) (doc pm cv ctv v : Value), ∃ kk, bindArgs (PySem.W.kdv_fn "<lambda>" q params (.expr body) scope cl (.ref T0) doc pm cv ctv) ⟨[], []⟩ = (seqItems? (.ref T0) >>= kk) ∧ kk (some [v].toArray) = pure [(y, v)] := by intros; exact ⟨_, rfl, rfl⟩)
    (hdef : ∀ env, defaultsOf params env = ([eval (.Constant (.int i) j pc) env], []) := by intro _; rfl) :
    SE S W (.Call (.Name x p) [.Lambda params body scope lpos] [] pos) (eLam TT wp fb) := fun X h => by
  obtain ⟨g, oc, dV, kV, doc0, pm0, cdv, ct, an, od, osl, pg, bg, sg, Ng, a, hm, hkp, lk, hcg, hB, Sg, hNg, hva, hd, hcd, hG⟩ := F.ex
  obtain ⟨c, P, hcode, TB, hmT⟩ := h.lm hlm
  have LT : LamY.LamT X.env.scope scope [y] := by rw [← h.sc]; exact LamY.lamT_by hL
  refine ⟨fun pins s σ H Q I ⟨w, ρ, L, R, en, q⟩ => ?_⟩
  have hu' : ∀ p ∈ S.g.tabs, p.1 = P → p.2 = some (X.env.qual ++ "<lambda>") := fun p hp z => hu p hp _ hmT z
  refine wpAny_Call_Name_kw (ld_glob I (by show X.env.scope.names.lookup _ = _; rw [← h.sc]; exact hg) (by rw [← h.mg]; exact hm) ?_ hdb)
  refine PySem.W.callWith_K (h₀ := X.base) I.ok.mod.kin (by rw [← h.K]; exact hkp) ?_ (by rfl) (by rfl)
  show wpAny _ _ (spliced ((false, eval (.Lambda params body scope lpos) X.env) :: backTo pos (starEach [] X.env))) _ _ s
  refine Calls.spliced_cons (LamY.lam_eval1 (v := .int i s.toks) (hdef _) (fun hq => wpAny_Constant_int (hq _)) fun tk0 => ?_)
  have I0 : Inv X pins σ H { s with heap := s.heap.push (PySem.W.kdv_tup [.int i s.toks]), toks := tk0 } := I.kept (t' := tk0) fun b o e => Heap.get?_push_of_some _ e
  have T0 : (s.heap.push (PySem.W.kdv_tup [.int i s.toks])).get? s.heap.objs.size = some (PySem.W.kdv_tup [.int i s.toks]) := Heap.get?_push_size _ rfl
  have nH : H s.heap.objs.size = none := I.hok.fresh (Nat.le_refl _)
  have nf : s.heap.objs.size ∉ frs X.stack := fun z => by
    rcases List.mem_cons.mp (I.stkSub _ z) with e | e
    · have lt : X.env.locals < s.heap.objs.size := I.lt
      rw [← e] at lt
      exact Nat.lt_irrefl _ lt
    · exact I.nofs (Nat.le_refl _) e
  refine LamY.lam_tail I0 (by rw [← h.base, ← h.mg]; exact TB) hcode (tabS_of R hmT) (fun z hz e => (LT.free z hz e).elim (fun k => I.ok.has _ (.inl k)) fun k => I.ok.has _ (.inr k)) fun f c' doc pm ctv H1 s' I1 md kp hf hfn hfr hco => ?_
  refine Calls.spliced_nil ⟨I1.kIn, ?_⟩
  obtain ⟨w1, l1, R1⟩ := R.made md hmT hu'
  have en1 := en.le l1
  have nP : s.heap.objs.size ≠ P := fun z => by
    obtain ⟨ps, hP, _⟩ := tabS_of R hmT
    rw [← z, nH] at hP
    cases hP
  have T1 := kp _ _ nP T0
  have nC : s.heap.objs.size ≠ c' := fun z => by
    obtain ⟨⟨oc2, vs2, t2, e1, e2, e3⟩, _⟩ := I1.hok c' _ hco
    rw [← z, T1] at e1
    cases e1
    cases e2
  have nH1 : H1 s.heap.objs.size = none := by
    rcases md with rfl | ⟨_, ps, ps', _, _, rfl, _⟩
    · exact nH
    · rw [upd_ne nC, upd_ne nP]; exact nH
  have rc : codeAny (model X.prog X.w) X.A (.call (.ref g) ⟨[.ref f], []⟩) (CR C8.CX0 X.stack X.prog X.w H1 s' Q C8.E0) s' := by
    refine LamX.run_ofS (N := Ng) (ps := [a]) (us := [.ref f]) (vs := [.ref f]) (k := k) (by rw [← h.K]; exact lk) (by rw [← h.K]; exact hcg) Sg (h.room.mono hk) I1.env0 ((by rw [← h.K]; exact hB : L2.Binds X.K _ [a] []) s' [.ref f] I1.kIn rfl) (.cons rfl .nil) rfl fun hr' => ?_
    have hG2 := hG X.A X.stack s' H1 f c' (X.env.qual ++ "<lambda>") Q (fun L' => fb (wipeE ρ wp) L') (fun E HZ Q' => tR S.g (Den S.g) (fun c d _ H => E c d H) fb (L2.wipe σ wp) HZ Q') w1 L (fun z => h.gd (hgd z)) hr'
    rw [h.P, h.w, h.K, h.mg, h.base] at hG2
    obtain ⟨t', ht', hq'⟩ := hG2 (fun W2 pn xe p1 p2 tk => LamY.pe_actY (X := X) (i := 0) (k := kb) (bs := [(y, .int i s.toks)]) (ys := [y]) I1 LT wp (fun n z v e1 e2 => by
        rw [List.mem_singleton]
        by_cases hn : n ∈ wp
        · rw [wipe_get hn] at e2
          split at e2 <;> cases e2
        · exact hwp n z (by rw [h.N]; exact e1) hn) hf hfn hfr rfl (fun s2 keep => by
        obtain ⟨kk, b1, b2⟩ := hbind (X.env.qual ++ "<lambda>") (cloFrom X.env.cells scope.names []) s.heap.objs.size doc pm (.ref c') ctv (.int i s.toks)
        exact BindsTo.of_defaults rfl (keep _ _ T1 nH1 nf) rfl b1 b2) tk (hr'.mono hkb) (tb := fun E σ HZ Q' => tR S.g (Den S.g) (fun c d _ H => E c d H) fb σ HZ Q') (fun A outer s2 H2 E hr2 gg => hb _ _ (h.lam hr2 gg)) hNg hva hd hcd)
      (fun E H' Q' w' L' lw R' p' => ⟨w', wipeE ρ wp, L', R', (en1.le lw).wipe wp, p'⟩) hco R1 (Post.le l1 (okR_post q))
    exact ⟨t', ht'.nox, hq'⟩
  refine wpAny_call (codeAny_mono rc fun r s2 hq => ?_)
  match r, hq with
  | .error e, hq => exact (show False from hq).elim
  | .ok (.ret u), hq => exact I1.after hq
  | .ok .next, hq => exact hq.elim
  | .ok .brk, hq => exact hq.elim
  | .ok .cont, hq => exact hq.elim
end
section
variable {K : PySem.W.Frag} {h : Heap} {mg : Str → Option Value} {P : Program} {w : World} {base : Heap} {tb : List (Addr × Option Str)}
end
section
variable {X : Cx} {pins : List (Addr × Obj)} {σ : L2.St} {H : Hp} {s : Shared}
theorem laidG (I : Inv X pins σ H s) {zs : List V} {its : List Value} (r : Vals zs its) (hz : zs.length ≤ sizeLine) {Q : VK} (q : ∀ (p : Addr) (o : Obj), o.dict = none → H p = none → Q (.ref p) (upd H p (.frz o (.tup zs)))) :
    EP X pins σ Q (.ref s.heap.objs.size) { s with heap := s.heap.push { cls := .type "tuple", data := .seq its.toArray } } := by
  have I2 : Inv X pins σ (upd H s.heap.objs.size (.frz { cls := .type "tuple", data := .seq its.toArray } (.tup zs))) { s with heap := s.heap.push { cls := .type "tuple", data := .seq its.toArray } } :=
    I.laid (t' := s.toks) (fun b o e => Heap.get?_push_of_some _ e) (Nat.le_refl _) (show ObjOk X.prog X.w _ _ _ (.frz _ (.tup zs)) from ⟨Heap.get?_push_size _ rfl, hz, its, r, IsTup.new _ _⟩)
  exact ⟨.ref s.heap.objs.size, _, I2, rfl, q _ _ rfl (I.hok.fresh (Nat.le_refl _))⟩
end
def rCatG (K : PySem.W.Frag) : R2 := fun x y H Q => ∃ a b xs ys, x = .ref a ∧ y = .ref b ∧ SqT K H a xs ∧ SqT K H b ys ∧ xs.length + ys.length ≤ sizeLine ∧
  (xs = [] → Q (.ref b) H) ∧ (xs ≠ [] → ys = [] → Q (.ref a) H) ∧ (xs ≠ [] → ys ≠ [] → ∀ (p : Addr) (o : Obj), o.dict = none → H p = none → Q (.ref p) (upd H p (.frz o (.tup (xs ++ ys)))))
theorem op_catG {X : Cx} : OpR X (binaryOp .Add) (rCatG X.K) := by
  intro pins s σ H x y v u Q I rx ry ⟨a, b, xs, ys, ex, ey, ha, hb, hz, q0, q1, q2⟩
  rw [ex] at rx
  rw [ey] at ry
  obtain rfl : v = Value.ref a := rx
  obtain rfl : u = Value.ref b := ry
  obtain ⟨ms, r1, p1, _⟩ := I.tuple ha
  obtain ⟨ns, r2, p2, _⟩ := I.tuple hb
  by_cases hx : xs = []
  · rw [hx] at r1
    cases r1
    exact L2.cat_tup0 p1 p2 ⟨.ref b, H, I, rfl, q0 hx⟩
  · refine HT.cat_tup p1 p2 (fun z => hx (r1.nil_iff.mp z)) (fun z => ⟨.ref a, H, I, rfl, q1 hx (r2.nil_iff.mp z)⟩) (fun z => ?_) (by rw [← r1.length, ← r2.length]; exact hz)
    exact laidG I (r1.append r2) (by rw [List.length_append]; exact hz) (q2 hx fun e => z (r2.nil_iff.mpr e))
def gAddG (d e : D) (L : Sto) : Res D := match d, e with
  | .tg xs, .tg ys => newTG (xs ++ ys) L
  | _, _ => .bad
theorem gAddG_ok {G : Gb} : R2D G (rCatG G.K) gAddG := by
  intro w L H x y d e Q E R dx dy p
  unfold gAddG at p
  split at p
  · rename_i xs ys
    cases dx with
    | tg h1 r1 =>
      cases dy with
      | tg h2 r2 =>
        have hl : (xs ++ ys).length ≤ 16777216 := by
          unfold newTG at p
          split at p
          · assumption
          · exact p.elim
        have p' := p
        unfold newTG at p'
        rw [if_pos hl] at p'
        refine ⟨_, _, _, _, rfl, rfl, (R.sqG h1).t, (R.sqG h2).t, by rw [r1.length, r2.length, ← List.length_append]; exact lineLe hl, fun e => ?_, fun _ e => ?_, fun _ _ q o ho hq => newTG_go p R (r1.append r2) q o ho hq⟩
        · subst e
          cases r1
          exact Post.ok p' (.refl w) R (.tg h2 r2)
        · subst e
          cases r2
          rw [List.append_nil] at p'
          exact Post.ok p' (.refl w) R (.tg h1 r1)
  · exact p.elim
section
variable {S : Sc} {W : WX} {a b : Expr} {fa fb : EF} {pos : Pos}
theorem se_addG (ha : SE S W a fa) (hb : SE S W b fb) : SE S W (.BinOp a .Add b pos) (e2 gAddG fa fb) := fun X h => se_op (r := rCatG S.g.K) (fun X h => by rw [h.K]; exact op_catG) gAddG_ok ha hb X h
end
theorem tuple_mul1 (l : Addr) (items : Array Value) (n : Nat) (dd : Option Addr) (sl : Array (Option Value)) (u : Tok) :
    Meets (Builtin.«tuple.__mul__» ⟨[.ref l, .int 1 u], []⟩) (fun _ R s => s.heap.get? l = some { cls := .type "tuple", dict := dd, data := .seq items n, slots := sl } ∧ R (.ok (.ret (Value.ref l))) s) :=
  .of_wp fun prog w A R s h => by
    obtain ⟨hp, g, d, tk, os⟩ := s
    obtain ⟨hl, h⟩ := h
    have f1 := AutoSeq1.idx_int
    wp_walk using wpAny_loadPart' hl
    repeat (first
      | (refine wpAny_ite_true (decide_eq_true (by rw [Bool.or_eq_true]; exact .inr rfl)) ?_; wp_walk using wpAny_loadPart' hl)
      | (refine wpAny_ite_true (by simp) ?_; wp_walk using wpAny_loadPart' hl))
    exact ⟨_, rfl, h⟩
def rRep1 (K : PySem.W.Frag) : R2 := fun x y H Q => ∃ l xs, x = .ref l ∧ y = .int 1 ∧ SqT K H l xs ∧ Q (.ref l) H
theorem op_rep1 {X : Cx} : OpR X (binaryOp .Mult) (rRep1 X.K) := by
  intro pins s σ H x y v u Q I rx ry ⟨l, xs, ex, ey, hT, q⟩
  rw [ex] at rx
  rw [ey] at ry
  obtain rfl : v = Value.ref l := rx
  obtain ⟨t, rfl⟩ := (show ∃ t, u = Value.int 1 t from ry)
  obtain ⟨its, r, ⟨⟨cls, dd, data, sl⟩, ho, hc, n, hd⟩, hs⟩ := I.tuple hT
  simp only at hc hd
  subst hc hd
  exact wpAny_binaryOp_repeat_ref (T := "tuple") (U := "int") (by decide) ⟨_, ho, rfl⟩ (fun s' => typeIs_int s' 1 t) L2.noFill_tuple_mul F.fills_int_mul F.slot_int_rmul L2.repeat_tuple F.slot_int_index.lookup
    (call_meets F.slot_int_rmul (typeIs_int s 1 t) F.entry_int_rmul (F.args_int_rmul_2 _ _) (L2.int_rmul_tuple 1 t l its.toArray n dd sl)
      ⟨ho, rfl, ⟨_, ho, rfl⟩, call_meets F.slot_tuple_mul ⟨_, ho, rfl⟩ F.entry_tuple_mul (F.args_tuple_mul_2 _ _) (tuple_mul1 l its.toArray n dd sl t) ⟨ho, ⟨.ref l, H, I, rfl, q⟩⟩⟩)
def codeAd (K : PySem.W.Frag) (z : DefZ) : Addr := match K.lookup (z.way.ad K) with
  | some ⟨_, _, .func fd, _⟩ => (match fd.code with
    | .ref c => c
    | _ => 0)
  | _ => 0
def tabAd (K : PySem.W.Frag) (c : Addr) : Addr := match K.lookup c with
  | some ⟨_, _, .fields vs, _⟩ => (match vs.getD 11 .none with
    | .ref P => P
    | _ => 0)
  | _ => 0
def cOf (K : PySem.W.Frag) (z : DefZ) : Addr × Addr := (codeAd K z, tabAd K (codeAd K z))
def codeB (K : PySem.W.Frag) (z : DefZ) : Bool := match K.lookup (z.way.ad K) with
  | some ⟨_, _, .func fd, _⟩ => decide (fd.code = .ref (codeAd K z))
  | _ => false
theorem codeB_ok {K : PySem.W.Frag} {z : DefZ} {oc : Value} {od : Option Addr} {fd : FuncData} {sl : Array (Option Value)} (h : codeB K z = true) (e : K.lookup (z.way.ad K) = some ⟨oc, od, .func fd, sl⟩) : fd.code = .ref (cOf K z).1 := by
  unfold codeB at h
  rw [e] at h
  exact of_decide_eq_true h
def onceB : List Addr → Bool
  | [] => true
  | a :: r => !(r.contains a) && onceB r
theorem onceB_ok : ∀ {l : List Addr}, onceB l = true → l.Nodup
  | [], _ => List.nodup_nil
  | a :: r, h => by
    obtain ⟨h1, h2⟩ := and2 h
    refine List.nodup_cons.mpr ⟨fun m => ?_, onceB_ok h2⟩
    rw [List.contains_iff_mem.mpr m] at h1
    cases h1
structure SaysL (ck : List Chk) (fn tf : List DefZ) (h : Heap) (K : PySem.W.Frag) : Prop where
  y : SaysY ck fn K
  hd : ∀ z ∈ tf, PySem.W.codeHdIn K (cOf K z).1 (cOf K z).2 = true
  cd : ∀ z ∈ tf, codeB K z = true
  out : ∀ z ∈ tf, K.lookup (cOf K z).2 = none
  empty : ∀ z ∈ tf, h.get? (cOf K z).2 = some { cls := .none, data := .fields #[] }
  once : (tf.map fun z => (cOf K z).2).Nodup
def lamsB (g : Addr → Option Obj) (tf : List DefZ) (K : PySem.W.Frag) : Bool := (tf.all fun z => (PySem.W.codeHdIn K (cOf K z).1 (cOf K z).2 && codeB K z) && (match g (cOf K z).2 with
  | some o => He.emptyTab o
  | none => false)) && onceB (tf.map fun z => (cOf K z).2)
def tabsL (K : PySem.W.Frag) (tf : List DefZ) : List (Addr × Option Str) := tf.map fun z => ((cOf K z).2, some ((z.d.qual ++ ".<locals>.") ++ "<lambda>"))
theorem tabsL_fun {K : PySem.W.Frag} {tf : List DefZ} (h : (tf.map fun z => (cOf K z).2).Nodup) : ∀ p ∈ tabsL K tf, ∀ r ∈ tabsL K tf, p.1 = r.1 → p.2 = r.2 := by
  intro p hp r hr e
  obtain ⟨z, hz, rfl⟩ := List.mem_map.mp hp
  obtain ⟨y, hy, rfl⟩ := List.mem_map.mp hr
  have e' : (cOf K z).2 = (cOf K y).2 := e
  have same : ∀ {l : List DefZ}, (l.map fun z => (cOf K z).2).Nodup → z ∈ l → y ∈ l → z = y := by
    intro l
    induction l with
    | nil => exact fun _ h => nomatch h
    | cons a t ih =>
      intro hn h1 h2
      rw [List.map_cons] at hn
      obtain ⟨n1, n2⟩ := List.nodup_cons.mp hn
      rcases List.mem_cons.mp h1 with a1 | a1
      · rcases List.mem_cons.mp h2 with a2 | a2
        · rw [a1, a2]
        · exact absurd (List.mem_map.mpr ⟨y, a2, by rw [← e', a1]⟩) n1
      · rcases List.mem_cons.mp h2 with a2 | a2
        · exact absurd (List.mem_map.mpr ⟨z, a1, by rw [e', a2]⟩) n1
        · exact ih n2 a1 a2
  rw [same h hz hy]
theorem lmOk_of {P : Program} {w : World} {K : PySem.W.Frag} {mg : Str → Option Value} {base h : Heap} {ck : List Chk} {fn tf : List DefZ} (c : SaysL ck fn tf h K) {z : DefZ} (hz : z ∈ tf) (hT : LamX.TabB base mg (cOf K z).1 (cOf K z).2) {x : Str} {params : Arguments} {body : List Stmt} {scope : Scope} {dvs : List V} {kws : List (Str × V)} {fd : FuncData}
    (F : FunD K x z.d.qual params body scope dvs kws (z.way.ad K) fd) : LmOk ⟨P, w, K, mg, base, tabsL K tf⟩ z.d.qual fd := by
  obtain ⟨oc, od, dV, kV, doc, pm, an, cdv, ct, osl, rfl, lk, _, _, _⟩ := F.ex
  exact ⟨_, _, codeB_ok (c.cd z hz) lk, hT, List.mem_map.mpr ⟨z, hz, rfl⟩⟩
theorem store_by {B : String} {bm : List Value} (m : mroOf (.type B) = pure bm) (s : Slot B "__setattr__" "object.__setattr__") (o : bm.contains (.type "object") = true) (r : ∀ self : Value, refuseLoop self "__setattr__" bm = pure ()) : StoreFacts B bm "object.__setattr__" "object" :=
  { PySem.F.store_ValueError with mro := m, slot := s, hasOwner := o, passes := r }
theorem slot_by {B : String} (h : typeLookup (.type B) (PySem.Str.ofString "__setattr__") = pure (some (.builtin "object.__setattr__"))) (k : isSubtype (.type B) (.type "object") = pure true) : Slot B "__setattr__" "object.__setattr__" :=
  Slot.of (owner := "object") (n := "__setattr__") h (by decide +kernel) (by decide +kernel) (by decide +kernel) (by first | exact .inl (by decide +kernel) | exact .inr (by decide +kernel)) k
theorem store_Runtime : StoreFacts "RuntimeError" [.type "RuntimeError", .type "Exception", .type "BaseException", .type "object"] "object.__setattr__" "object" :=
  store_by (by kernel_rfl) (slot_by (by rw [typeLookup_type, builtinLookup_eq_fast]; kernel_rfl) (by rw [isSubtype_type]; kernel_rfl)) (by decide +kernel) fun self => by kernel_rfl
structure ErZ where
  c : Str
  f : Str
  params : Arguments
  body : List Stmt
  scope : Scope
abbrev FnE := Option (Arguments × FuncBody × Scope × Addr × List Str × Addr)
def fnE (K : PySem.W.Frag) (a : Addr) : FnE := match K.lookup a with
  | some ⟨_, _, .func fd, _⟩ => some (fd.params, fd.body, fd.scope, fd.globals, fd.closure.map (·.1), fd.builtins)
  | _ => none
def ErZ.ini (z : ErZ) (K : PySem.W.Frag) : Addr := He.ma K (He.ga K z.c) "__init__"
def ErZ.val (z : ErZ) : FnE := some (z.params, .stmts z.body, z.scope, mainGlobals, ["__class__"], builtinsNs)
def erTail (file : Str) (K : PySem.W.Frag) (C fI : Addr) : Bool := match K.lookup fI with
  | some ⟨_, _, .func fd, _⟩ => (PySem.W.codeIn K fd.code fd.qualname && (decide (fd.defaults = .none) && decide (fd.kwdefaults = .none))) && ((match fd.code with
    | .ref cda => (match K.lookup cda with
      | some ⟨_, _, .fields vs, _⟩ => (match (vs[2]? : Option Value) with
        | some (Value.str fl _) => file == fl
        | _ => false)
      | _ => false)
    | _ => false) && (match fd.closure with
    | [(_, cc)] => (match K.lookup cc with
      | some ⟨_, _, .cell (some (.ref D)), _⟩ => decide (D = C)
      | _ => false)
    | _ => false))
  | _ => false
def chkEr (file : Str) (bmB : List Value) (B newId initId : String) (c f : Str) : Chk := fun K => (PySem.W.excOver K (He.ga K c) bmB && (PySem.W.excInitIn K (He.ga K c) bmB newId && PySem.W.hasDictIn K (He.ga K c))) && ((He.eqO (PySem.W.takerIn K (He.ga K c) f) (some none) &&
  (He.eqO (PySem.W.findIn K (.ref (He.ga K c)) "__setattr__") (some (some (.builtin "object.__setattr__"))) && He.eqO (PySem.W.ks_superIn K (He.ga K c) (He.ga K c) "__init__") (some (some (.builtin initId))))) && ((eqB (PySem.W.subIn K (.ref (He.ga K c)) (.type B)) (some true) &&
  (eqB (PySem.W.mroIn K (He.ga K c) (.ref (He.ga K c))) (some true) && He.eqO (PySem.W.nsIn K cStatics "thirdparty.any") (some none))) && ((erTail file K (He.ga K c) (He.ma K (He.ga K c) "__init__") && (He.eqO (PySem.W.findIn K (.ref (He.ga K c)) "__init__") (some (some (.ref (He.ma K (He.ga K c) "__init__")))) &&
  PySem.W.isFn K (.ref (He.ma K (He.ga K c) "__init__")))) && (eqB (PySem.W.subIn K (.ref (He.ga K c)) (.type "BaseException")) (some true) && (eqV (PySem.W.typeIn K (.ref (He.ga K c))) (some (.type "type")) && PySem.W.keepIn K (.ref (He.ga K c)))))))
section
variable {K : PySem.W.Frag} {h : Heap} {mg : Str → Option Value} {P : Program} {w : World} {base : Heap} {tb : List (Addr × Option Str)}
theorem erTail_ok {file : Str} {C fI : Addr} {z : ErZ} {n1 n2 : Str} (e : erTail file K C fI = true) (v : fnE K fI = z.val) (hf : file = P.main.file)
    (hb : ∀ fd : FuncData, fd.params = z.params → fd.defaults = .none → fd.kwdefaults = .none → ∀ (s : Shared) (u v : Value), BindsTo s fd ⟨[u, v], []⟩ [(n1, u), (n2, v)]) :
    ∃ cc cda, (∃ oc od fd sl, K.lookup fI = some ⟨oc, od, .func fd, sl⟩ ∧ fd.params = z.params ∧ fd.body = .stmts z.body ∧ fd.scope = z.scope ∧ fd.globals = mainGlobals ∧ fd.closure = [(("__class__" : Str), cc)] ∧ fd.builtins = builtinsNs ∧ fd.code = .ref cda ∧ PySem.W.codeIn K (.ref cda) fd.qualname = true ∧
      ∀ (s : Shared) (u v : Value), BindsTo s fd ⟨[u, v], []⟩ [(n1, u), (n2, v)]) ∧ (∃ a b vs sl file tf, K.lookup cda = some ⟨a, b, .fields vs, sl⟩ ∧ vs[2]? = some (.str file tf) ∧ ((P.main.file : Str) == file) = true) ∧ ∃ cl cld csl, K.lookup cc = some ⟨cl, cld, .cell (some (.ref C)), csl⟩ := by
  unfold erTail at e
  unfold fnE at v
  split at e
  · rename_i oc od fd sl lk
    rw [lk] at v
    have v2 : some (fd.params, fd.body, fd.scope, fd.globals, fd.closure.map (·.1), fd.builtins) = some (z.params, FuncBody.stmts z.body, z.scope, mainGlobals, [("__class__" : Str)], builtinsNs) := v
    simp only [Option.some.injEq, Prod.mk.injEq] at v2
    obtain ⟨v1, v2, v3, v4, v5, v6⟩ := v2
    obtain ⟨e1, e2⟩ := and2 e
    obtain ⟨a1, a2⟩ := and2 e1
    obtain ⟨a3, a4⟩ := and2 a2
    obtain ⟨b1, b2⟩ := and2 e2
    split at b1
    · rename_i cda hc
      split at b1
      · rename_i ca cb vs csl hcl
        split at b1
        · rename_i fl ft hvs
          split at b2
          · rename_i nm cc hcc
            split at b2
            · rename_i la lb D lsl hcell
              obtain rfl := of_decide_eq_true b2
              have hn : nm = ("__class__" : Str) := by
                rw [hcc] at v5
                simpa using v5
              exact ⟨cc, cda, ⟨oc, od, fd, sl, lk, v1, v2, v3, v4, by rw [hcc, hn], v6, hc, by rw [← hc]; exact a1, hb fd v1 (of_decide_eq_true a3) (of_decide_eq_true a4)⟩, ⟨ca, cb, vs, csl, fl, ft, hcl, hvs, by rw [← hf]; exact b1⟩, la, lb, lsl, hcell⟩
            · cases b2
          · cases b2
        · cases b1
      · cases b1
    · cases b1
  · cases e
theorem exfIs_of (X : K.In h) (Gn : h.Ns mainGlobals mg) {z : ErZ} {n1 n2 : Str} {p : _root_.Fin 10 → Pos} {file : Str} {bmB : List Value} {B newId initId : String} (g : fa (.glo z.c) K = true) (e : chkEr file bmB B newId initId z.c z.f K = true) (v : fnE K (z.ini K) = z.val)
    (hbody : z.body = exBody n1 n2 z.f p) (T : ExText n1 n2 z.f p z.scope z.params) (hf : file = P.main.file) (ht : (P.main.scope.names.lookup ("super" : Str)).isSome = false) (hs : mg ("super" : Str) = none)
    (hb : ∀ fd : FuncData, fd.params = z.params → fd.defaults = .none → fd.kwdefaults = .none → ∀ (s : Shared) (u v : Value), BindsTo s fd ⟨[u, v], []⟩ [(n1, u), (n2, v)])
    (SF : StoreFacts B bmB "object.__setattr__" "object") (FB : ExcBaseFacts B newId initId bmB) (KF : PySem.W.KxsFacts B initId) : ExfIs ⟨P, w, K, mg, base, tb⟩ z.c z.f := by
  obtain ⟨q1, e⟩ := and2 e
  obtain ⟨h1, q1⟩ := and2 q1
  obtain ⟨h2, h3⟩ := and2 q1
  obtain ⟨q2, e⟩ := and2 e
  obtain ⟨h4, q2⟩ := and2 q2
  obtain ⟨h5, h6⟩ := and2 q2
  obtain ⟨q3, e⟩ := and2 e
  obtain ⟨h7, q3⟩ := and2 q3
  obtain ⟨h8, h9⟩ := and2 q3
  obtain ⟨q4, e⟩ := and2 e
  obtain ⟨h10, q4⟩ := and2 q4
  obtain ⟨h11, h12⟩ := and2 q4
  obtain ⟨h13, e⟩ := and2 e
  obtain ⟨h14, h15⟩ := and2 e
  obtain ⟨cc, cda, f1, f2, f3⟩ := erTail_ok (P := P) h10 v hf hb
  obtain ⟨oc, od, fd, sl, lk, g1, g2, g3⟩ := f1
  rw [hbody] at g2
  exact ⟨⟨He.ga K z.c, He.ma K (He.ga K z.c) "__init__", cc, cda, n1, n2, p, z.params, z.scope, bmB, B, newId, initId, He.glo_ok X Gn g,
    ⟨h1, h2, h3, He.eqO_ok h4, He.eqO_ok h5, He.eqO_ok h6, of_decide_eq_true h7, of_decide_eq_true h8, He.eqO_ok h9, ⟨oc, od, fd, sl, lk, g1, g2, g3⟩, f2, f3, He.eqO_ok h11, h12, of_decide_eq_true h13, of_decide_eq_true h14, h15, ht⟩, T, SF, FB, KF⟩, hs⟩
def chkEx (bmB : List Value) (newId : String) (c : Str) : Chk := fun K => PySem.W.excIn K (He.ga K c) bmB newId && (PySem.W.keepIn K (.ref (He.ga K c)) && (eqB (PySem.W.subIn K (.ref (He.ga K c)) (.type "BaseException")) (some true) && eqV (PySem.W.typeIn K (.ref (He.ga K c))) (some (.type "type"))))
theorem excIs_of (X : K.In h) (Gn : h.Ns mainGlobals mg) {c : Str} {bmB : List Value} {B newId initId : String} (g : fa (.glo c) K = true) (e : chkEx bmB newId c K = true) (FB : ExcBaseFacts B newId initId bmB) : ExcIs ⟨P, w, K, mg, base, tb⟩ c := by
  obtain ⟨h1, e⟩ := and2 e
  obtain ⟨h2, e⟩ := and2 e
  obtain ⟨h3, h4⟩ := and2 e
  exact ⟨_, bmB, B, newId, initId, He.glo_ok X Gn g, FB, h1, h2, of_decide_eq_true h3, of_decide_eq_true h4⟩
def chkXs (xs : List (Str × List Str)) : Chk := fun K => (xs.all fun q => fa (.glo q.1) K) && xs.all fun q => xs.all fun r => eqB (PySem.W.exmOne K (.ref (He.ga K q.1)) (.ref (He.ga K r.1))) (some (decide (r.1 ∈ q.2)))
theorem excT_of (X : K.In h) (Gn : h.Ns mainGlobals mg) {xs : List (Str × List Str)} (e : chkXs xs K = true) : ExcT ⟨P, w, K, mg, base, tb⟩ xs := by
  obtain ⟨e1, e2⟩ := and2 e
  have glo : ∀ q ∈ xs, mg q.1 = some (.ref (He.ga K q.1)) := fun q hq => He.glo_ok X Gn (List.all_eq_true.mp e1 q hq)
  refine ⟨fun q hq => ⟨_, glo q hq⟩, fun q hq r hr C C' m m' => ?_⟩
  have k := of_decide_eq_true (List.all_eq_true.mp (List.all_eq_true.mp e2 q hq) r hr)
  have g1 := glo q hq
  have g2 := glo r hr
  dsimp only at m m'
  rw [g1] at m
  rw [g2] at m'
  cases m
  cases m'
  exact k
def chkXf (c f : Str) : Chk := fun K => L2.xfB K (He.ga K c) && He.eqO (PySem.W.findIn K (.ref (He.ga K c)) f) (some none)
theorem xfIs_of (X : K.In h) (Gn : h.Ns mainGlobals mg) {c f : Str} (g : fa (.glo c) K = true) (e : chkXf c f K = true) : XfIs ⟨P, w, K, mg, base, tb⟩ c f := by
  obtain ⟨h1, h2⟩ := and2 e
  exact ⟨_, He.glo_ok X Gn g, xfB_ok h1, He.eqO_ok h2⟩
end
theorem ers_at {K : PySem.W.Frag} {er : List ErZ} (v : er.map (fun z => fnE K (z.ini K)) = er.map ErZ.val) (i : Nat) {z : ErZ} (h : er[i]? = some z := by rfl) : fnE K (z.ini K) = z.val := by
  have y : (er.map fun z => fnE K (z.ini K))[i]? = (er.map ErZ.val)[i]? := by rw [v]
  rw [List.getElem?_map, List.getElem?_map, h] at y
  exact Option.some.inj y
def eCallV (i : Nat) (fns : List (Str × Nat × (List D → Sto → Res D))) (fl : AF) : EF := fun ρ L => match ρ[i]? with
  | some (some (.fn c)) => (match fns.lookup c with
    | some (n, m) => (fl ρ L).bind fun ds L1 => if ds.length = n then m ds L1 else .bad
    | none => .bad)
  | _ => .bad
theorem relV_at {v : V} {f : Addr} (r : RelV v (.ref f)) : v = .ref f := by
  cases v with
  | ref a => cases (show Value.ref f = Value.ref a from r); rfl
  | non => exact nomatch (show Value.ref f = Value.none from r)
  | bl b => exact nomatch (show Value.ref f = Value.bool b from r)
  | ty n => exact nomatch (show Value.ref f = Value.type n from r)
  | int i => obtain ⟨t, z⟩ := (show ∃ t, Value.ref f = Value.int i t from r); cases z
  | str i => obtain ⟨t, z⟩ := (show ∃ t, Value.ref f = Value.str i t from r); cases z
  | byt i => obtain ⟨t, z⟩ := (show ∃ t, Value.ref f = Value.bytes i t from r); cases z
  | flt i => obtain ⟨t, z⟩ := (show ∃ t, Value.ref f = Value.float i t from r); cases z
section
variable {S : Sc} {W : WX} {e : Expr} {es : List Expr} {fl : AF} {pos p : Pos} {x : Str} {k : Nat} {gd : Bool} {fns : List (Str × Nat × (List D → Sto → Res D))}
theorem se_callV (i : Nat) (F : ∀ q ∈ fns, FnIs gd S.g q.1 q.2.1 k q.2.2 []) (hk : k ≤ S.k) (ha : SA S W (e :: es) fl) (hi : S.N[i]? = some x := by rfl) (hv : Vis S.sc x := by first | exact .inl rfl | exact .inr (.inl rfl) | exact .inr (.inr rfl)) (hgd : gd = true → S.gd = true := by first | (intro z; cases z; done) | (intro _; rfl))
    (hdb : (x == ("__debug__" : Str)) = false := by decide) (hcd : (x == ("__classdict__" : Str)) = false := by decide)
    (he : ∀ env, starEach (e :: es) env = (false, eval e env) :: starEach es env := by intro _; rfl) (hpl : ∀ env, (backTo pos (starEach es env)).any (·.1) = false := by intro _; rfl) :
    SE S W (.Call (.Name x p) (e :: es) [] pos) (eCallV i fns fl) := fun X h => by
  refine ⟨fun pins s σ H Q I ⟨w, ρ, L, R, en, q⟩ => ?_⟩
  unfold eCallV at q
  split at q
  · rename_i c hc
    split at q
    · rename_i n m hm
      have mem : (c, n, m) ∈ fns := PySem.mem_of_lookup hm
      obtain ⟨f, fd, ps, ds, dvs, hmg, hkp, hb, hd, hdd, FX⟩ := (F _ mem).ex
      obtain ⟨v, hs, dv⟩ := en.2 i _ hc
      have ev : v = .ref f := by
        cases dv with
        | fn a r =>
          rw [hmg] at a
          cases a
          exact relV_at r
      subst ev
      rw [h.P, h.w, h.K, h.mg, h.base] at FX
      refine wpAny_Call_Name_kw (thn ((pe_var (X := X) (pos := p) (i := i) (by rw [← h.N]; exact hi) (by rw [← h.sc]; exact hv) hdb hcd).run pins s σ H (fun v H1 => v = .ref f ∧ H1 = H) I ⟨.ref f, hs, rfl, rfl⟩) fun u s1 ⟨v, H1, I1, r1, ev, eH⟩ => ?_)
      subst ev
      rw [eH] at I1
      obtain rfl : u = Value.ref f := r1
      refine PySem.W.callWith_K (h₀ := X.base) I1.ok.mod.kin (by rw [← h.K]; exact hkp) (thn ((ha X h).run pos pins s1 σ H _ I1 ⟨w, ρ, L, R, en, (Post.bind (rel := DenL S.g) q)⟩) fun us s2 ⟨vs, H2, I2, r2, w1, xs, L1, l1, R1, d1, p1⟩ => ⟨I2.kIn, ?_⟩) (he _) (hpl _)
      split at p1
      · rename_i hn
        have dd0 : dvs = [] := List.eq_nil_of_length_eq_zero (hdd w1).length
        subst dd0
        refine run_fnX (vs := vs) (dvs := []) (E := WE W) FX (h.room.mono hk) (fun z => h.gd (hgd z)) (by rw [← h.K]; exact hb) hd (L2.passAt h.takes σ) I2 r2 ?_
        rw [List.append_nil]
        exact ⟨by rw [d1.length]; exact hn, w1, L1, xs, R1, d1, p1⟩
      · exact p1.elim
    · exact q.elim
  · exact q.elim
theorem se_defv {c : Str} {n : Nat} {m : List D → Sto → Res D} (F : FnIs gd S.g c n k m []) (hg : Glb S c := by rfl) (hdb : (c == ("__debug__" : Str)) = false := by decide) : SE S W (.Name c p) (eC (.fn c)) := fun X h => by
  obtain ⟨f, fd, ps, ds, dvs, hmg, _⟩ := F.ex
  refine PE.imp (pe_glob (v := .ref f) (by show X.env.scope.names.lookup _ = _; rw [← h.sc]; exact hg) (by rw [← h.mg]; exact hmg) rfl hdb) fun σ H Q ⟨w, ρ, L, R, e, q⟩ => q.ok (.refl w) R (.fn hmg rfl)
end
theorem exc_has {G : Gb} {xs : List (Str × List Str)} (T : ExcT G xs) {l : List Cl} (h : ((l.map Cl.c).all fun c => hasExc xs c) = true) : ∀ q ∈ l, ∃ C, G.mg q.c = some (.ref C) := fun q hq => by
  have z := List.all_eq_true.mp h q.c (List.mem_map.mpr ⟨q, hq, rfl⟩)
  obtain ⟨ss, e⟩ := Option.isSome_iff_exists.mp z
  exact T.one (q.c, ss) (PySem.mem_of_lookup e)
theorem own_ok {S : Sc} {x : Str} (h1 : Glb S x := by rfl) (h2 : (x == ("__debug__" : Str)) = false := by decide) : OwnE S x := ⟨h1, h2⟩
def hRep (c f t : Str) : HF := fun c' p => e2 gAdd (eC (.str t)) (en gRepr (aCons (hFld c f c' p) aNil))
def hStr (c f t : Str) : HF := fun c' p => e2 gAdd (eC (.str t)) (en gStr (aCons (hFld c f c' p) aNil))
def hCon (t : Str) : HF := fun _ _ => eC (.str t)
theorem FnIs.up {gd gd' : Bool} {G : Gb} {x : Str} {n k k' : Nat} {m : List D → Sto → Res D} {dd : List D} (F : FnIs gd G x n k m dd) (h : k ≤ k') (hg : gd = gd' ∨ gd = false) : FnIs gd' G x n k' m dd := by
  obtain ⟨f, fd, ps, ds, dvs, h1, h2, h3, h4, h5, FX⟩ := F.ex
  rcases hg with rfl | rfl
  · exact ⟨f, fd, ps, ds, dvs, h1, h2, h3, h4, h5, FX.mono h⟩
  · exact ⟨f, fd, ps, ds, dvs, h1, h2, h3, h4, h5, FnX.of (FX.mono h).ok⟩
theorem wp_by {N : List Str} {wp : List Nat} {y : Str} (h : (N.zipIdx.all fun p => wp.contains p.2 || !(p.1 == y)) = true) : ∀ (i : Nat) (z : Str), N[i]? = some z → i ∉ wp → z ≠ y := fun i z e hn hz => by
  have k := List.all_eq_true.mp h (z, i) (List.mem_zipIdx_iff_getElem?.mpr e)
  rcases Bool.or_eq_true_iff.mp k with q | q
  · exact hn (List.contains_iff_mem.mp q)
  · rw [hz, beq_self_eq_true] at q
    cases q
def k1 (g : D → Sto → Res D) (r : Res D) : Res D := r.bind g
def kn (g : List D → Sto → Res D) (r : Res (List D)) : Res D := r.bind g
def k2 (g : D → D → Sto → Res D) (fb : EF) (ρ : Env') (r : Res D) : Res D := r.bind fun d L1 => (fb ρ L1).bind fun e L2 => g d e L2
def k2' (g : D → D → Sto → Res D) (d : D) (r : Res D) : Res D := r.bind fun e L2 => g d e L2
def ka (g : AF) (ρ : Env') (r : Res D) : Res (List D) := r.bind fun d L1 => (g ρ L1).bind fun ds L2 => .ok (d :: ds) L2
def ka' (d : D) (r : Res (List D)) : Res (List D) := r.bind fun ds L2 => .ok (d :: ds) L2
def kc (n : Nat) (m : List D → Sto → Res D) (dd : List D) (r : Res (List D)) : Res D := r.bind fun ds L1 => if (ds ++ dd).length = n then m (ds ++ dd) L1 else .bad
def kmk (n : Nat) (m : List D → Sto → Res D) (dd : List D) (r : Res (List D)) : Res D := r.bind fun ds L1 => if (ds ++ dd).length + 1 = n then m (ds ++ dd) L1 else .bad
def kset (i : Nat) (ρ : Env') (r : Res D) : SRes := sBind r ρ fun d L1 => .nx (ρ.set i (some d)) L1
def kseq (g : SF) (r : SRes) : SRes := match r with
  | .nx ρ1 L1 => g ρ1 L1
  | r => r
def kif (f g : SF) (ρ : Env') (r : Res Bool) : SRes := sBindB r ρ fun k L1 => if k = true then f ρ L1 else g ρ L1
def kexp (ρ : Env') (r : Res D) : SRes := sBind r ρ fun _ L1 => .nx ρ L1
def kret (ρ : Env') (r : Res D) : SRes := sBind r ρ fun d L1 => .rt d L1
def ktru (r : Res D) : Res Bool := r.bind fun d L1 => match truD L1 d with
  | some k => .ok k L1
  | none => .bad
def knot (r : Res Bool) : Res Bool := r.bind fun c L1 => .ok (!c) L1
def kor (g : TF) (ρ : Env') (r : Res Bool) : Res Bool := r.bind fun c L1 => if c = true then .ok true L1 else g ρ L1
def kand (g : TF) (ρ : Env') (r : Res Bool) : Res Bool := r.bind fun c L1 => if c = true then g ρ L1 else .ok false L1
def keif (f g : EF) (ρ : Env') (r : Res Bool) : Res D := r.bind fun c L1 => if c = true then f ρ L1 else g ρ L1
def keand (g : EF) (ρ : Env') (r : Res D) : Res D := (asB r).bind fun c L1 => if c = true then g ρ L1 else .ok (.bl false) L1
def keor (g : EF) (ρ : Env') (r : Res D) : Res D := (asB r).bind fun c L1 => if c = true then .ok (.bl true) L1 else g ρ L1
def kenot (r : Res D) : Res D := (asB r).bind fun c L1 => .ok (.bl (!c)) L1
def ktup (r : Res (List D)) : Res D := r.bind newT
def ktupG (r : Res (List D)) : Res D := r.bind newTG
def klst (box : Bool) (r : Res (List D)) : Res D := r.bind fun ds L1 => if ds.length ≤ 16777216 then lstOut box ds L1 else .bad
def kput (fo fi : EF) (ρ : Env') (r : Res D) : SRes := sBind r ρ fun v L1 => sBind (fo ρ L1) ρ fun d L2 => sBind (fi ρ L2) ρ fun k L3 => match putAt d k v L3 with
  | some L4 => .nx ρ L4
  | none => .bad
def kput2 (v : D) (fi : EF) (ρ : Env') (r : Res D) : SRes := sBind r ρ fun d L2 => sBind (fi ρ L2) ρ fun k L3 => match putAt d k v L3 with
  | some L4 => .nx ρ L4
  | none => .bad
def kput3 (v d : D) (ρ : Env') (r : Res D) : SRes := sBind r ρ fun k L3 => match putAt d k v L3 with
  | some L4 => .nx ρ L4
  | none => .bad
def kput4 (ρ : Env') (o : Option Sto) : SRes := match o with
  | some L4 => .nx ρ L4
  | none => .bad
def kfp (c f : Str) (fo : EF) (ρ : Env') (r : Res D) : SRes := sBind r ρ fun y L1 => sBind (fo ρ L1) ρ fun d L2 => match gFldPut c f y d L2 with
  | some L3 => .nx ρ L3
  | none => .bad
def kfp2 (c f : Str) (y : D) (ρ : Env') (r : Res D) : SRes := sBind r ρ fun d L2 => match gFldPut c f y d L2 with
  | some L3 => .nx ρ L3
  | none => .bad
def kasg (g : GF) (ρ : Env') (r : Res D) : SRes := sBind r ρ fun d L1 => match g d ρ with
  | some ρ1 => .nx ρ1 L1
  | none => .bad
def kasg2 (L : Sto) (o : Option Env') : SRes := match o with
  | some ρ1 => .nx ρ1 L
  | none => .bad
def kpar (i j : Nat) (ρ : Env') (r : Res (List D)) : SRes := match r with
  | .ok [d, e] L1 => .nx ((ρ.set i (some d)).set j (some e)) L1
  | .err c p L1 => .err c p ρ L1
  | _ => .bad
def kbm (fl : AF) (g : D → List D → Sto → Res D) (ρ : Env') (r : Res D) : Res D := r.bind fun d L1 => if isL L1 d = true then (fl ρ L1).bind fun ds L2 => g d ds L2 else .bad
def kbm2 (g : D → List D → Sto → Res D) (d : D) (r : Res (List D)) : Res D := r.bind fun ds L2 => g d ds L2
section
variable {ρ ρ1 : Env'} {L L1 : Sto} {d e : D} {f g : SF} {t u : TF} {fa fb fo fi : EF} {fl : AF} {ds dd : List D} {i j n N : Nat} {b c : Bool} {g2 : D → D → Sto → Res D} {g1 : D → Sto → Res D} {gn : List D → Sto → Res D} {m : List D → Sto → Res D} {cl fn : Str} {p : List (Str × D)} {tg : GF} {gb : D → List D → Sto → Res D}
theorem aaQ : e1 g1 fa ρ L = k1 g1 (fa ρ L) := (rfl)
theorem abQ : k1 g1 (.ok d L) = g1 d L := (rfl)
theorem acQ : en gn fl ρ L = kn gn (fl ρ L) := (rfl)
theorem adQ : kn gn (.ok ds L) = gn ds L := (rfl)
theorem aeQ : DS.e2 g2 fa fb ρ L = k2 g2 fb ρ (fa ρ L) := (rfl)
theorem afQ : k2 g2 fb ρ (.ok d L) = k2' g2 d (fb ρ L) := (rfl)
theorem agQ : k2' g2 d (.ok e L) = g2 d e L := (rfl)
theorem ahQ : aNil ρ L = .ok [] L := (rfl)
theorem aiQ : aCons fa fl ρ L = ka fl ρ (fa ρ L) := (rfl)
theorem ajQ : ka fl ρ (.ok d L) = ka' d (fl ρ L) := (rfl)
theorem akQ : ka' d (.ok ds L) = .ok (d :: ds) L := (rfl)
theorem alQ : eCall n m dd fl ρ L = kc n m dd (fl ρ L) := (rfl)
theorem amQ  : kc 0 m [] (.ok [] L) = m [] L := (rfl)
theorem anQ  {a0 : D} : kc 1 m [] (.ok [a0] L) = m [a0] L := (rfl)
theorem aoQ  {a0 a1 : D} : kc 2 m [] (.ok [a0, a1] L) = m [a0, a1] L := (rfl)
theorem apQ  {a0 a1 a2 : D} : kc 3 m [] (.ok [a0, a1, a2] L) = m [a0, a1, a2] L := (rfl)
theorem aqQ  {a0 a1 a2 a3 : D} : kc 4 m [] (.ok [a0, a1, a2, a3] L) = m [a0, a1, a2, a3] L := (rfl)
theorem arQ  {a0 a1 a2 a3 a4 : D} : kc 5 m [] (.ok [a0, a1, a2, a3, a4] L) = m [a0, a1, a2, a3, a4] L := (rfl)
theorem asQ  {a0 a1 a2 a3 a4 a5 : D} : kc 6 m [] (.ok [a0, a1, a2, a3, a4, a5] L) = m [a0, a1, a2, a3, a4, a5] L := (rfl)
theorem atQ  {a0 a1 a2 a3 a4 a5 a6 : D} : kc 7 m [] (.ok [a0, a1, a2, a3, a4, a5, a6] L) = m [a0, a1, a2, a3, a4, a5, a6] L := (rfl)
theorem auQ  {a0 a1 a2 a3 a4 a5 a6 a7 : D} : kc 8 m [] (.ok [a0, a1, a2, a3, a4, a5, a6, a7] L) = m [a0, a1, a2, a3, a4, a5, a6, a7] L := (rfl)
theorem avQ  : kmk 1 m [] (.ok [] L) = m [] L := (rfl)
theorem awQ  {b0 : D} : kmk 2 m [b0] (.ok [] L) = m [b0] L := (rfl)
theorem axQ  {b0 b1 : D} : kmk 3 m [b0, b1] (.ok [] L) = m [b0, b1] L := (rfl)
theorem ayQ  {a0 : D} : kmk 2 m [] (.ok [a0] L) = m [a0] L := (rfl)
theorem azQ  {a0 : D} {b0 : D} : kmk 3 m [b0] (.ok [a0] L) = m [a0, b0] L := (rfl)
theorem aAQ  {a0 : D} {b0 b1 : D} : kmk 4 m [b0, b1] (.ok [a0] L) = m [a0, b0, b1] L := (rfl)
theorem aBQ  {a0 a1 : D} : kmk 3 m [] (.ok [a0, a1] L) = m [a0, a1] L := (rfl)
theorem aCQ  {a0 a1 : D} {b0 : D} : kmk 4 m [b0] (.ok [a0, a1] L) = m [a0, a1, b0] L := (rfl)
theorem aDQ  {a0 a1 : D} {b0 b1 : D} : kmk 5 m [b0, b1] (.ok [a0, a1] L) = m [a0, a1, b0, b1] L := (rfl)
theorem aEQ  {a0 a1 a2 : D} : kmk 4 m [] (.ok [a0, a1, a2] L) = m [a0, a1, a2] L := (rfl)
theorem aFQ  {a0 a1 a2 : D} {b0 : D} : kmk 5 m [b0] (.ok [a0, a1, a2] L) = m [a0, a1, a2, b0] L := (rfl)
theorem aGQ  {a0 a1 a2 : D} {b0 b1 : D} : kmk 6 m [b0, b1] (.ok [a0, a1, a2] L) = m [a0, a1, a2, b0, b1] L := (rfl)
theorem aHQ  {a0 a1 a2 a3 : D} : kmk 5 m [] (.ok [a0, a1, a2, a3] L) = m [a0, a1, a2, a3] L := (rfl)
theorem aIQ  {a0 a1 a2 a3 : D} {b0 : D} : kmk 6 m [b0] (.ok [a0, a1, a2, a3] L) = m [a0, a1, a2, a3, b0] L := (rfl)
theorem aJQ  {a0 a1 a2 a3 : D} {b0 b1 : D} : kmk 7 m [b0, b1] (.ok [a0, a1, a2, a3] L) = m [a0, a1, a2, a3, b0, b1] L := (rfl)
theorem aKQ : eMk n m dd fl ρ L = kmk n m dd (fl ρ L) := (rfl)
theorem aLQ : sSet i fa ρ L = kset i ρ (fa ρ L) := (rfl)
theorem aMQ : kset i ρ (.ok d L) = .nx (ρ.set i (some d)) L := (rfl)
theorem aNQ : sSeq f g ρ L = kseq g (f ρ L) := by unfold sSeq kseq; cases f ρ L <;> rfl
theorem aOQ : kseq g (.nx ρ L) = g ρ L := (rfl)
theorem aPQ : kseq g (.rt d L) = .rt d L := (rfl)
theorem aQQ : kseq g (.err cl p ρ L) = .err cl p ρ L := (rfl)
theorem aRQ {P : Prop} [Decidable P] {x y : SRes} : kseq g (if P then x else y) = if P then kseq g x else kseq g y := by split <;> rfl
theorem aSQ : sIf t f g ρ L = kif f g ρ (t ρ L) := (rfl)
theorem aTQ : kif f g ρ (.ok b L) = if b = true then f ρ L else g ρ L := (rfl)
theorem aUQ : sExpr fa ρ L = kexp ρ (fa ρ L) := (rfl)
theorem aVQ : kexp ρ (.ok d L) = .nx ρ L := (rfl)
theorem aWQ : sRet fa ρ L = kret ρ (fa ρ L) := (rfl)
theorem aXQ : kret ρ (.ok d L) = .rt d L := (rfl)
theorem aYQ : sRetN ρ L = .rt .non L := (rfl)
theorem aZQ : sSkip ρ L = .nx ρ L := (rfl)
theorem baQ : tTru fa ρ L = ktru (fa ρ L) := (rfl)
theorem bbQ : ktru (.ok (.bl b) L) = .ok b L := (rfl)
theorem bcQ : tNotF t ρ L = knot (t ρ L) := (rfl)
theorem bdQ : knot (.ok b L) = .ok (!b) L := (rfl)
theorem beQ : tOrF t u ρ L = kor u ρ (t ρ L) := (rfl)
theorem bfQ : kor u ρ (.ok b L) = if b = true then .ok true L else u ρ L := (rfl)
theorem bgQ : tAndF t u ρ L = kand u ρ (t ρ L) := (rfl)
theorem bhQ : kand u ρ (.ok b L) = if b = true then u ρ L else .ok false L := (rfl)
theorem biQ : (if b = true then Res.ok true L else Res.ok c L) = Res.ok (b || c) L := by cases b <;> rfl
theorem bjQ : (if b = true then Res.ok c L else Res.ok false L) = Res.ok (b && c) L := by cases b <;> rfl
theorem bkQ : (if b = true then Res.ok (D.bl true) L else Res.ok (D.bl c) L) = Res.ok (D.bl (b || c)) L := by cases b <;> rfl
theorem blQ : (if b = true then Res.ok (D.bl c) L else Res.ok (D.bl false) L) = Res.ok (D.bl (b && c)) L := by cases b <;> rfl
theorem bmQ : eIf t fa fb ρ L = keif fa fb ρ (t ρ L) := (rfl)
theorem bnQ : keif fa fb ρ (.ok b L) = if b = true then fa ρ L else fb ρ L := (rfl)
theorem boQ : eAndF fa fb ρ L = keand fb ρ (fa ρ L) := (rfl)
theorem bpQ : keand fb ρ (.ok (.bl b) L) = if b = true then fb ρ L else .ok (.bl false) L := (rfl)
theorem bqQ : eOrF fa fb ρ L = keor fb ρ (fa ρ L) := (rfl)
theorem brQ : keor fb ρ (.ok (.bl b) L) = if b = true then .ok (.bl true) L else fb ρ L := (rfl)
theorem bsQ : eNotF fa ρ L = kenot (fa ρ L) := (rfl)
theorem btQ : kenot (.ok (.bl b) L) = .ok (.bl (!b)) L := (rfl)
theorem buQ : asB (.ok (.bl b) L) = .ok b L := (rfl)
theorem bvQ : tTrue ρ L = .ok true L := (rfl)
theorem bwQ : eC d ρ L = .ok d L := (rfl)
theorem bxQ : eTup fl ρ L = ktup (fl ρ L) := (rfl)
theorem byQ : eTupG fl ρ L = ktupG (fl ρ L) := (rfl)
theorem bzQ {bx : Bool} : eLst bx fl ρ L = klst bx (fl ρ L) := (rfl)
theorem bAQ  : ktup (.ok [] L) = .ok (.tup []) L := if_pos (e := Res.bad) (show 0 ≤ 16777216 by decide)
theorem bBQ  : ktupG (.ok [] L) = .ok (.tg []) L := if_pos (e := Res.bad) (show 0 ≤ 16777216 by decide)
theorem bCQ  : klst false (.ok [] L) = .ok (.lst []) L := if_pos (e := Res.bad) (show 0 ≤ 16777216 by decide)
theorem bDQ  : klst true (.ok [] L) = .ok (.loc L.length) (L ++ [.lst []]) := if_pos (e := Res.bad) (show 0 ≤ 16777216 by decide)
theorem bEQ  {a0 : D} : ktup (.ok [a0] L) = .ok (.tup [a0]) L := if_pos (e := Res.bad) (show 1 ≤ 16777216 by decide)
theorem bFQ  {a0 : D} : ktupG (.ok [a0] L) = .ok (.tg [a0]) L := if_pos (e := Res.bad) (show 1 ≤ 16777216 by decide)
theorem bGQ  {a0 : D} : klst false (.ok [a0] L) = .ok (.lst [a0]) L := if_pos (e := Res.bad) (show 1 ≤ 16777216 by decide)
theorem bHQ  {a0 : D} : klst true (.ok [a0] L) = .ok (.loc L.length) (L ++ [.lst [a0]]) := if_pos (e := Res.bad) (show 1 ≤ 16777216 by decide)
theorem bIQ  {a0 a1 : D} : ktup (.ok [a0, a1] L) = .ok (.tup [a0, a1]) L := if_pos (e := Res.bad) (show 2 ≤ 16777216 by decide)
theorem bJQ  {a0 a1 : D} : ktupG (.ok [a0, a1] L) = .ok (.tg [a0, a1]) L := if_pos (e := Res.bad) (show 2 ≤ 16777216 by decide)
theorem bKQ  {a0 a1 : D} : klst false (.ok [a0, a1] L) = .ok (.lst [a0, a1]) L := if_pos (e := Res.bad) (show 2 ≤ 16777216 by decide)
theorem bLQ  {a0 a1 : D} : klst true (.ok [a0, a1] L) = .ok (.loc L.length) (L ++ [.lst [a0, a1]]) := if_pos (e := Res.bad) (show 2 ≤ 16777216 by decide)
theorem bMQ  {a0 a1 a2 : D} : ktup (.ok [a0, a1, a2] L) = .ok (.tup [a0, a1, a2]) L := if_pos (e := Res.bad) (show 3 ≤ 16777216 by decide)
theorem bNQ  {a0 a1 a2 : D} : ktupG (.ok [a0, a1, a2] L) = .ok (.tg [a0, a1, a2]) L := if_pos (e := Res.bad) (show 3 ≤ 16777216 by decide)
theorem bOQ  {a0 a1 a2 : D} : klst false (.ok [a0, a1, a2] L) = .ok (.lst [a0, a1, a2]) L := if_pos (e := Res.bad) (show 3 ≤ 16777216 by decide)
theorem bPQ  {a0 a1 a2 : D} : klst true (.ok [a0, a1, a2] L) = .ok (.loc L.length) (L ++ [.lst [a0, a1, a2]]) := if_pos (e := Res.bad) (show 3 ≤ 16777216 by decide)
theorem bQQ  {a0 a1 a2 a3 : D} : ktup (.ok [a0, a1, a2, a3] L) = .ok (.tup [a0, a1, a2, a3]) L := if_pos (e := Res.bad) (show 4 ≤ 16777216 by decide)
theorem bRQ  {a0 a1 a2 a3 : D} : ktupG (.ok [a0, a1, a2, a3] L) = .ok (.tg [a0, a1, a2, a3]) L := if_pos (e := Res.bad) (show 4 ≤ 16777216 by decide)
theorem bSQ  {a0 a1 a2 a3 : D} : klst false (.ok [a0, a1, a2, a3] L) = .ok (.lst [a0, a1, a2, a3]) L := if_pos (e := Res.bad) (show 4 ≤ 16777216 by decide)
theorem bTQ  {a0 a1 a2 a3 : D} : klst true (.ok [a0, a1, a2, a3] L) = .ok (.loc L.length) (L ++ [.lst [a0, a1, a2, a3]]) := if_pos (e := Res.bad) (show 4 ≤ 16777216 by decide)
theorem bUQ  {a0 a1 a2 a3 a4 : D} : ktup (.ok [a0, a1, a2, a3, a4] L) = .ok (.tup [a0, a1, a2, a3, a4]) L := if_pos (e := Res.bad) (show 5 ≤ 16777216 by decide)
theorem bVQ  {a0 a1 a2 a3 a4 : D} : ktupG (.ok [a0, a1, a2, a3, a4] L) = .ok (.tg [a0, a1, a2, a3, a4]) L := if_pos (e := Res.bad) (show 5 ≤ 16777216 by decide)
theorem bWQ  {a0 a1 a2 a3 a4 : D} : klst false (.ok [a0, a1, a2, a3, a4] L) = .ok (.lst [a0, a1, a2, a3, a4]) L := if_pos (e := Res.bad) (show 5 ≤ 16777216 by decide)
theorem bXQ  {a0 a1 a2 a3 a4 : D} : klst true (.ok [a0, a1, a2, a3, a4] L) = .ok (.loc L.length) (L ++ [.lst [a0, a1, a2, a3, a4]]) := if_pos (e := Res.bad) (show 5 ≤ 16777216 by decide)
theorem bYQ  {a0 a1 a2 a3 a4 a5 : D} : ktup (.ok [a0, a1, a2, a3, a4, a5] L) = .ok (.tup [a0, a1, a2, a3, a4, a5]) L := if_pos (e := Res.bad) (show 6 ≤ 16777216 by decide)
theorem bZQ  {a0 a1 a2 a3 a4 a5 : D} : ktupG (.ok [a0, a1, a2, a3, a4, a5] L) = .ok (.tg [a0, a1, a2, a3, a4, a5]) L := if_pos (e := Res.bad) (show 6 ≤ 16777216 by decide)
theorem caQ  {a0 a1 a2 a3 a4 a5 : D} : klst false (.ok [a0, a1, a2, a3, a4, a5] L) = .ok (.lst [a0, a1, a2, a3, a4, a5]) L := if_pos (e := Res.bad) (show 6 ≤ 16777216 by decide)
theorem cbQ  {a0 a1 a2 a3 a4 a5 : D} : klst true (.ok [a0, a1, a2, a3, a4, a5] L) = .ok (.loc L.length) (L ++ [.lst [a0, a1, a2, a3, a4, a5]]) := if_pos (e := Res.bad) (show 6 ≤ 16777216 by decide)
theorem ccQ  {a0 a1 a2 a3 a4 a5 a6 : D} : ktup (.ok [a0, a1, a2, a3, a4, a5, a6] L) = .ok (.tup [a0, a1, a2, a3, a4, a5, a6]) L := if_pos (e := Res.bad) (show 7 ≤ 16777216 by decide)
theorem cdQ  {a0 a1 a2 a3 a4 a5 a6 : D} : ktupG (.ok [a0, a1, a2, a3, a4, a5, a6] L) = .ok (.tg [a0, a1, a2, a3, a4, a5, a6]) L := if_pos (e := Res.bad) (show 7 ≤ 16777216 by decide)
theorem ceQ  {a0 a1 a2 a3 a4 a5 a6 : D} : klst false (.ok [a0, a1, a2, a3, a4, a5, a6] L) = .ok (.lst [a0, a1, a2, a3, a4, a5, a6]) L := if_pos (e := Res.bad) (show 7 ≤ 16777216 by decide)
theorem cfQ  {a0 a1 a2 a3 a4 a5 a6 : D} : klst true (.ok [a0, a1, a2, a3, a4, a5, a6] L) = .ok (.loc L.length) (L ++ [.lst [a0, a1, a2, a3, a4, a5, a6]]) := if_pos (e := Res.bad) (show 7 ≤ 16777216 by decide)
theorem cgQ  {a0 a1 a2 a3 a4 a5 a6 a7 : D} : ktup (.ok [a0, a1, a2, a3, a4, a5, a6, a7] L) = .ok (.tup [a0, a1, a2, a3, a4, a5, a6, a7]) L := if_pos (e := Res.bad) (show 8 ≤ 16777216 by decide)
theorem chQ  {a0 a1 a2 a3 a4 a5 a6 a7 : D} : ktupG (.ok [a0, a1, a2, a3, a4, a5, a6, a7] L) = .ok (.tg [a0, a1, a2, a3, a4, a5, a6, a7]) L := if_pos (e := Res.bad) (show 8 ≤ 16777216 by decide)
theorem ciQ  {a0 a1 a2 a3 a4 a5 a6 a7 : D} : klst false (.ok [a0, a1, a2, a3, a4, a5, a6, a7] L) = .ok (.lst [a0, a1, a2, a3, a4, a5, a6, a7]) L := if_pos (e := Res.bad) (show 8 ≤ 16777216 by decide)
theorem cjQ  {a0 a1 a2 a3 a4 a5 a6 a7 : D} : klst true (.ok [a0, a1, a2, a3, a4, a5, a6, a7] L) = .ok (.loc L.length) (L ++ [.lst [a0, a1, a2, a3, a4, a5, a6, a7]]) := if_pos (e := Res.bad) (show 8 ≤ 16777216 by decide)
theorem ckQ  {a0 a1 a2 a3 a4 a5 a6 a7 a8 : D} : ktup (.ok [a0, a1, a2, a3, a4, a5, a6, a7, a8] L) = .ok (.tup [a0, a1, a2, a3, a4, a5, a6, a7, a8]) L := if_pos (e := Res.bad) (show 9 ≤ 16777216 by decide)
theorem clQ  {a0 a1 a2 a3 a4 a5 a6 a7 a8 : D} : ktupG (.ok [a0, a1, a2, a3, a4, a5, a6, a7, a8] L) = .ok (.tg [a0, a1, a2, a3, a4, a5, a6, a7, a8]) L := if_pos (e := Res.bad) (show 9 ≤ 16777216 by decide)
theorem cmQ  {a0 a1 a2 a3 a4 a5 a6 a7 a8 : D} : klst false (.ok [a0, a1, a2, a3, a4, a5, a6, a7, a8] L) = .ok (.lst [a0, a1, a2, a3, a4, a5, a6, a7, a8]) L := if_pos (e := Res.bad) (show 9 ≤ 16777216 by decide)
theorem cnQ  {a0 a1 a2 a3 a4 a5 a6 a7 a8 : D} : klst true (.ok [a0, a1, a2, a3, a4, a5, a6, a7, a8] L) = .ok (.loc L.length) (L ++ [.lst [a0, a1, a2, a3, a4, a5, a6, a7, a8]]) := if_pos (e := Res.bad) (show 9 ≤ 16777216 by decide)
theorem coQ  {a0 a1 a2 a3 a4 a5 a6 a7 a8 a9 : D} : ktup (.ok [a0, a1, a2, a3, a4, a5, a6, a7, a8, a9] L) = .ok (.tup [a0, a1, a2, a3, a4, a5, a6, a7, a8, a9]) L := if_pos (e := Res.bad) (show 10 ≤ 16777216 by decide)
theorem cpQ  {a0 a1 a2 a3 a4 a5 a6 a7 a8 a9 : D} : ktupG (.ok [a0, a1, a2, a3, a4, a5, a6, a7, a8, a9] L) = .ok (.tg [a0, a1, a2, a3, a4, a5, a6, a7, a8, a9]) L := if_pos (e := Res.bad) (show 10 ≤ 16777216 by decide)
theorem cqQ  {a0 a1 a2 a3 a4 a5 a6 a7 a8 a9 : D} : klst false (.ok [a0, a1, a2, a3, a4, a5, a6, a7, a8, a9] L) = .ok (.lst [a0, a1, a2, a3, a4, a5, a6, a7, a8, a9]) L := if_pos (e := Res.bad) (show 10 ≤ 16777216 by decide)
theorem crQ  {a0 a1 a2 a3 a4 a5 a6 a7 a8 a9 : D} : klst true (.ok [a0, a1, a2, a3, a4, a5, a6, a7, a8, a9] L) = .ok (.loc L.length) (L ++ [.lst [a0, a1, a2, a3, a4, a5, a6, a7, a8, a9]]) := if_pos (e := Res.bad) (show 10 ≤ 16777216 by decide)
theorem csQ  {a0 a1 a2 a3 a4 a5 a6 a7 a8 a9 a10 : D} : ktup (.ok [a0, a1, a2, a3, a4, a5, a6, a7, a8, a9, a10] L) = .ok (.tup [a0, a1, a2, a3, a4, a5, a6, a7, a8, a9, a10]) L := if_pos (e := Res.bad) (show 11 ≤ 16777216 by decide)
theorem ctQ  {a0 a1 a2 a3 a4 a5 a6 a7 a8 a9 a10 : D} : ktupG (.ok [a0, a1, a2, a3, a4, a5, a6, a7, a8, a9, a10] L) = .ok (.tg [a0, a1, a2, a3, a4, a5, a6, a7, a8, a9, a10]) L := if_pos (e := Res.bad) (show 11 ≤ 16777216 by decide)
theorem cuQ  {a0 a1 a2 a3 a4 a5 a6 a7 a8 a9 a10 : D} : klst false (.ok [a0, a1, a2, a3, a4, a5, a6, a7, a8, a9, a10] L) = .ok (.lst [a0, a1, a2, a3, a4, a5, a6, a7, a8, a9, a10]) L := if_pos (e := Res.bad) (show 11 ≤ 16777216 by decide)
theorem cvQ  {a0 a1 a2 a3 a4 a5 a6 a7 a8 a9 a10 : D} : klst true (.ok [a0, a1, a2, a3, a4, a5, a6, a7, a8, a9, a10] L) = .ok (.loc L.length) (L ++ [.lst [a0, a1, a2, a3, a4, a5, a6, a7, a8, a9, a10]]) := if_pos (e := Res.bad) (show 11 ≤ 16777216 by decide)
theorem cwQ  {a0 a1 a2 a3 a4 a5 a6 a7 a8 a9 a10 a11 : D} : ktup (.ok [a0, a1, a2, a3, a4, a5, a6, a7, a8, a9, a10, a11] L) = .ok (.tup [a0, a1, a2, a3, a4, a5, a6, a7, a8, a9, a10, a11]) L := if_pos (e := Res.bad) (show 12 ≤ 16777216 by decide)
theorem cxQ  {a0 a1 a2 a3 a4 a5 a6 a7 a8 a9 a10 a11 : D} : ktupG (.ok [a0, a1, a2, a3, a4, a5, a6, a7, a8, a9, a10, a11] L) = .ok (.tg [a0, a1, a2, a3, a4, a5, a6, a7, a8, a9, a10, a11]) L := if_pos (e := Res.bad) (show 12 ≤ 16777216 by decide)
theorem cyQ  {a0 a1 a2 a3 a4 a5 a6 a7 a8 a9 a10 a11 : D} : klst false (.ok [a0, a1, a2, a3, a4, a5, a6, a7, a8, a9, a10, a11] L) = .ok (.lst [a0, a1, a2, a3, a4, a5, a6, a7, a8, a9, a10, a11]) L := if_pos (e := Res.bad) (show 12 ≤ 16777216 by decide)
theorem czQ  {a0 a1 a2 a3 a4 a5 a6 a7 a8 a9 a10 a11 : D} : klst true (.ok [a0, a1, a2, a3, a4, a5, a6, a7, a8, a9, a10, a11] L) = .ok (.loc L.length) (L ++ [.lst [a0, a1, a2, a3, a4, a5, a6, a7, a8, a9, a10, a11]]) := if_pos (e := Res.bad) (show 12 ≤ 16777216 by decide)
theorem cAQ  {a0 a1 a2 a3 a4 a5 a6 a7 a8 a9 a10 a11 a12 : D} : ktup (.ok [a0, a1, a2, a3, a4, a5, a6, a7, a8, a9, a10, a11, a12] L) = .ok (.tup [a0, a1, a2, a3, a4, a5, a6, a7, a8, a9, a10, a11, a12]) L := if_pos (e := Res.bad) (show 13 ≤ 16777216 by decide)
theorem cBQ  {a0 a1 a2 a3 a4 a5 a6 a7 a8 a9 a10 a11 a12 : D} : ktupG (.ok [a0, a1, a2, a3, a4, a5, a6, a7, a8, a9, a10, a11, a12] L) = .ok (.tg [a0, a1, a2, a3, a4, a5, a6, a7, a8, a9, a10, a11, a12]) L := if_pos (e := Res.bad) (show 13 ≤ 16777216 by decide)
theorem cCQ  {a0 a1 a2 a3 a4 a5 a6 a7 a8 a9 a10 a11 a12 : D} : klst false (.ok [a0, a1, a2, a3, a4, a5, a6, a7, a8, a9, a10, a11, a12] L) = .ok (.lst [a0, a1, a2, a3, a4, a5, a6, a7, a8, a9, a10, a11, a12]) L := if_pos (e := Res.bad) (show 13 ≤ 16777216 by decide)
theorem cDQ  {a0 a1 a2 a3 a4 a5 a6 a7 a8 a9 a10 a11 a12 : D} : klst true (.ok [a0, a1, a2, a3, a4, a5, a6, a7, a8, a9, a10, a11, a12] L) = .ok (.loc L.length) (L ++ [.lst [a0, a1, a2, a3, a4, a5, a6, a7, a8, a9, a10, a11, a12]]) := if_pos (e := Res.bad) (show 13 ≤ 16777216 by decide)
theorem cEQ  {a0 a1 a2 a3 a4 a5 a6 a7 a8 a9 a10 a11 a12 a13 : D} : ktup (.ok [a0, a1, a2, a3, a4, a5, a6, a7, a8, a9, a10, a11, a12, a13] L) = .ok (.tup [a0, a1, a2, a3, a4, a5, a6, a7, a8, a9, a10, a11, a12, a13]) L := if_pos (e := Res.bad) (show 14 ≤ 16777216 by decide)
theorem cFQ  {a0 a1 a2 a3 a4 a5 a6 a7 a8 a9 a10 a11 a12 a13 : D} : ktupG (.ok [a0, a1, a2, a3, a4, a5, a6, a7, a8, a9, a10, a11, a12, a13] L) = .ok (.tg [a0, a1, a2, a3, a4, a5, a6, a7, a8, a9, a10, a11, a12, a13]) L := if_pos (e := Res.bad) (show 14 ≤ 16777216 by decide)
theorem cGQ  {a0 a1 a2 a3 a4 a5 a6 a7 a8 a9 a10 a11 a12 a13 : D} : klst false (.ok [a0, a1, a2, a3, a4, a5, a6, a7, a8, a9, a10, a11, a12, a13] L) = .ok (.lst [a0, a1, a2, a3, a4, a5, a6, a7, a8, a9, a10, a11, a12, a13]) L := if_pos (e := Res.bad) (show 14 ≤ 16777216 by decide)
theorem cHQ  {a0 a1 a2 a3 a4 a5 a6 a7 a8 a9 a10 a11 a12 a13 : D} : klst true (.ok [a0, a1, a2, a3, a4, a5, a6, a7, a8, a9, a10, a11, a12, a13] L) = .ok (.loc L.length) (L ++ [.lst [a0, a1, a2, a3, a4, a5, a6, a7, a8, a9, a10, a11, a12, a13]]) := if_pos (e := Res.bad) (show 14 ≤ 16777216 by decide)
theorem cIQ  {a0 a1 a2 a3 a4 a5 a6 a7 a8 a9 a10 a11 a12 a13 a14 : D} : ktup (.ok [a0, a1, a2, a3, a4, a5, a6, a7, a8, a9, a10, a11, a12, a13, a14] L) = .ok (.tup [a0, a1, a2, a3, a4, a5, a6, a7, a8, a9, a10, a11, a12, a13, a14]) L := if_pos (e := Res.bad) (show 15 ≤ 16777216 by decide)
theorem cJQ  {a0 a1 a2 a3 a4 a5 a6 a7 a8 a9 a10 a11 a12 a13 a14 : D} : ktupG (.ok [a0, a1, a2, a3, a4, a5, a6, a7, a8, a9, a10, a11, a12, a13, a14] L) = .ok (.tg [a0, a1, a2, a3, a4, a5, a6, a7, a8, a9, a10, a11, a12, a13, a14]) L := if_pos (e := Res.bad) (show 15 ≤ 16777216 by decide)
theorem cKQ  {a0 a1 a2 a3 a4 a5 a6 a7 a8 a9 a10 a11 a12 a13 a14 : D} : klst false (.ok [a0, a1, a2, a3, a4, a5, a6, a7, a8, a9, a10, a11, a12, a13, a14] L) = .ok (.lst [a0, a1, a2, a3, a4, a5, a6, a7, a8, a9, a10, a11, a12, a13, a14]) L := if_pos (e := Res.bad) (show 15 ≤ 16777216 by decide)
theorem cLQ  {a0 a1 a2 a3 a4 a5 a6 a7 a8 a9 a10 a11 a12 a13 a14 : D} : klst true (.ok [a0, a1, a2, a3, a4, a5, a6, a7, a8, a9, a10, a11, a12, a13, a14] L) = .ok (.loc L.length) (L ++ [.lst [a0, a1, a2, a3, a4, a5, a6, a7, a8, a9, a10, a11, a12, a13, a14]]) := if_pos (e := Res.bad) (show 15 ≤ 16777216 by decide)
theorem cMQ  {a0 a1 a2 a3 a4 a5 a6 a7 a8 a9 a10 a11 a12 a13 a14 a15 : D} : ktup (.ok [a0, a1, a2, a3, a4, a5, a6, a7, a8, a9, a10, a11, a12, a13, a14, a15] L) = .ok (.tup [a0, a1, a2, a3, a4, a5, a6, a7, a8, a9, a10, a11, a12, a13, a14, a15]) L := if_pos (e := Res.bad) (show 16 ≤ 16777216 by decide)
theorem cNQ  {a0 a1 a2 a3 a4 a5 a6 a7 a8 a9 a10 a11 a12 a13 a14 a15 : D} : ktupG (.ok [a0, a1, a2, a3, a4, a5, a6, a7, a8, a9, a10, a11, a12, a13, a14, a15] L) = .ok (.tg [a0, a1, a2, a3, a4, a5, a6, a7, a8, a9, a10, a11, a12, a13, a14, a15]) L := if_pos (e := Res.bad) (show 16 ≤ 16777216 by decide)
theorem cOQ  {a0 a1 a2 a3 a4 a5 a6 a7 a8 a9 a10 a11 a12 a13 a14 a15 : D} : klst false (.ok [a0, a1, a2, a3, a4, a5, a6, a7, a8, a9, a10, a11, a12, a13, a14, a15] L) = .ok (.lst [a0, a1, a2, a3, a4, a5, a6, a7, a8, a9, a10, a11, a12, a13, a14, a15]) L := if_pos (e := Res.bad) (show 16 ≤ 16777216 by decide)
theorem cPQ  {a0 a1 a2 a3 a4 a5 a6 a7 a8 a9 a10 a11 a12 a13 a14 a15 : D} : klst true (.ok [a0, a1, a2, a3, a4, a5, a6, a7, a8, a9, a10, a11, a12, a13, a14, a15] L) = .ok (.loc L.length) (L ++ [.lst [a0, a1, a2, a3, a4, a5, a6, a7, a8, a9, a10, a11, a12, a13, a14, a15]]) := if_pos (e := Res.bad) (show 16 ≤ 16777216 by decide)
theorem cQQ : sPut fa fo fi ρ L = kput fo fi ρ (fa ρ L) := (rfl)
theorem cRQ : kput fo fi ρ (.ok d L) = kput2 d fi ρ (fo ρ L) := (rfl)
theorem cSQ : kput2 e fi ρ (.ok d L) = kput3 e d ρ (fi ρ L) := (rfl)
theorem cTQ {x : D} : kput3 e d ρ (.ok x L) = kput4 ρ (putAt d x e L) := (rfl)
theorem cUQ : kput4 ρ (some L) = .nx ρ L := (rfl)
theorem cVQ : sFldPut cl fn fa fo ρ L = kfp cl fn fo ρ (fa ρ L) := (rfl)
theorem cWQ : kfp cl fn fo ρ (.ok d L) = kfp2 cl fn d ρ (fo ρ L) := (rfl)
theorem cXQ : kfp2 cl fn e ρ (.ok d L) = kput4 ρ (gFldPut cl fn e d L) := (rfl)
theorem cYQ : sAsg fa tg ρ L = kasg tg ρ (fa ρ L) := (rfl)
theorem cZQ : kasg tg ρ (.ok d L) = kasg2 L (tg d ρ) := (rfl)
theorem daQ : kasg2 L (some ρ1) = .nx ρ1 L := (rfl)
theorem dbQ : sPar i j fl ρ L = kpar i j ρ (fl ρ L) := by unfold sPar kpar; rfl
theorem dcQ : kpar i j ρ (.ok [d, e] L) = .nx ((ρ.set i (some d)).set j (some e)) L := (rfl)
theorem ddQ : eFld cl fn fa ρ L = k1 (gFld cl fn) (fa ρ L) := (rfl)
theorem deQ : eBm fo fl gb ρ L = kbm fl gb ρ (fo ρ L) := (rfl)
theorem dfQ (h : isL L d = true) : kbm fl gb ρ (.ok d L) = kbm2 gb d (fl ρ L) := if_pos h
theorem dgQ : kbm2 gb d (.ok ds L) = gb d ds L := (rfl)
theorem dhQ : gSet i d ρ = some (ρ.set i (some d)) := (rfl)
theorem diQ : fin (.rt d L) = .ok d L := (rfl)
theorem djQ : fin (.nx ρ L) = .ok .non L := (rfl)
theorem dkQ : fin (.err cl p ρ L) = .err cl p L := (rfl)
theorem dlQ {P : Prop} [Decidable P] {x y : SRes} : fin (if P then x else y) = if P then fin x else fin y := by split <;> rfl
theorem dmQ  : eVar 0 (some d :: ρ) L = .ok d L := (rfl)
theorem dnQ  {a0 x : Option D} : List.set (a0 :: ρ) 0 x = x :: ρ := (rfl)
theorem doQ  {a0 : Option D} : eVar 1 (a0 :: some d :: ρ) L = .ok d L := (rfl)
theorem dpQ  {a0 a1 x : Option D} : List.set (a0 :: a1 :: ρ) 1 x = a0 :: x :: ρ := (rfl)
theorem dqQ  {a0 a1 : Option D} : eVar 2 (a0 :: a1 :: some d :: ρ) L = .ok d L := (rfl)
theorem drQ  {a0 a1 a2 x : Option D} : List.set (a0 :: a1 :: a2 :: ρ) 2 x = a0 :: a1 :: x :: ρ := (rfl)
theorem dsQ  {a0 a1 a2 : Option D} : eVar 3 (a0 :: a1 :: a2 :: some d :: ρ) L = .ok d L := (rfl)
theorem dtQ  {a0 a1 a2 a3 x : Option D} : List.set (a0 :: a1 :: a2 :: a3 :: ρ) 3 x = a0 :: a1 :: a2 :: x :: ρ := (rfl)
theorem duQ  {a0 a1 a2 a3 : Option D} : eVar 4 (a0 :: a1 :: a2 :: a3 :: some d :: ρ) L = .ok d L := (rfl)
theorem dvQ  {a0 a1 a2 a3 a4 x : Option D} : List.set (a0 :: a1 :: a2 :: a3 :: a4 :: ρ) 4 x = a0 :: a1 :: a2 :: a3 :: x :: ρ := (rfl)
theorem dwQ  {a0 a1 a2 a3 a4 : Option D} : eVar 5 (a0 :: a1 :: a2 :: a3 :: a4 :: some d :: ρ) L = .ok d L := (rfl)
theorem dxQ  {a0 a1 a2 a3 a4 a5 x : Option D} : List.set (a0 :: a1 :: a2 :: a3 :: a4 :: a5 :: ρ) 5 x = a0 :: a1 :: a2 :: a3 :: a4 :: x :: ρ := (rfl)
theorem dyQ  {a0 a1 a2 a3 a4 a5 : Option D} : eVar 6 (a0 :: a1 :: a2 :: a3 :: a4 :: a5 :: some d :: ρ) L = .ok d L := (rfl)
theorem dzQ  {a0 a1 a2 a3 a4 a5 a6 x : Option D} : List.set (a0 :: a1 :: a2 :: a3 :: a4 :: a5 :: a6 :: ρ) 6 x = a0 :: a1 :: a2 :: a3 :: a4 :: a5 :: x :: ρ := (rfl)
theorem dAQ  {a0 a1 a2 a3 a4 a5 a6 : Option D} : eVar 7 (a0 :: a1 :: a2 :: a3 :: a4 :: a5 :: a6 :: some d :: ρ) L = .ok d L := (rfl)
theorem dBQ  {a0 a1 a2 a3 a4 a5 a6 a7 x : Option D} : List.set (a0 :: a1 :: a2 :: a3 :: a4 :: a5 :: a6 :: a7 :: ρ) 7 x = a0 :: a1 :: a2 :: a3 :: a4 :: a5 :: a6 :: x :: ρ := (rfl)
theorem dCQ  {a0 a1 a2 a3 a4 a5 a6 a7 : Option D} : eVar 8 (a0 :: a1 :: a2 :: a3 :: a4 :: a5 :: a6 :: a7 :: some d :: ρ) L = .ok d L := (rfl)
theorem dDQ  {a0 a1 a2 a3 a4 a5 a6 a7 a8 x : Option D} : List.set (a0 :: a1 :: a2 :: a3 :: a4 :: a5 :: a6 :: a7 :: a8 :: ρ) 8 x = a0 :: a1 :: a2 :: a3 :: a4 :: a5 :: a6 :: a7 :: x :: ρ := (rfl)
theorem dEQ  {a0 a1 a2 a3 a4 a5 a6 a7 a8 : Option D} : eVar 9 (a0 :: a1 :: a2 :: a3 :: a4 :: a5 :: a6 :: a7 :: a8 :: some d :: ρ) L = .ok d L := (rfl)
theorem dFQ  {a0 a1 a2 a3 a4 a5 a6 a7 a8 a9 x : Option D} : List.set (a0 :: a1 :: a2 :: a3 :: a4 :: a5 :: a6 :: a7 :: a8 :: a9 :: ρ) 9 x = a0 :: a1 :: a2 :: a3 :: a4 :: a5 :: a6 :: a7 :: a8 :: x :: ρ := (rfl)
theorem dGQ  {a0 a1 a2 a3 a4 a5 a6 a7 a8 a9 : Option D} : eVar 10 (a0 :: a1 :: a2 :: a3 :: a4 :: a5 :: a6 :: a7 :: a8 :: a9 :: some d :: ρ) L = .ok d L := (rfl)
theorem dHQ  {a0 a1 a2 a3 a4 a5 a6 a7 a8 a9 a10 x : Option D} : List.set (a0 :: a1 :: a2 :: a3 :: a4 :: a5 :: a6 :: a7 :: a8 :: a9 :: a10 :: ρ) 10 x = a0 :: a1 :: a2 :: a3 :: a4 :: a5 :: a6 :: a7 :: a8 :: a9 :: x :: ρ := (rfl)
theorem dIQ  {a0 a1 a2 a3 a4 a5 a6 a7 a8 a9 a10 : Option D} : eVar 11 (a0 :: a1 :: a2 :: a3 :: a4 :: a5 :: a6 :: a7 :: a8 :: a9 :: a10 :: some d :: ρ) L = .ok d L := (rfl)
theorem dJQ  {a0 a1 a2 a3 a4 a5 a6 a7 a8 a9 a10 a11 x : Option D} : List.set (a0 :: a1 :: a2 :: a3 :: a4 :: a5 :: a6 :: a7 :: a8 :: a9 :: a10 :: a11 :: ρ) 11 x = a0 :: a1 :: a2 :: a3 :: a4 :: a5 :: a6 :: a7 :: a8 :: a9 :: a10 :: x :: ρ := (rfl)
theorem dKQ  {a0 a1 a2 a3 a4 a5 a6 a7 a8 a9 a10 a11 : Option D} : eVar 12 (a0 :: a1 :: a2 :: a3 :: a4 :: a5 :: a6 :: a7 :: a8 :: a9 :: a10 :: a11 :: some d :: ρ) L = .ok d L := (rfl)
theorem dLQ  {a0 a1 a2 a3 a4 a5 a6 a7 a8 a9 a10 a11 a12 x : Option D} : List.set (a0 :: a1 :: a2 :: a3 :: a4 :: a5 :: a6 :: a7 :: a8 :: a9 :: a10 :: a11 :: a12 :: ρ) 12 x = a0 :: a1 :: a2 :: a3 :: a4 :: a5 :: a6 :: a7 :: a8 :: a9 :: a10 :: a11 :: x :: ρ := (rfl)
theorem dMQ  {a0 a1 a2 a3 a4 a5 a6 a7 a8 a9 a10 a11 a12 : Option D} : eVar 13 (a0 :: a1 :: a2 :: a3 :: a4 :: a5 :: a6 :: a7 :: a8 :: a9 :: a10 :: a11 :: a12 :: some d :: ρ) L = .ok d L := (rfl)
theorem dNQ  {a0 a1 a2 a3 a4 a5 a6 a7 a8 a9 a10 a11 a12 a13 x : Option D} : List.set (a0 :: a1 :: a2 :: a3 :: a4 :: a5 :: a6 :: a7 :: a8 :: a9 :: a10 :: a11 :: a12 :: a13 :: ρ) 13 x = a0 :: a1 :: a2 :: a3 :: a4 :: a5 :: a6 :: a7 :: a8 :: a9 :: a10 :: a11 :: a12 :: x :: ρ := (rfl)
theorem dOQ  {a0 a1 a2 a3 a4 a5 a6 a7 a8 a9 a10 a11 a12 a13 : Option D} : eVar 14 (a0 :: a1 :: a2 :: a3 :: a4 :: a5 :: a6 :: a7 :: a8 :: a9 :: a10 :: a11 :: a12 :: a13 :: some d :: ρ) L = .ok d L := (rfl)
theorem dPQ  {a0 a1 a2 a3 a4 a5 a6 a7 a8 a9 a10 a11 a12 a13 a14 x : Option D} : List.set (a0 :: a1 :: a2 :: a3 :: a4 :: a5 :: a6 :: a7 :: a8 :: a9 :: a10 :: a11 :: a12 :: a13 :: a14 :: ρ) 14 x = a0 :: a1 :: a2 :: a3 :: a4 :: a5 :: a6 :: a7 :: a8 :: a9 :: a10 :: a11 :: a12 :: a13 :: x :: ρ := (rfl)
theorem dQQ  {a0 a1 a2 a3 a4 a5 a6 a7 a8 a9 a10 a11 a12 a13 a14 : Option D} : eVar 15 (a0 :: a1 :: a2 :: a3 :: a4 :: a5 :: a6 :: a7 :: a8 :: a9 :: a10 :: a11 :: a12 :: a13 :: a14 :: some d :: ρ) L = .ok d L := (rfl)
theorem dRQ  {a0 a1 a2 a3 a4 a5 a6 a7 a8 a9 a10 a11 a12 a13 a14 a15 x : Option D} : List.set (a0 :: a1 :: a2 :: a3 :: a4 :: a5 :: a6 :: a7 :: a8 :: a9 :: a10 :: a11 :: a12 :: a13 :: a14 :: a15 :: ρ) 15 x = a0 :: a1 :: a2 :: a3 :: a4 :: a5 :: a6 :: a7 :: a8 :: a9 :: a10 :: a11 :: a12 :: a13 :: a14 :: x :: ρ := (rfl)
theorem dSQ  {a0 a1 a2 a3 a4 a5 a6 a7 a8 a9 a10 a11 a12 a13 a14 a15 : Option D} : eVar 16 (a0 :: a1 :: a2 :: a3 :: a4 :: a5 :: a6 :: a7 :: a8 :: a9 :: a10 :: a11 :: a12 :: a13 :: a14 :: a15 :: some d :: ρ) L = .ok d L := (rfl)
theorem dTQ  {a0 a1 a2 a3 a4 a5 a6 a7 a8 a9 a10 a11 a12 a13 a14 a15 a16 x : Option D} : List.set (a0 :: a1 :: a2 :: a3 :: a4 :: a5 :: a6 :: a7 :: a8 :: a9 :: a10 :: a11 :: a12 :: a13 :: a14 :: a15 :: a16 :: ρ) 16 x = a0 :: a1 :: a2 :: a3 :: a4 :: a5 :: a6 :: a7 :: a8 :: a9 :: a10 :: a11 :: a12 :: a13 :: a14 :: a15 :: x :: ρ := (rfl)
theorem dUQ  {a0 a1 a2 a3 a4 a5 a6 a7 a8 a9 a10 a11 a12 a13 a14 a15 a16 : Option D} : eVar 17 (a0 :: a1 :: a2 :: a3 :: a4 :: a5 :: a6 :: a7 :: a8 :: a9 :: a10 :: a11 :: a12 :: a13 :: a14 :: a15 :: a16 :: some d :: ρ) L = .ok d L := (rfl)
theorem dVQ  {a0 a1 a2 a3 a4 a5 a6 a7 a8 a9 a10 a11 a12 a13 a14 a15 a16 a17 x : Option D} : List.set (a0 :: a1 :: a2 :: a3 :: a4 :: a5 :: a6 :: a7 :: a8 :: a9 :: a10 :: a11 :: a12 :: a13 :: a14 :: a15 :: a16 :: a17 :: ρ) 17 x = a0 :: a1 :: a2 :: a3 :: a4 :: a5 :: a6 :: a7 :: a8 :: a9 :: a10 :: a11 :: a12 :: a13 :: a14 :: a15 :: a16 :: x :: ρ := (rfl)
theorem dWQ  {a0 a1 a2 a3 a4 a5 a6 a7 a8 a9 a10 a11 a12 a13 a14 a15 a16 a17 : Option D} : eVar 18 (a0 :: a1 :: a2 :: a3 :: a4 :: a5 :: a6 :: a7 :: a8 :: a9 :: a10 :: a11 :: a12 :: a13 :: a14 :: a15 :: a16 :: a17 :: some d :: ρ) L = .ok d L := (rfl)
theorem dXQ  {a0 a1 a2 a3 a4 a5 a6 a7 a8 a9 a10 a11 a12 a13 a14 a15 a16 a17 a18 x : Option D} : List.set (a0 :: a1 :: a2 :: a3 :: a4 :: a5 :: a6 :: a7 :: a8 :: a9 :: a10 :: a11 :: a12 :: a13 :: a14 :: a15 :: a16 :: a17 :: a18 :: ρ) 18 x = a0 :: a1 :: a2 :: a3 :: a4 :: a5 :: a6 :: a7 :: a8 :: a9 :: a10 :: a11 :: a12 :: a13 :: a14 :: a15 :: a16 :: a17 :: x :: ρ := (rfl)
theorem dYQ  {a0 a1 a2 a3 a4 a5 a6 a7 a8 a9 a10 a11 a12 a13 a14 a15 a16 a17 a18 : Option D} : eVar 19 (a0 :: a1 :: a2 :: a3 :: a4 :: a5 :: a6 :: a7 :: a8 :: a9 :: a10 :: a11 :: a12 :: a13 :: a14 :: a15 :: a16 :: a17 :: a18 :: some d :: ρ) L = .ok d L := (rfl)
theorem dZQ  {a0 a1 a2 a3 a4 a5 a6 a7 a8 a9 a10 a11 a12 a13 a14 a15 a16 a17 a18 a19 x : Option D} : List.set (a0 :: a1 :: a2 :: a3 :: a4 :: a5 :: a6 :: a7 :: a8 :: a9 :: a10 :: a11 :: a12 :: a13 :: a14 :: a15 :: a16 :: a17 :: a18 :: a19 :: ρ) 19 x = a0 :: a1 :: a2 :: a3 :: a4 :: a5 :: a6 :: a7 :: a8 :: a9 :: a10 :: a11 :: a12 :: a13 :: a14 :: a15 :: a16 :: a17 :: a18 :: x :: ρ := (rfl)
theorem eaQ  {a0 a1 a2 a3 a4 a5 a6 a7 a8 a9 a10 a11 a12 a13 a14 a15 a16 a17 a18 a19 : Option D} : eVar 20 (a0 :: a1 :: a2 :: a3 :: a4 :: a5 :: a6 :: a7 :: a8 :: a9 :: a10 :: a11 :: a12 :: a13 :: a14 :: a15 :: a16 :: a17 :: a18 :: a19 :: some d :: ρ) L = .ok d L := (rfl)
theorem ebQ  {a0 a1 a2 a3 a4 a5 a6 a7 a8 a9 a10 a11 a12 a13 a14 a15 a16 a17 a18 a19 a20 x : Option D} : List.set (a0 :: a1 :: a2 :: a3 :: a4 :: a5 :: a6 :: a7 :: a8 :: a9 :: a10 :: a11 :: a12 :: a13 :: a14 :: a15 :: a16 :: a17 :: a18 :: a19 :: a20 :: ρ) 20 x = a0 :: a1 :: a2 :: a3 :: a4 :: a5 :: a6 :: a7 :: a8 :: a9 :: a10 :: a11 :: a12 :: a13 :: a14 :: a15 :: a16 :: a17 :: a18 :: a19 :: x :: ρ := (rfl)
theorem ecQ  {a0 a1 a2 a3 a4 a5 a6 a7 a8 a9 a10 a11 a12 a13 a14 a15 a16 a17 a18 a19 a20 : Option D} : eVar 21 (a0 :: a1 :: a2 :: a3 :: a4 :: a5 :: a6 :: a7 :: a8 :: a9 :: a10 :: a11 :: a12 :: a13 :: a14 :: a15 :: a16 :: a17 :: a18 :: a19 :: a20 :: some d :: ρ) L = .ok d L := (rfl)
theorem edQ  {a0 a1 a2 a3 a4 a5 a6 a7 a8 a9 a10 a11 a12 a13 a14 a15 a16 a17 a18 a19 a20 a21 x : Option D} : List.set (a0 :: a1 :: a2 :: a3 :: a4 :: a5 :: a6 :: a7 :: a8 :: a9 :: a10 :: a11 :: a12 :: a13 :: a14 :: a15 :: a16 :: a17 :: a18 :: a19 :: a20 :: a21 :: ρ) 21 x = a0 :: a1 :: a2 :: a3 :: a4 :: a5 :: a6 :: a7 :: a8 :: a9 :: a10 :: a11 :: a12 :: a13 :: a14 :: a15 :: a16 :: a17 :: a18 :: a19 :: a20 :: x :: ρ := (rfl)
theorem eeQ  {a0 a1 a2 a3 a4 a5 a6 a7 a8 a9 a10 a11 a12 a13 a14 a15 a16 a17 a18 a19 a20 a21 : Option D} : eVar 22 (a0 :: a1 :: a2 :: a3 :: a4 :: a5 :: a6 :: a7 :: a8 :: a9 :: a10 :: a11 :: a12 :: a13 :: a14 :: a15 :: a16 :: a17 :: a18 :: a19 :: a20 :: a21 :: some d :: ρ) L = .ok d L := (rfl)
theorem efQ  {a0 a1 a2 a3 a4 a5 a6 a7 a8 a9 a10 a11 a12 a13 a14 a15 a16 a17 a18 a19 a20 a21 a22 x : Option D} : List.set (a0 :: a1 :: a2 :: a3 :: a4 :: a5 :: a6 :: a7 :: a8 :: a9 :: a10 :: a11 :: a12 :: a13 :: a14 :: a15 :: a16 :: a17 :: a18 :: a19 :: a20 :: a21 :: a22 :: ρ) 22 x = a0 :: a1 :: a2 :: a3 :: a4 :: a5 :: a6 :: a7 :: a8 :: a9 :: a10 :: a11 :: a12 :: a13 :: a14 :: a15 :: a16 :: a17 :: a18 :: a19 :: a20 :: a21 :: x :: ρ := (rfl)
theorem egQ  {a0 a1 a2 a3 a4 a5 a6 a7 a8 a9 a10 a11 a12 a13 a14 a15 a16 a17 a18 a19 a20 a21 a22 : Option D} : eVar 23 (a0 :: a1 :: a2 :: a3 :: a4 :: a5 :: a6 :: a7 :: a8 :: a9 :: a10 :: a11 :: a12 :: a13 :: a14 :: a15 :: a16 :: a17 :: a18 :: a19 :: a20 :: a21 :: a22 :: some d :: ρ) L = .ok d L := (rfl)
theorem ehQ  {a0 a1 a2 a3 a4 a5 a6 a7 a8 a9 a10 a11 a12 a13 a14 a15 a16 a17 a18 a19 a20 a21 a22 a23 x : Option D} : List.set (a0 :: a1 :: a2 :: a3 :: a4 :: a5 :: a6 :: a7 :: a8 :: a9 :: a10 :: a11 :: a12 :: a13 :: a14 :: a15 :: a16 :: a17 :: a18 :: a19 :: a20 :: a21 :: a22 :: a23 :: ρ) 23 x = a0 :: a1 :: a2 :: a3 :: a4 :: a5 :: a6 :: a7 :: a8 :: a9 :: a10 :: a11 :: a12 :: a13 :: a14 :: a15 :: a16 :: a17 :: a18 :: a19 :: a20 :: a21 :: a22 :: x :: ρ := (rfl)
theorem eiQ  {a0 a1 a2 a3 a4 a5 a6 a7 a8 a9 a10 a11 a12 a13 a14 a15 a16 a17 a18 a19 a20 a21 a22 a23 : Option D} : eVar 24 (a0 :: a1 :: a2 :: a3 :: a4 :: a5 :: a6 :: a7 :: a8 :: a9 :: a10 :: a11 :: a12 :: a13 :: a14 :: a15 :: a16 :: a17 :: a18 :: a19 :: a20 :: a21 :: a22 :: a23 :: some d :: ρ) L = .ok d L := (rfl)
theorem ejQ  {a0 a1 a2 a3 a4 a5 a6 a7 a8 a9 a10 a11 a12 a13 a14 a15 a16 a17 a18 a19 a20 a21 a22 a23 a24 x : Option D} : List.set (a0 :: a1 :: a2 :: a3 :: a4 :: a5 :: a6 :: a7 :: a8 :: a9 :: a10 :: a11 :: a12 :: a13 :: a14 :: a15 :: a16 :: a17 :: a18 :: a19 :: a20 :: a21 :: a22 :: a23 :: a24 :: ρ) 24 x = a0 :: a1 :: a2 :: a3 :: a4 :: a5 :: a6 :: a7 :: a8 :: a9 :: a10 :: a11 :: a12 :: a13 :: a14 :: a15 :: a16 :: a17 :: a18 :: a19 :: a20 :: a21 :: a22 :: a23 :: x :: ρ := (rfl)
theorem ekQ  {a0 a1 a2 a3 a4 a5 a6 a7 a8 a9 a10 a11 a12 a13 a14 a15 a16 a17 a18 a19 a20 a21 a22 a23 a24 : Option D} : eVar 25 (a0 :: a1 :: a2 :: a3 :: a4 :: a5 :: a6 :: a7 :: a8 :: a9 :: a10 :: a11 :: a12 :: a13 :: a14 :: a15 :: a16 :: a17 :: a18 :: a19 :: a20 :: a21 :: a22 :: a23 :: a24 :: some d :: ρ) L = .ok d L := (rfl)
theorem elQ  {a0 a1 a2 a3 a4 a5 a6 a7 a8 a9 a10 a11 a12 a13 a14 a15 a16 a17 a18 a19 a20 a21 a22 a23 a24 a25 x : Option D} : List.set (a0 :: a1 :: a2 :: a3 :: a4 :: a5 :: a6 :: a7 :: a8 :: a9 :: a10 :: a11 :: a12 :: a13 :: a14 :: a15 :: a16 :: a17 :: a18 :: a19 :: a20 :: a21 :: a22 :: a23 :: a24 :: a25 :: ρ) 25 x = a0 :: a1 :: a2 :: a3 :: a4 :: a5 :: a6 :: a7 :: a8 :: a9 :: a10 :: a11 :: a12 :: a13 :: a14 :: a15 :: a16 :: a17 :: a18 :: a19 :: a20 :: a21 :: a22 :: a23 :: a24 :: x :: ρ := (rfl)
theorem emQ  {a0 a1 a2 a3 a4 a5 a6 a7 a8 a9 a10 a11 a12 a13 a14 a15 a16 a17 a18 a19 a20 a21 a22 a23 a24 a25 : Option D} : eVar 26 (a0 :: a1 :: a2 :: a3 :: a4 :: a5 :: a6 :: a7 :: a8 :: a9 :: a10 :: a11 :: a12 :: a13 :: a14 :: a15 :: a16 :: a17 :: a18 :: a19 :: a20 :: a21 :: a22 :: a23 :: a24 :: a25 :: some d :: ρ) L = .ok d L := (rfl)
theorem enQ  {a0 a1 a2 a3 a4 a5 a6 a7 a8 a9 a10 a11 a12 a13 a14 a15 a16 a17 a18 a19 a20 a21 a22 a23 a24 a25 a26 x : Option D} : List.set (a0 :: a1 :: a2 :: a3 :: a4 :: a5 :: a6 :: a7 :: a8 :: a9 :: a10 :: a11 :: a12 :: a13 :: a14 :: a15 :: a16 :: a17 :: a18 :: a19 :: a20 :: a21 :: a22 :: a23 :: a24 :: a25 :: a26 :: ρ) 26 x = a0 :: a1 :: a2 :: a3 :: a4 :: a5 :: a6 :: a7 :: a8 :: a9 :: a10 :: a11 :: a12 :: a13 :: a14 :: a15 :: a16 :: a17 :: a18 :: a19 :: a20 :: a21 :: a22 :: a23 :: a24 :: a25 :: x :: ρ := (rfl)
theorem eoQ  {a0 a1 a2 a3 a4 a5 a6 a7 a8 a9 a10 a11 a12 a13 a14 a15 a16 a17 a18 a19 a20 a21 a22 a23 a24 a25 a26 : Option D} : eVar 27 (a0 :: a1 :: a2 :: a3 :: a4 :: a5 :: a6 :: a7 :: a8 :: a9 :: a10 :: a11 :: a12 :: a13 :: a14 :: a15 :: a16 :: a17 :: a18 :: a19 :: a20 :: a21 :: a22 :: a23 :: a24 :: a25 :: a26 :: some d :: ρ) L = .ok d L := (rfl)
theorem epQ  {a0 a1 a2 a3 a4 a5 a6 a7 a8 a9 a10 a11 a12 a13 a14 a15 a16 a17 a18 a19 a20 a21 a22 a23 a24 a25 a26 a27 x : Option D} : List.set (a0 :: a1 :: a2 :: a3 :: a4 :: a5 :: a6 :: a7 :: a8 :: a9 :: a10 :: a11 :: a12 :: a13 :: a14 :: a15 :: a16 :: a17 :: a18 :: a19 :: a20 :: a21 :: a22 :: a23 :: a24 :: a25 :: a26 :: a27 :: ρ) 27 x = a0 :: a1 :: a2 :: a3 :: a4 :: a5 :: a6 :: a7 :: a8 :: a9 :: a10 :: a11 :: a12 :: a13 :: a14 :: a15 :: a16 :: a17 :: a18 :: a19 :: a20 :: a21 :: a22 :: a23 :: a24 :: a25 :: a26 :: x :: ρ := (rfl)
end
section
variable {L : Sto} {i j k : Int} {xs ys ds : List D} {b : Bool}
theorem eQQ {cs : List (Str × Bool)} : gIsiK cs .int .non L = .ok (.bl false) L := (rfl)
theorem eRQ {cs : List (Str × Bool)} : gIsiK cs .bl .non L = .ok (.bl false) L := (rfl)
theorem eSQ {cs : List (Str × Bool)} : gIsiK cs .str .non L = .ok (.bl false) L := (rfl)
theorem eTQ {cs : List (Str × Bool)} : gIsiK cs .tup .non L = .ok (.bl false) L := (rfl)
theorem eUQ {cs : List (Str × Bool)} : gIsiK cs .lst .non L = .ok (.bl false) L := (rfl)
theorem eVQ {cs : List (Str × Bool)} : gIsiK cs .dict .non L = .ok (.bl false) L := (rfl)
theorem eWQ {cs : List (Str × Bool)} {c2 : Str} : gIsiO cs c2 .non L = .ok (.bl false) L := (rfl)
theorem eXQ {cs : List (Str × Bool)} : gIsiK cs .int (.bl b) L = .ok (.bl true) L := (rfl)
theorem eYQ {cs : List (Str × Bool)} : gIsiK cs .bl (.bl b) L = .ok (.bl true) L := (rfl)
theorem eZQ {cs : List (Str × Bool)} : gIsiK cs .str (.bl b) L = .ok (.bl false) L := (rfl)
theorem faQ {cs : List (Str × Bool)} : gIsiK cs .tup (.bl b) L = .ok (.bl false) L := (rfl)
theorem fbQ {cs : List (Str × Bool)} : gIsiK cs .lst (.bl b) L = .ok (.bl false) L := (rfl)
theorem fcQ {cs : List (Str × Bool)} : gIsiK cs .dict (.bl b) L = .ok (.bl false) L := (rfl)
theorem fdQ {cs : List (Str × Bool)} {c2 : Str} : gIsiO cs c2 (.bl b) L = .ok (.bl false) L := (rfl)
theorem feQ {cs : List (Str × Bool)} : gIsiK cs .int (.int i) L = .ok (.bl true) L := (rfl)
theorem ffQ {cs : List (Str × Bool)} : gIsiK cs .bl (.int i) L = .ok (.bl false) L := (rfl)
theorem fgQ {cs : List (Str × Bool)} : gIsiK cs .str (.int i) L = .ok (.bl false) L := (rfl)
theorem fhQ {cs : List (Str × Bool)} : gIsiK cs .tup (.int i) L = .ok (.bl false) L := (rfl)
theorem fiQ {cs : List (Str × Bool)} : gIsiK cs .lst (.int i) L = .ok (.bl false) L := (rfl)
theorem fjQ {cs : List (Str × Bool)} : gIsiK cs .dict (.int i) L = .ok (.bl false) L := (rfl)
theorem fkQ {cs : List (Str × Bool)} {c2 : Str} : gIsiO cs c2 (.int i) L = .ok (.bl false) L := (rfl)
theorem flQ {cs : List (Str × Bool)} {s : Str} : gIsiK cs .int (.str s) L = .ok (.bl false) L := (rfl)
theorem fmQ {cs : List (Str × Bool)} {s : Str} : gIsiK cs .bl (.str s) L = .ok (.bl false) L := (rfl)
theorem fnQ {cs : List (Str × Bool)} {s : Str} : gIsiK cs .str (.str s) L = .ok (.bl true) L := (rfl)
theorem foQ {cs : List (Str × Bool)} {s : Str} : gIsiK cs .tup (.str s) L = .ok (.bl false) L := (rfl)
theorem fpQ {cs : List (Str × Bool)} {s : Str} : gIsiK cs .lst (.str s) L = .ok (.bl false) L := (rfl)
theorem fqQ {cs : List (Str × Bool)} {s : Str} : gIsiK cs .dict (.str s) L = .ok (.bl false) L := (rfl)
theorem frQ {cs : List (Str × Bool)} {c2 : Str} {s : Str} : gIsiO cs c2 (.str s) L = .ok (.bl false) L := (rfl)
theorem fsQ {cs : List (Str × Bool)} : gIsiK cs .int (.tup xs) L = .ok (.bl false) L := (rfl)
theorem ftQ {cs : List (Str × Bool)} : gIsiK cs .bl (.tup xs) L = .ok (.bl false) L := (rfl)
theorem fuQ {cs : List (Str × Bool)} : gIsiK cs .str (.tup xs) L = .ok (.bl false) L := (rfl)
theorem fvQ {cs : List (Str × Bool)} : gIsiK cs .tup (.tup xs) L = .ok (.bl true) L := (rfl)
theorem fwQ {cs : List (Str × Bool)} : gIsiK cs .lst (.tup xs) L = .ok (.bl false) L := (rfl)
theorem fxQ {cs : List (Str × Bool)} : gIsiK cs .dict (.tup xs) L = .ok (.bl false) L := (rfl)
theorem fyQ {cs : List (Str × Bool)} {c2 : Str} : gIsiO cs c2 (.tup xs) L = .ok (.bl false) L := (rfl)
theorem fzQ {cs : List (Str × Bool)} : gIsiK cs .int (.tg xs) L = .ok (.bl false) L := (rfl)
theorem fAQ {cs : List (Str × Bool)} : gIsiK cs .bl (.tg xs) L = .ok (.bl false) L := (rfl)
theorem fBQ {cs : List (Str × Bool)} : gIsiK cs .str (.tg xs) L = .ok (.bl false) L := (rfl)
theorem fCQ {cs : List (Str × Bool)} : gIsiK cs .tup (.tg xs) L = .ok (.bl true) L := (rfl)
theorem fDQ {cs : List (Str × Bool)} : gIsiK cs .lst (.tg xs) L = .ok (.bl false) L := (rfl)
theorem fEQ {cs : List (Str × Bool)} : gIsiK cs .dict (.tg xs) L = .ok (.bl false) L := (rfl)
theorem fFQ {cs : List (Str × Bool)} {c2 : Str} : gIsiO cs c2 (.tg xs) L = .ok (.bl false) L := (rfl)
theorem fGQ {cs : List (Str × Bool)} : gIsiK cs .int (.lst xs) L = .ok (.bl false) L := (rfl)
theorem fHQ {cs : List (Str × Bool)} : gIsiK cs .bl (.lst xs) L = .ok (.bl false) L := (rfl)
theorem fIQ {cs : List (Str × Bool)} : gIsiK cs .str (.lst xs) L = .ok (.bl false) L := (rfl)
theorem fJQ {cs : List (Str × Bool)} : gIsiK cs .tup (.lst xs) L = .ok (.bl false) L := (rfl)
theorem fKQ {cs : List (Str × Bool)} : gIsiK cs .lst (.lst xs) L = .ok (.bl true) L := (rfl)
theorem fLQ {cs : List (Str × Bool)} : gIsiK cs .dict (.lst xs) L = .ok (.bl false) L := (rfl)
theorem fMQ {cs : List (Str × Bool)} {c2 : Str} : gIsiO cs c2 (.lst xs) L = .ok (.bl false) L := (rfl)
theorem fNQ {cs : List (Str × Bool)} {kv : List (Key × D)} : gIsiK cs .int (.dK kv) L = .ok (.bl false) L := (rfl)
theorem fOQ {cs : List (Str × Bool)} {kv : List (Key × D)} : gIsiK cs .bl (.dK kv) L = .ok (.bl false) L := (rfl)
theorem fPQ {cs : List (Str × Bool)} {kv : List (Key × D)} : gIsiK cs .str (.dK kv) L = .ok (.bl false) L := (rfl)
theorem fQQ {cs : List (Str × Bool)} {kv : List (Key × D)} : gIsiK cs .tup (.dK kv) L = .ok (.bl false) L := (rfl)
theorem fRQ {cs : List (Str × Bool)} {kv : List (Key × D)} : gIsiK cs .lst (.dK kv) L = .ok (.bl false) L := (rfl)
theorem fSQ {cs : List (Str × Bool)} {kv : List (Key × D)} : gIsiK cs .dict (.dK kv) L = .ok (.bl true) L := (rfl)
theorem fTQ {cs : List (Str × Bool)} {c2 : Str} {kv : List (Key × D)} : gIsiO cs c2 (.dK kv) L = .ok (.bl false) L := (rfl)
theorem fUQ {cs : List (Str × Bool)} {kt : List (List Key × D)} : gIsiK cs .int (.dT kt) L = .ok (.bl false) L := (rfl)
theorem fVQ {cs : List (Str × Bool)} {kt : List (List Key × D)} : gIsiK cs .bl (.dT kt) L = .ok (.bl false) L := (rfl)
theorem fWQ {cs : List (Str × Bool)} {kt : List (List Key × D)} : gIsiK cs .str (.dT kt) L = .ok (.bl false) L := (rfl)
theorem fXQ {cs : List (Str × Bool)} {kt : List (List Key × D)} : gIsiK cs .tup (.dT kt) L = .ok (.bl false) L := (rfl)
theorem fYQ {cs : List (Str × Bool)} {kt : List (List Key × D)} : gIsiK cs .lst (.dT kt) L = .ok (.bl false) L := (rfl)
theorem fZQ {cs : List (Str × Bool)} {kt : List (List Key × D)} : gIsiK cs .dict (.dT kt) L = .ok (.bl true) L := (rfl)
theorem gaQ {cs : List (Str × Bool)} {c2 : Str} {kt : List (List Key × D)} : gIsiO cs c2 (.dT kt) L = .ok (.bl false) L := (rfl)
theorem gbQ {cs : List (Str × Bool)} {kv : List (Key × D)} : gIsiK cs .int (.dF kv) L = .ok (.bl false) L := (rfl)
theorem gcQ {cs : List (Str × Bool)} {kv : List (Key × D)} : gIsiK cs .bl (.dF kv) L = .ok (.bl false) L := (rfl)
theorem gdQ {cs : List (Str × Bool)} {kv : List (Key × D)} : gIsiK cs .str (.dF kv) L = .ok (.bl false) L := (rfl)
theorem geQ {cs : List (Str × Bool)} {kv : List (Key × D)} : gIsiK cs .tup (.dF kv) L = .ok (.bl false) L := (rfl)
theorem gfQ {cs : List (Str × Bool)} {kv : List (Key × D)} : gIsiK cs .lst (.dF kv) L = .ok (.bl false) L := (rfl)
theorem ggQ {cs : List (Str × Bool)} {kv : List (Key × D)} : gIsiK cs .dict (.dF kv) L = .ok (.bl true) L := (rfl)
theorem ghQ {cs : List (Str × Bool)} {c2 : Str} {kv : List (Key × D)} : gIsiO cs c2 (.dF kv) L = .ok (.bl false) L := (rfl)
theorem giQ {c : Str} {x y : D} : gSlt c 0 (.sl c [x, y]) L = .ok x L := if_pos rfl
theorem gjQ {c : Str} {x y : D} : gSlt c 1 (.sl c [x, y]) L = .ok y L := if_pos rfl
theorem gkQ {c : Str} {x y : D} : gSl2 c [x, y] L = .ok (.sl c [x, y]) L := (rfl)
theorem glQ : gIsN .non .non L = .ok (.bl true) L := (rfl)
end
abbrev rowD (r : List Int) : D := .tg (r.map .int)
structure IsRow (r : List Int) : Prop where
  l1 : 1 ≤ r.length
  l2 : r.length ≤ 20
  nn : ∀ x ∈ r, 0 ≤ x
structure HRow (r : List Int) (h : Int) : Prop extends IsRow r where
  h1 : 1 ≤ h
  h2 : h ≤ 20
  lt : ∀ x ∈ r, x < h
theorem small62_of {i : Int} (h1 : -1000000 ≤ i) (h2 : i ≤ 1000000) : small62 i = true := decide_eq_true ⟨by omega, by omega⟩
def natD (i : Nat) : D := .int (i : Int)
theorem rangeD0 (n : Nat) : rangeD 0 n = (List.range n).map natD := by
  unfold rangeD natD
  exact List.map_congr_left fun i _ => by rw [Int.zero_add]
def cnt (r : List Int) (h : Int) : List Int := (List.range h.toNat).map fun (i : Nat) => ((r.count (i : Int) : Nat) : Int)
def mx (ns : List Int) : Int := (ns.max?).getD 0
def mn (ns : List Int) : Int := (ns.min?).getD 0
theorem gMax_ints {ns : List Int} (h : ns ≠ []) (L : Sto) : gMax [.lst (ns.map .int)] L = .ok (.int (mx ns)) L := by
  unfold gMax
  simp only [eOQ, dInts_map]
  unfold mx
  cases q : ns.max? with
  | none => exact absurd (List.max?_eq_none_iff.mp q) h
  | some m => rfl
theorem gMin_ints {ns : List Int} (h : ns ≠ []) (L : Sto) : gMin [.lst (ns.map .int)] L = .ok (.int (mn ns)) L := by
  unfold gMin
  simp only [eOQ, dInts_map]
  unfold mn
  cases q : ns.min? with
  | none => exact absurd (List.min?_eq_none_iff.mp q) h
  | some m => rfl
theorem gIx_loc {L : Sto} {n j : Nat} {xs : List D} {y : D} (h : L[n]? = some (.lst xs)) (hy : xs[j]? = some y) : gIx (.loc n) (.int (j : Int)) L = .ok y L := by
  unfold gIx
  simp only [seqOf_loc h, atI_nat hy]
theorem gIx_lst {L : Sto} {j : Nat} {xs : List D} {y : D} (hy : xs[j]? = some y) : gIx (.lst xs) (.int (j : Int)) L = .ok y L := by
  unfold gIx
  simp only [eMQ, atI_nat hy]
theorem ixN_nat {n j : Nat} (h : j < n) : ixN n (j : Int) = some j := by
  unfold ixN
  rw [if_pos (by omega), if_pos (by omega)]
  simp
theorem putAt_loc {L : Sto} {n j : Nat} {xs : List D} {v : D} (h : L[n]? = some (.lst xs)) (hj : j < xs.length) : putAt (.loc n) (.int (j : Int)) v L = some (L.set n (.lst (xs.set j v))) := by
  simp only [putAt, h, ixN_nat hj, Option.map_some]
def places (r : List Int) (i : Int) : List Nat := (List.range r.length).filter fun j => decide (r.getD j 0 = i)
theorem ibQ {i j : Int} {L : Sto} : gEq (.int i) (.int j) L = .ok (.bl (decide (i = j))) L := by
  have := gEq_ev (L := L) (d := .int i) (e := .int j) rfl rfl
  rw [this]
  show Res.ok (D.bl (i == j)) L = _
  by_cases h : i = j <;> simp [h]
theorem cutD_from (xs : List D) (k : Nat) : cutD xs (some (k : Int)) none = xs.drop k := by
  unfold cutD
  have h1 : HT.sIx xs.length 0 (some (k : Int)) = min k xs.length := by
    show (if (k : Int) < 0 then ((k : Int) + xs.length).toNat else min (k : Int).toNat xs.length) = _
    rw [if_neg (by omega)]; rfl
  have h2 : HT.sIx xs.length xs.length none = xs.length := rfl
  rw [h1, h2]
  rcases Nat.le_total k xs.length with h | h
  · rw [Nat.min_eq_left h]; exact List.take_of_length_le (by rw [List.length_drop]; omega)
  · rw [Nat.min_eq_right h, List.drop_eq_nil_of_le h, List.drop_eq_nil_of_le (Nat.le_refl _)]; simp
theorem flatMap_one {α β : Type} (f : α → β) : ∀ xs : List α, (xs.flatMap fun j => [f j]) = xs.map f
  | [] => rfl
  | x :: xs => by rw [List.flatMap_cons, flatMap_one f xs]; rfl
section
variable {r : List Int} {h : Int}
theorem seen_lst (L : Sto) (xs : List D) : seen L (.lst xs) = .lst xs := rfl
theorem ok_nil : okD 60 (.lst []) = true := by rw [okD, okDL]
theorem rgOk0 {n : Nat} (h : n ≤ 1000) : rgOk 0 (n : Int) = true := and2' (and2' (small62_of (by omega) (by omega)) (small62_of (by omega) (by omega))) (decide_eq_true (by omega))
end
section
variable {r : List Int} {h : Int}
theorem flatMap_pair {α : Type} (f : α → Key × D) (xs : List α) : (xs.flatMap fun j => [f j]) = xs.map f := flatMap_one f xs
end
theorem icQ {i j : Int} {L : Sto} : gNe (.int i) (.int j) L = .ok (.bl (!decide (i = j))) L := by
  have := gNe_ev (L := L) (d := .int i) (e := .int j) rfl rfl
  rw [this]
  show Res.ok (D.bl (!(i == j))) L = _
  by_cases h : i = j <;> simp [h]
theorem flat_ints (r : List Int) : (r.map D.int).all dFlat = true := by
  rw [List.all_map, List.all_eq_true]; intro x _; rfl
theorem any_ints (v : Int) (o : List Int) : ((o.map D.int).any fun y => dEqF y (.int v)) = decide (v ∈ o) := by
  rw [List.any_map]
  induction o with
  | nil => rfl
  | cons x o ih =>
    rw [List.any_cons, ih]
    show ((x == v) || decide (v ∈ o)) = _
    by_cases h : x = v
    · subst h; simp
    · have h2 : ¬ v = x := fun e => h e.symm
      simp [h, h2]
theorem gAdd_lst {L : Sto} {xs ys : List D} (h : (xs ++ ys).length ≤ 16777216) : gAdd (.lst xs) (.lst ys) L = .ok (.lst (xs ++ ys)) L := by
  have e : gAdd (.lst xs) (.lst ys) L = newL (xs ++ ys) L := rfl
  rw [e]
  unfold newL
  rw [if_pos h]
def dice (a b c : Int) : D := .lst [.int a, .int b, .int c]
theorem ev_put {fv fo fi : EF} {ρ : Env'} {L L1 L2 L3 L4 : Sto} {v d k : D} (h1 : fv ρ L = .ok v L1) (h2 : fo ρ L1 = .ok d L2) (h3 : fi ρ L2 = .ok k L3) (h4 : putAt d k v L3 = some L4) : sPut fv fo fi ρ L = .nx ρ L4 := by
  unfold sPut
  rw [h1, sBind_ok, h2, sBind_ok, h3, sBind_ok, h4]
theorem set_get {L : Sto} {n : Nat} {c d : D} (h : L[n]? = some d) : (L.set n c)[n]? = some c := List.getElem?_set_self (getElem?_lt h)
theorem set_set' {L : Sto} {n : Nat} {c d : D} : (L.set n c).set n d = L.set n d := List.set_set _
def Dc (n : Nat) (L : Sto) : Prop := ∃ a b c, L[n]? = some (dice a b c)
def Nxt (n : Nat) (L L' : Sto) : Prop := ∃ a b c, L' = L.set n (dice a b c)
theorem Nxt.dc {n : Nat} {L L' : Sto} (h : Nxt n L L') (hd : Dc n L) : Dc n L' := by
  obtain ⟨a, b, c, rfl⟩ := h
  obtain ⟨x, y, z, e⟩ := hd
  exact ⟨a, b, c, set_get e⟩
theorem Nxt.trans {n : Nat} {L L1 L2 : Sto} (h : Nxt n L L1) (k : Nxt n L1 L2) : Nxt n L L2 := by
  obtain ⟨a, b, c, rfl⟩ := h
  obtain ⟨x, y, z, rfl⟩ := k
  exact ⟨x, y, z, set_set'⟩
theorem Nxt.refl {n : Nat} {L : Sto} (hd : Dc n L) : Nxt n L L := by
  obtain ⟨a, b, c, e⟩ := hd
  refine ⟨a, b, c, ?_⟩
  apply List.ext_getElem?
  intro i
  by_cases h : n = i
  · subst h; rw [set_get e, e]
  · rw [List.getElem?_set_ne h]
theorem ints_of {Q : Int → Prop} : ∀ {ys : List D}, (∀ y ∈ ys, ∃ x, y = D.int x ∧ Q x) → ∃ r : List Int, ys = r.map D.int ∧ ∀ x ∈ r, Q x
  | [], _ => ⟨[], rfl, fun _ h => nomatch h⟩
  | y :: ys, h => by
    obtain ⟨x, rfl, hx⟩ := h y (List.mem_cons_self)
    obtain ⟨r, rfl, hr⟩ := ints_of fun z hz => h z (List.mem_cons_of_mem _ hz)
    refine ⟨x :: r, rfl, fun z hz => ?_⟩
    rcases List.mem_cons.mp hz with e | e
    · rw [e]; exact hx
    · exact hr z e
theorem isL_loc {L : Sto} {n : Nat} {xs : List D} (h : L[n]? = some (.lst xs)) : isL L (.loc n) = true := by unfold isL; rw [sqlOf_loc h]; rfl
theorem okLst (r : List Int) : okD 60 (.lst (r.map .int)) = true := by rw [okD]; exact okDL_ints _ _
theorem gAppend_ev {L : Sto} {m : Nat} {xs : List D} {y : D} (h : L[m]? = some (.lst xs)) (hl : xs.length < 16777216) : gAppend (.loc m) [y] L = .ok .non (L.set m (.lst (xs ++ [y]))) := by
  have e : gAppend (.loc m) [y] L = if xs.length < 16777216 then .ok .non (L.set m (.lst (xs ++ [y]))) else .bad := by
    unfold gAppend
    rw [boxL_loc h]
  rw [e, if_pos hl]
theorem dice_bel (k : Nat) (a b c : Int) : (dice a b c).bel k = true := belL_ints k [a, b, c]
theorem nxt_len {n : Nat} {L L' : Sto} (h : Nxt n L L') : L'.length = L.length := by obtain ⟨a, b, c, rfl⟩ := h; exact List.length_set
theorem nxt_take {n : Nat} {L L0 : Sto} (h : Nxt n L L0) (tl : List D) : TakeOk L (L0 ++ tl) := by
  have hl := nxt_len h
  refine ⟨by rw [List.length_append]; omega, fun i c hi e => ?_⟩
  rw [List.getElem?_append_left (by omega)] at e
  obtain ⟨x, y, z, rfl⟩ := h
  by_cases hn : n = i
  · subst hn
    rw [List.getElem?_set_self hi] at e
    cases e
    exact .inr (dice_bel _ _ _ _)
  · rw [List.getElem?_set_ne hn] at e
    exact .inl e
theorem HRow.map {r : List Int} {h : Int} (hr : HRow r h) {f : Int → Int} (hf : ∀ x, 0 ≤ x → x < h → 0 ≤ f x ∧ f x < h) : HRow (r.map f) h :=
  ⟨⟨by rw [List.length_map]; exact hr.l1, by rw [List.length_map]; exact hr.l2, fun y hy => by
    obtain ⟨x, hx, rfl⟩ := List.mem_map.mp hy
    exact (hf x (hr.nn x hx) (hr.lt x hx)).1⟩, hr.h1, hr.h2, fun y hy => by
    obtain ⟨x, hx, rfl⟩ := List.mem_map.mp hy
    exact (hf x (hr.nn x hx) (hr.lt x hx)).2⟩
def turn (fs : List Int) (x : Int) : Int := fs.getD x.toNat 0
theorem gPow_int {i j : Int} {L : Sto} (h : 0 ≤ j ∧ j ≤ 1000 ∧ i.natAbs < 2 ^ 1000) : gPow (.int i) (.int j) L = .ok (.int (i ^ j.toNat)) L := if_pos h
theorem gIx_ro {L : Sto} {j : Nat} {xs : List D} {y : D} (hy : xs[j]? = some y) : gIx (.ro xs) (.int (j : Int)) L = .ok y L := by
  unfold gIx
  simp only [eNQ, atI_nat hy]
theorem pow60 (ρ : Env') (L : Sto) : DS.e2 gPow (eC (.int 10)) (eC (.int 60)) ρ L = .ok (.int (10 ^ 60)) L := (ev_e2 (d := .int 10) (e := .int 60) rfl rfl).trans (gPow_int ⟨by decide, by decide, by decide⟩)
theorem pow600 (ρ : Env') (L : Sto) : DS.e2 gPow (DS.e2 gPow (eC (.int 10)) (eC (.int 60))) (eC (.int 10)) ρ L = .ok (.int ((10 ^ 60) ^ 10)) L := (ev_e2 (pow60 ρ L) (e := .int 10) rfl).trans (gPow_int ⟨by decide, by decide, by decide⟩)
theorem pow18 (ρ : Env') (L : Sto) : DS.e2 gPow (eC (.int 10)) (eC (.int 18)) ρ L = .ok (.int (10 ^ 18)) L := (ev_e2 (d := .int 10) (e := .int 18) rfl rfl).trans (gPow_int ⟨by decide, by decide, by decide⟩)
def kr0 (c : Str) (ρ : Env') (r : Res D) : SRes := sBind r ρ fun _ L1 => .err c [] ρ L1
def krF (c fld : Str) (ρ : Env') (r : Res D) : SRes := sBind r ρ fun d L1 => .err c [(fld, d)] ρ L1
def kch (g g' : D → D → Sto → Res D) (fb fc : EF) (ρ : Env') (r : Res D) : Res D := r.bind fun d L1 => (fb ρ L1).bind fun e L2 => (asB (g d e L2)).bind fun k L3 =>
  if k = true then (fc ρ L3).bind fun c L4 => g' e c L4 else .ok (.bl false) L3
def kch2 (g g' : D → D → Sto → Res D) (d : D) (fc : EF) (ρ : Env') (r : Res D) : Res D := r.bind fun e L2 => (asB (g d e L2)).bind fun k L3 =>
  if k = true then (fc ρ L3).bind fun c L4 => g' e c L4 else .ok (.bl false) L3
def kch3 (g' : D → D → Sto → Res D) (e : D) (fc : EF) (ρ : Env') (r : Res Bool) : Res D := r.bind fun k L3 =>
  if k = true then (fc ρ L3).bind fun c L4 => g' e c L4 else .ok (.bl false) L3
def kch4 (g' : D → D → Sto → Res D) (e : D) (r : Res D) : Res D := r.bind fun c L4 => g' e c L4
section
variable {ρ ρ1 : Env'} {L L1 : Sto} {d e : D} {f g : SF} {t u : TF} {fa fb fo fi : EF} {fl : AF} {ds dd : List D} {i j n N : Nat} {b c : Bool} {g2 : D → D → Sto → Res D} {g1 : D → Sto → Res D} {gn : List D → Sto → Res D} {m : List D → Sto → Res D} {cl fld : Str} {p : List (Str × D)} {bx : Bool} {tg : GF} {gb : D → List D → Sto → Res D} {TT : (Sto → Res D) → Sto → Res D}
theorem hpQ : k1 g1 (.err cl p L) = .err cl p L := (rfl)
theorem hqQ : kn gn (.err cl p L) = .err cl p L := (rfl)
theorem hrQ : k2 g2 fb ρ (.err cl p L) = .err cl p L := (rfl)
theorem hsQ : k2' g2 d (.err cl p L) = .err cl p L := (rfl)
theorem htQ : ka fl ρ (.err cl p L) = .err cl p L := (rfl)
theorem huQ : ka' d (.err cl p L) = .err cl p L := (rfl)
theorem hvQ : kc n m dd (.err cl p L) = .err cl p L := (rfl)
theorem hwQ : kset i ρ (.err cl p L) = .err cl p ρ L := (rfl)
theorem hxQ : kexp ρ (.err cl p L) = .err cl p ρ L := (rfl)
theorem hyQ : kret ρ (.err cl p L) = .err cl p ρ L := (rfl)
theorem hzQ : kif f g ρ (.err cl p L) = .err cl p ρ L := (rfl)
theorem hAQ : ktru (.err cl p L) = .err cl p L := (rfl)
theorem hBQ : knot (.err cl p L) = .err cl p L := (rfl)
theorem hCQ : kor u ρ (.err cl p L) = .err cl p L := (rfl)
theorem hDQ : kand u ρ (.err cl p L) = .err cl p L := (rfl)
theorem hEQ : keif fa fb ρ (.err cl p L) = .err cl p L := (rfl)
theorem hFQ : keand fb ρ (.err cl p L) = .err cl p L := (rfl)
theorem hGQ : keor fb ρ (.err cl p L) = .err cl p L := (rfl)
theorem hHQ : kenot (.err cl p L) = .err cl p L := (rfl)
theorem hIQ : asB (.err cl p L) = .err cl p L := (rfl)
theorem hJQ : kbm fl gb ρ (.err cl p L) = .err cl p L := (rfl)
theorem hKQ : kbm2 gb d (.err cl p L) = .err cl p L := (rfl)
theorem hLQ : ktup (.err cl p L) = .err cl p L := (rfl)
theorem hMQ : ktupG (.err cl p L) = .err cl p L := (rfl)
theorem hNQ : klst bx (.err cl p L) = .err cl p L := (rfl)
theorem hOQ : kmk n m dd (.err cl p L) = .err cl p L := (rfl)
theorem hPQ : sRaise0 cl fa ρ L = kr0 cl ρ (fa ρ L) := (rfl)
theorem hQQ : kr0 cl ρ (.ok d L) = .err cl [] ρ L := (rfl)
theorem hRQ : sRaiseF cl fld fa ρ L = krF cl fld ρ (fa ρ L) := (rfl)
theorem hSQ : krF cl fld ρ (.ok d L) = .err cl [(fld, d)] ρ L := (rfl)
theorem hTQ : eLam TT [] fa ρ L = okR (TT (fun L' => fa ρ L') L) := (rfl)
theorem hUQ : okR (.ok d L) = .ok d L := (rfl)
theorem hVQ {gg g' : D → D → Sto → Res D} {fc : EF} : eChain gg g' fa fb fc ρ L = kch gg g' fb fc ρ (fa ρ L) := (rfl)
theorem hWQ {gg g' : D → D → Sto → Res D} {fc : EF} : kch gg g' fb fc ρ (.ok d L) = kch2 gg g' d fc ρ (fb ρ L) := (rfl)
theorem hXQ {gg g' : D → D → Sto → Res D} {fc : EF} : kch2 gg g' d fc ρ (.ok e L) = kch3 g' e fc ρ (asB (gg d e L)) := (rfl)
theorem hYQ {g' : D → D → Sto → Res D} {fc : EF} : kch3 g' e fc ρ (.ok b L) = if b = true then kch4 g' e (fc ρ L) else .ok (.bl false) L := (rfl)
theorem hZQ {g' : D → D → Sto → Res D} : kch4 g' e (.ok d L) = g' e d L := (rfl)
theorem takeOk_self : TakeOk L L := ⟨Nat.le_refl _, fun _ _ _ e => .inl e⟩
theorem x_drop (h : belF L.length p = true) : dropR L (.err cl p L) = .err cl p L := by
  rw [dropR_err takeOk_self h, List.take_length]
theorem iaQ : dropR L (.err cl [] L) = .err cl [] L := x_drop rfl
end
def Told (t : Str) (d : D) (s : Str) : Prop := PyData.strOk s = true ∧ ∃ r : Str, (∀ L, gRepr [d] L = .ok (.str r) L) ∧ ∀ L, gAdd (.str t) (.str r) L = .ok (.str s) L
theorem told_of {t : Str} {d : D} {p : PyData} (h : toPy d = some p) (hn : ∀ L, seen L d = d) (h1 : p.showable = true) (h2 : p.hasDict = false) (h3 : p.shown.length ≤ 1000) (h4 : p.depth ≤ 50) (ht : t.length ≤ 1000) (ok : PyData.strOk (t ++ p.shown) = true) : Told t d (t ++ p.shown) := by
  refine ⟨ok, p.shown, fun L => ?_, fun L => if_pos (by omega)⟩
  show gRepr1 d L = _
  unfold gRepr1
  rw [hn, h]
  exact if_pos ⟨h1, h2, by omega, h4⟩
def intFine (t : Str) (i : Int) : Bool := (PyData.int i).showable && !(PyData.int i).hasDict && decide ((PyData.int i).shown.length ≤ 1000) && decide ((PyData.int i).depth ≤ 50) && PyData.strOk (t ++ (PyData.int i).shown)
theorem told_int {t : Str} {i : Int} (ht : t.length ≤ 1000) (h : intFine t i = true) : ∃ s, Told t (.int i) s := by
  unfold intFine at h
  simp only [Bool.and_eq_true, decide_eq_true_eq, Bool.not_eq_true'] at h
  obtain ⟨⟨⟨⟨h1, h2⟩, h3⟩, h4⟩, h5⟩ := h
  exact ⟨_, told_of (p := .int i) rfl (fun _ => rfl) h1 h2 h3 h4 ht h5⟩
def pyFine (t : Str) (p : PyData) : Bool := p.showable && !p.hasDict && decide (p.shown.length ≤ 1000) && decide (p.depth ≤ 50) && PyData.strOk (t ++ p.shown)
theorem told_py {t : Str} {d : D} {p : PyData} (h : toPy d = some p) (hn : ∀ L, seen L d = d) (ht : t.length ≤ 1000) (hf : pyFine t p = true) : ∃ s, Told t d s := by
  unfold pyFine at hf
  simp only [Bool.and_eq_true, decide_eq_true_eq, Bool.not_eq_true'] at hf
  obtain ⟨⟨⟨⟨h1, h2⟩, h3⟩, h4⟩, h5⟩ := hf
  exact ⟨_, told_of h hn h1 h2 h3 h4 ht h5⟩
theorem numFine : ∀ i : Nat, i < 64 → intFine "number " (i : Int) = true := by decide +kernel
theorem num_int {i : Int} (h0 : 0 ≤ i) (h1 : i < 64) : ∃ s, Told "number " (.int i) s := by
  obtain ⟨n, rfl⟩ := Int.eq_ofNat_of_zero_le h0
  exact told_int (by decide) (numFine n (by omega))
theorem num_m1 : ∃ s, Told "number " (.int (-1)) s := told_int (by decide) (by decide +kernel)
theorem num_big : ∃ s, Told "number " (.int (10 ^ 39)) s := told_int (by decide) (by decide +kernel)
theorem num_non : ∃ s, Told "number " .non s := told_py (p := .none) rfl (fun _ => rfl) (by decide) (by decide +kernel)
theorem num_bl (b : Bool) : ∃ s, Told "number " (.bl b) s := told_py (p := .bool b) rfl (fun _ => rfl) (by decide) (by cases b <;> decide +kernel)
theorem num_str (x : Str) (h : pyFine "number " (.str x) = true) : ∃ s, Told "number " (.str x) s := told_py (p := .str x) rfl (fun _ => rfl) (by decide) h
theorem num_tg : ∃ s, Told "number " (.tg []) s := told_py (p := .tuple []) rfl (fun _ => rfl) (by decide) (by decide +kernel)
theorem ok_strs {n : Nat} : ∀ {ss : List Str}, (∀ s ∈ ss, PyData.strOk s = true) → okDL n (ss.map .str) = true
  | [], _ => by simp [okDL]
  | s :: ss, h => by
    rw [List.map_cons, okDL]
    exact and2' (by cases n <;> exact h s (List.mem_cons_self)) (ok_strs fun z hz => h z (List.mem_cons_of_mem _ hz))
theorem eqDL_same : ∀ ds : List D, (∀ d ∈ ds, eqD d d = true) → eqDL ds ds = true
  | [], _ => rfl
  | d :: ds, h => and2' (h d (List.mem_cons_self)) (eqDL_same ds fun z hz => h z (List.mem_cons_of_mem _ hz))
theorem eqD_str (s : Str) : eqD (.str s) (.str s) = true := beq_self_eq_true s
theorem gEq_strs {L : Sto} {m : Nat} {ss : List Str} (hm : L[m]? = some (.lst (ss.map .str))) (h : ∀ s ∈ ss, PyData.strOk s = true) : gEq (.loc m) (.lst (ss.map .str)) L = .ok (.bl true) L := by
  have o : okD 60 (.lst (ss.map .str)) = true := by rw [okD]; exact ok_strs h
  have s1 : seen L (.loc m) = .lst (ss.map .str) := by unfold seen; rw [lstOf_loc hm]
  rw [gEq_ev (by rw [s1]; exact o) (by rw [seen_lst]; exact o), s1, seen_lst, eqD, eqDL_same _ fun d hd => by
    obtain ⟨s, _, rfl⟩ := List.mem_map.mp hd
    exact eqD_str s]
theorem gNe_strs {L : Sto} {m : Nat} {ss : List Str} (hm : L[m]? = some (.lst (ss.map .str))) (h : ∀ s ∈ ss, PyData.strOk s = true) : gNe (.loc m) (.lst (ss.map .str)) L = .ok (.bl false) L := by
  have o : okD 60 (.lst (ss.map .str)) = true := by rw [okD]; exact ok_strs h
  have s1 : seen L (.loc m) = .lst (ss.map .str) := by unfold seen; rw [lstOf_loc hm]
  rw [gNe_ev (by rw [s1]; exact o) (by rw [seen_lst]; exact o), s1, seen_lst, eqD, eqDL_same _ fun d hd => by
    obtain ⟨s, _, rfl⟩ := List.mem_map.mp hd
    exact eqD_str s]
  rfl
section
variable {A : Sto} {xs ys : List D} {d : D}
theorem z_get : (A ++ [d])[A.length]? = some d := by simp
theorem z_isL : isL (A ++ [D.lst xs]) (.loc A.length) = true := isL_loc z_get
theorem z_app (h : xs.length < 16777216) : gAppend (.loc A.length) [d] (A ++ [.lst xs]) = .ok .non (A ++ [.lst (xs ++ [d])]) := by
  rw [gAppend_ev z_get h, List.set_append_right _ _ (Nat.le_refl _), Nat.sub_self]
  rfl
theorem z_addl {L : Sto} (h : xs.length + ys.length ≤ 16777216) : gAdd (.lst xs) (.lst ys) L = .ok (.lst (xs ++ ys)) L := gAdd_lst (by rw [List.length_append]; omega)
end
section
variable {tg : GF} {body : SF} {x : D} {xs : List D} {ρ ρ1 ρ2 : Env'} {L L2 : Sto} {it : IF}
theorem for_at (h : it ρ L = .ok ⟨xs, []⟩ L) : sFor it tg body ρ L = forGo tg body [] xs ρ L := by
  unfold sFor
  rw [h]
theorem for_nil : forGo tg body [] [] ρ L = .nx ρ L := by simp [forGo]
theorem for_one (h1 : tg x ρ = some ρ1) (h2 : body ρ1 L = .nx ρ2 L2) : forGo tg body [] (x :: xs) ρ L = forGo tg body [] xs ρ2 L2 := by
  rw [forGo]
  dsimp only
  rw [h1]
  dsimp only
  rw [h2]
  exact if_pos srcOk_nil
end
theorem callV_at {i : Nat} {fns : List (Str × Nat × (List D → Sto → Res D))} {fl : AF} {ρ : Env'} {L : Sto} {c : Str} {n : Nat} {m : List D → Sto → Res D} (h : ρ[i]? = some (some (.fn c))) (hm : fns.lookup c = some (n, m)) : eCallV i fns fl ρ L = kc n m [] (fl ρ L) := by
  unfold eCallV
  rw [h]
  dsimp only
  rw [hm]
  dsimp only
  unfold kc
  simp only [List.append_nil]
theorem z_mulL {d : D} {n : Nat} {L : Sto} (hn : n ≤ 1000) : gMul (.lst [d]) (.int (n : Int)) L = .ok (.lst (List.replicate n d)) L := by
  have e : gMul (.lst [d]) (.int (n : Int)) L = if -(2 ^ 63) ≤ (n : Int) ∧ (n : Int) < 2 ^ 63 ∧ [d].length * (n : Int).toNat ≤ 16777216 then .ok (.lst (List.replicate (n : Int).toNat [d]).flatten) L else .bad := (rfl)
  rw [e, if_pos ⟨by omega, by omega, by rw [List.length_singleton, Nat.one_mul, Int.toNat_natCast]; omega⟩, Int.toNat_natCast, flat_rep]
theorem z_mulL2 {d : D} {L : Sto} : gMul (.lst [d]) (.int 2) L = .ok (.lst [d, d]) L := z_mulL (n := 2) (by decide)
theorem z_mulL3 {d : D} {L : Sto} : gMul (.lst [d]) (.int 3) L = .ok (.lst [d, d, d]) L := z_mulL (n := 3) (by decide)
theorem y_big {L : Sto} : gPow (.int 10) (.int 39) L = .ok (.int (10 ^ 39)) L := gPow_int ⟨by decide, by decide, by decide +kernel⟩
theorem y_neg1 {L : Sto} : gNeg (.int 1) L = .ok (.int (-1)) L := (rfl)
theorem y_dict0 {ρ : Env'} {L : Sto} : eDict0 false ρ L = .ok (.dK []) L := (rfl)
theorem y_listF {xs : List D} {L : Sto} : gList false [.tg xs] L = .ok (.lst xs) L := (rfl)
theorem z_newT {xs : List D} {L : Sto} (h : xs.length ≤ 16777216) : newT xs L = .ok (.tup xs) L := if_pos h
def kci2 (g : D → List D → Sto → Res D) (d : D) (r : Res (List D)) : Res D := r.bind fun ds L2 => g d ds L2
def kci (g : D → List D → Sto → Res D) (fl : AF) (ρ : Env') (r : Res D) : Res D := r.bind fun d L1 => if isG d = true ∨ isL L1 d = true then kci2 g d (fl ρ L1) else .bad
theorem y_cm2 {g : D → List D → Sto → Res D} {fo : EF} {fl : AF} {ρ : Env'} {L : Sto} : eCm g fo fl ρ L = kci g fl ρ (fo ρ L) := (rfl)
theorem y_kci {g : D → List D → Sto → Res D} {fl : AF} {ρ : Env'} {L : Sto} {xs : List D} : kci g fl ρ (.ok (.tg xs) L) = kci2 g (.tg xs) (fl ρ L) := by
  unfold kci
  rw [Res.bind_ok]
  exact if_pos (.inl rfl)
theorem y_kci2 {g : D → List D → Sto → Res D} {d : D} {ds : List D} {L : Sto} : kci2 g d (.ok ds L) = g d ds L := (rfl)
theorem gCount_row (r : List Int) (k : Int) (L : Sto) : gCount (rowD r) [.int k] L = .ok (.int (r.count k : Nat)) L := by
  have e : gCount (rowD r) [.int k] L = (match dInts (r.map D.int) with
    | some ns => .ok (.int (ns.count k : Nat)) L
    | none => .bad) := rfl
  rw [e, dInts_map]
def rRepG (K : PySem.W.Frag) : R2 := fun x y H Q => ∃ a n us, x = .ref a ∧ y = .int n ∧ SqT K H a us ∧ us ≠ [] ∧ 2 ≤ n ∧ n ≤ 1000 ∧ us.length ≤ 1000 ∧ ∀ (p : Addr) (o : Obj), o.dict = none → H p = none → Q (.ref p) (upd H p (.frz o (.tup (List.replicate n.toNat us).flatten)))
theorem op_repG {X : Cx} : OpR X (binaryOp .Mult) (rRepG X.K) := by
  intro pins s0 sig H x y v w Q I rx ry ⟨a, n, us, ex, ey, hT, hne, g1, g2, gz, q⟩
  rw [ex] at rx
  rw [ey] at ry
  obtain rfl : v = Value.ref a := rx
  obtain ⟨tk, rfl⟩ := (show ∃ t, w = Value.int n t from ry)
  obtain ⟨its, ri, ⟨⟨oc, od, dt, osl⟩, ha, hcl, nn, hdt⟩, _⟩ := I.tuple hT
  simp only at hcl hdt
  subst hcl hdt
  have el : its.length = us.length := ri.length.symm
  have sz : its.toArray.size = us.length := by rw [List.size_toArray, el]
  have emp : its.toArray.isEmpty = false := by
    cases its with
    | nil => exact absurd (List.eq_nil_of_length_eq_zero el.symm) hne
    | cons a b => rfl
  have hb : ((its.toArray.size : Nat) : Int) * n ≤ 1000000 := by
    have := Int.mul_le_mul_of_nonneg_right (show ((us.length : Nat) : Int) ≤ 1000 by omega) (show 0 ≤ n by omega)
    rw [sz]
    omega
  have rl : ∀ zs : List Value, zs.length = us.length → (List.replicate n.toNat zs).flatten.length ≤ sizeLine := fun zs e => by
    have := Nat.mul_le_mul (show n.toNat ≤ 1000 by omega) gz
    rw [PyProof.Rows.lm_len_rep_flat, e, sizeLine_eq]
    omega
  have rl2 : (List.replicate n.toNat us).flatten.length ≤ sizeLine := by
    have := Nat.mul_le_mul (show n.toNat ≤ 1000 by omega) gz
    rw [PyProof.Rows.lm_len_rep_flat, sizeLine_eq]
    omega
  have k0 : (decide (n < -(2 ^ 63)) || decide (n ≥ 2 ^ 63)) = false := by simp; omega
  have k1 : (its.toArray.isEmpty || n == 1) = false := by simp [emp]; omega
  have k2 : (decide (n ≤ 0) || its.toArray.isEmpty) = false := by simp [emp]; omega
  have k4 : Builtin.Tuple.tupleTooMany (((its.toArray.size : Nat) : Int) * n) = false := decide_eq_false (by rw [sizeLine_eq]; omega)
  refine wpAny_binaryOp_repeat_ref (U := "int") (T := "tuple") (by decide) ⟨_, ha, rfl⟩ (fun z => typeIs_int z n tk) noFill_tuple_mul F.fills_int_mul F.slot_int_rmul repeat_tuple F.slot_int_index.lookup ?_
  refine call_meets F.slot_int_rmul (typeIs_int s0 n tk) F.entry_int_rmul (F.args_int_rmul_2 _ _) (int_rmul_tuple n tk a its.toArray nn od osl) ⟨ha, rfl, ⟨_, ha, rfl⟩, ?_⟩
  refine call_meets F.slot_tuple_mul ⟨_, ha, rfl⟩ F.entry_tuple_mul (F.args_tuple_mul_2 _ _) (tuple_mulW a its.toArray nn od osl n tk k0 k1 k2 (by omega) k4 (by rw [size_rep, List.size_toArray]; exact rl its el)) ⟨ha, ?_⟩
  rw [size_rep]
  exact laidG I (ri.rep n.toNat) rl2 q
def gMulG (d e : D) (L : Sto) : Res D := match d, e with
  | .tg xs, .int n => if n = 1 then .ok (.tg xs) L else if xs ≠ [] ∧ 2 ≤ n ∧ n ≤ 1000 ∧ xs.length ≤ 1000 then newTG (List.replicate n.toNat xs).flatten L else .bad
  | _, _ => .bad
def rMulG (K : PySem.W.Frag) : R2 := fun x y H Q => rRep1 K x y H Q ∨ rRepG K x y H Q
theorem gMulG_ok {G : Gb} : R2D G (rMulG G.K) gMulG := by
  intro w L H x y d e Q E R dx dy p
  unfold gMulG at p
  split at p
  · rename_i xs n
    split at p
    · rename_i h
      subst h
      cases dy
      cases dx with
      | tg hq r => exact .inl ⟨_, _, rfl, rfl, (R.sqG hq).t, Post.ok p (.refl w) R (.tg hq r)⟩
    · split at p
      · rename_i h
        obtain ⟨hne, h1, h2, h3⟩ := h
        cases dy
        cases dx with
        | tg hq r => exact .inr ⟨_, _, _, rfl, rfl, (R.sqG hq).t, fun e => hne (by rw [e] at r; cases r; rfl), h1, h2, by rw [r.length]; exact h3, fun q o ho hq' => newTG_go p R (r.rep _) q o ho hq'⟩
      · exact p.elim
  · exact p.elim
section
variable {S : Sc} {W : WX} {a b : Expr} {fa fb : EF} {pos : Pos}
theorem se_mulG (ha : SE S W a fa) (hb : SE S W b fb) : SE S W (.BinOp a .Mult b pos) (e2 gMulG fa fb) := fun X h => se_op (r := rMulG S.g.K) (fun X h => by rw [h.K]; exact op_rep1.or op_repG) gMulG_ok ha hb X h
end
theorem gMulG_rep {d : D} {n : Nat} {L : Sto} (h1 : 1 ≤ n) (hn : n ≤ 1000) : gMulG (.tg [d]) (.int (n : Int)) L = .ok (.tg (List.replicate n d)) L := by
  unfold gMulG
  by_cases e : (n : Int) = 1
  · have : n = 1 := by omega
    subst this
    exact if_pos e
  · have fl : (List.replicate n [d]).flatten = List.replicate n d := by
      clear e h1 hn
      induction n with
      | zero => rfl
      | succ n ih => rw [List.replicate_succ, List.flatten_cons, ih, List.replicate_succ]; rfl
    dsimp only
    rw [if_neg e, if_pos ⟨by simp, by omega, by omega, by show 1 ≤ 1000; decide⟩, Int.toNat_natCast, fl]
    exact if_pos (by rw [List.length_replicate]; omega)
section
variable {xs ys : List D} {L : Sto} {lo hi : OF} {ρ : Env'} {fa : EF} {d : D} {l u : Option Int} {k : Nat}
theorem g_addG (h : xs.length + ys.length ≤ 1000) : gAddG (.tg xs) (.tg ys) L = .ok (.tg (xs ++ ys)) L := if_pos (by rw [List.length_append]; omega)
end
def top (i : Nat) : Stmt := PySem.Challenge.pw_levelhues_k02_errors_of_rows.main.body.getD i (.Pass ⟨0, 0, 0, 0⟩)
abbrev s_l_dice : Stmt := top 40
abbrev s_l_roll : Stmt := top 41
abbrev s_l_one_of : Stmt := top 42
abbrev s_is_integer : Stmt := top 16
abbrev s_is_row : Stmt := top 19
abbrev s_require_row : Stmt := top 20
abbrev s_require_hues : Stmt := top 21
abbrev s_require_below : Stmt := top 22
abbrev s_require_both : Stmt := top 23
abbrev s_classes_in : Stmt := top 25
abbrev s_classes : Stmt := top 31
abbrev s_sizes_in : Stmt := top 24
abbrev s_is_level : Stmt := top 30
abbrev s_spread : Stmt := top 29
abbrev s_sizes : Stmt := top 28
abbrev s_l_met : Stmt := top 43
abbrev s_require_hue : Stmt := top 35
abbrev s_exchanged : Stmt := top 36
abbrev s_renamed_in : Stmt := top 27
abbrev s_renamed : Stmt := top 37
abbrev s_are_alike : Stmt := top 38
abbrev s_level_sizes_in : Stmt := top 26
abbrev s_level_sizes : Stmt := top 34
abbrev s_is_ascending : Stmt := top 17
abbrev s_are_places : Stmt := top 18
abbrev s_are_parts : Stmt := top 32
abbrev s_row_of : Stmt := top 33
abbrev s_l_parts_right : Stmt := top 44
abbrev s_l_right : Stmt := top 45
abbrev s_law : Stmt := top 46
abbrev owns : List (Str × Bool) := []
abbrev FnD (G : Gb) (x : Str) (st : Stmt) : Prop := ∃ (f : Addr) (fd : FuncData), FunD G.K x x (defArgs st) (defBody st) (defScope st) [] [] f fd ∧ G.mg x = some (.ref f)
def xsE : List (Str × List Str) := [("HueError", ["HueError"]), ("InvalidWeb", ["InvalidWeb", "HueError"]), ("InvalidRow", ["InvalidRow", "HueError"]), ("InvalidOperation", ["InvalidOperation", "HueError"]), ("ParseError", ["ParseError", "HueError"]), ("UnknownName", ["UnknownName"]), ("NoChain", ["NoChain"]), ("InvalidNumber", ["InvalidNumber"]), ("TooMany", ["TooMany"]), ("NothingToUndo", ["NothingToUndo"]), ("Refused", ["Refused"])]
structure Facts (G : Gb) : Prop where
  bl : Bl G
  c_MAX_PLACES : ∃ u, G.mg "MAX_PLACES" = some u ∧ RelV (.int 10) u
  c_MAX_HUES : ∃ u, G.mg "MAX_HUES" = some u ∧ RelV (.int 20) u
  c_MOST_PLACES : ∃ u, G.mg "MOST_PLACES" = some u ∧ RelV (.int 20) u
  str : G.mg "str" = none
  set : G.mg "set" = none
  ct : ClsT G owns
  tf : ∀ p ∈ G.tabs, ∀ r ∈ G.tabs, p.1 = r.1 → p.2 = r.2
  xs : ExcT G xsE
  x_ParseError_line : XfIs G "ParseError" "line"
  x_UnknownName_name : XfIs G "UnknownName" "name"
  x_NoChain_pair : XfIs G "NoChain" "pair"
  x_InvalidNumber_value : XfIs G "InvalidNumber" "value"
  x_TooMany_limit : XfIs G "TooMany" "limit"
  x_NothingToUndo_many : XfIs G "NothingToUndo" "many"
  x_Refused_reason : XfIs G "Refused" "reason"
  e_InvalidNumber : ExfIs G "InvalidNumber" "value"
  e_InvalidOperation : ExcIs G "InvalidOperation"
  e_InvalidRow : ExcIs G "InvalidRow"
  f_l_dice : FnD G "_law_dice" s_l_dice
  f_l_roll : FnD G "_law_roll" s_l_roll
  f_l_one_of : FnD G "_law_one_of" s_l_one_of
  f_is_integer : FnD G "is_integer" s_is_integer
  f_is_row : FnD G "is_row" s_is_row
  f_require_row : FnD G "require_row" s_require_row
  f_require_hues : FnD G "require_hues" s_require_hues
  f_require_below : FnD G "require_below" s_require_below
  f_require_both : FnD G "require_both" s_require_both
  f_classes_in : FnD G "classes_in" s_classes_in
  f_classes : FnD G "classes" s_classes
  f_sizes_in : FnD G "sizes_in" s_sizes_in
  f_is_level : FnD G "is_level" s_is_level
  f_spread : FnD G "spread" s_spread
  f_sizes : FnD G "sizes" s_sizes
  f_l_met : FnD G "_law_met" s_l_met
  f_require_hue : FnD G "require_hue" s_require_hue
  f_exchanged : FnD G "exchanged" s_exchanged
  f_renamed_in : FnD G "renamed_in" s_renamed_in
  f_renamed : FnD G "renamed" s_renamed
  f_are_alike : FnD G "are_alike" s_are_alike
  f_level_sizes_in : FnD G "level_sizes_in" s_level_sizes_in
  f_level_sizes : FnD G "level_sizes" s_level_sizes
  f_is_ascending : FnD G "is_ascending" s_is_ascending
  f_are_places : FnD G "are_places" s_are_places
  f_are_parts : FnD G "are_parts" s_are_parts
  f_row_of : FnD G "row_of" s_row_of
  f_l_parts_right : ∃ (f : Addr) (fd : FuncData), FunD G.K "_law_parts_right" "_law_parts_right" (defArgs s_l_parts_right) (defBody s_l_parts_right) (defScope s_l_parts_right) [] [] f fd ∧ G.mg "_law_parts_right" = some (.ref f) ∧ LmOk G "_law_parts_right" fd
  f_l_right : ∃ (f : Addr) (fd : FuncData), FunD G.K "_law_right" "_law_right" (defArgs s_l_right) (defBody s_l_right) (defScope s_l_right) [] [] f fd ∧ G.mg "_law_right" = some (.ref f) ∧ LmOk G "_law_right" fd
  f_law : ∃ (f : Addr) (fd : FuncData), FunD G.K "law" "law" (defArgs s_law) (defBody s_law) (defScope s_law) [] [] f fd ∧ G.mg "law" = some (.ref f) ∧ LmOk G "law" fd
def N_l_met : List Str := ["_law_call", "e"]
theorem nd_l_met : N_l_met.Nodup := by decide +kernel
theorem sc_l_met : FnScope N_l_met ["_law_call"] (defScope s_l_met) := ⟨rfl, rfl, rfl, nd_l_met, rfl, by decide +kernel, by decide +kernel⟩
def hs_l_met : List Cl := [⟨"InvalidWeb", none, none, hCon "web"⟩, ⟨"InvalidRow", none, none, hCon "row"⟩, ⟨"InvalidOperation", none, none, hCon "operation"⟩, ⟨"ParseError", some 1, none, hRep "ParseError" "line" "parse "⟩, ⟨"UnknownName", some 1, none, hRep "UnknownName" "name" "name "⟩, ⟨"NoChain", some 1, none, hRep "NoChain" "pair" "chain "⟩, ⟨"InvalidNumber", some 1, none, hRep "InvalidNumber" "value" "number "⟩, ⟨"TooMany", some 1, none, hStr "TooMany" "limit" "many "⟩, ⟨"NothingToUndo", some 1, none, hRep "NothingToUndo" "many" "undo "⟩, ⟨"Refused", some 1, none, hRep "Refused" "reason" "refused "⟩]
def m_l_met : (Sto → Res D) → Sto → Res D := mMet xsE hs_l_met "fine" 2
theorem d_l_met {G : Gb} (D : Facts G) (k : Nat) : ∃ (hds : List ExceptHandler) (h₀ : ExceptHandler) (p1 p2 p3 p4 p5 p6 : Pos) (j : Nat), defBody s_l_met = [.Try [.Expr (.Call (.Name "_law_call" p1) [] [] p2) p3] (h₀ :: hds) [] [] p4, .Return (some (.Constant (.str "fine") j p5)) p6] ∧ HdJ ⟨G, N_l_met, defScope s_l_met, fun _ => true, k, true, true, false⟩ (h₀ :: hds) hs_l_met :=
  ⟨_, _, _, _, _, _, _, _, _, rfl, (.ret own_ok seh_str (.ret own_ok seh_str (.ret own_ok seh_str (.as_ own_ok rfl rfl (seh_add seh_str (seh_repr D.bl (sah_cons (seh_fld "ParseError" D.x_ParseError_line) sah_nil))) (.as_ own_ok rfl rfl (seh_add seh_str (seh_repr D.bl (sah_cons (seh_fld "UnknownName" D.x_UnknownName_name) sah_nil))) (.as_ own_ok rfl rfl (seh_add seh_str (seh_repr D.bl (sah_cons (seh_fld "NoChain" D.x_NoChain_pair) sah_nil))) (.as_ own_ok rfl rfl (seh_add seh_str (seh_repr D.bl (sah_cons (seh_fld "InvalidNumber" D.x_InvalidNumber_value) sah_nil))) (.as_ own_ok rfl rfl (seh_add seh_str (seh_strC D.bl (sah_cons (seh_fld "TooMany" D.x_TooMany_limit) sah_nil))) (.as_ own_ok rfl rfl (seh_add seh_str (seh_repr D.bl (sah_cons (seh_fld "NothingToUndo" D.x_NothingToUndo_many) sah_nil))) (.as_ own_ok rfl rfl (seh_add seh_str (seh_repr D.bl (sah_cons (seh_fld "Refused" D.x_Refused_reason) sah_nil))) .nil))))))))))⟩
theorem lm_l_met {G : Gb} (D : Facts G) (k : Nat) : LamIs true G "_law_met" k m_l_met := by
  obtain ⟨f, fd, F, hm⟩ := D.f_l_met
  obtain ⟨hds, h₀, p1, p2, p3, p4, p5, p6, j, eb, hj⟩ := d_l_met D k
  have b : Binds G.K fd ["_law_call"] [] := F.bindsN fun _ _ _ _ _ _ us hl => match us, hl with | [_], _ => rfl
  have kp := F.kp
  obtain ⟨oc, od, dV, kV, doc, pm, an, cdv, ct, osl, rfl, lk, hcd, _, _⟩ := F.ex
  refine ⟨f, oc, dV, kV, doc, pm, cdv, ct, an, od, osl, _, _, _, N_l_met, "_law_call", hm, kp, lk, hcd, b, sc_l_met, rfl, .inl rfl, by decide, by decide, ?_⟩
  rw [eb]
  exact met_gives D.xs nd_l_met rfl hj (exc_has D.xs (by decide +kernel))
def N_l_dice : List Str := ["_law_script", "_law_at", "_law_cell", "_law_great", "_law_left", "_law_mixed"]
theorem nd_l_dice : N_l_dice.Nodup := by decide +kernel
theorem sc_l_dice : FnScope N_l_dice ["_law_script", "_law_at"] (defScope s_l_dice) := ⟨rfl, rfl, rfl, nd_l_dice, rfl, by decide +kernel, by decide +kernel⟩
noncomputable def F_l_dice : SF :=
  (sSeq (sSet 2 (e2 gAdd (e2 gMul (eC (.int 71)) (eVar 1)) (eC (.int 43))))
    (sSeq (sIf (fun ρ L => asB ((e2 gLt (eVar 1) (en gLen (aCons (eVar 0) aNil))) ρ L))
    (sSet 2 (e2 gIx (eVar 0) (eVar 1)))
    sSkip)
    (sSeq (sSet 3 (e2 gMod (en gInt (aCons (en gAbs (aCons (eVar 2) aNil)) aNil)) (e2 gPow (e2 gPow (eC (.int 10)) (eC (.int 60))) (eC (.int 10)))))
    (sSeq (sSet 4 (e2 gDiv (eVar 3) (e2 gPow (eC (.int 10)) (eC (.int 18)))))
    (sSeq (sSet 5 (e2 gAdd (e2 gAdd (e2 gAdd (e2 gMul (e2 gMod (eVar 3) (eC (.int 2147483179))) (eC (.int 57037))) (e2 gMul (eC (.int 3217)) (eVar 1))) (e2 gMul (eC (.int 53)) (en gInt (aCons (e2 gLt (eVar 2) (eC (.int 0))) aNil)))) (eC (.int 101))))
    (sRet (eLst true (aCons (eVar 4) (aCons (e2 gMod (eVar 5) (eC (.int 2147483123))) (aCons (eC (.int 0)) aNil))))))))))
noncomputable def m_l_dice : List D → Sto → Res D := mOf 6 F_l_dice
theorem d_l_dice {G : Gb} (D : Facts G) (W : WX) : SSs ⟨G, N_l_dice, defScope s_l_dice, fun _ => true, 0, false, true, false⟩ W (defBody s_l_dice) F_l_dice :=
  (ss_cons (ss_set 2 nd_l_dice (se_add (se_mul se_int (se_var 1)) se_int))
    (ss_cons (ss_if (st_lt (se_var 1) (se_len D.bl (sa_cons (se_var 0) sa_nil)))
    (ss_one (ss_set 2 nd_l_dice (se_ix (se_var 0) (se_var 1))))
    ss_nil)
    (ss_cons (ss_set 3 nd_l_dice (se_mod (se_int1 D.bl (sa_cons (se_abs D.bl (sa_cons (se_var 2) sa_nil)) sa_nil)) (se_pow (se_pow se_int se_int) se_int)))
    (ss_cons (ss_set 4 nd_l_dice (se_div (se_var 3) (se_pow se_int se_int)))
    (ss_cons (ss_set 5 nd_l_dice (se_add (se_add (se_add (se_mul (se_mod (se_var 3) se_int) se_int) (se_mul se_int (se_var 1))) (se_mul se_int (se_int1 D.bl (sa_cons (se_lt (se_var 2) se_int) sa_nil)))) se_int))
    (ss_one (ss_ret (se_lst true (sa_cons (se_var 4) (sa_cons (se_mod (se_var 5) se_int) (sa_cons se_int sa_nil)))))))))))
theorem fn_l_dice {G : Gb} (D : Facts G) : FnIs false G "_law_dice" 2 1 m_l_dice [] := by
  obtain ⟨f, fd, F, g⟩ := D.f_l_dice
  have b : Binds G.K fd ["_law_script", "_law_at"] [] := F.bindsN fun _ _ _ _ _ _ us hl => match us, hl with | [_, _], _ => rfl
  exact fnIs_plain F sc_l_dice (d_l_dice D) g b .nil (fun _ => .nil) (fun z => nomatch z)
def N_l_roll : List Str := ["_law_dice_here", "_law_total", "_law_number", "_law_one", "_law_two", "_law_drawn"]
theorem nd_l_roll : N_l_roll.Nodup := by decide +kernel
theorem sc_l_roll : FnScope N_l_roll ["_law_dice_here", "_law_total"] (defScope s_l_roll) := ⟨rfl, rfl, rfl, nd_l_roll, rfl, by decide +kernel, by decide +kernel⟩
noncomputable def F_l_roll : SF :=
  (sSeq (sSet 2 (en gInt (aCons (eVar 1) aNil)))
    (sSeq (sIf (fun ρ L => asB ((e2 gGt (e2 gIx (eVar 0) (eC (.int 0))) (eC (.int 0))) ρ L))
    (sSeq (sSet 5 (e2 gMod (e2 gIx (eVar 0) (eC (.int 0))) (eVar 2)))
    (sSeq (sPut (e2 gDiv (e2 gIx (eVar 0) (eC (.int 0))) (eVar 2)) (eVar 0) (eC (.int 0)))
    (sRet (en gInt (aCons (eVar 5) aNil)))))
    sSkip)
    (sSeq (sPut (e2 gAdd (e2 gIx (eVar 0) (eC (.int 2))) (eC (.int 1))) (eVar 0) (eC (.int 2)))
    (sSeq (sSet 3 (e2 gMod (e2 gAdd (e2 gIx (eVar 0) (eC (.int 1))) (e2 gMul (eC (.int 1000171)) (e2 gIx (eVar 0) (eC (.int 2))))) (eC (.int 2305843009213693951))))
    (sSeq (sSet 4 (e2 gAdd (e2 gMul (e2 gMod (e2 gMul (eVar 3) (eVar 3)) (eC (.int 2305843009213693921))) (eVar 3)) (e2 gMul (eC (.int 9419)) (e2 gIx (eVar 0) (eC (.int 2))))))
    (sSeq (sSet 4 (e2 gMod (eVar 4) (eC (.int 2305843009213693907))))
    (sRet (en gInt (aCons (e2 gMod (e2 gDiv (eVar 4) (eC (.int 4096))) (eVar 2)) aNil)))))))))
noncomputable def m_l_roll : List D → Sto → Res D := mOf 6 F_l_roll
theorem d_l_roll {G : Gb} (D : Facts G) (W : WX) : SSs ⟨G, N_l_roll, defScope s_l_roll, fun _ => true, 0, false, true, false⟩ W (defBody s_l_roll) F_l_roll :=
  (ss_cons (ss_set 2 nd_l_roll (se_int1 D.bl (sa_cons (se_var 1) sa_nil)))
    (ss_cons (ss_if (st_gt (se_ix (se_var 0) se_int) se_int)
    (ss_cons (ss_set 5 nd_l_roll (se_mod (se_ix (se_var 0) se_int) (se_var 2)))
    (ss_cons (ss_put (se_div (se_ix (se_var 0) se_int) (se_var 2)) (se_var 0) se_int)
    (ss_one (ss_ret (se_int1 D.bl (sa_cons (se_var 5) sa_nil))))))
    ss_nil)
    (ss_cons (ss_put (se_add (se_ix (se_var 0) se_int) se_int) (se_var 0) se_int)
    (ss_cons (ss_set 3 nd_l_roll (se_mod (se_add (se_ix (se_var 0) se_int) (se_mul se_int (se_ix (se_var 0) se_int))) se_int))
    (ss_cons (ss_set 4 nd_l_roll (se_add (se_mul (se_mod (se_mul (se_var 3) (se_var 3)) se_int) (se_var 3)) (se_mul se_int (se_ix (se_var 0) se_int))))
    (ss_cons (ss_set 4 nd_l_roll (se_mod (se_var 4) se_int))
    (ss_one (ss_ret (se_int1 D.bl (sa_cons (se_mod (se_div (se_var 4) se_int) (se_var 2)) sa_nil))))))))))
theorem fn_l_roll {G : Gb} (D : Facts G) : FnIs false G "_law_roll" 2 1 m_l_roll [] := by
  obtain ⟨f, fd, F, g⟩ := D.f_l_roll
  have b : Binds G.K fd ["_law_dice_here", "_law_total"] [] := F.bindsN fun _ _ _ _ _ _ us hl => match us, hl with | [_, _], _ => rfl
  exact fnIs_plain F sc_l_roll (d_l_roll D) g b .nil (fun _ => .nil) (fun z => nomatch z)
def N_l_one_of : List Str := ["_law_dice_here", "_law_items"]
theorem nd_l_one_of : N_l_one_of.Nodup := by decide +kernel
theorem sc_l_one_of : FnScope N_l_one_of ["_law_dice_here", "_law_items"] (defScope s_l_one_of) := ⟨rfl, rfl, rfl, nd_l_one_of, rfl, by decide +kernel, by decide +kernel⟩
noncomputable def F_l_one_of : SF :=
  (sRet (e2 gIx (eVar 1) (eCall 2 m_l_roll [] (aCons (eVar 0) (aCons (en gLen (aCons (eVar 1) aNil)) aNil)))))
noncomputable def m_l_one_of : List D → Sto → Res D := mOf 2 F_l_one_of
theorem d_l_one_of {G : Gb} (D : Facts G) (W : WX) : SSs ⟨G, N_l_one_of, defScope s_l_one_of, fun _ => true, 1, false, true, false⟩ W (defBody s_l_one_of) F_l_one_of :=
  (ss_one (ss_ret (se_ix (se_var 1) (se_call (fn_l_roll D) (Nat.le_of_ble_eq_true rfl) (sa_cons (se_var 0) (sa_cons (se_len D.bl (sa_cons (se_var 1) sa_nil)) sa_nil))))))
theorem fn_l_one_of {G : Gb} (D : Facts G) : FnIs false G "_law_one_of" 2 2 m_l_one_of [] := by
  obtain ⟨f, fd, F, g⟩ := D.f_l_one_of
  have b : Binds G.K fd ["_law_dice_here", "_law_items"] [] := F.bindsN fun _ _ _ _ _ _ us hl => match us, hl with | [_, _], _ => rfl
  exact fnIs_plain F sc_l_one_of (d_l_one_of D) g b .nil (fun _ => .nil) (fun z => nomatch z)
def N_is_integer : List Str := ["value", "least", "most"]
theorem nd_is_integer : N_is_integer.Nodup := by decide +kernel
theorem sc_is_integer : FnScope N_is_integer ["value", "least", "most"] (defScope s_is_integer) := ⟨rfl, rfl, rfl, nd_is_integer, rfl, by decide +kernel, by decide +kernel⟩
noncomputable def F_is_integer : SF :=
  (sSeq (sIf (tOrF (tNotF (tTru (e1 (gIsiK owns .int) (eVar 0)))) (tOrF (tTru (e1 (gIsiK owns .bl) (eVar 0))) (fun ρ L => asB ((e2 gLt (eVar 0) (eVar 1)) ρ L))))
    (sRet (eC (.bl false)))
    sSkip)
    (sRet (eOrF (e2 gIsN (eVar 2) (eC .non)) (e2 gLe (eVar 0) (eVar 2)))))
noncomputable def m_is_integer : List D → Sto → Res D := mOf 3 F_is_integer
theorem u_is_integer (a0 a1 a2 : D) (L : Sto) : m_is_integer [a0, a1, a2] L = fin (F_is_integer [some a0, some a1, some a2] L) := (rfl)
theorem d_is_integer {G : Gb} (D : Facts G) (W : WX) : SSs ⟨G, N_is_integer, defScope s_is_integer, fun _ => true, 0, false, true, false⟩ W (defBody s_is_integer) F_is_integer :=
  (ss_cons (ss_if (st_bool (sw_or (st_not (st_truth (se_isiK D.ct .int D.bl D.bl.int (by decide +kernel) (se_var 0)))) (sw_or (st_truth (se_isiK D.ct .bl D.bl D.bl.bool (by decide +kernel) (se_var 0))) (sw_one_or (st_lt (se_var 0) (se_var 1))))))
    (ss_one (ss_ret se_bl))
    ss_nil)
    (ss_one (ss_ret (se_or (se_isN (se_var 2) se_non) (se_one (se_le (se_var 0) (se_var 2)))))))
theorem fn_is_integer {G : Gb} (D : Facts G) : FnIs false G "is_integer" 3 1 m_is_integer [] := by
  obtain ⟨f, fd, F, g⟩ := D.f_is_integer
  have b : Binds G.K fd ["value", "least", "most"] [] := F.bindsN fun _ _ _ _ _ _ us hl => match us, hl with | [_, _, _], _ => rfl
  exact fnIs_plain F sc_is_integer (d_is_integer D) g b .nil (fun _ => .nil) (fun z => nomatch z)
def N_is_row : List Str := ["value", "hue"]
theorem nd_is_row : N_is_row.Nodup := by decide +kernel
theorem sc_is_row : FnScope N_is_row ["value"] (defScope s_is_row) := ⟨rfl, rfl, rfl, nd_is_row, rfl, by decide +kernel, by decide +kernel⟩
noncomputable def C1_is_row : EF :=
  (eLc false [1] (iSeq (eVar 0)) (gSet 1) tTrue (eCall 3 m_is_integer [] (aCons (eVar 1) (aCons (eC (.int 0)) (aCons (eC .non) aNil)))))
noncomputable def F_is_row : SF :=
  (sSeq (sIf (tOrF (tNotF (tTru (e1 (gIsiK owns .tup) (eVar 0)))) (tNotF (fun ρ L => asB ((eChain gLe gLe (eC (.int 1)) (en gLen (aCons (eVar 0) aNil)) (eC (.int 20))) ρ L))))
    (sRet (eC (.bl false)))
    sSkip)
    (sRet (en gAll (aCons C1_is_row aNil))))
noncomputable def m_is_row : List D → Sto → Res D := mOf 2 F_is_row
theorem u_is_row (a0 : D) (L : Sto) : m_is_row [a0] L = fin (F_is_row [some a0, none] L) := (rfl)
theorem d_is_row {G : Gb} (D : Facts G) (W : WX) : SSs ⟨G, N_is_row, defScope s_is_row, fun _ => true, 1, false, true, false⟩ W (defBody s_is_row) F_is_row :=
  (ss_cons (ss_if (st_bool (sw_or (st_not (st_truth (se_isiK D.ct .tup D.bl D.bl.tuple (by decide +kernel) (se_var 0)))) (sw_one_or (st_not (st_le_le se_int (se_len D.bl (sa_cons (se_var 0) sa_nil)) (se_cst D.c_MOST_PLACES (fun _ => by constructor)))))))
    (ss_one (ss_ret se_bl))
    ss_nil)
    (ss_one (ss_ret (se_all D.bl (sa_cons (se_lc false [("hue", 1)] nd_is_row (si_seq (se_var 0)) (by kernel_rfl) (sg_name 1 nd_is_row) sts_nil (se_call (fn_is_integer D) (Nat.le_of_ble_eq_true rfl) (sa_cons (se_var 1) (sa_cons se_int (sa_cons se_non sa_nil))))) sa_nil)))))
theorem fn_is_row {G : Gb} (D : Facts G) : FnIs false G "is_row" 1 2 m_is_row [] := by
  obtain ⟨f, fd, F, g⟩ := D.f_is_row
  have b : Binds G.K fd ["value"] [] := F.bindsN fun _ _ _ _ _ _ us hl => match us, hl with | [_], _ => rfl
  exact fnIs_plain F sc_is_row (d_is_row D) g b .nil (fun _ => .nil) (fun z => nomatch z)
def N_require_row : List Str := ["value"]
theorem nd_require_row : N_require_row.Nodup := by decide +kernel
theorem sc_require_row : FnScope N_require_row ["value"] (defScope s_require_row) := ⟨rfl, rfl, rfl, nd_require_row, rfl, by decide +kernel, by decide +kernel⟩
noncomputable def F_require_row : SF :=
  (sIf (tNotF (tTru (eCall 1 m_is_row [] (aCons (eVar 0) aNil))))
    (sRaise0 "InvalidRow" (eC (.str "a tuple of one to twenty hues is expected")))
    sSkip)
noncomputable def m_require_row : List D → Sto → Res D := mOf 1 F_require_row
theorem u_require_row (a0 : D) (L : Sto) : m_require_row [a0] L = fin (F_require_row [some a0] L) := (rfl)
theorem d_require_row {G : Gb} (D : Facts G) (W : WX) : SSs ⟨G, N_require_row, defScope s_require_row, fun _ => true, 2, false, true, false⟩ W (defBody s_require_row) F_require_row :=
  (ss_one (ss_if (st_not (st_truth (se_call (fn_is_row D) (Nat.le_of_ble_eq_true rfl) (sa_cons (se_var 0) sa_nil))))
    (ss_one (ss_raise0 D.e_InvalidRow se_str))
    ss_nil))
theorem fn_require_row {G : Gb} (D : Facts G) : FnIs false G "require_row" 1 3 m_require_row [] := by
  obtain ⟨f, fd, F, g⟩ := D.f_require_row
  have b : Binds G.K fd ["value"] [] := F.bindsN fun _ _ _ _ _ _ us hl => match us, hl with | [_], _ => rfl
  exact fnIs_plain F sc_require_row (d_require_row D) g b .nil (fun _ => .nil) (fun z => nomatch z)
def N_require_hues : List Str := ["hues"]
theorem nd_require_hues : N_require_hues.Nodup := by decide +kernel
theorem sc_require_hues : FnScope N_require_hues ["hues"] (defScope s_require_hues) := ⟨rfl, rfl, rfl, nd_require_hues, rfl, by decide +kernel, by decide +kernel⟩
noncomputable def F_require_hues : SF :=
  (sIf (tNotF (tTru (eCall 3 m_is_integer [] (aCons (eVar 0) (aCons (eC (.int 1)) (aCons (eC (.int 20)) aNil))))))
    (sRaiseF "InvalidNumber" "value" (eVar 0))
    sSkip)
noncomputable def m_require_hues : List D → Sto → Res D := mOf 1 F_require_hues
theorem u_require_hues (a0 : D) (L : Sto) : m_require_hues [a0] L = fin (F_require_hues [some a0] L) := (rfl)
theorem d_require_hues {G : Gb} (D : Facts G) (W : WX) : SSs ⟨G, N_require_hues, defScope s_require_hues, fun _ => true, 1, false, true, false⟩ W (defBody s_require_hues) F_require_hues :=
  (ss_one (ss_if (st_not (st_truth (se_call (fn_is_integer D) (Nat.le_of_ble_eq_true rfl) (sa_cons (se_var 0) (sa_cons se_int (sa_cons (se_cst D.c_MOST_PLACES (fun _ => by constructor)) sa_nil))))))
    (ss_one (ss_raiseF D.e_InvalidNumber (Nat.le_of_ble_eq_true rfl) (se_var 0)))
    ss_nil))
theorem fn_require_hues {G : Gb} (D : Facts G) : FnIs false G "require_hues" 1 2 m_require_hues [] := by
  obtain ⟨f, fd, F, g⟩ := D.f_require_hues
  have b : Binds G.K fd ["hues"] [] := F.bindsN fun _ _ _ _ _ _ us hl => match us, hl with | [_], _ => rfl
  exact fnIs_plain F sc_require_hues (d_require_hues D) g b .nil (fun _ => .nil) (fun z => nomatch z)
def N_require_below : List Str := ["row", "hues", "hue"]
theorem nd_require_below : N_require_below.Nodup := by decide +kernel
theorem sc_require_below : FnScope N_require_below ["row", "hues"] (defScope s_require_below) := ⟨rfl, rfl, rfl, nd_require_below, rfl, by decide +kernel, by decide +kernel⟩
noncomputable def C1_require_below : EF :=
  (eLc false [2] (iSeq (eVar 0)) (gSet 2) tTrue (e2 gLt (eVar 2) (eVar 1)))
noncomputable def F_require_below : SF :=
  (sIf (tNotF (tTru (en gAll (aCons C1_require_below aNil))))
    (sRaise0 "InvalidRow" (eC (.str "a row of hues below the number of hues is expected")))
    sSkip)
noncomputable def m_require_below : List D → Sto → Res D := mOf 3 F_require_below
theorem u_require_below (a0 a1 : D) (L : Sto) : m_require_below [a0, a1] L = fin (F_require_below [some a0, some a1, none] L) := (rfl)
theorem d_require_below {G : Gb} (D : Facts G) (W : WX) : SSs ⟨G, N_require_below, defScope s_require_below, fun _ => true, 0, false, true, false⟩ W (defBody s_require_below) F_require_below :=
  (ss_one (ss_if (st_not (st_truth (se_all D.bl (sa_cons (se_lc false [("hue", 2)] nd_require_below (si_seq (se_var 0)) (by kernel_rfl) (sg_name 2 nd_require_below) sts_nil (se_lt (se_var 2) (se_var 1))) sa_nil))))
    (ss_one (ss_raise0 D.e_InvalidRow se_str))
    ss_nil))
theorem fn_require_below {G : Gb} (D : Facts G) : FnIs false G "require_below" 2 1 m_require_below [] := by
  obtain ⟨f, fd, F, g⟩ := D.f_require_below
  have b : Binds G.K fd ["row", "hues"] [] := F.bindsN fun _ _ _ _ _ _ us hl => match us, hl with | [_, _], _ => rfl
  exact fnIs_plain F sc_require_below (d_require_below D) g b .nil (fun _ => .nil) (fun z => nomatch z)
def N_require_both : List Str := ["row", "hues"]
theorem nd_require_both : N_require_both.Nodup := by decide +kernel
theorem sc_require_both : FnScope N_require_both ["row", "hues"] (defScope s_require_both) := ⟨rfl, rfl, rfl, nd_require_both, rfl, by decide +kernel, by decide +kernel⟩
noncomputable def F_require_both : SF :=
  (sSeq (sExpr (eCall 1 m_require_row [] (aCons (eVar 0) aNil)))
    (sSeq (sExpr (eCall 1 m_require_hues [] (aCons (eVar 1) aNil)))
    (sExpr (eCall 2 m_require_below [] (aCons (eVar 0) (aCons (eVar 1) aNil))))))
noncomputable def m_require_both : List D → Sto → Res D := mOf 2 F_require_both
theorem u_require_both (a0 a1 : D) (L : Sto) : m_require_both [a0, a1] L = fin (F_require_both [some a0, some a1] L) := (rfl)
theorem d_require_both {G : Gb} (D : Facts G) (W : WX) : SSs ⟨G, N_require_both, defScope s_require_both, fun _ => true, 3, false, true, false⟩ W (defBody s_require_both) F_require_both :=
  (ss_cons (ss_expr (se_call (fn_require_row D) (Nat.le_of_ble_eq_true rfl) (sa_cons (se_var 0) sa_nil)))
    (ss_cons (ss_expr (se_call (fn_require_hues D) (Nat.le_of_ble_eq_true rfl) (sa_cons (se_var 1) sa_nil)))
    (ss_one (ss_expr (se_call (fn_require_below D) (Nat.le_of_ble_eq_true rfl) (sa_cons (se_var 0) (sa_cons (se_var 1) sa_nil)))))))
theorem fn_require_both {G : Gb} (D : Facts G) : FnIs false G "require_both" 2 4 m_require_both [] := by
  obtain ⟨f, fd, F, g⟩ := D.f_require_both
  have b : Binds G.K fd ["row", "hues"] [] := F.bindsN fun _ _ _ _ _ _ us hl => match us, hl with | [_, _], _ => rfl
  exact fnIs_plain F sc_require_both (d_require_both D) g b .nil (fun _ => .nil) (fun z => nomatch z)
def N_classes_in : List Str := ["row", "hues", "hue", "place", "own"]
theorem nd_classes_in : N_classes_in.Nodup := by decide +kernel
theorem sc_classes_in : FnScope N_classes_in ["row", "hues"] (defScope s_classes_in) := ⟨rfl, rfl, rfl, nd_classes_in, rfl, by decide +kernel, by decide +kernel⟩
noncomputable def C1_classes_in : EF :=
  (eLc false [3, 4] (iEnumF (aCons (eVar 0) aNil)) (gTupF 2 (gsCons (gSet 3) (gsCons (gSet 4) gsNil))) (fun ρ L => asB ((e2 gEq (eVar 4) (eVar 2)) ρ L)) (eVar 3))
noncomputable def C2_classes_in : EF :=
  (eLc false [2] (iRange1 (aCons (eVar 1) aNil)) (gSet 2) tTrue C1_classes_in)
noncomputable def F_classes_in : SF :=
  (sRet C2_classes_in)
noncomputable def m_classes_in : List D → Sto → Res D := mOf 5 F_classes_in
theorem u_classes_in (a0 a1 : D) (L : Sto) : m_classes_in [a0, a1] L = fin (F_classes_in [some a0, some a1, none, none, none] L) := (rfl)
theorem d_classes_in {G : Gb} (D : Facts G) (W : WX) : SSs ⟨G, N_classes_in, defScope s_classes_in, fun _ => true, 0, false, true, false⟩ W (defBody s_classes_in) F_classes_in :=
  (ss_one (ss_ret (se_lc false [("hue", 2)] nd_classes_in (si_range1 (sa_cons (se_var 1) sa_nil) rfl D.bl.range) (by kernel_rfl) (sg_name 2 nd_classes_in) sts_nil (se_lc false [("place", 3), ("own", 4)] nd_classes_in (si_enum (sa_cons (se_var 0) sa_nil) rfl D.bl.enumerate) (by kernel_rfl) (sg_tup (sgs_cons (sg_name 3 nd_classes_in) (sgs_cons (sg_name 4 nd_classes_in) sgs_nil))) (sts_one (st_eq (se_var 4) (se_var 2))) (se_var 3)))))
theorem fn_classes_in {G : Gb} (D : Facts G) : FnIs false G "classes_in" 2 1 m_classes_in [] := by
  obtain ⟨f, fd, F, g⟩ := D.f_classes_in
  have b : Binds G.K fd ["row", "hues"] [] := F.bindsN fun _ _ _ _ _ _ us hl => match us, hl with | [_, _], _ => rfl
  exact fnIs_plain F sc_classes_in (d_classes_in D) g b .nil (fun _ => .nil) (fun z => nomatch z)
def N_classes : List Str := ["row", "hues", "places"]
theorem nd_classes : N_classes.Nodup := by decide +kernel
theorem sc_classes : FnScope N_classes ["row", "hues"] (defScope s_classes) := ⟨rfl, rfl, rfl, nd_classes, rfl, by decide +kernel, by decide +kernel⟩
noncomputable def C1_classes : EF :=
  (eLc false [2] (iSeq (eCall 2 m_classes_in [] (aCons (eVar 0) (aCons (eVar 1) aNil)))) (gSet 2) tTrue (en gTuple (aCons (eVar 2) aNil)))
noncomputable def F_classes : SF :=
  (sSeq (sExpr (eCall 2 m_require_both [] (aCons (eVar 0) (aCons (eVar 1) aNil))))
    (sRet (en gTuple (aCons C1_classes aNil))))
noncomputable def m_classes : List D → Sto → Res D := mOf 3 F_classes
theorem u_classes (a0 a1 : D) (L : Sto) : m_classes [a0, a1] L = fin (F_classes [some a0, some a1, none] L) := (rfl)
theorem d_classes {G : Gb} (D : Facts G) (W : WX) : SSs ⟨G, N_classes, defScope s_classes, fun _ => true, 4, false, true, false⟩ W (defBody s_classes) F_classes :=
  (ss_cons (ss_expr (se_call (fn_require_both D) (Nat.le_of_ble_eq_true rfl) (sa_cons (se_var 0) (sa_cons (se_var 1) sa_nil))))
    (ss_one (ss_ret (se_tuple D.bl (sa_cons (se_lc false [("places", 2)] nd_classes (si_seq (se_call (fn_classes_in D) (Nat.le_of_ble_eq_true rfl) (sa_cons (se_var 0) (sa_cons (se_var 1) sa_nil)))) (by kernel_rfl) (sg_name 2 nd_classes) sts_nil (se_tuple D.bl (sa_cons (se_var 2) sa_nil))) sa_nil)))))
theorem fn_classes {G : Gb} (D : Facts G) : FnIs false G "classes" 2 5 m_classes [] := by
  obtain ⟨f, fd, F, g⟩ := D.f_classes
  have b : Binds G.K fd ["row", "hues"] [] := F.bindsN fun _ _ _ _ _ _ us hl => match us, hl with | [_, _], _ => rfl
  exact fnIs_plain F sc_classes (d_classes D) g b .nil (fun _ => .nil) (fun z => nomatch z)
def N_sizes_in : List Str := ["row", "hues", "hue"]
theorem nd_sizes_in : N_sizes_in.Nodup := by decide +kernel
theorem sc_sizes_in : FnScope N_sizes_in ["row", "hues"] (defScope s_sizes_in) := ⟨rfl, rfl, rfl, nd_sizes_in, rfl, by decide +kernel, by decide +kernel⟩
noncomputable def C1_sizes_in : EF :=
  (eLc false [2] (iRange1 (aCons (eVar 1) aNil)) (gSet 2) tTrue (eCm gCount (eVar 0) (aCons (eVar 2) aNil)))
noncomputable def F_sizes_in : SF :=
  (sRet C1_sizes_in)
noncomputable def m_sizes_in : List D → Sto → Res D := mOf 3 F_sizes_in
theorem u_sizes_in (a0 a1 : D) (L : Sto) : m_sizes_in [a0, a1] L = fin (F_sizes_in [some a0, some a1, none] L) := (rfl)
theorem d_sizes_in {G : Gb} (D : Facts G) (W : WX) : SSs ⟨G, N_sizes_in, defScope s_sizes_in, fun _ => true, 0, false, true, false⟩ W (defBody s_sizes_in) F_sizes_in :=
  (ss_one (ss_ret (se_lc false [("hue", 2)] nd_sizes_in (si_range1 (sa_cons (se_var 1) sa_nil) rfl D.bl.range) (by kernel_rfl) (sg_name 2 nd_sizes_in) sts_nil (se_count (se_var 0) (sa_cons (se_var 2) sa_nil)))))
theorem fn_sizes_in {G : Gb} (D : Facts G) : FnIs false G "sizes_in" 2 1 m_sizes_in [] := by
  obtain ⟨f, fd, F, g⟩ := D.f_sizes_in
  have b : Binds G.K fd ["row", "hues"] [] := F.bindsN fun _ _ _ _ _ _ us hl => match us, hl with | [_, _], _ => rfl
  exact fnIs_plain F sc_sizes_in (d_sizes_in D) g b .nil (fun _ => .nil) (fun z => nomatch z)
def N_is_level : List Str := ["row", "hues"]
theorem nd_is_level : N_is_level.Nodup := by decide +kernel
theorem sc_is_level : FnScope N_is_level ["row", "hues"] (defScope s_is_level) := ⟨rfl, rfl, rfl, nd_is_level, rfl, by decide +kernel, by decide +kernel⟩
noncomputable def F_is_level : SF :=
  (sSeq (sExpr (eCall 2 m_require_both [] (aCons (eVar 0) (aCons (eVar 1) aNil))))
    (sRet (e2 gLt (e2 gSub (en gMax (aCons (eCall 2 m_sizes_in [] (aCons (eVar 0) (aCons (eVar 1) aNil))) aNil)) (en gMin (aCons (eCall 2 m_sizes_in [] (aCons (eVar 0) (aCons (eVar 1) aNil))) aNil))) (eC (.int 2)))))
noncomputable def m_is_level : List D → Sto → Res D := mOf 2 F_is_level
theorem u_is_level (a0 a1 : D) (L : Sto) : m_is_level [a0, a1] L = fin (F_is_level [some a0, some a1] L) := (rfl)
theorem d_is_level {G : Gb} (D : Facts G) (W : WX) : SSs ⟨G, N_is_level, defScope s_is_level, fun _ => true, 4, false, true, false⟩ W (defBody s_is_level) F_is_level :=
  (ss_cons (ss_expr (se_call (fn_require_both D) (Nat.le_of_ble_eq_true rfl) (sa_cons (se_var 0) (sa_cons (se_var 1) sa_nil))))
    (ss_one (ss_ret (se_lt (se_sub (se_max D.bl (sa_cons (se_call (fn_sizes_in D) (Nat.le_of_ble_eq_true rfl) (sa_cons (se_var 0) (sa_cons (se_var 1) sa_nil))) sa_nil)) (se_min D.bl (sa_cons (se_call (fn_sizes_in D) (Nat.le_of_ble_eq_true rfl) (sa_cons (se_var 0) (sa_cons (se_var 1) sa_nil))) sa_nil))) se_int))))
theorem fn_is_level {G : Gb} (D : Facts G) : FnIs false G "is_level" 2 5 m_is_level [] := by
  obtain ⟨f, fd, F, g⟩ := D.f_is_level
  have b : Binds G.K fd ["row", "hues"] [] := F.bindsN fun _ _ _ _ _ _ us hl => match us, hl with | [_, _], _ => rfl
  exact fnIs_plain F sc_is_level (d_is_level D) g b .nil (fun _ => .nil) (fun z => nomatch z)
def N_spread : List Str := ["row", "hues"]
theorem nd_spread : N_spread.Nodup := by decide +kernel
theorem sc_spread : FnScope N_spread ["row", "hues"] (defScope s_spread) := ⟨rfl, rfl, rfl, nd_spread, rfl, by decide +kernel, by decide +kernel⟩
noncomputable def F_spread : SF :=
  (sSeq (sExpr (eCall 2 m_require_both [] (aCons (eVar 0) (aCons (eVar 1) aNil))))
    (sRet (e2 gSub (en gMax (aCons (eCall 2 m_sizes_in [] (aCons (eVar 0) (aCons (eVar 1) aNil))) aNil)) (en gMin (aCons (eCall 2 m_sizes_in [] (aCons (eVar 0) (aCons (eVar 1) aNil))) aNil)))))
noncomputable def m_spread : List D → Sto → Res D := mOf 2 F_spread
theorem u_spread (a0 a1 : D) (L : Sto) : m_spread [a0, a1] L = fin (F_spread [some a0, some a1] L) := (rfl)
theorem d_spread {G : Gb} (D : Facts G) (W : WX) : SSs ⟨G, N_spread, defScope s_spread, fun _ => true, 4, false, true, false⟩ W (defBody s_spread) F_spread :=
  (ss_cons (ss_expr (se_call (fn_require_both D) (Nat.le_of_ble_eq_true rfl) (sa_cons (se_var 0) (sa_cons (se_var 1) sa_nil))))
    (ss_one (ss_ret (se_sub (se_max D.bl (sa_cons (se_call (fn_sizes_in D) (Nat.le_of_ble_eq_true rfl) (sa_cons (se_var 0) (sa_cons (se_var 1) sa_nil))) sa_nil)) (se_min D.bl (sa_cons (se_call (fn_sizes_in D) (Nat.le_of_ble_eq_true rfl) (sa_cons (se_var 0) (sa_cons (se_var 1) sa_nil))) sa_nil))))))
theorem fn_spread {G : Gb} (D : Facts G) : FnIs false G "spread" 2 5 m_spread [] := by
  obtain ⟨f, fd, F, g⟩ := D.f_spread
  have b : Binds G.K fd ["row", "hues"] [] := F.bindsN fun _ _ _ _ _ _ us hl => match us, hl with | [_, _], _ => rfl
  exact fnIs_plain F sc_spread (d_spread D) g b .nil (fun _ => .nil) (fun z => nomatch z)
def N_sizes : List Str := ["row", "hues"]
theorem nd_sizes : N_sizes.Nodup := by decide +kernel
theorem sc_sizes : FnScope N_sizes ["row", "hues"] (defScope s_sizes) := ⟨rfl, rfl, rfl, nd_sizes, rfl, by decide +kernel, by decide +kernel⟩
noncomputable def F_sizes : SF :=
  (sSeq (sExpr (eCall 2 m_require_both [] (aCons (eVar 0) (aCons (eVar 1) aNil))))
    (sRet (en gTuple (aCons (eCall 2 m_sizes_in [] (aCons (eVar 0) (aCons (eVar 1) aNil))) aNil))))
noncomputable def m_sizes : List D → Sto → Res D := mOf 2 F_sizes
theorem u_sizes (a0 a1 : D) (L : Sto) : m_sizes [a0, a1] L = fin (F_sizes [some a0, some a1] L) := (rfl)
theorem d_sizes {G : Gb} (D : Facts G) (W : WX) : SSs ⟨G, N_sizes, defScope s_sizes, fun _ => true, 4, false, true, false⟩ W (defBody s_sizes) F_sizes :=
  (ss_cons (ss_expr (se_call (fn_require_both D) (Nat.le_of_ble_eq_true rfl) (sa_cons (se_var 0) (sa_cons (se_var 1) sa_nil))))
    (ss_one (ss_ret (se_tuple D.bl (sa_cons (se_call (fn_sizes_in D) (Nat.le_of_ble_eq_true rfl) (sa_cons (se_var 0) (sa_cons (se_var 1) sa_nil))) sa_nil)))))
theorem fn_sizes {G : Gb} (D : Facts G) : FnIs false G "sizes" 2 5 m_sizes [] := by
  obtain ⟨f, fd, F, g⟩ := D.f_sizes
  have b : Binds G.K fd ["row", "hues"] [] := F.bindsN fun _ _ _ _ _ _ us hl => match us, hl with | [_, _], _ => rfl
  exact fnIs_plain F sc_sizes (d_sizes D) g b .nil (fun _ => .nil) (fun z => nomatch z)
def N_require_hue : List Str := ["hue", "hues"]
theorem nd_require_hue : N_require_hue.Nodup := by decide +kernel
theorem sc_require_hue : FnScope N_require_hue ["hue", "hues"] (defScope s_require_hue) := ⟨rfl, rfl, rfl, nd_require_hue, rfl, by decide +kernel, by decide +kernel⟩
noncomputable def F_require_hue : SF :=
  (sIf (tNotF (tTru (eCall 3 m_is_integer [] (aCons (eVar 0) (aCons (eC (.int 0)) (aCons (e2 gSub (eVar 1) (eC (.int 1))) aNil))))))
    (sRaiseF "InvalidNumber" "value" (eVar 0))
    sSkip)
noncomputable def m_require_hue : List D → Sto → Res D := mOf 2 F_require_hue
theorem u_require_hue (a0 a1 : D) (L : Sto) : m_require_hue [a0, a1] L = fin (F_require_hue [some a0, some a1] L) := (rfl)
theorem d_require_hue {G : Gb} (D : Facts G) (W : WX) : SSs ⟨G, N_require_hue, defScope s_require_hue, fun _ => true, 1, false, true, false⟩ W (defBody s_require_hue) F_require_hue :=
  (ss_one (ss_if (st_not (st_truth (se_call (fn_is_integer D) (Nat.le_of_ble_eq_true rfl) (sa_cons (se_var 0) (sa_cons se_int (sa_cons (se_sub (se_var 1) se_int) sa_nil))))))
    (ss_one (ss_raiseF D.e_InvalidNumber (Nat.le_of_ble_eq_true rfl) (se_var 0)))
    ss_nil))
theorem fn_require_hue {G : Gb} (D : Facts G) : FnIs false G "require_hue" 2 2 m_require_hue [] := by
  obtain ⟨f, fd, F, g⟩ := D.f_require_hue
  have b : Binds G.K fd ["hue", "hues"] [] := F.bindsN fun _ _ _ _ _ _ us hl => match us, hl with | [_, _], _ => rfl
  exact fnIs_plain F sc_require_hue (d_require_hue D) g b .nil (fun _ => .nil) (fun z => nomatch z)
def N_exchanged : List Str := ["row", "hues", "one", "other", "turned", "hue"]
theorem nd_exchanged : N_exchanged.Nodup := by decide +kernel
theorem sc_exchanged : FnScope N_exchanged ["row", "hues", "one", "other"] (defScope s_exchanged) := ⟨rfl, rfl, rfl, nd_exchanged, rfl, by decide +kernel, by decide +kernel⟩
noncomputable def C1_exchanged : EF :=
  (eLc false [5] (iSeq (eVar 0)) (gSet 5) tTrue (eGet2 (eVar 4) (eVar 5) (eVar 5)))
noncomputable def F_exchanged : SF :=
  (sSeq (sExpr (eCall 1 m_require_row [] (aCons (eVar 0) aNil)))
    (sSeq (sExpr (eCall 1 m_require_hues [] (aCons (eVar 1) aNil)))
    (sSeq (sExpr (eCall 2 m_require_hue [] (aCons (eVar 2) (aCons (eVar 1) aNil))))
    (sSeq (sExpr (eCall 2 m_require_hue [] (aCons (eVar 3) (aCons (eVar 1) aNil))))
    (sSeq (sExpr (eCall 2 m_require_below [] (aCons (eVar 0) (aCons (eVar 1) aNil))))
    (sSeq (sSet 4 (eDisp false (((eVar 2), (eVar 3)) :: (((eVar 3), (eVar 2)) :: []))))
    (sRet (en gTuple (aCons C1_exchanged aNil)))))))))
noncomputable def m_exchanged : List D → Sto → Res D := mOf 6 F_exchanged
theorem u_exchanged (a0 a1 a2 a3 : D) (L : Sto) : m_exchanged [a0, a1, a2, a3] L = fin (F_exchanged [some a0, some a1, some a2, some a3, none, none] L) := (rfl)
theorem d_exchanged {G : Gb} (D : Facts G) (W : WX) : SSs ⟨G, N_exchanged, defScope s_exchanged, fun _ => true, 3, false, true, false⟩ W (defBody s_exchanged) F_exchanged :=
  (ss_cons (ss_expr (se_call (fn_require_row D) (Nat.le_of_ble_eq_true rfl) (sa_cons (se_var 0) sa_nil)))
    (ss_cons (ss_expr (se_call (fn_require_hues D) (Nat.le_of_ble_eq_true rfl) (sa_cons (se_var 1) sa_nil)))
    (ss_cons (ss_expr (se_call (fn_require_hue D) (Nat.le_of_ble_eq_true rfl) (sa_cons (se_var 2) (sa_cons (se_var 1) sa_nil))))
    (ss_cons (ss_expr (se_call (fn_require_hue D) (Nat.le_of_ble_eq_true rfl) (sa_cons (se_var 3) (sa_cons (se_var 1) sa_nil))))
    (ss_cons (ss_expr (se_call (fn_require_below D) (Nat.le_of_ble_eq_true rfl) (sa_cons (se_var 0) (sa_cons (se_var 1) sa_nil))))
    (ss_cons (ss_set 4 nd_exchanged (se_disp false (sp_cons (se_var 2) (se_var 3) (sp_cons (se_var 3) (se_var 2) sp_nil))))
    (ss_one (ss_ret (se_tuple D.bl (sa_cons (se_lc false [("hue", 5)] nd_exchanged (si_seq (se_var 0)) (by kernel_rfl) (sg_name 5 nd_exchanged) sts_nil (se_get2 (se_var 4) (se_var 5) (se_var 5))) sa_nil))))))))))
theorem fn_exchanged {G : Gb} (D : Facts G) : FnIs false G "exchanged" 4 4 m_exchanged [] := by
  obtain ⟨f, fd, F, g⟩ := D.f_exchanged
  have b : Binds G.K fd ["row", "hues", "one", "other"] [] := F.bindsN fun _ _ _ _ _ _ us hl => match us, hl with | [_, _, _, _], _ => rfl
  exact fnIs_plain F sc_exchanged (d_exchanged D) g b .nil (fun _ => .nil) (fun z => nomatch z)
def N_renamed_in : List Str := ["row", "numbers", "hue"]
theorem nd_renamed_in : N_renamed_in.Nodup := by decide +kernel
theorem sc_renamed_in : FnScope N_renamed_in ["row"] (defScope s_renamed_in) := ⟨rfl, rfl, rfl, nd_renamed_in, rfl, by decide +kernel, by decide +kernel⟩
noncomputable def I1_renamed_in : IF :=
  (iSeq (eVar 0))
noncomputable def T1_renamed_in : GF :=
  (gSet 2)
noncomputable def B1_renamed_in : SF :=
  (sExpr (eSetd (eVar 1) (eVar 2) (en gLen (aCons (eVar 1) aNil))))
noncomputable def L1_renamed_in : SF :=
  (sFor I1_renamed_in T1_renamed_in B1_renamed_in)
noncomputable def C1_renamed_in : EF :=
  (eLc false [2] (iSeq (eVar 0)) (gSet 2) tTrue (e2 gIx (eVar 1) (eVar 2)))
noncomputable def F_renamed_in : SF :=
  (sSeq (sSet 1 (eDict0 true))
    (sSeq L1_renamed_in
    (sRet (en gTuple (aCons C1_renamed_in aNil)))))
noncomputable def m_renamed_in : List D → Sto → Res D := mDrop 3 F_renamed_in
theorem d_renamed_in {G : Gb} (D : Facts G) (W : WX) : SSs ⟨G, N_renamed_in, defScope s_renamed_in, fun _ => true, 0, false, true, false⟩ W (defBody s_renamed_in) F_renamed_in :=
  (ss_cons (ss_set 1 nd_renamed_in (se_dict0 true))
    (ss_cons (ss_for (own := [2]) (fi := I1_renamed_in) (ft := T1_renamed_in) (g := B1_renamed_in) (si_seq (se_var 0)) (sg_name 2 nd_renamed_in)
    (ss_one (ss_expr (se_setd (se_var 1) (se_var 2) (se_len D.bl (sa_cons (se_var 1) sa_nil))))))
    (ss_one (ss_ret (se_tuple D.bl (sa_cons (se_lc false [("hue", 2)] nd_renamed_in (si_seq (se_var 0)) (by kernel_rfl) (sg_name 2 nd_renamed_in) sts_nil (se_ix (se_var 1) (se_var 2))) sa_nil))))))
theorem fn_renamed_in {G : Gb} (D : Facts G) : FnIs false G "renamed_in" 1 1 m_renamed_in [] := by
  obtain ⟨f, fd, F, g⟩ := D.f_renamed_in
  have b : Binds G.K fd ["row"] [] := F.bindsN fun _ _ _ _ _ _ us hl => match us, hl with | [_], _ => rfl
  exact fnIs_drop F sc_renamed_in (d_renamed_in D) g b .nil (fun _ => .nil) (fun z => nomatch z)
def N_renamed : List Str := ["row"]
theorem nd_renamed : N_renamed.Nodup := by decide +kernel
theorem sc_renamed : FnScope N_renamed ["row"] (defScope s_renamed) := ⟨rfl, rfl, rfl, nd_renamed, rfl, by decide +kernel, by decide +kernel⟩
noncomputable def F_renamed : SF :=
  (sSeq (sExpr (eCall 1 m_require_row [] (aCons (eVar 0) aNil)))
    (sRet (eCall 1 m_renamed_in [] (aCons (eVar 0) aNil))))
noncomputable def m_renamed : List D → Sto → Res D := mOf 1 F_renamed
theorem u_renamed (a0 : D) (L : Sto) : m_renamed [a0] L = fin (F_renamed [some a0] L) := (rfl)
theorem d_renamed {G : Gb} (D : Facts G) (W : WX) : SSs ⟨G, N_renamed, defScope s_renamed, fun _ => true, 3, false, true, false⟩ W (defBody s_renamed) F_renamed :=
  (ss_cons (ss_expr (se_call (fn_require_row D) (Nat.le_of_ble_eq_true rfl) (sa_cons (se_var 0) sa_nil)))
    (ss_one (ss_ret (se_call (fn_renamed_in D) (Nat.le_of_ble_eq_true rfl) (sa_cons (se_var 0) sa_nil)))))
theorem fn_renamed {G : Gb} (D : Facts G) : FnIs false G "renamed" 1 4 m_renamed [] := by
  obtain ⟨f, fd, F, g⟩ := D.f_renamed
  have b : Binds G.K fd ["row"] [] := F.bindsN fun _ _ _ _ _ _ us hl => match us, hl with | [_], _ => rfl
  exact fnIs_plain F sc_renamed (d_renamed D) g b .nil (fun _ => .nil) (fun z => nomatch z)
def N_are_alike : List Str := ["row", "other"]
theorem nd_are_alike : N_are_alike.Nodup := by decide +kernel
theorem sc_are_alike : FnScope N_are_alike ["row", "other"] (defScope s_are_alike) := ⟨rfl, rfl, rfl, nd_are_alike, rfl, by decide +kernel, by decide +kernel⟩
noncomputable def F_are_alike : SF :=
  (sSeq (sExpr (eCall 1 m_require_row [] (aCons (eVar 0) aNil)))
    (sSeq (sExpr (eCall 1 m_require_row [] (aCons (eVar 1) aNil)))
    (sSeq (sIf (fun ρ L => asB ((e2 gNe (en gLen (aCons (eVar 0) aNil)) (en gLen (aCons (eVar 1) aNil))) ρ L))
    (sRaise0 "InvalidOperation" (eC (.str "rows with equally many places are expected")))
    sSkip)
    (sRet (e2 gEq (eCall 1 m_renamed_in [] (aCons (eVar 0) aNil)) (eCall 1 m_renamed_in [] (aCons (eVar 1) aNil)))))))
noncomputable def m_are_alike : List D → Sto → Res D := mOf 2 F_are_alike
theorem u_are_alike (a0 a1 : D) (L : Sto) : m_are_alike [a0, a1] L = fin (F_are_alike [some a0, some a1] L) := (rfl)
theorem d_are_alike {G : Gb} (D : Facts G) (W : WX) : SSs ⟨G, N_are_alike, defScope s_are_alike, fun _ => true, 3, false, true, false⟩ W (defBody s_are_alike) F_are_alike :=
  (ss_cons (ss_expr (se_call (fn_require_row D) (Nat.le_of_ble_eq_true rfl) (sa_cons (se_var 0) sa_nil)))
    (ss_cons (ss_expr (se_call (fn_require_row D) (Nat.le_of_ble_eq_true rfl) (sa_cons (se_var 1) sa_nil)))
    (ss_cons (ss_if (st_ne (se_len D.bl (sa_cons (se_var 0) sa_nil)) (se_len D.bl (sa_cons (se_var 1) sa_nil)))
    (ss_one (ss_raise0 D.e_InvalidOperation se_str))
    ss_nil)
    (ss_one (ss_ret (se_eq (se_call (fn_renamed_in D) (Nat.le_of_ble_eq_true rfl) (sa_cons (se_var 0) sa_nil)) (se_call (fn_renamed_in D) (Nat.le_of_ble_eq_true rfl) (sa_cons (se_var 1) sa_nil))))))))
theorem fn_are_alike {G : Gb} (D : Facts G) : FnIs false G "are_alike" 2 4 m_are_alike [] := by
  obtain ⟨f, fd, F, g⟩ := D.f_are_alike
  have b : Binds G.K fd ["row", "other"] [] := F.bindsN fun _ _ _ _ _ _ us hl => match us, hl with | [_, _], _ => rfl
  exact fnIs_plain F sc_are_alike (d_are_alike D) g b .nil (fun _ => .nil) (fun z => nomatch z)
def N_level_sizes_in : List Str := ["size", "hues", "at"]
theorem nd_level_sizes_in : N_level_sizes_in.Nodup := by decide +kernel
theorem sc_level_sizes_in : FnScope N_level_sizes_in ["size", "hues"] (defScope s_level_sizes_in) := ⟨rfl, rfl, rfl, nd_level_sizes_in, rfl, by decide +kernel, by decide +kernel⟩
noncomputable def C1_level_sizes_in : EF :=
  (eLc false [2] (iRange1 (aCons (eVar 1) aNil)) (gSet 2) tTrue (e2 gAdd (e2 gDiv (eVar 0) (eVar 1)) (en gInt (aCons (e2 gLt (eVar 2) (e2 gMod (eVar 0) (eVar 1))) aNil))))
noncomputable def F_level_sizes_in : SF :=
  (sRet C1_level_sizes_in)
noncomputable def m_level_sizes_in : List D → Sto → Res D := mOf 3 F_level_sizes_in
theorem d_level_sizes_in {G : Gb} (D : Facts G) (W : WX) : SSs ⟨G, N_level_sizes_in, defScope s_level_sizes_in, fun _ => true, 0, false, true, false⟩ W (defBody s_level_sizes_in) F_level_sizes_in :=
  (ss_one (ss_ret (se_lc false [("at", 2)] nd_level_sizes_in (si_range1 (sa_cons (se_var 1) sa_nil) rfl D.bl.range) (by kernel_rfl) (sg_name 2 nd_level_sizes_in) sts_nil (se_add (se_div (se_var 0) (se_var 1)) (se_int1 D.bl (sa_cons (se_lt (se_var 2) (se_mod (se_var 0) (se_var 1))) sa_nil))))))
theorem fn_level_sizes_in {G : Gb} (D : Facts G) : FnIs false G "level_sizes_in" 2 1 m_level_sizes_in [] := by
  obtain ⟨f, fd, F, g⟩ := D.f_level_sizes_in
  have b : Binds G.K fd ["size", "hues"] [] := F.bindsN fun _ _ _ _ _ _ us hl => match us, hl with | [_, _], _ => rfl
  exact fnIs_plain F sc_level_sizes_in (d_level_sizes_in D) g b .nil (fun _ => .nil) (fun z => nomatch z)
def N_level_sizes : List Str := ["size", "hues"]
theorem nd_level_sizes : N_level_sizes.Nodup := by decide +kernel
theorem sc_level_sizes : FnScope N_level_sizes ["size", "hues"] (defScope s_level_sizes) := ⟨rfl, rfl, rfl, nd_level_sizes, rfl, by decide +kernel, by decide +kernel⟩
noncomputable def F_level_sizes : SF :=
  (sSeq (sExpr (eCall 1 m_require_hues [] (aCons (eVar 0) aNil)))
    (sSeq (sExpr (eCall 1 m_require_hues [] (aCons (eVar 1) aNil)))
    (sRet (en gTuple (aCons (eCall 2 m_level_sizes_in [] (aCons (eVar 0) (aCons (eVar 1) aNil))) aNil)))))
noncomputable def m_level_sizes : List D → Sto → Res D := mOf 2 F_level_sizes
theorem u_level_sizes (a0 a1 : D) (L : Sto) : m_level_sizes [a0, a1] L = fin (F_level_sizes [some a0, some a1] L) := (rfl)
theorem d_level_sizes {G : Gb} (D : Facts G) (W : WX) : SSs ⟨G, N_level_sizes, defScope s_level_sizes, fun _ => true, 2, false, true, false⟩ W (defBody s_level_sizes) F_level_sizes :=
  (ss_cons (ss_expr (se_call (fn_require_hues D) (Nat.le_of_ble_eq_true rfl) (sa_cons (se_var 0) sa_nil)))
    (ss_cons (ss_expr (se_call (fn_require_hues D) (Nat.le_of_ble_eq_true rfl) (sa_cons (se_var 1) sa_nil)))
    (ss_one (ss_ret (se_tuple D.bl (sa_cons (se_call (fn_level_sizes_in D) (Nat.le_of_ble_eq_true rfl) (sa_cons (se_var 0) (sa_cons (se_var 1) sa_nil))) sa_nil))))))
theorem fn_level_sizes {G : Gb} (D : Facts G) : FnIs false G "level_sizes" 2 3 m_level_sizes [] := by
  obtain ⟨f, fd, F, g⟩ := D.f_level_sizes
  have b : Binds G.K fd ["size", "hues"] [] := F.bindsN fun _ _ _ _ _ _ us hl => match us, hl with | [_, _], _ => rfl
  exact fnIs_plain F sc_level_sizes (d_level_sizes D) g b .nil (fun _ => .nil) (fun z => nomatch z)
def N_is_ascending : List Str := ["items", "one", "other"]
theorem nd_is_ascending : N_is_ascending.Nodup := by decide +kernel
theorem sc_is_ascending : FnScope N_is_ascending ["items"] (defScope s_is_ascending) := ⟨rfl, rfl, rfl, nd_is_ascending, rfl, by decide +kernel, by decide +kernel⟩
noncomputable def C1_is_ascending : EF :=
  (eLc false [1, 2] (iZipF (aCons (eVar 0) (aCons (eSl (eVar 0) (oSome (eC (.int 1))) oNone) aNil))) (gTupF 2 (gsCons (gSet 1) (gsCons (gSet 2) gsNil))) tTrue (e2 gLt (eVar 1) (eVar 2)))
noncomputable def F_is_ascending : SF :=
  (sRet (en gAll (aCons C1_is_ascending aNil)))
noncomputable def m_is_ascending : List D → Sto → Res D := mOf 3 F_is_ascending
theorem u_is_ascending (a0 : D) (L : Sto) : m_is_ascending [a0] L = fin (F_is_ascending [some a0, none, none] L) := (rfl)
theorem d_is_ascending {G : Gb} (D : Facts G) (W : WX) : SSs ⟨G, N_is_ascending, defScope s_is_ascending, fun _ => true, 0, false, true, false⟩ W (defBody s_is_ascending) F_is_ascending :=
  (ss_one (ss_ret (se_all D.bl (sa_cons (se_lc false [("one", 1), ("other", 2)] nd_is_ascending (si_zip (sa_cons (se_var 0) (sa_cons (se_sl (se_var 0) (so_some se_int) so_none) sa_nil)) rfl D.bl.zip) (by kernel_rfl) (sg_tup (sgs_cons (sg_name 1 nd_is_ascending) (sgs_cons (sg_name 2 nd_is_ascending) sgs_nil))) sts_nil (se_lt (se_var 1) (se_var 2))) sa_nil))))
theorem fn_is_ascending {G : Gb} (D : Facts G) : FnIs false G "is_ascending" 1 1 m_is_ascending [] := by
  obtain ⟨f, fd, F, g⟩ := D.f_is_ascending
  have b : Binds G.K fd ["items"] [] := F.bindsN fun _ _ _ _ _ _ us hl => match us, hl with | [_], _ => rfl
  exact fnIs_plain F sc_is_ascending (d_is_ascending D) g b .nil (fun _ => .nil) (fun z => nomatch z)
def N_are_places : List Str := ["value", "size", "place"]
theorem nd_are_places : N_are_places.Nodup := by decide +kernel
theorem sc_are_places : FnScope N_are_places ["value", "size"] (defScope s_are_places) := ⟨rfl, rfl, rfl, nd_are_places, rfl, by decide +kernel, by decide +kernel⟩
noncomputable def C1_are_places : EF :=
  (eLc false [2] (iSeq (eVar 0)) (gSet 2) tTrue (eCall 3 m_is_integer [] (aCons (eVar 2) (aCons (eC (.int 0)) (aCons (e2 gSub (eVar 1) (eC (.int 1))) aNil)))))
noncomputable def F_are_places : SF :=
  (sSeq (sIf (tOrF (tNotF (tTru (e1 (gIsiK owns .tup) (eVar 0)))) (tNotF (tTru (en gAll (aCons C1_are_places aNil)))))
    (sRet (eC (.bl false)))
    sSkip)
    (sRet (eCall 1 m_is_ascending [] (aCons (eVar 0) aNil))))
noncomputable def m_are_places : List D → Sto → Res D := mOf 3 F_are_places
theorem u_are_places (a0 a1 : D) (L : Sto) : m_are_places [a0, a1] L = fin (F_are_places [some a0, some a1, none] L) := (rfl)
theorem d_are_places {G : Gb} (D : Facts G) (W : WX) : SSs ⟨G, N_are_places, defScope s_are_places, fun _ => true, 1, false, true, false⟩ W (defBody s_are_places) F_are_places :=
  (ss_cons (ss_if (st_bool (sw_or (st_not (st_truth (se_isiK D.ct .tup D.bl D.bl.tuple (by decide +kernel) (se_var 0)))) (sw_one_or (st_not (st_truth (se_all D.bl (sa_cons (se_lc false [("place", 2)] nd_are_places (si_seq (se_var 0)) (by kernel_rfl) (sg_name 2 nd_are_places) sts_nil (se_call (fn_is_integer D) (Nat.le_of_ble_eq_true rfl) (sa_cons (se_var 2) (sa_cons se_int (sa_cons (se_sub (se_var 1) se_int) sa_nil))))) sa_nil)))))))
    (ss_one (ss_ret se_bl))
    ss_nil)
    (ss_one (ss_ret (se_call (fn_is_ascending D) (Nat.le_of_ble_eq_true rfl) (sa_cons (se_var 0) sa_nil)))))
theorem fn_are_places {G : Gb} (D : Facts G) : FnIs false G "are_places" 2 2 m_are_places [] := by
  obtain ⟨f, fd, F, g⟩ := D.f_are_places
  have b : Binds G.K fd ["value", "size"] [] := F.bindsN fun _ _ _ _ _ _ us hl => match us, hl with | [_, _], _ => rfl
  exact fnIs_plain F sc_are_places (d_are_places D) g b .nil (fun _ => .nil) (fun z => nomatch z)
def N_are_parts : List Str := ["value", "found", "places", "place"]
theorem nd_are_parts : N_are_parts.Nodup := by decide +kernel
theorem sc_are_parts : FnScope N_are_parts ["value"] (defScope s_are_parts) := ⟨rfl, rfl, rfl, nd_are_parts, rfl, by decide +kernel, by decide +kernel⟩
noncomputable def C1_are_parts : EF :=
  (eLc false [2] (iSeq (eVar 0)) (gSet 2) tTrue (eCall 2 m_are_places [] (aCons (eVar 2) (aCons (eC (.int 20)) aNil))))
noncomputable def C2_are_parts : EF :=
  (eComp false [2, 3] (.lst []) (iSeq (eVar 0)) (gSet 2) tTrue (stepN (iSeq (eVar 2)) [3] (gSet 3) tTrue (stepL (eVar 3))))
noncomputable def F_are_parts : SF :=
  (sSeq (sIf (tOrF (tNotF (tTru (e1 (gIsiK owns .tup) (eVar 0)))) (tNotF (fun ρ L => asB ((eChain gLe gLe (eC (.int 1)) (en gLen (aCons (eVar 0) aNil)) (eC (.int 20))) ρ L))))
    (sRet (eC (.bl false)))
    sSkip)
    (sSeq (sIf (tNotF (tTru (en gAll (aCons C1_are_parts aNil))))
    (sRet (eC (.bl false)))
    sSkip)
    (sSeq (sSet 1 (en (gSort false) (aCons C2_are_parts aNil)))
    (sRet (eAndF (e2 gNe (eVar 1) (eLst false aNil)) (e2 gEq (eVar 1) (eRange1 (en gLen (aCons (eVar 1) aNil)) (lstOut false))))))))
noncomputable def m_are_parts : List D → Sto → Res D := mOf 4 F_are_parts
theorem u_are_parts (a0 : D) (L : Sto) : m_are_parts [a0] L = fin (F_are_parts [some a0, none, none, none] L) := (rfl)
theorem d_are_parts {G : Gb} (D : Facts G) (W : WX) : SSs ⟨G, N_are_parts, defScope s_are_parts, fun _ => true, 2, false, true, false⟩ W (defBody s_are_parts) F_are_parts :=
  (ss_cons (ss_if (st_bool (sw_or (st_not (st_truth (se_isiK D.ct .tup D.bl D.bl.tuple (by decide +kernel) (se_var 0)))) (sw_one_or (st_not (st_le_le se_int (se_len D.bl (sa_cons (se_var 0) sa_nil)) (se_cst D.c_MOST_PLACES (fun _ => by constructor)))))))
    (ss_one (ss_ret se_bl))
    ss_nil)
    (ss_cons (ss_if (st_not (st_truth (se_all D.bl (sa_cons (se_lc false [("places", 2)] nd_are_parts (si_seq (se_var 0)) (by kernel_rfl) (sg_name 2 nd_are_parts) sts_nil (se_call (fn_are_places D) (Nat.le_of_ble_eq_true rfl) (sa_cons (se_var 2) (sa_cons (se_cst D.c_MOST_PLACES (fun _ => by constructor)) sa_nil)))) sa_nil))))
    (ss_one (ss_ret se_bl))
    ss_nil)
    (ss_cons (ss_set 1 nd_are_parts (se_sort false D.bl (sa_cons (se_lc2 false [("places", 2), ("place", 3)] [3] nd_are_parts (si_seq (se_var 0)) (by kernel_rfl) (by decide) (sg_name 2 nd_are_parts) sts_nil (si_seq (se_var 2)) (sg_name 3 nd_are_parts) sts_nil (se_var 3)) sa_nil)))
    (ss_one (ss_ret (se_and (se_ne (se_var 1) (se_lst false sa_nil)) (se_one (se_eq (se_var 1) (se_listRg1 false D.bl (se_len D.bl (sa_cons (se_var 1) sa_nil)))))))))))
theorem fn_are_parts {G : Gb} (D : Facts G) : FnIs false G "are_parts" 1 3 m_are_parts [] := by
  obtain ⟨f, fd, F, g⟩ := D.f_are_parts
  have b : Binds G.K fd ["value"] [] := F.bindsN fun _ _ _ _ _ _ us hl => match us, hl with | [_], _ => rfl
  exact fnIs_plain F sc_are_parts (d_are_parts D) g b .nil (fun _ => .nil) (fun z => nomatch z)
def N_row_of : List Str := ["parts", "hues", "place", "hue", "places"]
theorem nd_row_of : N_row_of.Nodup := by decide +kernel
theorem sc_row_of : FnScope N_row_of ["parts"] (defScope s_row_of) := ⟨rfl, rfl, rfl, nd_row_of, rfl, by decide +kernel, by decide +kernel⟩
noncomputable def C1_row_of : EF :=
  (eComp false [3, 4, 2] (.dK []) (iEnumF (aCons (eVar 0) aNil)) (gTupF 2 (gsCons (gSet 3) (gsCons (gSet 4) gsNil))) tTrue (stepN (iSeq (eVar 4)) [2] (gSet 2) tTrue (stepD (eVar 2) (eVar 3))))
noncomputable def C2_row_of : EF :=
  (eLc false [2] (iRange1 (aCons (en gLen (aCons (eVar 1) aNil)) aNil)) (gSet 2) tTrue (e2 gIx (eVar 1) (eVar 2)))
noncomputable def F_row_of : SF :=
  (sSeq (sIf (tNotF (tTru (eCall 1 m_are_parts [] (aCons (eVar 0) aNil))))
    (sRaise0 "InvalidOperation" (eC (.str "a tuple of ascending tuples that part the places is expected")))
    sSkip)
    (sSeq (sSet 1 C1_row_of)
    (sRet (en gTuple (aCons C2_row_of aNil)))))
noncomputable def m_row_of : List D → Sto → Res D := mOf 5 F_row_of
theorem u_row_of (a0 : D) (L : Sto) : m_row_of [a0] L = fin (F_row_of [some a0, none, none, none, none] L) := (rfl)
theorem d_row_of {G : Gb} (D : Facts G) (W : WX) : SSs ⟨G, N_row_of, defScope s_row_of, fun _ => true, 3, false, true, false⟩ W (defBody s_row_of) F_row_of :=
  (ss_cons (ss_if (st_not (st_truth (se_call (fn_are_parts D) (Nat.le_of_ble_eq_true rfl) (sa_cons (se_var 0) sa_nil))))
    (ss_one (ss_raise0 D.e_InvalidOperation se_str))
    ss_nil)
    (ss_cons (ss_setN 1 nd_row_of (se_dc2 false [("hue", 3), ("places", 4), ("place", 2)] [2] nd_row_of (si_enum (sa_cons (se_var 0) sa_nil) rfl D.bl.enumerate) (by kernel_rfl) (by decide) (sg_tup (sgs_cons (sg_name 3 nd_row_of) (sgs_cons (sg_name 4 nd_row_of) sgs_nil))) sts_nil (si_seq (se_var 4)) (sg_name 2 nd_row_of) sts_nil (se_var 2) (se_var 3)))
    (ss_one (ss_ret (se_tuple D.bl (sa_cons (se_lc false [("place", 2)] nd_row_of (si_range1 (sa_cons (se_len D.bl (sa_cons (se_var 1) sa_nil)) sa_nil) rfl D.bl.range) (by kernel_rfl) (sg_name 2 nd_row_of) sts_nil (se_ix (se_var 1) (se_var 2))) sa_nil))))))
theorem fn_row_of {G : Gb} (D : Facts G) : FnIs false G "row_of" 1 4 m_row_of [] := by
  obtain ⟨f, fd, F, g⟩ := D.f_row_of
  have b : Binds G.K fd ["parts"] [] := F.bindsN fun _ _ _ _ _ _ us hl => match us, hl with | [_], _ => rfl
  exact fnIs_plain F sc_row_of (d_row_of D) g b .nil (fun _ => .nil) (fun z => nomatch z)
def N_l_parts_right : List Str := ["_law_dice_here", "_law_some", "_law_bad", "_law_place"]
theorem nd_l_parts_right : N_l_parts_right.Nodup := by decide +kernel
theorem sc_l_parts_right : FnScope N_l_parts_right ["_law_dice_here"] (defScope s_l_parts_right) := ⟨rfl, rfl, rfl, nd_l_parts_right, rfl, by decide +kernel, by decide +kernel⟩
noncomputable def C1_l_parts_right : EF :=
  (eLc false [3] (iRange1 (aCons (eC (.int 21)) aNil)) (gSet 3) tTrue (eTup (aCons (eVar 3) aNil)))
noncomputable def F_l_parts_right : SF :=
  (sSeq (sSet 1 (eLst false (aCons (eTup (aCons (eTup (aCons (eC (.int 0)) aNil)) (aCons (eTup (aCons (eC (.int 0)) aNil)) aNil))) (aCons (eTup (aCons (eTup (aCons (eC (.int 1)) aNil)) aNil)) (aCons (eTup (aCons (eTup aNil) (aCons (eTup aNil) aNil))) (aCons (eTup aNil) (aCons (eTup (aCons (eTup (aCons (eC (.int 0)) (aCons (eC (.int 2)) aNil))) aNil)) (aCons (eTup (aCons (eTup (aCons (eC (.int 1)) (aCons (eC (.int 0)) aNil))) aNil)) (aCons (eTup (aCons (eTup (aCons (eC (.int 0)) aNil)) (aCons (eC (.int 1)) aNil))) (aCons (eTup (aCons (eTup (aCons (eC (.int 0)) aNil)) (aCons (eLst false (aCons (eC (.int 1)) aNil)) aNil))) (aCons (eLst false (aCons (eTup (aCons (eC (.int 0)) aNil)) aNil)) (aCons (eC .non) (aCons (eC (.str "0")) aNil)))))))))))))
    (sSeq (sSet 1 (e2 gAdd (eVar 1) (eLst false (aCons (eTup (aCons (eTup (aCons (eC (.int 0)) aNil)) (aCons (eTup (aCons (eC .non) aNil)) aNil))) (aCons (eTup (aCons (eTup (aCons (eC (.int 0)) (aCons (eC (.int 0)) aNil))) aNil)) (aCons (eTup (aCons (eTup (aCons (e1 gNeg (eC (.int 1))) (aCons (eC (.int 0)) aNil))) aNil)) (aCons (en gTuple (aCons C1_l_parts_right aNil)) (aCons (eDisp false (((eC (.int 0)), (eC (.int 0))) :: [])) aNil))))))))
    (sSeq (sSet 1 (e2 gAdd (eVar 1) (eLst false (aCons (eTup (aCons (eTup (aCons (eC (.int 0)) (aCons (eC (.int 1)) aNil))) (aCons (eTup (aCons (eC (.int 1)) (aCons (eC (.int 2)) aNil))) aNil))) (aCons (eTup (aCons (eTup (aCons (eC (.bl true)) aNil)) aNil)) aNil)))))
    (sSeq (sSet 2 (eCall 2 m_l_one_of [] (aCons (eVar 0) (aCons (eVar 1) aNil))))
    (sRet (e2 gEq (eLam m_l_met [] (eCall 1 m_row_of [] (aCons (eVar 2) aNil))) (eC (.str "operation"))))))))
noncomputable def m_l_parts_right : List D → Sto → Res D := mOf 4 F_l_parts_right
theorem u_l_parts_right (a0 : D) (L : Sto) : m_l_parts_right [a0] L = fin (F_l_parts_right [some a0, none, none, none] L) := (rfl)
theorem d_l_parts_right {G : Gb} (D : Facts G) (W : WX) : SSs ⟨G, N_l_parts_right, defScope s_l_parts_right, fun _ => true, 6, true, true, true⟩ W (defBody s_l_parts_right) F_l_parts_right :=
  (ss_cons (ss_set 1 nd_l_parts_right (se_lst false (sa_cons (se_tup (sa_cons (se_tup (sa_cons se_int sa_nil)) (sa_cons (se_tup (sa_cons se_int sa_nil)) sa_nil))) (sa_cons (se_tup (sa_cons (se_tup (sa_cons se_int sa_nil)) sa_nil)) (sa_cons (se_tup (sa_cons (se_tup sa_nil) (sa_cons (se_tup sa_nil) sa_nil))) (sa_cons (se_tup sa_nil) (sa_cons (se_tup (sa_cons (se_tup (sa_cons se_int (sa_cons se_int sa_nil))) sa_nil)) (sa_cons (se_tup (sa_cons (se_tup (sa_cons se_int (sa_cons se_int sa_nil))) sa_nil)) (sa_cons (se_tup (sa_cons (se_tup (sa_cons se_int sa_nil)) (sa_cons se_int sa_nil))) (sa_cons (se_tup (sa_cons (se_tup (sa_cons se_int sa_nil)) (sa_cons (se_lst false (sa_cons se_int sa_nil)) sa_nil))) (sa_cons (se_lst false (sa_cons (se_tup (sa_cons se_int sa_nil)) sa_nil)) (sa_cons se_non (sa_cons se_str sa_nil)))))))))))))
    (ss_cons (ss_set 1 nd_l_parts_right (se_add (se_var 1) (se_lst false (sa_cons (se_tup (sa_cons (se_tup (sa_cons se_int sa_nil)) (sa_cons (se_tup (sa_cons se_non sa_nil)) sa_nil))) (sa_cons (se_tup (sa_cons (se_tup (sa_cons se_int (sa_cons se_int sa_nil))) sa_nil)) (sa_cons (se_tup (sa_cons (se_tup (sa_cons (se_neg se_int) (sa_cons se_int sa_nil))) sa_nil)) (sa_cons (se_tuple D.bl (sa_cons (se_lc false [("_law_place", 3)] nd_l_parts_right (si_range1 (sa_cons se_int sa_nil) rfl D.bl.range) (by kernel_rfl) (sg_name 3 nd_l_parts_right) sts_nil (se_tup (sa_cons (se_var 3) sa_nil))) sa_nil)) (sa_cons (se_disp false (sp_cons se_int se_int sp_nil)) sa_nil))))))))
    (ss_cons (ss_set 1 nd_l_parts_right (se_add (se_var 1) (se_lst false (sa_cons (se_tup (sa_cons (se_tup (sa_cons se_int (sa_cons se_int sa_nil))) (sa_cons (se_tup (sa_cons se_int (sa_cons se_int sa_nil))) sa_nil))) (sa_cons (se_tup (sa_cons (se_tup (sa_cons se_bl sa_nil)) sa_nil)) sa_nil)))))
    (ss_cons (ss_set 2 nd_l_parts_right (se_call (fn_l_one_of D) (Nat.le_of_ble_eq_true rfl) (sa_cons (se_var 0) (sa_cons (se_var 1) sa_nil))))
    (ss_one (ss_ret (se_eq (se_lam0 (kb := 4) (lm_l_met D (4 + 1)) (Nat.le_of_ble_eq_true rfl) (Nat.le_of_ble_eq_true rfl) rfl D.tf (by kernel_rfl) (fun W => (se_call (fn_row_of D) (Nat.le_of_ble_eq_true rfl) (sa_cons (se_var 2) sa_nil))) (fun _ => rfl)) se_str)))))))
theorem fn_l_parts_right {G : Gb} (D : Facts G) : FnIs true G "_law_parts_right" 1 7 m_l_parts_right [] := by
  obtain ⟨f, fd, F, g, l⟩ := D.f_l_parts_right
  have b : Binds G.K fd ["_law_dice_here"] [] := F.bindsN fun _ _ _ _ _ _ us hl => match us, hl with | [_], _ => rfl
  exact fnIs_plain F sc_l_parts_right (d_l_parts_right D) g b .nil (fun _ => .nil) (fun _ => l)
def N_l_right : List Str := ["_law_dice_here", "_law_hues", "_law_row", "_law_bad", "_law_number", "_law_far", "_law_call", "_law_hue", "_law_told", "_law_due", "_law_place"]
theorem nd_l_right : N_l_right.Nodup := by decide +kernel
theorem sc_l_right : FnScope N_l_right ["_law_dice_here"] (defScope s_l_right) := ⟨rfl, rfl, rfl, nd_l_right, rfl, by decide +kernel, by decide +kernel⟩
noncomputable def C1_l_right : EF :=
  (eLc false [10] (iRange1 (aCons (e2 gAdd (eC (.int 1)) (eCall 2 m_l_roll [] (aCons (eVar 0) (aCons (eC (.int 8)) aNil)))) aNil)) (gSet 10) tTrue (eCall 2 m_l_roll [] (aCons (eVar 0) (aCons (eVar 1) aNil))))
noncomputable def I1_l_right : IF :=
  (iSeq (eTupG (aCons (eC (.fn "sizes")) (aCons (eC (.fn "spread")) (aCons (eC (.fn "is_level")) (aCons (eC (.fn "classes")) aNil))))))
noncomputable def T1_l_right : GF :=
  (gSet 6)
noncomputable def B1_l_right : SF :=
  (sSeq (sSet 8 (eLst true (aCons (eLam m_l_met [] (eCallV 6 [("sizes", 2, m_sizes), ("spread", 2, m_spread), ("is_level", 2, m_is_level), ("classes", 2, m_classes)] (aCons (eVar 3) (aCons (eVar 4) aNil)))) aNil)))
    (sSeq (sExpr (eBm (eVar 8) (aCons (eLam m_l_met [] (eCallV 6 [("sizes", 2, m_sizes), ("spread", 2, m_spread), ("is_level", 2, m_is_level), ("classes", 2, m_classes)] (aCons (eVar 5) (aCons (eVar 4) aNil)))) aNil) gAppend))
    (sSeq (sExpr (eBm (eVar 8) (aCons (eLam m_l_met [] (eCallV 6 [("sizes", 2, m_sizes), ("spread", 2, m_spread), ("is_level", 2, m_is_level), ("classes", 2, m_classes)] (aCons (eVar 5) (aCons (eVar 1) aNil)))) aNil) gAppend))
    (sSeq (sExpr (eBm (eVar 8) (aCons (eLam m_l_met [] (eCallV 6 [("sizes", 2, m_sizes), ("spread", 2, m_spread), ("is_level", 2, m_is_level), ("classes", 2, m_classes)] (aCons (eVar 2) (aCons (eVar 1) aNil)))) aNil) gAppend))
    (sIf (fun ρ L => asB ((e2 gNe (eVar 8) (eLst false (aCons (eC (.str "row")) (aCons (e2 gAdd (eC (.str "number ")) (en gRepr (aCons (eVar 4) aNil))) (aCons (eC (.str "row")) (aCons (eC (.str "fine")) aNil)))))) ρ L))
    (sRet (eC (.bl false)))
    sSkip)))))
noncomputable def L1_l_right : SF :=
  (sFor I1_l_right T1_l_right B1_l_right)
noncomputable def F_l_right : SF :=
  (sSeq (sSet 1 (e2 gAdd (eC (.int 1)) (eCall 2 m_l_roll [] (aCons (eVar 0) (aCons (eC (.int 6)) aNil)))))
    (sSeq (sSet 2 (en gTuple (aCons C1_l_right aNil)))
    (sSeq (sSet 3 (eCall 2 m_l_one_of [] (aCons (eVar 0) (aCons (eLst false (aCons (eC .non) (aCons (eC (.int 0)) (aCons (eTupG aNil) (aCons (eLst false (aCons (eC (.int 0)) aNil)) (aCons (eC (.str "01")) (aCons (eDict0 false) (aCons (eTupG (aCons (eC (.bl true)) aNil)) (aCons (eTupG (aCons (e1 gNeg (eC (.int 1))) aNil)) (aCons (e2 gMulG (eTupG (aCons (eC (.int 0)) aNil)) (eC (.int 21))) (aCons (eTupG (aCons (eTup (aCons (eC (.int 0)) aNil)) aNil)) (aCons (en (gList false) (aCons (eVar 2) aNil)) aNil)))))))))))) aNil))))
    (sSeq (sSet 4 (eCall 2 m_l_one_of [] (aCons (eVar 0) (aCons (eLst false (aCons (eC (.int 0)) (aCons (eC (.int 21)) (aCons (e1 gNeg (eC (.int 1))) (aCons (eC .non) (aCons (eC (.bl true)) (aCons (eC (.str "2")) (aCons (eTupG aNil) (aCons (e2 gPow (eC (.int 10)) (eC (.int 39))) aNil))))))))) aNil))))
    (sSeq (sSet 5 (e2 gAddG (eVar 2) (eTupG (aCons (eVar 1) aNil))))
    (sSeq L1_l_right
    (sSeq (sSet 7 (eCall 2 m_l_one_of [] (aCons (eVar 0) (aCons (eLst false (aCons (eVar 1) (aCons (e1 gNeg (eC (.int 1))) (aCons (eC .non) (aCons (eC (.bl true)) (aCons (eC (.str "0")) (aCons (eTupG aNil) (aCons (e2 gPow (eC (.int 10)) (eC (.int 39))) aNil)))))))) aNil))))
    (sSeq (sSet 8 (eLst true (aCons (eLam m_l_met [] (eCall 4 m_exchanged [] (aCons (eVar 3) (aCons (eVar 4) (aCons (eVar 7) (aCons (eVar 7) aNil)))))) aNil)))
    (sSeq (sExpr (eBm (eVar 8) (aCons (eLam m_l_met [] (eCall 4 m_exchanged [] (aCons (eVar 5) (aCons (eVar 4) (aCons (eVar 7) (aCons (eVar 7) aNil)))))) aNil) gAppend))
    (sSeq (sExpr (eBm (eVar 8) (aCons (eLam m_l_met [] (eCall 4 m_exchanged [] (aCons (eVar 5) (aCons (eVar 1) (aCons (eVar 7) (aCons (eC .non) aNil)))))) aNil) gAppend))
    (sSeq (sExpr (eBm (eVar 8) (aCons (eLam m_l_met [] (eCall 4 m_exchanged [] (aCons (eVar 5) (aCons (eVar 1) (aCons (eC (.int 0)) (aCons (eVar 7) aNil)))))) aNil) gAppend))
    (sSeq (sExpr (eBm (eVar 8) (aCons (eLam m_l_met [] (eCall 4 m_exchanged [] (aCons (eVar 5) (aCons (eVar 1) (aCons (eC (.int 0)) (aCons (eC (.int 0)) aNil)))))) aNil) gAppend))
    (sSeq (sSet 9 (e2 gAdd (e2 gAdd (eLst false (aCons (eC (.str "row")) (aCons (e2 gAdd (eC (.str "number ")) (en gRepr (aCons (eVar 4) aNil))) aNil))) (e2 gMul (eLst false (aCons (e2 gAdd (eC (.str "number ")) (en gRepr (aCons (eVar 7) aNil))) aNil)) (eC (.int 2)))) (eLst false (aCons (eC (.str "row")) aNil))))
    (sSeq (sExpr (eBm (eVar 8) (aCons (eLam m_l_met [] (eCall 1 m_renamed [] (aCons (eVar 3) aNil))) aNil) gAppend))
    (sSeq (sExpr (eBm (eVar 8) (aCons (eLam m_l_met [] (eCall 2 m_are_alike [] (aCons (eVar 3) (aCons (e2 gAdd (e2 gAdd (eVar 2) (eVar 2)) (eVar 2)) aNil)))) aNil) gAppend))
    (sSeq (sExpr (eBm (eVar 8) (aCons (eLam m_l_met [] (eCall 2 m_are_alike [] (aCons (eVar 2) (aCons (eVar 3) aNil)))) aNil) gAppend))
    (sSeq (sExpr (eBm (eVar 8) (aCons (eLam m_l_met [] (eCall 2 m_are_alike [] (aCons (eVar 2) (aCons (eVar 5) aNil)))) aNil) gAppend))
    (sSeq (sExpr (eBm (eVar 8) (aCons (eLam m_l_met [] (eCall 2 m_level_sizes [] (aCons (eVar 4) (aCons (eC .non) aNil)))) aNil) gAppend))
    (sSeq (sExpr (eBm (eVar 8) (aCons (eLam m_l_met [] (eCall 2 m_level_sizes [] (aCons (eC (.int 20)) (aCons (eVar 4) aNil)))) aNil) gAppend))
    (sSeq (sSet 9 (e2 gAdd (e2 gAdd (e2 gAdd (eVar 9) (e2 gMul (eLst false (aCons (eC (.str "row")) aNil)) (eC (.int 3)))) (eLst false (aCons (eC (.str "operation")) aNil))) (e2 gMul (eLst false (aCons (e2 gAdd (eC (.str "number ")) (en gRepr (aCons (eVar 4) aNil))) aNil)) (eC (.int 2)))))
    (sRet (eAndF (e2 gEq (eVar 8) (eVar 9)) (eCall 1 m_l_parts_right [] (aCons (eVar 0) aNil))))))))))))))))))))))))
noncomputable def m_l_right : List D → Sto → Res D := mDrop 11 F_l_right
theorem u_l_right (a0 : D) (L : Sto) : m_l_right [a0] L = dropR L (fin (F_l_right [some a0, none, none, none, none, none, none, none, none, none, none] L)) := (rfl)
theorem d_l_right {G : Gb} (D : Facts G) (W : WX) : SSs ⟨G, N_l_right, defScope s_l_right, fun _ => true, 7, true, true, true⟩ W (defBody s_l_right) F_l_right :=
  (ss_cons (ss_set 1 nd_l_right (se_add se_int (se_call (fn_l_roll D) (Nat.le_of_ble_eq_true rfl) (sa_cons (se_var 0) (sa_cons se_int sa_nil)))))
    (ss_cons (ss_set 2 nd_l_right (se_tuple D.bl (sa_cons (se_lc false [("_law_place", 10)] nd_l_right (si_range1 (sa_cons (se_add se_int (se_call (fn_l_roll D) (Nat.le_of_ble_eq_true rfl) (sa_cons (se_var 0) (sa_cons se_int sa_nil)))) sa_nil) rfl D.bl.range) (by kernel_rfl) (sg_name 10 nd_l_right) sts_nil (se_call (fn_l_roll D) (Nat.le_of_ble_eq_true rfl) (sa_cons (se_var 0) (sa_cons (se_var 1) sa_nil)))) sa_nil)))
    (ss_cons (ss_set 3 nd_l_right (se_call (fn_l_one_of D) (Nat.le_of_ble_eq_true rfl) (sa_cons (se_var 0) (sa_cons (se_lst false (sa_cons se_non (sa_cons se_int (sa_cons (se_tupG sa_nil) (sa_cons (se_lst false (sa_cons se_int sa_nil)) (sa_cons se_str (sa_cons (se_dict0 false) (sa_cons (se_tupG (sa_cons se_bl sa_nil)) (sa_cons (se_tupG (sa_cons (se_neg se_int) sa_nil)) (sa_cons (se_mulG (se_tupG (sa_cons se_int sa_nil)) se_int) (sa_cons (se_tupG (sa_cons (se_tup (sa_cons se_int sa_nil)) sa_nil)) (sa_cons (se_list false D.bl (sa_cons (se_var 2) sa_nil)) sa_nil)))))))))))) sa_nil))))
    (ss_cons (ss_set 4 nd_l_right (se_call (fn_l_one_of D) (Nat.le_of_ble_eq_true rfl) (sa_cons (se_var 0) (sa_cons (se_lst false (sa_cons se_int (sa_cons se_int (sa_cons (se_neg se_int) (sa_cons se_non (sa_cons se_bl (sa_cons se_str (sa_cons (se_tupG sa_nil) (sa_cons (se_pow se_int se_int) sa_nil))))))))) sa_nil))))
    (ss_cons (ss_set 5 nd_l_right (se_addG (se_var 2) (se_tupG (sa_cons (se_var 1) sa_nil))))
    (ss_cons (ss_for (own := [6]) (fi := I1_l_right) (ft := T1_l_right) (g := B1_l_right) (si_seq (se_tupG (sa_cons (se_defv (fn_sizes D)) (sa_cons (se_defv (fn_spread D)) (sa_cons (se_defv (fn_is_level D)) (sa_cons (se_defv (fn_classes D)) sa_nil)))))) (sg_name 6 nd_l_right)
    (ss_cons (ss_set 8 nd_l_right (se_lst true (sa_cons (se_lam0 (kb := 5) (lm_l_met D (5 + 1)) (Nat.le_of_ble_eq_true rfl) (Nat.le_of_ble_eq_true rfl) rfl D.tf (by kernel_rfl) (fun W => (se_callV (k := 5) (gd := true) (fns := [("sizes", 2, m_sizes), ("spread", 2, m_spread), ("is_level", 2, m_is_level), ("classes", 2, m_classes)]) 6 (fun q hq => by simp only [List.mem_cons, List.not_mem_nil, or_false] at hq; rcases hq with rfl | rfl | rfl | rfl; exact (fn_sizes D).up (Nat.le_of_ble_eq_true rfl) (by first | exact .inl rfl | exact .inr rfl); exact (fn_spread D).up (Nat.le_of_ble_eq_true rfl) (by first | exact .inl rfl | exact .inr rfl); exact (fn_is_level D).up (Nat.le_of_ble_eq_true rfl) (by first | exact .inl rfl | exact .inr rfl); exact (fn_classes D).up (Nat.le_of_ble_eq_true rfl) (by first | exact .inl rfl | exact .inr rfl)) (Nat.le_of_ble_eq_true rfl) (sa_cons (se_var 3) (sa_cons (se_var 4) sa_nil)))) (fun _ => rfl)) sa_nil)))
    (ss_cons (ss_expr (se_append (se_var 8) (sa_cons (se_lam0 (kb := 5) (lm_l_met D (5 + 1)) (Nat.le_of_ble_eq_true rfl) (Nat.le_of_ble_eq_true rfl) rfl D.tf (by kernel_rfl) (fun W => (se_callV (k := 5) (gd := true) (fns := [("sizes", 2, m_sizes), ("spread", 2, m_spread), ("is_level", 2, m_is_level), ("classes", 2, m_classes)]) 6 (fun q hq => by simp only [List.mem_cons, List.not_mem_nil, or_false] at hq; rcases hq with rfl | rfl | rfl | rfl; exact (fn_sizes D).up (Nat.le_of_ble_eq_true rfl) (by first | exact .inl rfl | exact .inr rfl); exact (fn_spread D).up (Nat.le_of_ble_eq_true rfl) (by first | exact .inl rfl | exact .inr rfl); exact (fn_is_level D).up (Nat.le_of_ble_eq_true rfl) (by first | exact .inl rfl | exact .inr rfl); exact (fn_classes D).up (Nat.le_of_ble_eq_true rfl) (by first | exact .inl rfl | exact .inr rfl)) (Nat.le_of_ble_eq_true rfl) (sa_cons (se_var 5) (sa_cons (se_var 4) sa_nil)))) (fun _ => rfl)) sa_nil)))
    (ss_cons (ss_expr (se_append (se_var 8) (sa_cons (se_lam0 (kb := 5) (lm_l_met D (5 + 1)) (Nat.le_of_ble_eq_true rfl) (Nat.le_of_ble_eq_true rfl) rfl D.tf (by kernel_rfl) (fun W => (se_callV (k := 5) (gd := true) (fns := [("sizes", 2, m_sizes), ("spread", 2, m_spread), ("is_level", 2, m_is_level), ("classes", 2, m_classes)]) 6 (fun q hq => by simp only [List.mem_cons, List.not_mem_nil, or_false] at hq; rcases hq with rfl | rfl | rfl | rfl; exact (fn_sizes D).up (Nat.le_of_ble_eq_true rfl) (by first | exact .inl rfl | exact .inr rfl); exact (fn_spread D).up (Nat.le_of_ble_eq_true rfl) (by first | exact .inl rfl | exact .inr rfl); exact (fn_is_level D).up (Nat.le_of_ble_eq_true rfl) (by first | exact .inl rfl | exact .inr rfl); exact (fn_classes D).up (Nat.le_of_ble_eq_true rfl) (by first | exact .inl rfl | exact .inr rfl)) (Nat.le_of_ble_eq_true rfl) (sa_cons (se_var 5) (sa_cons (se_var 1) sa_nil)))) (fun _ => rfl)) sa_nil)))
    (ss_cons (ss_expr (se_append (se_var 8) (sa_cons (se_lam0 (kb := 5) (lm_l_met D (5 + 1)) (Nat.le_of_ble_eq_true rfl) (Nat.le_of_ble_eq_true rfl) rfl D.tf (by kernel_rfl) (fun W => (se_callV (k := 5) (gd := true) (fns := [("sizes", 2, m_sizes), ("spread", 2, m_spread), ("is_level", 2, m_is_level), ("classes", 2, m_classes)]) 6 (fun q hq => by simp only [List.mem_cons, List.not_mem_nil, or_false] at hq; rcases hq with rfl | rfl | rfl | rfl; exact (fn_sizes D).up (Nat.le_of_ble_eq_true rfl) (by first | exact .inl rfl | exact .inr rfl); exact (fn_spread D).up (Nat.le_of_ble_eq_true rfl) (by first | exact .inl rfl | exact .inr rfl); exact (fn_is_level D).up (Nat.le_of_ble_eq_true rfl) (by first | exact .inl rfl | exact .inr rfl); exact (fn_classes D).up (Nat.le_of_ble_eq_true rfl) (by first | exact .inl rfl | exact .inr rfl)) (Nat.le_of_ble_eq_true rfl) (sa_cons (se_var 2) (sa_cons (se_var 1) sa_nil)))) (fun _ => rfl)) sa_nil)))
    (ss_one (ss_if (st_ne (se_var 8) (se_lst false (sa_cons se_str (sa_cons (se_add se_str (se_repr D.bl (sa_cons (se_var 4) sa_nil))) (sa_cons se_str (sa_cons se_str sa_nil))))))
    (ss_one (ss_ret se_bl))
    ss_nil)))))))
    (ss_cons (ss_set 7 nd_l_right (se_call (fn_l_one_of D) (Nat.le_of_ble_eq_true rfl) (sa_cons (se_var 0) (sa_cons (se_lst false (sa_cons (se_var 1) (sa_cons (se_neg se_int) (sa_cons se_non (sa_cons se_bl (sa_cons se_str (sa_cons (se_tupG sa_nil) (sa_cons (se_pow se_int se_int) sa_nil)))))))) sa_nil))))
    (ss_cons (ss_set 8 nd_l_right (se_lst true (sa_cons (se_lam0 (kb := 4) (lm_l_met D (4 + 1)) (Nat.le_of_ble_eq_true rfl) (Nat.le_of_ble_eq_true rfl) rfl D.tf (by kernel_rfl) (fun W => (se_call (fn_exchanged D) (Nat.le_of_ble_eq_true rfl) (sa_cons (se_var 3) (sa_cons (se_var 4) (sa_cons (se_var 7) (sa_cons (se_var 7) sa_nil)))))) (fun _ => rfl)) sa_nil)))
    (ss_cons (ss_expr (se_append (se_var 8) (sa_cons (se_lam0 (kb := 4) (lm_l_met D (4 + 1)) (Nat.le_of_ble_eq_true rfl) (Nat.le_of_ble_eq_true rfl) rfl D.tf (by kernel_rfl) (fun W => (se_call (fn_exchanged D) (Nat.le_of_ble_eq_true rfl) (sa_cons (se_var 5) (sa_cons (se_var 4) (sa_cons (se_var 7) (sa_cons (se_var 7) sa_nil)))))) (fun _ => rfl)) sa_nil)))
    (ss_cons (ss_expr (se_append (se_var 8) (sa_cons (se_lam0 (kb := 4) (lm_l_met D (4 + 1)) (Nat.le_of_ble_eq_true rfl) (Nat.le_of_ble_eq_true rfl) rfl D.tf (by kernel_rfl) (fun W => (se_call (fn_exchanged D) (Nat.le_of_ble_eq_true rfl) (sa_cons (se_var 5) (sa_cons (se_var 1) (sa_cons (se_var 7) (sa_cons se_non sa_nil)))))) (fun _ => rfl)) sa_nil)))
    (ss_cons (ss_expr (se_append (se_var 8) (sa_cons (se_lam0 (kb := 4) (lm_l_met D (4 + 1)) (Nat.le_of_ble_eq_true rfl) (Nat.le_of_ble_eq_true rfl) rfl D.tf (by kernel_rfl) (fun W => (se_call (fn_exchanged D) (Nat.le_of_ble_eq_true rfl) (sa_cons (se_var 5) (sa_cons (se_var 1) (sa_cons se_int (sa_cons (se_var 7) sa_nil)))))) (fun _ => rfl)) sa_nil)))
    (ss_cons (ss_expr (se_append (se_var 8) (sa_cons (se_lam0 (kb := 4) (lm_l_met D (4 + 1)) (Nat.le_of_ble_eq_true rfl) (Nat.le_of_ble_eq_true rfl) rfl D.tf (by kernel_rfl) (fun W => (se_call (fn_exchanged D) (Nat.le_of_ble_eq_true rfl) (sa_cons (se_var 5) (sa_cons (se_var 1) (sa_cons se_int (sa_cons se_int sa_nil)))))) (fun _ => rfl)) sa_nil)))
    (ss_cons (ss_set 9 nd_l_right (se_add (se_add (se_lst false (sa_cons se_str (sa_cons (se_add se_str (se_repr D.bl (sa_cons (se_var 4) sa_nil))) sa_nil))) (se_mul (se_lst false (sa_cons (se_add se_str (se_repr D.bl (sa_cons (se_var 7) sa_nil))) sa_nil)) se_int)) (se_lst false (sa_cons se_str sa_nil))))
    (ss_cons (ss_expr (se_append (se_var 8) (sa_cons (se_lam0 (kb := 4) (lm_l_met D (4 + 1)) (Nat.le_of_ble_eq_true rfl) (Nat.le_of_ble_eq_true rfl) rfl D.tf (by kernel_rfl) (fun W => (se_call (fn_renamed D) (Nat.le_of_ble_eq_true rfl) (sa_cons (se_var 3) sa_nil))) (fun _ => rfl)) sa_nil)))
    (ss_cons (ss_expr (se_append (se_var 8) (sa_cons (se_lam0 (kb := 4) (lm_l_met D (4 + 1)) (Nat.le_of_ble_eq_true rfl) (Nat.le_of_ble_eq_true rfl) rfl D.tf (by kernel_rfl) (fun W => (se_call (fn_are_alike D) (Nat.le_of_ble_eq_true rfl) (sa_cons (se_var 3) (sa_cons (se_add (se_add (se_var 2) (se_var 2)) (se_var 2)) sa_nil)))) (fun _ => rfl)) sa_nil)))
    (ss_cons (ss_expr (se_append (se_var 8) (sa_cons (se_lam0 (kb := 4) (lm_l_met D (4 + 1)) (Nat.le_of_ble_eq_true rfl) (Nat.le_of_ble_eq_true rfl) rfl D.tf (by kernel_rfl) (fun W => (se_call (fn_are_alike D) (Nat.le_of_ble_eq_true rfl) (sa_cons (se_var 2) (sa_cons (se_var 3) sa_nil)))) (fun _ => rfl)) sa_nil)))
    (ss_cons (ss_expr (se_append (se_var 8) (sa_cons (se_lam0 (kb := 4) (lm_l_met D (4 + 1)) (Nat.le_of_ble_eq_true rfl) (Nat.le_of_ble_eq_true rfl) rfl D.tf (by kernel_rfl) (fun W => (se_call (fn_are_alike D) (Nat.le_of_ble_eq_true rfl) (sa_cons (se_var 2) (sa_cons (se_var 5) sa_nil)))) (fun _ => rfl)) sa_nil)))
    (ss_cons (ss_expr (se_append (se_var 8) (sa_cons (se_lam0 (kb := 3) (lm_l_met D (3 + 1)) (Nat.le_of_ble_eq_true rfl) (Nat.le_of_ble_eq_true rfl) rfl D.tf (by kernel_rfl) (fun W => (se_call (fn_level_sizes D) (Nat.le_of_ble_eq_true rfl) (sa_cons (se_var 4) (sa_cons se_non sa_nil)))) (fun _ => rfl)) sa_nil)))
    (ss_cons (ss_expr (se_append (se_var 8) (sa_cons (se_lam0 (kb := 3) (lm_l_met D (3 + 1)) (Nat.le_of_ble_eq_true rfl) (Nat.le_of_ble_eq_true rfl) rfl D.tf (by kernel_rfl) (fun W => (se_call (fn_level_sizes D) (Nat.le_of_ble_eq_true rfl) (sa_cons se_int (sa_cons (se_var 4) sa_nil)))) (fun _ => rfl)) sa_nil)))
    (ss_cons (ss_set 9 nd_l_right (se_add (se_add (se_add (se_var 9) (se_mul (se_lst false (sa_cons se_str sa_nil)) se_int)) (se_lst false (sa_cons se_str sa_nil))) (se_mul (se_lst false (sa_cons (se_add se_str (se_repr D.bl (sa_cons (se_var 4) sa_nil))) sa_nil)) se_int)))
    (ss_one (ss_ret (se_and (se_eq (se_var 8) (se_var 9)) (se_one (se_call (fn_l_parts_right D) (Nat.le_of_ble_eq_true rfl) (sa_cons (se_var 0) sa_nil))))))))))))))))))))))))))
theorem fn_l_right {G : Gb} (D : Facts G) : FnIs true G "_law_right" 1 8 m_l_right [] := by
  obtain ⟨f, fd, F, g, l⟩ := D.f_l_right
  have b : Binds G.K fd ["_law_dice_here"] [] := F.bindsN fun _ _ _ _ _ _ us hl => match us, hl with | [_], _ => rfl
  exact fnIs_drop F sc_l_right (d_l_right D) g b .nil (fun _ => .nil) (fun _ => l)
def N_law : List Str := ["_law_script", "_law_at", "_law_told", "_law_dice_here", "_law_turn"]
theorem nd_law : N_law.Nodup := by decide +kernel
theorem sc_law : FnScope N_law ["_law_script"] (defScope s_law) := ⟨rfl, rfl, rfl, nd_law, rfl, by decide +kernel, by decide +kernel⟩
noncomputable def I1_law : IF :=
  (iRange1 (aCons (eC (.int 3)) aNil))
noncomputable def T1_law : GF :=
  (gSet 4)
noncomputable def B1_law : SF :=
  (sIf (tNotF (tTru (eCall 1 m_l_right [] (aCons (eVar 3) aNil))))
    (sRet (eC (.bl false)))
    sSkip)
noncomputable def L1_law : SF :=
  (sFor I1_law T1_law B1_law)
noncomputable def I2_law : IF :=
  (iRange1 (aCons (en gMax (aCons (eC (.int 1)) (aCons (en gMin (aCons (eC (.int 8)) (aCons (en gLen (aCons (eVar 0) aNil)) aNil))) aNil))) aNil))
noncomputable def T2_law : GF :=
  (gSet 1)
noncomputable def B2_law : SF :=
  (sSeq (sSet 3 (eCall 2 m_l_dice [] (aCons (eVar 0) (aCons (eVar 1) aNil))))
    L1_law)
noncomputable def L2_law : SF :=
  (sFor I2_law T2_law B2_law)
noncomputable def F_law : SF :=
  (sSeq L2_law
    (sSeq (sSet 2 (eLst false (aCons (eLam m_l_met [] (eCall 2 m_sizes [] (aCons (e2 gMulG (eTupG (aCons (eC (.int 19)) aNil)) (eC (.int 20))) (aCons (eC (.int 20)) aNil)))) (aCons (eLam m_l_met [] (eCall 1 m_row_of [] (aCons (eTupG (aCons (eTup aNil) (aCons (eTup (aCons (eC (.int 0)) aNil)) (aCons (eTup aNil) aNil)))) aNil))) aNil))))
    (sRet (e2 gEq (e2 gAdd (eVar 2) (eLst false (aCons (eC (.int 10)) (aCons (eC (.int 20)) (aCons (eC (.int 20)) aNil))))) (eLst false (aCons (eC (.str "fine")) (aCons (eC (.str "fine")) (aCons (eC (.int 10)) (aCons (eC (.int 20)) (aCons (eC (.int 20)) aNil))))))))))
noncomputable def m_law : List D → Sto → Res D := mOf 5 F_law
theorem u_law (a0 : D) (L : Sto) : m_law [a0] L = fin (F_law [some a0, none, none, none, none] L) := (rfl)
theorem d_law {G : Gb} (D : Facts G) (W : WX) : SSs ⟨G, N_law, defScope s_law, fun _ => true, 8, true, true, true⟩ W (defBody s_law) F_law :=
  (ss_cons (ss_for (own := [1]) (fi := I2_law) (ft := T2_law) (g := B2_law) (si_range1 (sa_cons (se_max D.bl (sa_cons se_int (sa_cons (se_min D.bl (sa_cons se_int (sa_cons (se_len D.bl (sa_cons (se_var 0) sa_nil)) sa_nil))) sa_nil))) sa_nil) rfl D.bl.range) (sg_name 1 nd_law)
    (ss_cons (ss_set 3 nd_law (se_call (fn_l_dice D) (Nat.le_of_ble_eq_true rfl) (sa_cons (se_var 0) (sa_cons (se_var 1) sa_nil))))
    (ss_one (ss_for (own := [4]) (fi := I1_law) (ft := T1_law) (g := B1_law) (si_range1 (sa_cons se_int sa_nil) rfl D.bl.range) (sg_name 4 nd_law)
    (ss_one (ss_if (st_not (st_truth (se_call (fn_l_right D) (Nat.le_of_ble_eq_true rfl) (sa_cons (se_var 3) sa_nil))))
    (ss_one (ss_ret se_bl))
    ss_nil))))))
    (ss_cons (ss_set 2 nd_law (se_lst false (sa_cons (se_lam0 (kb := 5) (lm_l_met D (5 + 1)) (Nat.le_of_ble_eq_true rfl) (Nat.le_of_ble_eq_true rfl) rfl D.tf (by kernel_rfl) (fun W => (se_call (fn_sizes D) (Nat.le_of_ble_eq_true rfl) (sa_cons (se_mulG (se_tupG (sa_cons se_int sa_nil)) se_int) (sa_cons se_int sa_nil)))) (fun _ => rfl)) (sa_cons (se_lam1 (kb := 4) (y := "_law_one") [] (lm_l_met D (4 + 1)) (Nat.le_of_ble_eq_true rfl) (Nat.le_of_ble_eq_true rfl) rfl D.tf (by kernel_rfl) (wp_by (N := N_law) (by decide +kernel)) (fun W => (se_call (fn_row_of D) (Nat.le_of_ble_eq_true rfl) (sa_cons (se_tupG (sa_cons (se_tup sa_nil) (sa_cons (se_tup (sa_cons se_int sa_nil)) (sa_cons (se_tup sa_nil) sa_nil)))) sa_nil))) (fun _ => rfl)) sa_nil))))
    (ss_one (ss_ret (se_eq (se_add (se_var 2) (se_lst false (sa_cons (se_cst D.c_MAX_PLACES (fun _ => by constructor)) (sa_cons (se_cst D.c_MAX_HUES (fun _ => by constructor)) (sa_cons (se_cst D.c_MOST_PLACES (fun _ => by constructor)) sa_nil))))) (se_lst false (sa_cons se_str (sa_cons se_str (sa_cons se_int (sa_cons se_int (sa_cons se_int sa_nil)))))))))))
def kit (r : Res D) : Res Its := r.bind fun d L1 => match seqOf L1 d with
  | some (xs, s) => .ok ⟨xs, s⟩ L1
  | none => (match d with
    | .dF kvs => .ok ⟨kvs.map fun kv => dOfKey kv.1, []⟩ L1
    | _ => .bad)
def kir1 (r : Res (List D)) : Res Its := r.bind fun ds L1 => match ds with
  | [.int j] => if small62 j = true then .ok ⟨rangeD 0 j.toNat, []⟩ L1 else .bad
  | _ => .bad
def kir2 (r : Res (List D)) : Res Its := r.bind fun ds L1 => match ds with
  | [.int i, .int j] => if small62 i = true ∧ small62 j = true then .ok ⟨rangeD i (j - i).toNat, []⟩ L1 else .bad
  | _ => .bad
def kien (r : Res (List D)) : Res Its := r.bind fun ds L1 => match ds with
  | [d] => (match seqOf L1 d with
    | some (xs, s) => .ok ⟨enumD 0 xs, s⟩ L1
    | none => .bad)
  | _ => .bad
def kizp (r : Res (List D)) : Res Its := r.bind fun ds L1 => match ds with
  | [d, e] => (match seqOf L1 d, seqOf L1 e with
    | some (xs, s), some (ys, t) => .ok ⟨zipD xs ys, s ++ t⟩ L1
    | _, _ => .bad)
  | _ => .bad
def tgk (f : EF) (o : Option Env') (L : Sto) : Res D := match o with
  | some ρ1 => f ρ1 L
  | none => .bad
def tgt (f : TF) (o : Option Env') (L : Sto) : Res Bool := match o with
  | some ρ1 => f ρ1 L
  | none => .bad
def ksl (lo hi : OF) (ρ : Env') (r : Res D) : Res D := r.bind fun d L1 => (lo ρ L1).bind fun l L2 => (hi ρ L2).bind fun u L3 => gSl d l u L3
def ksl2 (d : D) (hi : OF) (ρ : Env') (r : Res (Option Int)) : Res D := r.bind fun l L2 => (hi ρ L2).bind fun u L3 => gSl d l u L3
def ksl3 (d : D) (l : Option Int) (r : Res (Option Int)) : Res D := r.bind fun u L3 => gSl d l u L3
def kso (r : Res D) : Res (Option Int) := r.bind fun d L1 => match d with
  | .int i => .ok (some i) L1
  | _ => .bad
def krg1 (k : List D → Sto → Res D) (r : Res D) : Res D := r.bind fun d L1 => match d with
  | .int j => if rgOk 0 j = true then k (rangeD 0 (j - 0).toNat) L1 else .bad
  | _ => .bad
def krev (r : Res D) : Res D := r.bind fun d L1 => match sqlOf L1 d with
  | some xs => .ok (.lst xs.reverse) L1
  | none => .bad
section
variable {ρ ρ1 : Env'} {L L1 : Sto} {d e : D} {f g : SF} {t u : TF} {fa fb fo fi : EF} {fl : AF} {xs ys ds dd : List D} {i j k : Int} {n m : Nat} {b c : Bool} {lo hi : OF} {o : Option Int} {kk : List D → Sto → Res D}
theorem gmQ : iSeq fa ρ L = kit (fa ρ L) := (rfl)
theorem gnQ : kit (.ok (.lst xs) L) = .ok ⟨xs, []⟩ L := (rfl)
theorem goQ : kit (.ok (.tup xs) L) = .ok ⟨xs, []⟩ L := (rfl)
theorem gpQ : kit (.ok (.tg xs) L) = .ok ⟨xs, []⟩ L := (rfl)
theorem gqQ {kvs : List (Key × D)} : kit (.ok (.dF kvs) L) = .ok ⟨kvs.map fun kv => dOfKey kv.1, []⟩ L := (rfl)
theorem grQ : kit (.ok (.ro xs) L) = .ok ⟨xs, []⟩ L := (rfl)
theorem gsQ : iRange1 fl ρ L = kir1 (fl ρ L) := (rfl)
theorem gtQ : iRange2 fl ρ L = kir2 (fl ρ L) := (rfl)
theorem guQ : iEnumF fl ρ L = kien (fl ρ L) := (rfl)
theorem gvQ : iZipF fl ρ L = kizp (fl ρ L) := (rfl)
theorem gwQ (h0 : 0 ≤ k) (h : k ≤ 1000000) : kir1 (.ok [.int k] L) = .ok ⟨(List.range k.toNat).map natD, []⟩ L := by
  show (if small62 k = true then Res.ok (Its.mk (rangeD 0 k.toNat) []) L else .bad) = _
  rw [if_pos (small62_of (by omega) h), rangeD0]
theorem gxQ (h : n ≤ 1000000) : kir1 (.ok [.int (n : Int)] L) = .ok ⟨(List.range n).map natD, []⟩ L := by
  rw [gwQ (by omega) (by omega)]; rfl
theorem rangeD_nat' (a : Nat) (c : Nat) : rangeD (a : Int) c = (List.range' a c).map natD := by
  unfold rangeD natD
  rw [List.range'_eq_map_range, List.map_map]
  exact List.map_congr_left fun x _ => by simp
theorem gyQ (h1 : n ≤ 1000000) (h : m ≤ 1000000) : kir2 (.ok [.int (n : Int), .int (m : Int)] L) = .ok ⟨(List.range' n (m - n)).map natD, []⟩ L := by
  unfold kir2
  rw [Res.bind_ok]
  dsimp only
  have z : ((m : Int) - n).toNat = m - n := by omega
  rw [if_pos ⟨small62_of (by omega) (by omega), small62_of (by omega) (by omega)⟩, z, rangeD_nat']
theorem gzQ : kien (.ok [.lst xs] L) = .ok ⟨enumD 0 xs, []⟩ L := (rfl)
theorem gAQ : kien (.ok [.tup xs] L) = .ok ⟨enumD 0 xs, []⟩ L := (rfl)
theorem gBQ : kien (.ok [.tg xs] L) = .ok ⟨enumD 0 xs, []⟩ L := (rfl)
theorem gCQ : tgk fa (some ρ) L = fa ρ L := (rfl)
theorem gDQ : tgt t (some ρ) L = t ρ L := (rfl)
theorem gEQ : wipeE ρ [] = ρ := (rfl)
theorem gFQ {v : Nat} {vs : List Nat} : wipeE ρ (v :: vs) = (wipeE ρ vs).set v none := (rfl)
theorem gGQ {p q : Nat} : gTupF 2 (gsCons (gSet p) (gsCons (gSet q) gsNil)) (.tup [d, e]) ρ = some ((ρ.set p (some d)).set q (some e)) := (rfl)
theorem gHQ {p q : Nat} : gTupF 2 (gsCons (gSet p) (gsCons (gSet q) gsNil)) (.tg [d, e]) ρ = some ((ρ.set p (some d)).set q (some e)) := (rfl)
theorem gIQ {p q : Nat} {z : P2} : gTupF 2 (gsCons (gSet p) (gsCons (gSet q) gsNil)) (pairD z) ρ = some ((ρ.set p (some (.int z.1))).set q (some (.int z.2))) := (rfl)
theorem gJQ : eSl fa lo hi ρ L = ksl lo hi ρ (fa ρ L) := (rfl)
theorem gKQ : ksl lo hi ρ (.ok d L) = ksl2 d hi ρ (lo ρ L) := (rfl)
theorem gLQ : ksl2 d hi ρ (.ok o L) = ksl3 d o (hi ρ L) := (rfl)
theorem gMQ {o2 : Option Int} : ksl3 d o (.ok o2 L) = gSl d o o2 L := (rfl)
theorem gNQ : oNone ρ L = .ok none L := (rfl)
theorem gOQ : oSome fa ρ L = kso (fa ρ L) := (rfl)
theorem gPQ : kso (.ok (.int i) L) = .ok (some i) L := (rfl)
theorem gQQ : eRange1 fa kk ρ L = krg1 kk (fa ρ L) := (rfl)
theorem gRQ (h : n ≤ 1000) : krg1 kk (.ok (.int (n : Int)) L) = kk ((List.range n).map natD) L := by
  have e : krg1 kk (.ok (.int (n : Int)) L) = if rgOk 0 (n : Int) = true then kk (rangeD 0 ((n : Int) - 0).toNat) L else .bad := Res.bind_ok _ _ _
  rw [e, if_pos (rgOk0 h), Int.sub_zero, Int.toNat_natCast, rangeD0]
theorem gSQ : eRev fa ρ L = krev (fa ρ L) := (rfl)
theorem gTQ : krev (.ok (.lst xs) L) = .ok (.lst xs.reverse) L := (rfl)
theorem w_sl_from (h : xs = xs) : gSl (.tup xs) (some (n : Int)) none L = .ok (.tup (xs.drop n)) L := by
  show Res.ok (D.tup (cutD xs (some (n : Int)) none)) L = _
  rw [cutD_from]
theorem gUQ : gSl (.tg xs) (some (n : Int)) none L = .ok (.tup (xs.drop n)) L := by
  show Res.ok (D.tup (cutD xs (some (n : Int)) none)) L = _
  rw [cutD_from]
theorem gVQ : gSl (.tup xs) (some 1) none L = .ok (.tup (xs.drop 1)) L := w_sl_from (n := 1) rfl
theorem gWQ : gSl (.tg xs) (some 1) none L = .ok (.tup (xs.drop 1)) L := gUQ (n := 1)
theorem gTuple_l (h : xs.length ≤ 16777216) : gTuple [.lst xs] L = .ok (.tg xs) L := gTuple_lst h
theorem gIx_t {a : Nat} {y : D} (hy : xs[a]? = some y) : gIx (.tup xs) (.int (a : Int)) L = .ok y L := by
  unfold gIx
  simp only [eLQ, atI_nat hy]
theorem gXQ {x : D} : gIx (.tup (x :: xs)) (.int 0) L = .ok x L := gIx_t (a := 0) rfl
theorem gYQ {x y : D} : gIx (.tup (x :: y :: xs)) (.int 1) L = .ok y L := gIx_t (a := 1) rfl
theorem gZQ {z : P2} : gIx (pairD z) (.int 0) L = .ok (.int z.1) L := gXQ
theorem haQ {z : P2} : gIx (pairD z) (.int 1) L = .ok (.int z.2) L := gYQ
end
section
variable {it : IF} {tg : GF} {t : TF} {f : EF} {own : List Nat} {ρ : Env'} {L L1 : Sto} {box : Bool}
theorem tgk_some {o : Option Env'} {d : D} (h : tgk f o L = .ok d L1) : ∃ ρ1, o = some ρ1 ∧ f ρ1 L = .ok d L1 := by
  cases o with
  | none => cases h
  | some ρ1 => exact ⟨ρ1, rfl, h⟩
theorem tgt_some {o : Option Env'} {b : Bool} (h : tgt t o L = .ok b L1) : ∃ ρ1, o = some ρ1 ∧ t ρ1 L = .ok b L1 := by
  cases o with
  | none => cases h
  | some ρ1 => exact ⟨ρ1, rfl, h⟩
theorem lc_map {α : Type} (xs : List α) (enc : α → D) (y : α → D) {src : List (Nat × D)} (hi : it ρ L = .ok ⟨xs.map enc, src⟩ L1) (hs : srcOk L1 src) (hl : xs.length ≤ 1000000)
    (h : ∀ a ∈ xs, tgk f (tg (enc a) (wipeE ρ own)) L1 = .ok (y a) L1) : eLc box own it tg tTrue f ρ L = lstOut box (xs.map y) L1 :=
  eLc_map xs enc y hi hs (by omega) fun a ha => tgk_some (h a ha)
theorem lc_filter {α : Type} (xs : List α) (enc : α → D) (p : α → Bool) (y : α → D) {src : List (Nat × D)} (hi : it ρ L = .ok ⟨xs.map enc, src⟩ L1) (hs : srcOk L1 src) (hl : xs.length ≤ 1000000)
    (h : ∀ a ∈ xs, tgt t (tg (enc a) (wipeE ρ own)) L1 = .ok (p a) L1) (h2 : ∀ a ∈ xs, p a = true → tgk f (tg (enc a) (wipeE ρ own)) L1 = .ok (y a) L1) : eLc box own it tg t f ρ L = lstOut box ((xs.filter p).map y) L1 :=
  eLc_filter xs enc p y hi hs (by omega) fun a ha => by
    obtain ⟨ρ1, e1, e2⟩ := tgt_some (h a ha)
    refine ⟨ρ1, e1, e2, fun hp => ?_⟩
    have z := h2 a ha hp
    rw [e1] at z
    exact z
theorem lc_inv {α : Type} (xs : List α) (enc : α → D) (I : Sto → Prop) (P : α → D → Prop) (hi : it ρ L = .ok ⟨xs.map enc, []⟩ L1) (hl : xs.length ≤ 1000000) (h0 : I L1)
    (h : ∀ a ∈ xs, ∀ L, I L → ∃ y L', tgk f (tg (enc a) (wipeE ρ own)) L = .ok y L' ∧ I L' ∧ P a y) :
    ∃ ys L', eLc box own it tg tTrue f ρ L = lstOut box ys L' ∧ I L' ∧ ys.length = xs.length ∧ ∀ (i : Nat) a y, xs[i]? = some a → ys[i]? = some y → P a y :=
  eLc_inv xs enc I P hi (fun _ _ => srcOk_nil) (by omega) h0 fun a ha L hL => by
    obtain ⟨y, L', e1, e2, e3⟩ := h a ha L hL
    obtain ⟨ρ1, k1, k2⟩ := tgk_some e1
    exact ⟨ρ1, y, L', k1, k2, e2, e3⟩
theorem for_list {body : SF} {fi : IF} {α : Type} (xs : List α) (enc : α → D) {src : List (Nat × D)} (hi : fi ρ L = .ok ⟨xs.map enc, src⟩ L1) (I : List α → Env' → Sto → Prop) (h0 : I [] ρ L1)
    (step : ∀ pre a post ρ L, xs = pre ++ a :: post → I pre ρ L → ∃ ρ1 ρ2 L2, tg (enc a) ρ = some ρ1 ∧ body ρ1 L = .nx ρ2 L2 ∧ srcOk L2 src ∧ I (pre ++ [a]) ρ2 L2) : ∃ ρ' L', sFor fi tg body ρ L = .nx ρ' L' ∧ I xs ρ' L' := by
  obtain ⟨ρ', L', e, h⟩ := sFor_inv (tg := tg) (body := body) hi (fun i ρ L => I (xs.take i) ρ L) h0 fun i d ρ L hd hI => by
    dsimp only at hd
    rw [List.getElem?_map] at hd
    obtain ⟨a, ha, rfl⟩ := Option.map_eq_some_iff.mp hd
    have hlt := getElem?_lt ha
    have e1 : xs.take (i + 1) = xs.take i ++ [a] := by rw [List.take_succ, ha]; rfl
    obtain ⟨ρ1, ρ2, L2, k1, k2, k3, k4⟩ := step (xs.take i) a (xs.drop (i + 1)) ρ L (by
      have : xs[i] = a := by rw [List.getElem?_eq_getElem hlt] at ha; exact Option.some.inj ha
      rw [← this, List.getElem_cons_drop, List.take_append_drop]) hI
    exact ⟨ρ1, ρ2, L2, k1, k2, k3, by rw [e1]; exact k4⟩
  dsimp only at h
  rw [List.length_map, List.take_length] at h
  exact ⟨ρ', L', e, h⟩
end
section
variable {L : Sto} {p a b : Int}
theorem gInB_ints (v : Int) (o : List Int) (d : D) (hd : seqOf L d = some (o.map .int, [])) : gInB L (.int v) d = some (decide (v ∈ o)) := by
  unfold gInB
  rw [hd]
  dsimp only
  rw [if_pos ⟨rfl, flat_ints o⟩, any_ints]
theorem gIn_ints (v : Int) (o : List Int) (d : D) (hd : seqOf L d = some (o.map .int, [])) : gIn (.int v) d L = .ok (.bl (decide (v ∈ o))) L := by
  unfold gIn
  rw [gInB_ints v o d hd]
theorem gNotIn_ints' (v : Int) (o : List Int) (d : D) (hd : seqOf L d = some (o.map .int, [])) : gNotIn (.int v) d L = .ok (.bl (!decide (v ∈ o))) L := by
  unfold gNotIn
  rw [gInB_ints v o d hd]
theorem hbQ : gIn (.int p) (.tup [.int a, .int b]) L = .ok (.bl (decide (p = a) || decide (p = b))) L := by
  have := gIn_ints (L := L) p [a, b] (.tup [.int a, .int b]) rfl
  rw [this]
  congr 2
  simp
theorem hcQ : gNotIn (.int p) (.tup [.int a, .int b]) L = .ok (.bl (!(decide (p = a) || decide (p = b)))) L := by
  have := gNotIn_ints' (L := L) p [a, b] (.tup [.int a, .int b]) rfl
  rw [this]
  congr 3
  simp
end
def setD (ks : List Int) : D := .dF (ks.map fun k => (.inl k, .bl true))
theorem hdQ (ks : List Int) {L : Sto} : kit (.ok (setD ks) L) = .ok ⟨ks.map .int, []⟩ L := by
  unfold setD
  rw [gqQ, List.map_map]
  rfl
theorem zipD_map {α β : Type} (f : α → D) (g : β → D) : ∀ (xs : List α) (ys : List β), zipD (xs.map f) (ys.map g) = (xs.zip ys).map fun p => .tup [f p.1, g p.2]
  | [], _ => by simp [zipD]
  | _ :: _, [] => by simp [zipD]
  | x :: xs, y :: ys => by
    have := zipD_map f g xs ys
    unfold zipD at this ⊢
    rw [List.map_cons, List.map_cons, List.zipWith_cons_cons, this, List.zip_cons_cons, List.map_cons]
theorem w_kizp_map {α β : Type} {L : Sto} {f : α → D} {g : β → D} {xs : List α} {ys : List β} {d e : D} (h1 : seqOf L d = some (xs.map f, [])) (h2 : seqOf L e = some (ys.map g, [])) : kizp (.ok [d, e] L) = .ok ⟨(xs.zip ys).map fun p => .tup [f p.1, g p.2], []⟩ L := by
  show (match seqOf L d, seqOf L e with | some (xs, s), some (ys, t) => Res.ok (Its.mk (zipD xs ys) (s ++ t)) L | _, _ => .bad) = _
  rw [h1, h2, ← zipD_map]
  rfl
theorem enumD_map {α : Type} (f : α → D) : ∀ (xs : List α) (n : Nat), enumD n (xs.map f) = (xs.zipIdx n).map fun p => .tup [natD p.2, f p.1]
  | [], _ => rfl
  | x :: xs, n => by
    rw [List.map_cons, List.zipIdx_cons, List.map_cons, ← enumD_map f xs (n + 1)]
    rfl
def kp1 (fv : EF) (r : List (EF × EF)) (ρ : Env') (x : Res D) : Res (List (D × D)) := x.bind fun k L1 => (fv ρ L1).bind fun v L2 => (prsF r ρ L2).bind fun ps L3 => .ok ((k, v) :: ps) L3
def kp2 (k : D) (r : List (EF × EF)) (ρ : Env') (x : Res D) : Res (List (D × D)) := x.bind fun v L2 => (prsF r ρ L2).bind fun ps L3 => .ok ((k, v) :: ps) L3
def kp3 (k v : D) (x : Res (List (D × D))) : Res (List (D × D)) := x.bind fun ps L3 => .ok ((k, v) :: ps) L3
def kdisp (box : Bool) (x : Res (List (D × D))) : Res D := x.bind fun ps L1 => match keyPs ps with
  | some kds => if kds.length ≤ 15 then dOut box (mergeD [] kds) L1 else .bad
  | none => .bad
section
variable {ρ ρ1 : Env'} {L L1 : Sto} {d e k v : D} {fa fb fk fv : EF} {r : List (EF × EF)} {ps : List (D × D)} {bx : Bool} {i j : Int} {a b : Str} {xs ys : List D} {n m : Nat}
theorem heQ : eDisp bx r ρ L = kdisp bx (prsF r ρ L) := (rfl)
theorem hfQ : prsF ((fk, fv) :: r) ρ L = kp1 fv r ρ (fk ρ L) := (rfl)
theorem hgQ : prsF [] ρ L = .ok [] L := (rfl)
theorem hhQ : kp1 fv r ρ (.ok k L) = kp2 k r ρ (fv ρ L) := (rfl)
theorem hiQ : kp2 k r ρ (.ok v L) = kp3 k v (prsF r ρ L) := (rfl)
theorem hjQ : kp3 k v (.ok ps L) = .ok ((k, v) :: ps) L := (rfl)
theorem hkQ : kdisp bx (.ok [(.int i, d)] L) = dOut bx (mergeD [] [(.inl i, d)]) L := (rfl)
theorem hlQ : kdisp bx (.ok [(.int i, d), (.int j, e)] L) = dOut bx (mergeD [] [(.inl i, d), (.inl j, e)]) L := (rfl)
theorem hmQ : kdisp bx (.ok [(.str a, d), (.str b, e)] L) = dOut bx (mergeD [] [(.inr a, d), (.inr b, e)]) L := (rfl)
theorem hnQ {kvs : List (Key × D)} : dOut false kvs L = .ok (.dK kvs) L := (rfl)
theorem hoQ {kvs : List (Key × D)} : dOut true kvs L = .ok (.loc L.length) (L ++ [.dK kvs]) := (rfl)
end
theorem nxt_app {n : Nat} {L M : Sto} {tl : List D} (hn : n < L.length) (h : Nxt n (L ++ tl) M) : ∃ L5, M = L5 ++ tl ∧ Nxt n L L5 := by
  obtain ⟨a, b, c, rfl⟩ := h
  exact ⟨L.set n (dice a b c), by rw [List.set_append_left _ _ hn], a, b, c, rfl⟩
theorem dc_app {n : Nat} {L : Sto} (h : Dc n L) (tl : List D) : Dc n (L ++ tl) := by
  obtain ⟨a, b, c, e⟩ := h
  exact ⟨a, b, c, by rw [List.getElem?_append_left (getElem?_lt e)]; exact e⟩
theorem dc_lt {n : Nat} {L : Sto} (h : Dc n L) : n < L.length := by obtain ⟨a, b, c, e⟩ := h; exact getElem?_lt e
theorem roll_ok {L : Sto} {n : Nat} {a b c t : Int} (hd : L[n]? = some (dice a b c)) (t1 : 1 ≤ t) (t2 : t ≤ 1000) : ∃ r a' b' c', 0 ≤ r ∧ r < t ∧ m_l_roll [.loc n, .int t] L = .ok (.int r) (L.set n (dice a' b' c')) := by
  have hp : 0 < t := by omega
  have hq : t < 2 ^ 64 := by omega
  have s0 : startE 6 [.loc n, .int t] = [some (.loc n), some (.int t), none, none, none, none] := rfl
  have q0 : sSet 2 (en gInt (aCons (eVar 1) aNil)) [some (.loc n), some (.int t), none, none, none, none] L = .nx [some (.loc n), some (.int t), some (.int t), none, none, none] L := rfl
  have ix : ∀ (L : Sto) (a b c : Int) (ρ : Env'), L[n]? = some (dice a b c) → ρ[0]? = some (some (.loc n)) → (DS.e2 gIx (eVar 0) (eC (.int 0)) ρ L = .ok (.int a) L ∧ DS.e2 gIx (eVar 0) (eC (.int 1)) ρ L = .ok (.int b) L ∧ DS.e2 gIx (eVar 0) (eC (.int 2)) ρ L = .ok (.int c) L) := fun L a b c ρ h hρ =>
    ⟨(ev_e2 (ev_var hρ) rfl).trans (gIx_loc (j := 0) h rfl), (ev_e2 (ev_var hρ) rfl).trans (gIx_loc (j := 1) h rfl), (ev_e2 (ev_var hρ) rfl).trans (gIx_loc (j := 2) h rfl)⟩
  by_cases ha : 0 < a
  · obtain ⟨i0, i1, i2⟩ := ix L a b c [some (.loc n), some (.int t), some (.int t), none, none, none] hd rfl
    obtain ⟨j0, j1, j2⟩ := ix L a b c [some (.loc n), some (.int t), some (.int t), none, none, some (.int (a % t))] hd rfl
    refine ⟨a % t, a / t, b, c, Int.emod_nonneg _ (by omega), Int.emod_lt_of_pos _ hp, ?_⟩
    refine ev_m (ev_seq q0 (ev_seqR (ev_if_t (L1 := L) ?_ (ev_seq (ev_set ((ev_e2 i0 (ev_var (d := .int t) rfl)).trans (gMod_int hp))) (ev_seq (ev_put ((ev_e2 j0 (ev_var (d := .int t) rfl)).trans (gDiv_int hp hq)) (ev_var (d := .loc n) rfl) (k := .int 0) rfl (putAt_loc (j := 0) hd (show 0 < 3 by decide))) (ev_ret rfl))))))
    refine ev_asB (fa := DS.e2 gGt (DS.e2 gIx (eVar 0) (eC (.int 0))) (eC (.int 0))) ?_
    rw [ev_e2 i0 (e := .int 0) rfl, evQ, decide_eq_true ha]
  · obtain ⟨i0, i1, i2⟩ := ix L a b c [some (.loc n), some (.int t), some (.int t), none, none, none] hd rfl
    have hd2 : (L.set n (dice a b (c + 1)))[n]? = some (dice a b (c + 1)) := set_get hd
    have hmul : ∀ (x y : Int), 0 ≤ x → x < 2 ^ 64 → (-(2 ^ 64) < x ∧ x < 2 ^ 64) ∨ (-(2 ^ 64) < y ∧ y < 2 ^ 64) := fun x y h1 h2 => .inl ⟨by omega, h2⟩
    obtain ⟨one, h1⟩ : ∃ one : Int, (b + 1000171 * (c + 1)) % 2305843009213693951 = one := ⟨_, rfl⟩
    have o0 : 0 ≤ one := by rw [← h1]; exact Int.emod_nonneg _ (by decide)
    have o1 : one < 2 ^ 64 := by
      have : one < 2305843009213693951 := by rw [← h1]; exact Int.emod_lt_of_pos _ (by decide)
      omega
    obtain ⟨sq, h2⟩ : ∃ sq : Int, one * one % 2305843009213693921 = sq := ⟨_, rfl⟩
    have p0 : 0 ≤ sq := by rw [← h2]; exact Int.emod_nonneg _ (by decide)
    have p1 : sq < 2 ^ 64 := by
      have : sq < 2305843009213693921 := by rw [← h2]; exact Int.emod_lt_of_pos _ (by decide)
      omega
    obtain ⟨two, h3⟩ : ∃ two : Int, (sq * one + 9419 * (c + 1)) % 2305843009213693907 = two := ⟨_, rfl⟩
    refine ⟨two / 4096 % t, a, b, c + 1, Int.emod_nonneg _ (by omega), Int.emod_lt_of_pos _ hp, ?_⟩
    obtain ⟨j0, j1, j2⟩ := ix (L.set n (dice a b (c + 1))) a b (c + 1) [some (.loc n), some (.int t), some (.int t), none, none, none] hd2 rfl
    obtain ⟨k0, k1, k2⟩ := ix (L.set n (dice a b (c + 1))) a b (c + 1) [some (.loc n), some (.int t), some (.int t), some (.int one), none, none] hd2 rfl
    refine ev_m (ev_seq q0 (ev_seq (ev_skip ?_) (ev_seq (ev_put ((ev_e2 i2 (e := .int 1) rfl).trans eqQ) (ev_var (d := .loc n) rfl) (k := .int 2) rfl (putAt_loc (j := 2) hd (show 2 < 3 by decide)))
      (ev_seq (ev_set (d := .int one) (L1 := L.set n (dice a b (c + 1))) ?_) (ev_seq (ev_set (d := .int (sq * one + 9419 * (c + 1))) (L1 := L.set n (dice a b (c + 1))) ?_) (ev_seq (ev_set (d := .int two) (L1 := L.set n (dice a b (c + 1))) ?_) (ev_ret ?_)))))))
    · refine ev_asB (fa := DS.e2 gGt (DS.e2 gIx (eVar 0) (eC (.int 0))) (eC (.int 0))) ?_
      rw [ev_e2 i0 (e := .int 0) rfl, evQ, decide_eq_false ha]
    · have z1 : DS.e2 gMul (eC (.int 1000171)) (DS.e2 gIx (eVar 0) (eC (.int 2))) [some (.loc n), some (.int t), some (.int t), none, none, none] (L.set n (dice a b (c + 1))) = .ok (.int (1000171 * (c + 1))) (L.set n (dice a b (c + 1))) :=
        (ev_e2 (d := .int 1000171) rfl j2).trans (gMul_int (.inl ⟨by decide, by decide⟩))
      have z2 := (ev_e2 j1 z1).trans eqQ
      refine (ev_e2 z2 (e := .int 2305843009213693951) rfl).trans ?_
      rw [gMod_int (by decide), h1]
    · have y3 : eVar 3 [some (.loc n), some (.int t), some (.int t), some (.int one), none, none] (L.set n (dice a b (c + 1))) = .ok (.int one) (L.set n (dice a b (c + 1))) := rfl
      have z1 := (ev_e2 y3 y3).trans (gMul_int (hmul one one o0 o1))
      have z2 : DS.e2 gMod (DS.e2 gMul (eVar 3) (eVar 3)) (eC (.int 2305843009213693921)) [some (.loc n), some (.int t), some (.int t), some (.int one), none, none] (L.set n (dice a b (c + 1))) = .ok (.int sq) (L.set n (dice a b (c + 1))) := by
        rw [ev_e2 z1 (e := .int 2305843009213693921) rfl, gMod_int (by decide), h2]
      have z3 := (ev_e2 z2 y3).trans (gMul_int (hmul sq one p0 p1))
      have z4 : DS.e2 gMul (eC (.int 9419)) (DS.e2 gIx (eVar 0) (eC (.int 2))) [some (.loc n), some (.int t), some (.int t), some (.int one), none, none] (L.set n (dice a b (c + 1))) = .ok (.int (9419 * (c + 1))) (L.set n (dice a b (c + 1))) :=
        (ev_e2 (d := .int 9419) rfl k2).trans (gMul_int (.inl ⟨by decide, by decide⟩))
      exact (ev_e2 z3 z4).trans eqQ
    · refine (ev_e2 (ev_var (d := .int (sq * one + 9419 * (c + 1))) rfl) (e := .int 2305843009213693907) rfl).trans ?_
      rw [gMod_int (by decide), h3]
    · have z1 := (ev_e2 (fa := eVar 4) (ρ := [some (.loc n), some (.int t), some (.int t), some (.int one), some (.int two), none]) (L := L.set n (dice a b (c + 1))) (ev_var (d := .int two) rfl) (fb := eC (.int 4096)) (e := .int 4096) (L2 := L.set n (dice a b (c + 1))) rfl (k := gDiv)).trans (gDiv_int (by decide) (by decide))
      have z2 := (ev_e2 z1 (fb := eVar 2) (ev_var (d := .int t) rfl) (k := gMod)).trans (gMod_int hp)
      exact (ev_en (ev_one z2)).trans eDQ
theorem roll {n : Nat} {L : Sto} {t : Int} (hd : Dc n L) (t1 : 1 ≤ t) (t2 : t ≤ 1000) : ∃ r L', 0 ≤ r ∧ r < t ∧ m_l_roll [.loc n, .int t] L = .ok (.int r) L' ∧ Nxt n L L' ∧ Dc n L' := by
  obtain ⟨a, b, c, e⟩ := hd
  obtain ⟨r, a', b', c', h1, h2, h3⟩ := roll_ok e t1 t2
  exact ⟨r, _, h1, h2, h3, ⟨a', b', c', rfl⟩, ⟨a', b', c', set_get e⟩⟩
theorem one_of {n : Nat} {L : Sto} {xs : List D} (hd : Dc n L) (h1 : 1 ≤ xs.length) (h2 : xs.length ≤ 1000) : ∃ y L', y ∈ xs ∧ m_l_one_of [.loc n, .lst xs] L = .ok y L' ∧ Nxt n L L' ∧ Dc n L' := by
  obtain ⟨r, L', r0, r1, q, hn, hd'⟩ := roll hd (t := (xs.length : Int)) (by omega) (by omega)
  obtain ⟨j, rfl⟩ := Int.eq_ofNat_of_zero_le r0
  have hj : j < xs.length := by omega
  refine ⟨xs[j], L', List.getElem_mem hj, ?_, hn, hd'⟩
  have v1 : eVar 1 (startE 2 [.loc n, .lst xs]) L = .ok (.lst xs) L := rfl
  have v0 : eVar 0 (startE 2 [.loc n, .lst xs]) L = .ok (.loc n) L := rfl
  refine ev_m (ev_ret ((ev_e2 v1 ((ev_call (ev_cons v0 (ev_one ((ev_en (ev_one v1)).trans eAQ))) rfl).trans q)).trans (gIx_lst (List.getElem?_eq_getElem hj))))
theorem dice_ok (ns : List Int) (k : Nat) (L : Sto) : ∃ a b, m_l_dice [.ro (ns.map .int), .int (k : Int)] L = .ok (.loc L.length) (L ++ [dice a b 0]) := by
  have s0 : startE 6 [.ro (ns.map .int), .int (k : Int)] = [some (.ro (ns.map .int)), some (.int k), none, none, none, none] := rfl
  obtain ⟨cell, hc⟩ : ∃ cell : Int, sIf (fun ρ L => asB ((DS.e2 gLt (eVar 1) (en gLen (aCons (eVar 0) aNil))) ρ L)) (sSet 2 (DS.e2 gIx (eVar 0) (eVar 1))) sSkip [some (.ro (ns.map .int)), some (.int k), some (.int (71 * k + 43)), none, none, none] L
      = .nx [some (.ro (ns.map .int)), some (.int k), some (.int cell), none, none, none] L := by
    have v0 : eVar 0 [some (.ro (ns.map .int)), some (.int k), some (.int (71 * k + 43)), none, none, none] L = .ok (.ro (ns.map .int)) L := rfl
    have v1 : eVar 1 [some (.ro (ns.map .int)), some (.int k), some (.int (71 * k + 43)), none, none, none] L = .ok (.int k) L := rfl
    have c := (ev_e2 v1 ((ev_en (ev_one v0)).trans eBQ) (k := gLt)).trans etQ
    rw [List.length_map] at c
    by_cases h : k < ns.length
    · have h2 : (k : Int) < (ns.length : Int) := by omega
      rw [decide_eq_true h2] at c
      have hg : (ns.map D.int)[k]? = some (.int ns[k]) := by rw [List.getElem?_map, List.getElem?_eq_getElem h]; rfl
      exact ⟨ns[k], ev_if_t (ev_asB c) (ev_set ((ev_e2 v0 v1).trans (gIx_ro hg)))⟩
    · have h2 : ¬ (k : Int) < (ns.length : Int) := by omega
      rw [decide_eq_false h2] at c
      exact ⟨71 * k + 43, ev_skip (ev_asB c)⟩
  have q0 : sSet 2 (DS.e2 gAdd (DS.e2 gMul (eC (.int 71)) (eVar 1)) (eC (.int 43))) [some (.ro (ns.map .int)), some (.int k), none, none, none, none] L = .nx [some (.ro (ns.map .int)), some (.int k), some (.int (71 * k + 43)), none, none, none] L :=
    ev_set ((ev_e2 ((ev_e2 (d := .int 71) (e := .int (k : Int)) rfl rfl).trans (gMul_int (.inl ⟨by decide, by decide⟩))) (e := .int 43) rfl).trans eqQ)
  obtain ⟨B, hB⟩ : ∃ B : Int, ((10 : Int) ^ 60) ^ 10 = B := ⟨_, rfl⟩
  have hB0 : 0 < B := by rw [← hB]; exact Int.pow_pos (Int.pow_pos (by decide))
  obtain ⟨g, hg⟩ : ∃ g : Int, (if cell < 0 then -cell else cell) % B = g := ⟨_, rfl⟩
  have q3 : sSet 3 (DS.e2 gMod (en gInt (aCons (en gAbs (aCons (eVar 2) aNil)) aNil)) (DS.e2 gPow (DS.e2 gPow (eC (.int 10)) (eC (.int 60))) (eC (.int 10)))) [some (.ro (ns.map .int)), some (.int k), some (.int cell), none, none, none] L
      = .nx [some (.ro (ns.map .int)), some (.int k), some (.int cell), some (.int g), none, none] L := by
    have z : en gInt (aCons (en gAbs (aCons (eVar 2) aNil)) aNil) [some (.ro (ns.map .int)), some (.int k), some (.int cell), none, none, none] L = .ok (.int (if cell < 0 then -cell else cell)) L :=
      (ev_en (ev_one ((ev_en (ev_one (ev_var (d := .int cell) rfl))).trans gAbs_int))).trans eDQ
    have z2 := (ev_e2 z (pow600 _ L) (k := gMod)).trans (gMod_int (by rw [hB]; exact hB0))
    rw [hB, hg] at z2
    exact ev_set z2
  have q4 : sSet 4 (DS.e2 gDiv (eVar 3) (DS.e2 gPow (eC (.int 10)) (eC (.int 18)))) [some (.ro (ns.map .int)), some (.int k), some (.int cell), some (.int g), none, none] L
      = .nx [some (.ro (ns.map .int)), some (.int k), some (.int cell), some (.int g), some (.int (g / 10 ^ 18)), none] L :=
    ev_set ((ev_e2 (ev_var (d := .int g) rfl) (pow18 _ L)).trans (gDiv_int (by decide) (by decide)))
  obtain ⟨m, hm⟩ : ∃ m : Int, g % 2147483179 * 57037 + 3217 * (k : Int) + 53 * (if decide (cell < 0) = true then 1 else 0) + 101 = m := ⟨_, rfl⟩
  have q5 : sSet 5 (DS.e2 gAdd (DS.e2 gAdd (DS.e2 gAdd (DS.e2 gMul (DS.e2 gMod (eVar 3) (eC (.int 2147483179))) (eC (.int 57037))) (DS.e2 gMul (eC (.int 3217)) (eVar 1))) (DS.e2 gMul (eC (.int 53)) (en gInt (aCons (DS.e2 gLt (eVar 2) (eC (.int 0))) aNil)))) (eC (.int 101)))
      [some (.ro (ns.map .int)), some (.int k), some (.int cell), some (.int g), some (.int (g / 10 ^ 18)), none] L = .nx [some (.ro (ns.map .int)), some (.int k), some (.int cell), some (.int g), some (.int (g / 10 ^ 18)), some (.int m)] L := by
    have y1 := (ev_e2 (fa := eVar 3) (ρ := [some (.ro (ns.map .int)), some (.int k), some (.int cell), some (.int g), some (.int (g / 10 ^ 18)), none]) (L := L) (ev_var (d := .int g) rfl) (fb := eC (.int 2147483179)) (e := .int 2147483179) (L2 := L) rfl (k := gMod)).trans (gMod_int (by decide))
    have y2 := (ev_e2 y1 (fb := eC (.int 57037)) (e := .int 57037) (L2 := L) rfl (k := gMul)).trans (gMul_int (.inr ⟨by decide, by decide⟩))
    have y3 := (ev_e2 (fa := eC (.int 3217)) (ρ := [some (.ro (ns.map .int)), some (.int k), some (.int cell), some (.int g), some (.int (g / 10 ^ 18)), none]) (L := L) (d := .int 3217) (L1 := L) rfl (fb := eVar 1) (ev_var (d := .int k) rfl) (k := gMul)).trans (gMul_int (.inl ⟨by decide, by decide⟩))
    have y4 := (ev_e2 (fa := eVar 2) (ρ := [some (.ro (ns.map .int)), some (.int k), some (.int cell), some (.int g), some (.int (g / 10 ^ 18)), none]) (L := L) (ev_var (d := .int cell) rfl) (fb := eC (.int 0)) (e := .int 0) (L2 := L) rfl (k := gLt)).trans etQ
    have y5 := (ev_en (ev_one y4) (k := gInt)).trans eEQ
    have y6 := (ev_e2 (fa := eC (.int 53)) (d := .int 53) (L1 := L) rfl y5 (k := gMul)).trans (gMul_int (.inl ⟨by decide, by decide⟩))
    have y7 := (ev_e2 y2 y3 (k := gAdd)).trans eqQ
    have y8 := (ev_e2 y7 y6 (k := gAdd)).trans eqQ
    have y9 := (ev_e2 y8 (fb := eC (.int 101)) (e := .int 101) (L2 := L) rfl (k := gAdd)).trans eqQ
    rw [hm] at y9
    exact ev_set y9
  refine ⟨g / 10 ^ 18, m % 2147483123, ?_⟩
  refine ev_m (ev_seq q0 (ev_seq hc (ev_seq q3 (ev_seq q4 (ev_seq q5 (ev_ret ?_))))))
  have z := (ev_e2 (fa := eVar 5) (ρ := [some (.ro (ns.map .int)), some (.int k), some (.int cell), some (.int g), some (.int (g / 10 ^ 18)), some (.int m)]) (L := L) (ev_var (d := .int m) rfl) (fb := eC (.int 2147483123)) (e := .int 2147483123) (L2 := L) rfl (k := gMod)).trans (gMod_int (by decide))
  have zz := ev_cons (fa := eVar 4) (d := .int (g / 10 ^ 18)) (L1 := L) (ev_var rfl) (ev_cons z (ev_one (fa := eC (.int 0)) (d := .int 0) (L1 := L) rfl))
  unfold eLst
  rw [zz, Res.bind_ok]
  rw [if_pos (show [D.int (g / 10 ^ 18), .int (m % 2147483123), .int 0].length ≤ 16777216 from (show 3 ≤ 16777216 by decide))]
  rfl
theorem eqDL_nil : ∀ l : List D, eqDL l [] = l.isEmpty
  | [] => rfl
  | _ :: _ => rfl
theorem rollsN {n : Nat} {L1 : Sto} {k : Nat} {t : Int} {it : IF} {f : EF} {own : List Nat} {tg : GF} {ρ : Env'} {L : Sto} (hd : Dc n L1) (hk : k ≤ 1000) (hi : it ρ L = .ok ⟨(List.range k).map natD, []⟩ L1)
    (hf : ∀ a L, a < k → Dc n L → ∃ x L', tgk f (tg (natD a) (wipeE ρ own)) L = .ok (.int x) L' ∧ Nxt n L L' ∧ 0 ≤ x ∧ x < t) :
    ∃ (r : List Int) (L' : Sto), eLc false own it tg tTrue f ρ L = .ok (.lst (r.map .int)) L' ∧ Nxt n L1 L' ∧ Dc n L' ∧ r.length = k ∧ ∀ x ∈ r, 0 ≤ x ∧ x < t := by
  obtain ⟨ys, L', q, q1, q2, q3⟩ := lc_inv (box := false) (own := own) (tg := tg) (f := f) (List.range k) natD (fun L => Nxt n L1 L ∧ Dc n L) (fun _ y => ∃ x, y = D.int x ∧ 0 ≤ x ∧ x < t) hi (by rw [List.length_range]; omega) ⟨.refl hd, hd⟩
    fun a ha L hL => by
      obtain ⟨x, L', f1, f2, f3, f4⟩ := hf a L (List.mem_range.mp ha) hL.2
      exact ⟨.int x, L', f1, ⟨hL.1.trans f2, f2.dc hL.2⟩, x, rfl, f3, f4⟩
  obtain ⟨r, rfl, hr⟩ := ints_of (ys := ys) (Q := fun x => 0 ≤ x ∧ x < t) fun y hy => by
    obtain ⟨j, hj⟩ := List.getElem?_of_mem hy
    have hlt : j < (List.range k).length := by rw [← q2]; exact getElem?_lt hj
    exact q3 j _ y (List.getElem?_eq_getElem hlt) hj
  refine ⟨r, L', q, q1.1, q1.2, ?_, hr⟩
  rw [List.length_map, List.length_range] at q2
  exact q2
section
variable {it : IF} {tg : GF} {t : TF} {f : EF} {body : SF} {own : List Nat} {ρ : Env'} {L L1 : Sto} {box : Bool}
end
section
variable {L : Sto} {ps : List P2} {ns : List Int}
theorem gSort_lst : gSort false [.lst (ns.map .int)] L = .ok (.lst ((srtI ns).map .int)) L := by
  unfold gSort
  simp only [eMQ, dInts_map, eJQ]
end
theorem lc2 {α β : Type} {it it2 : IF} {tg tg2 : GF} {f : EF} {own vs : List Nat} {ρ : Env'} {L : Sto} (xs : List α) (enc : α → D) (ys : α → List β) (enc2 : α → β → D) (y : α → β → D) (hi : it ρ L = .ok ⟨xs.map enc, []⟩ L) (hl : (xs.flatMap ys).length ≤ 1000000)
    (h : ∀ a ∈ xs, ∃ ρ1, tg (enc a) (wipeE ρ own) = some ρ1 ∧ it2 ρ1 L = .ok ⟨(ys a).map (enc2 a), []⟩ L ∧ ∀ b ∈ ys a, tgk f (tg2 (enc2 a b) (wipeE ρ1 vs)) L = .ok (y a b) L) :
    eComp false own (.lst []) it tg tTrue (stepN it2 vs tg2 tTrue (stepL f)) ρ L = .ok (.lst (xs.flatMap fun a => (ys a).map (y a))) L := by
  have ln : ∀ zs : List α, (zs.flatMap fun a => (ys a).map (y a)).length = (zs.flatMap ys).length := fun zs => by
    induction zs with
    | nil => rfl
    | cons a zs ih => rw [List.flatMap_cons, List.flatMap_cons, List.length_append, List.length_append, List.length_map, ih]
  have q := cGo_lst (src := []) (tg := tg) (step := stepN it2 vs tg2 tTrue (stepL f)) (ρ := wipeE ρ own) (L := L) enc (fun a => (ys a).map (y a)) srcOk_nil xs [] (by rw [ln, List.length_nil]; omega) fun a ha acc hl2 => by
    obtain ⟨ρ1, k1, k2, k3⟩ := h a ha
    rw [List.length_map] at hl2
    refine ⟨ρ1, k1, stepN_at k2 ?_⟩
    have q2 := cGo_lst (src := []) (tg := tg2) (step := stepL f) (ρ := wipeE ρ1 vs) (L := L) (enc2 a) (fun b => [y a b]) srcOk_nil (ys a) acc (by rw [flatMap_one, List.length_map]; omega) fun b hb acc2 hl3 => by
      obtain ⟨ρ2, j1, j2⟩ := tgk_some (k3 b hb)
      rw [List.length_singleton] at hl3
      exact ⟨ρ2, j1, stepL_at j2 (by omega)⟩
    rw [flatMap_one] at q2
    exact q2
  exact (eComp_at hi q).trans rfl
section
variable {act : Sto → Res D} {L L1 : Sto} {d : D} {p : List (Str × D)} {s : Str}
theorem met_ok (h : act L = .ok d L1) : m_l_met act L = .ok (.str "fine") L1 := by
  unfold m_l_met mMet
  rw [h]
theorem met_row (h : act L = .err "InvalidRow" p L1) : m_l_met act L = .ok (.str "row") L1 := by
  unfold m_l_met mMet
  rw [h]
  rfl
theorem met_op (h : act L = .err "InvalidOperation" p L1) : m_l_met act L = .ok (.str "operation") L1 := by
  unfold m_l_met mMet
  rw [h]
  rfl
theorem met_num (h : act L = .err "InvalidNumber" [("value", d)] L1) (r : Told "number " d s) : m_l_met act L = .ok (.str s) L1 := by
  obtain ⟨_, t, r1, r2⟩ := r
  have q : hRep "InvalidNumber" "value" "number " "InvalidNumber" [("value", d)] ((List.replicate 2 none).set 1 none) L1 = .ok (.str s) L1 := by
    have k : hFld "InvalidNumber" "value" "InvalidNumber" [("value", d)] ((List.replicate 2 none).set 1 none) L1 = .ok d L1 := rfl
    unfold hRep
    simp only [aaQ, abQ, acQ, adQ, aeQ, afQ, agQ, ahQ, aiQ, ajQ, akQ, alQ, amQ, anQ, aoQ, apQ, aqQ, arQ, asQ, atQ, auQ, avQ, awQ, axQ, ayQ, azQ, aAQ, aBQ, aCQ, aDQ, aEQ, aFQ, aGQ, aHQ, aIQ, aJQ, aKQ, aLQ, aMQ, aNQ, aOQ, aPQ, aQQ, aRQ, aSQ, aTQ, aUQ, aVQ, aWQ, aXQ, aYQ, aZQ, baQ, bbQ, bcQ, bdQ, beQ, bfQ, bgQ, bhQ, biQ, bjQ, bkQ, blQ, bmQ, bnQ, boQ, bpQ, bqQ, brQ, bsQ, btQ, buQ, bvQ, bwQ, bxQ, byQ, bzQ, bAQ, bBQ, bCQ, bDQ, bEQ, bFQ, bGQ, bHQ, bIQ, bJQ, bKQ, bLQ, bMQ, bNQ, bOQ, bPQ, bQQ, bRQ, bSQ, bTQ, bUQ, bVQ, bWQ, bXQ, bYQ, bZQ, caQ, cbQ, ccQ, cdQ, ceQ, cfQ, cgQ, chQ, ciQ, cjQ, ckQ, clQ, cmQ, cnQ, coQ, cpQ, cqQ, crQ, csQ, ctQ, cuQ, cvQ, cwQ, cxQ, cyQ, czQ, cAQ, cBQ, cCQ, cDQ, cEQ, cFQ, cGQ, cHQ, cIQ, cJQ, cKQ, cLQ, cMQ, cNQ, cOQ, cPQ, cQQ, cRQ, cSQ, cTQ, cUQ, cVQ, cWQ, cXQ, cYQ, cZQ, daQ, dbQ, dcQ, ddQ, deQ, dfQ, dgQ, dhQ, diQ, djQ, dkQ, dlQ, dmQ, dnQ, doQ, dpQ, dqQ, drQ, dsQ, dtQ, duQ, dvQ, dwQ, dxQ, dyQ, dzQ, dAQ, dBQ, dCQ, dDQ, dEQ, dFQ, dGQ, dHQ, dIQ, dJQ, dKQ, dLQ, dMQ, dNQ, dOQ, dPQ, dQQ, dRQ, dSQ, dTQ, dUQ, dVQ, dWQ, dXQ, dYQ, dZQ, eaQ, ebQ, ecQ, edQ, eeQ, efQ, egQ, ehQ, eiQ, ejQ, ekQ, elQ, emQ, enQ, eoQ, epQ, eqQ, erQ, esQ, etQ, euQ, evQ, ewQ, exQ, eyQ, ezQ, eAQ, eBQ, eCQ, eDQ, eEQ, eFQ, eGQ, eHQ, eIQ, eJQ, eKQ, eLQ, eMQ, eNQ, eOQ, ePQ, eQQ, eRQ, eSQ, eTQ, eUQ, eVQ, eWQ, eXQ, eYQ, eZQ, faQ, fbQ, fcQ, fdQ, feQ, ffQ, fgQ, fhQ, fiQ, fjQ, fkQ, flQ, fmQ, fnQ, foQ, fpQ, fqQ, frQ, fsQ, ftQ, fuQ, fvQ, fwQ, fxQ, fyQ, fzQ, fAQ, fBQ, fCQ, fDQ, fEQ, fFQ, fGQ, fHQ, fIQ, fJQ, fKQ, fLQ, fMQ, fNQ, fOQ, fPQ, fQQ, fRQ, fSQ, fTQ, fUQ, fVQ, fWQ, fXQ, fYQ, fZQ, gaQ, gbQ, gcQ, gdQ, geQ, gfQ, ggQ, ghQ, giQ, gjQ, gkQ, glQ, gmQ, gnQ, goQ, gpQ, gqQ, grQ, gsQ, gtQ, guQ, gvQ, gwQ, gxQ, gyQ, gzQ, gAQ, gBQ, gCQ, gDQ, gEQ, gFQ, gGQ, gHQ, gIQ, gJQ, gKQ, gLQ, gMQ, gNQ, gOQ, gPQ, gQQ, gRQ, gSQ, gTQ, gUQ, gVQ, gWQ, gXQ, gYQ, gZQ, haQ, hbQ, hcQ, hdQ, heQ, hfQ, hgQ, hhQ, hiQ, hjQ, hkQ, hlQ, hmQ, hnQ, hoQ, k, r1, r2]
  have e : m_l_met act L = fin2 "fine" (Cl.run ⟨"InvalidNumber", some 1, none, hRep "InvalidNumber" "value" "number "⟩ "InvalidNumber" [("value", d)] (List.replicate 2 none) L1) := by
    unfold m_l_met mMet
    rw [h]
    rfl
  rw [e]
  unfold Cl.run
  dsimp only
  rw [if_pos (by decide), q]
  rfl
end
theorem met_rowc {p : List (Str × D)} {L : Sto} : m_l_met (fun L' => .err "InvalidRow" p L') L = .ok (.str "row") L := met_row rfl
theorem met_opc {p : List (Str × D)} {L : Sto} : m_l_met (fun L' => .err "InvalidOperation" p L') L = .ok (.str "operation") L := met_op rfl
theorem met_okc {d : D} {L : Sto} : m_l_met (fun L' => .ok d L') L = .ok (.str "fine") L := met_ok rfl
theorem met_numc {d : D} {s : Str} (r : Told "number " d s) {L : Sto} : m_l_met (fun L' => .err "InvalidNumber" [("value", d)] L') L = .ok (.str s) L := met_num rfl r
structure NotInt (lo hi : Int) (d : D) : Prop where
  no : ∀ L, m_is_integer [d, .int lo, .int hi] L = .ok (.bl false) L
  bel : ∀ n, d.bel n = true
section
variable {d : D} {lo hi : Int} {L : Sto}
theorem sInt_ii {i : Int} : m_is_integer [.int i, .int lo, .int hi] L = .ok (.bl (decide (lo ≤ i) && decide (i ≤ hi))) L := by
  by_cases h : i < lo
  · have h2 : ¬ lo ≤ i := by omega
    simp only [u_is_integer, F_is_integer, aaQ, abQ, acQ, adQ, aeQ, afQ, agQ, ahQ, aiQ, ajQ, akQ, alQ, amQ, anQ, aoQ, apQ, aqQ, arQ, asQ, atQ, auQ, avQ, awQ, axQ, ayQ, azQ, aAQ, aBQ, aCQ, aDQ, aEQ, aFQ, aGQ, aHQ, aIQ, aJQ, aKQ, aLQ, aMQ, aNQ, aOQ, aPQ, aQQ, aRQ, aSQ, aTQ, aUQ, aVQ, aWQ, aXQ, aYQ, aZQ, baQ, bbQ, bcQ, bdQ, beQ, bfQ, bgQ, bhQ, biQ, bjQ, bkQ, blQ, bmQ, bnQ, boQ, bpQ, bqQ, brQ, bsQ, btQ, buQ, bvQ, bwQ, bxQ, byQ, bzQ, bAQ, bBQ, bCQ, bDQ, bEQ, bFQ, bGQ, bHQ, bIQ, bJQ, bKQ, bLQ, bMQ, bNQ, bOQ, bPQ, bQQ, bRQ, bSQ, bTQ, bUQ, bVQ, bWQ, bXQ, bYQ, bZQ, caQ, cbQ, ccQ, cdQ, ceQ, cfQ, cgQ, chQ, ciQ, cjQ, ckQ, clQ, cmQ, cnQ, coQ, cpQ, cqQ, crQ, csQ, ctQ, cuQ, cvQ, cwQ, cxQ, cyQ, czQ, cAQ, cBQ, cCQ, cDQ, cEQ, cFQ, cGQ, cHQ, cIQ, cJQ, cKQ, cLQ, cMQ, cNQ, cOQ, cPQ, cQQ, cRQ, cSQ, cTQ, cUQ, cVQ, cWQ, cXQ, cYQ, cZQ, daQ, dbQ, dcQ, ddQ, deQ, dfQ, dgQ, dhQ, diQ, djQ, dkQ, dlQ, dmQ, dnQ, doQ, dpQ, dqQ, drQ, dsQ, dtQ, duQ, dvQ, dwQ, dxQ, dyQ, dzQ, dAQ, dBQ, dCQ, dDQ, dEQ, dFQ, dGQ, dHQ, dIQ, dJQ, dKQ, dLQ, dMQ, dNQ, dOQ, dPQ, dQQ, dRQ, dSQ, dTQ, dUQ, dVQ, dWQ, dXQ, dYQ, dZQ, eaQ, ebQ, ecQ, edQ, eeQ, efQ, egQ, ehQ, eiQ, ejQ, ekQ, elQ, emQ, enQ, eoQ, epQ, eqQ, erQ, esQ, etQ, euQ, evQ, ewQ, exQ, eyQ, ezQ, eAQ, eBQ, eCQ, eDQ, eEQ, eFQ, eGQ, eHQ, eIQ, eJQ, eKQ, eLQ, eMQ, eNQ, eOQ, ePQ, eQQ, eRQ, eSQ, eTQ, eUQ, eVQ, eWQ, eXQ, eYQ, eZQ, faQ, fbQ, fcQ, fdQ, feQ, ffQ, fgQ, fhQ, fiQ, fjQ, fkQ, flQ, fmQ, fnQ, foQ, fpQ, fqQ, frQ, fsQ, ftQ, fuQ, fvQ, fwQ, fxQ, fyQ, fzQ, fAQ, fBQ, fCQ, fDQ, fEQ, fFQ, fGQ, fHQ, fIQ, fJQ, fKQ, fLQ, fMQ, fNQ, fOQ, fPQ, fQQ, fRQ, fSQ, fTQ, fUQ, fVQ, fWQ, fXQ, fYQ, fZQ, gaQ, gbQ, gcQ, gdQ, geQ, gfQ, ggQ, ghQ, giQ, gjQ, gkQ, glQ, gmQ, gnQ, goQ, gpQ, gqQ, grQ, gsQ, gtQ, guQ, gvQ, gwQ, gxQ, gyQ, gzQ, gAQ, gBQ, gCQ, gDQ, gEQ, gFQ, gGQ, gHQ, gIQ, gJQ, gKQ, gLQ, gMQ, gNQ, gOQ, gPQ, gQQ, gRQ, gSQ, gTQ, gUQ, gVQ, gWQ, gXQ, gYQ, gZQ, haQ, hbQ, hcQ, hdQ, heQ, hfQ, hgQ, hhQ, hiQ, hjQ, hkQ, hlQ, hmQ, hnQ, hoQ, hpQ, hqQ, hrQ, hsQ, htQ, huQ, hvQ, hwQ, hxQ, hyQ, hzQ, hAQ, hBQ, hCQ, hDQ, hEQ, hFQ, hGQ, hHQ, hIQ, hJQ, hKQ, hLQ, hMQ, hNQ, hOQ, hPQ, hQQ, hRQ, hSQ, hTQ, hUQ, hVQ, hWQ, hXQ, hYQ, hZQ, iaQ, euQ, etQ, exQ, ibQ, icQ, etQ, h, h2, decide_true, decide_false, Bool.not_true, Bool.false_eq_true, if_false, if_true, Bool.false_and]
  · have h2 : lo ≤ i := by omega
    have nn : ∀ L, gIsN (.int hi) .non L = .ok (.bl false) L := fun _ => rfl
    simp only [u_is_integer, F_is_integer, aaQ, abQ, acQ, adQ, aeQ, afQ, agQ, ahQ, aiQ, ajQ, akQ, alQ, amQ, anQ, aoQ, apQ, aqQ, arQ, asQ, atQ, auQ, avQ, awQ, axQ, ayQ, azQ, aAQ, aBQ, aCQ, aDQ, aEQ, aFQ, aGQ, aHQ, aIQ, aJQ, aKQ, aLQ, aMQ, aNQ, aOQ, aPQ, aQQ, aRQ, aSQ, aTQ, aUQ, aVQ, aWQ, aXQ, aYQ, aZQ, baQ, bbQ, bcQ, bdQ, beQ, bfQ, bgQ, bhQ, biQ, bjQ, bkQ, blQ, bmQ, bnQ, boQ, bpQ, bqQ, brQ, bsQ, btQ, buQ, bvQ, bwQ, bxQ, byQ, bzQ, bAQ, bBQ, bCQ, bDQ, bEQ, bFQ, bGQ, bHQ, bIQ, bJQ, bKQ, bLQ, bMQ, bNQ, bOQ, bPQ, bQQ, bRQ, bSQ, bTQ, bUQ, bVQ, bWQ, bXQ, bYQ, bZQ, caQ, cbQ, ccQ, cdQ, ceQ, cfQ, cgQ, chQ, ciQ, cjQ, ckQ, clQ, cmQ, cnQ, coQ, cpQ, cqQ, crQ, csQ, ctQ, cuQ, cvQ, cwQ, cxQ, cyQ, czQ, cAQ, cBQ, cCQ, cDQ, cEQ, cFQ, cGQ, cHQ, cIQ, cJQ, cKQ, cLQ, cMQ, cNQ, cOQ, cPQ, cQQ, cRQ, cSQ, cTQ, cUQ, cVQ, cWQ, cXQ, cYQ, cZQ, daQ, dbQ, dcQ, ddQ, deQ, dfQ, dgQ, dhQ, diQ, djQ, dkQ, dlQ, dmQ, dnQ, doQ, dpQ, dqQ, drQ, dsQ, dtQ, duQ, dvQ, dwQ, dxQ, dyQ, dzQ, dAQ, dBQ, dCQ, dDQ, dEQ, dFQ, dGQ, dHQ, dIQ, dJQ, dKQ, dLQ, dMQ, dNQ, dOQ, dPQ, dQQ, dRQ, dSQ, dTQ, dUQ, dVQ, dWQ, dXQ, dYQ, dZQ, eaQ, ebQ, ecQ, edQ, eeQ, efQ, egQ, ehQ, eiQ, ejQ, ekQ, elQ, emQ, enQ, eoQ, epQ, eqQ, erQ, esQ, etQ, euQ, evQ, ewQ, exQ, eyQ, ezQ, eAQ, eBQ, eCQ, eDQ, eEQ, eFQ, eGQ, eHQ, eIQ, eJQ, eKQ, eLQ, eMQ, eNQ, eOQ, ePQ, eQQ, eRQ, eSQ, eTQ, eUQ, eVQ, eWQ, eXQ, eYQ, eZQ, faQ, fbQ, fcQ, fdQ, feQ, ffQ, fgQ, fhQ, fiQ, fjQ, fkQ, flQ, fmQ, fnQ, foQ, fpQ, fqQ, frQ, fsQ, ftQ, fuQ, fvQ, fwQ, fxQ, fyQ, fzQ, fAQ, fBQ, fCQ, fDQ, fEQ, fFQ, fGQ, fHQ, fIQ, fJQ, fKQ, fLQ, fMQ, fNQ, fOQ, fPQ, fQQ, fRQ, fSQ, fTQ, fUQ, fVQ, fWQ, fXQ, fYQ, fZQ, gaQ, gbQ, gcQ, gdQ, geQ, gfQ, ggQ, ghQ, giQ, gjQ, gkQ, glQ, gmQ, gnQ, goQ, gpQ, gqQ, grQ, gsQ, gtQ, guQ, gvQ, gwQ, gxQ, gyQ, gzQ, gAQ, gBQ, gCQ, gDQ, gEQ, gFQ, gGQ, gHQ, gIQ, gJQ, gKQ, gLQ, gMQ, gNQ, gOQ, gPQ, gQQ, gRQ, gSQ, gTQ, gUQ, gVQ, gWQ, gXQ, gYQ, gZQ, haQ, hbQ, hcQ, hdQ, heQ, hfQ, hgQ, hhQ, hiQ, hjQ, hkQ, hlQ, hmQ, hnQ, hoQ, hpQ, hqQ, hrQ, hsQ, htQ, huQ, hvQ, hwQ, hxQ, hyQ, hzQ, hAQ, hBQ, hCQ, hDQ, hEQ, hFQ, hGQ, hHQ, hIQ, hJQ, hKQ, hLQ, hMQ, hNQ, hOQ, hPQ, hQQ, hRQ, hSQ, hTQ, hUQ, hVQ, hWQ, hXQ, hYQ, hZQ, iaQ, euQ, etQ, exQ, ibQ, icQ, etQ, euQ, nn, h, h2, decide_true, decide_false, Bool.not_true, Bool.false_eq_true, if_false, if_true, Bool.true_and]
theorem sInt_in {i : Int} : m_is_integer [.int i, .int lo, .non] L = .ok (.bl (decide (lo ≤ i))) L := by
  by_cases h : i < lo
  · have h2 : ¬ lo ≤ i := by omega
    simp only [u_is_integer, F_is_integer, aaQ, abQ, acQ, adQ, aeQ, afQ, agQ, ahQ, aiQ, ajQ, akQ, alQ, amQ, anQ, aoQ, apQ, aqQ, arQ, asQ, atQ, auQ, avQ, awQ, axQ, ayQ, azQ, aAQ, aBQ, aCQ, aDQ, aEQ, aFQ, aGQ, aHQ, aIQ, aJQ, aKQ, aLQ, aMQ, aNQ, aOQ, aPQ, aQQ, aRQ, aSQ, aTQ, aUQ, aVQ, aWQ, aXQ, aYQ, aZQ, baQ, bbQ, bcQ, bdQ, beQ, bfQ, bgQ, bhQ, biQ, bjQ, bkQ, blQ, bmQ, bnQ, boQ, bpQ, bqQ, brQ, bsQ, btQ, buQ, bvQ, bwQ, bxQ, byQ, bzQ, bAQ, bBQ, bCQ, bDQ, bEQ, bFQ, bGQ, bHQ, bIQ, bJQ, bKQ, bLQ, bMQ, bNQ, bOQ, bPQ, bQQ, bRQ, bSQ, bTQ, bUQ, bVQ, bWQ, bXQ, bYQ, bZQ, caQ, cbQ, ccQ, cdQ, ceQ, cfQ, cgQ, chQ, ciQ, cjQ, ckQ, clQ, cmQ, cnQ, coQ, cpQ, cqQ, crQ, csQ, ctQ, cuQ, cvQ, cwQ, cxQ, cyQ, czQ, cAQ, cBQ, cCQ, cDQ, cEQ, cFQ, cGQ, cHQ, cIQ, cJQ, cKQ, cLQ, cMQ, cNQ, cOQ, cPQ, cQQ, cRQ, cSQ, cTQ, cUQ, cVQ, cWQ, cXQ, cYQ, cZQ, daQ, dbQ, dcQ, ddQ, deQ, dfQ, dgQ, dhQ, diQ, djQ, dkQ, dlQ, dmQ, dnQ, doQ, dpQ, dqQ, drQ, dsQ, dtQ, duQ, dvQ, dwQ, dxQ, dyQ, dzQ, dAQ, dBQ, dCQ, dDQ, dEQ, dFQ, dGQ, dHQ, dIQ, dJQ, dKQ, dLQ, dMQ, dNQ, dOQ, dPQ, dQQ, dRQ, dSQ, dTQ, dUQ, dVQ, dWQ, dXQ, dYQ, dZQ, eaQ, ebQ, ecQ, edQ, eeQ, efQ, egQ, ehQ, eiQ, ejQ, ekQ, elQ, emQ, enQ, eoQ, epQ, eqQ, erQ, esQ, etQ, euQ, evQ, ewQ, exQ, eyQ, ezQ, eAQ, eBQ, eCQ, eDQ, eEQ, eFQ, eGQ, eHQ, eIQ, eJQ, eKQ, eLQ, eMQ, eNQ, eOQ, ePQ, eQQ, eRQ, eSQ, eTQ, eUQ, eVQ, eWQ, eXQ, eYQ, eZQ, faQ, fbQ, fcQ, fdQ, feQ, ffQ, fgQ, fhQ, fiQ, fjQ, fkQ, flQ, fmQ, fnQ, foQ, fpQ, fqQ, frQ, fsQ, ftQ, fuQ, fvQ, fwQ, fxQ, fyQ, fzQ, fAQ, fBQ, fCQ, fDQ, fEQ, fFQ, fGQ, fHQ, fIQ, fJQ, fKQ, fLQ, fMQ, fNQ, fOQ, fPQ, fQQ, fRQ, fSQ, fTQ, fUQ, fVQ, fWQ, fXQ, fYQ, fZQ, gaQ, gbQ, gcQ, gdQ, geQ, gfQ, ggQ, ghQ, giQ, gjQ, gkQ, glQ, gmQ, gnQ, goQ, gpQ, gqQ, grQ, gsQ, gtQ, guQ, gvQ, gwQ, gxQ, gyQ, gzQ, gAQ, gBQ, gCQ, gDQ, gEQ, gFQ, gGQ, gHQ, gIQ, gJQ, gKQ, gLQ, gMQ, gNQ, gOQ, gPQ, gQQ, gRQ, gSQ, gTQ, gUQ, gVQ, gWQ, gXQ, gYQ, gZQ, haQ, hbQ, hcQ, hdQ, heQ, hfQ, hgQ, hhQ, hiQ, hjQ, hkQ, hlQ, hmQ, hnQ, hoQ, hpQ, hqQ, hrQ, hsQ, htQ, huQ, hvQ, hwQ, hxQ, hyQ, hzQ, hAQ, hBQ, hCQ, hDQ, hEQ, hFQ, hGQ, hHQ, hIQ, hJQ, hKQ, hLQ, hMQ, hNQ, hOQ, hPQ, hQQ, hRQ, hSQ, hTQ, hUQ, hVQ, hWQ, hXQ, hYQ, hZQ, iaQ, euQ, etQ, exQ, ibQ, icQ, etQ, h, h2, decide_true, decide_false, Bool.not_true, Bool.false_eq_true, if_false, if_true]
  · have h2 : lo ≤ i := by omega
    have nn : ∀ L, gIsN .non .non L = .ok (.bl true) L := fun _ => rfl
    simp only [u_is_integer, F_is_integer, aaQ, abQ, acQ, adQ, aeQ, afQ, agQ, ahQ, aiQ, ajQ, akQ, alQ, amQ, anQ, aoQ, apQ, aqQ, arQ, asQ, atQ, auQ, avQ, awQ, axQ, ayQ, azQ, aAQ, aBQ, aCQ, aDQ, aEQ, aFQ, aGQ, aHQ, aIQ, aJQ, aKQ, aLQ, aMQ, aNQ, aOQ, aPQ, aQQ, aRQ, aSQ, aTQ, aUQ, aVQ, aWQ, aXQ, aYQ, aZQ, baQ, bbQ, bcQ, bdQ, beQ, bfQ, bgQ, bhQ, biQ, bjQ, bkQ, blQ, bmQ, bnQ, boQ, bpQ, bqQ, brQ, bsQ, btQ, buQ, bvQ, bwQ, bxQ, byQ, bzQ, bAQ, bBQ, bCQ, bDQ, bEQ, bFQ, bGQ, bHQ, bIQ, bJQ, bKQ, bLQ, bMQ, bNQ, bOQ, bPQ, bQQ, bRQ, bSQ, bTQ, bUQ, bVQ, bWQ, bXQ, bYQ, bZQ, caQ, cbQ, ccQ, cdQ, ceQ, cfQ, cgQ, chQ, ciQ, cjQ, ckQ, clQ, cmQ, cnQ, coQ, cpQ, cqQ, crQ, csQ, ctQ, cuQ, cvQ, cwQ, cxQ, cyQ, czQ, cAQ, cBQ, cCQ, cDQ, cEQ, cFQ, cGQ, cHQ, cIQ, cJQ, cKQ, cLQ, cMQ, cNQ, cOQ, cPQ, cQQ, cRQ, cSQ, cTQ, cUQ, cVQ, cWQ, cXQ, cYQ, cZQ, daQ, dbQ, dcQ, ddQ, deQ, dfQ, dgQ, dhQ, diQ, djQ, dkQ, dlQ, dmQ, dnQ, doQ, dpQ, dqQ, drQ, dsQ, dtQ, duQ, dvQ, dwQ, dxQ, dyQ, dzQ, dAQ, dBQ, dCQ, dDQ, dEQ, dFQ, dGQ, dHQ, dIQ, dJQ, dKQ, dLQ, dMQ, dNQ, dOQ, dPQ, dQQ, dRQ, dSQ, dTQ, dUQ, dVQ, dWQ, dXQ, dYQ, dZQ, eaQ, ebQ, ecQ, edQ, eeQ, efQ, egQ, ehQ, eiQ, ejQ, ekQ, elQ, emQ, enQ, eoQ, epQ, eqQ, erQ, esQ, etQ, euQ, evQ, ewQ, exQ, eyQ, ezQ, eAQ, eBQ, eCQ, eDQ, eEQ, eFQ, eGQ, eHQ, eIQ, eJQ, eKQ, eLQ, eMQ, eNQ, eOQ, ePQ, eQQ, eRQ, eSQ, eTQ, eUQ, eVQ, eWQ, eXQ, eYQ, eZQ, faQ, fbQ, fcQ, fdQ, feQ, ffQ, fgQ, fhQ, fiQ, fjQ, fkQ, flQ, fmQ, fnQ, foQ, fpQ, fqQ, frQ, fsQ, ftQ, fuQ, fvQ, fwQ, fxQ, fyQ, fzQ, fAQ, fBQ, fCQ, fDQ, fEQ, fFQ, fGQ, fHQ, fIQ, fJQ, fKQ, fLQ, fMQ, fNQ, fOQ, fPQ, fQQ, fRQ, fSQ, fTQ, fUQ, fVQ, fWQ, fXQ, fYQ, fZQ, gaQ, gbQ, gcQ, gdQ, geQ, gfQ, ggQ, ghQ, giQ, gjQ, gkQ, glQ, gmQ, gnQ, goQ, gpQ, gqQ, grQ, gsQ, gtQ, guQ, gvQ, gwQ, gxQ, gyQ, gzQ, gAQ, gBQ, gCQ, gDQ, gEQ, gFQ, gGQ, gHQ, gIQ, gJQ, gKQ, gLQ, gMQ, gNQ, gOQ, gPQ, gQQ, gRQ, gSQ, gTQ, gUQ, gVQ, gWQ, gXQ, gYQ, gZQ, haQ, hbQ, hcQ, hdQ, heQ, hfQ, hgQ, hhQ, hiQ, hjQ, hkQ, hlQ, hmQ, hnQ, hoQ, hpQ, hqQ, hrQ, hsQ, htQ, huQ, hvQ, hwQ, hxQ, hyQ, hzQ, hAQ, hBQ, hCQ, hDQ, hEQ, hFQ, hGQ, hHQ, hIQ, hJQ, hKQ, hLQ, hMQ, hNQ, hOQ, hPQ, hQQ, hRQ, hSQ, hTQ, hUQ, hVQ, hWQ, hXQ, hYQ, hZQ, iaQ, euQ, etQ, exQ, ibQ, icQ, etQ, euQ, nn, h, h2, decide_true, decide_false, Bool.not_true, Bool.false_eq_true, if_false, if_true]
theorem notInt_ii {i : Int} (h : ¬ (lo ≤ i ∧ i ≤ hi)) : NotInt lo hi (.int i) := ⟨fun L => by
  rw [sInt_ii]
  congr 2
  rw [← Bool.decide_and, decide_eq_false h], fun _ => rfl⟩
theorem notInt_k (h1 : ∀ L, gIsiK owns .int d L = .ok (.bl false) L) (h2 : ∀ n, d.bel n = true) : NotInt lo hi d := ⟨fun L => by
  simp only [u_is_integer, F_is_integer, aaQ, abQ, acQ, adQ, aeQ, afQ, agQ, ahQ, aiQ, ajQ, akQ, alQ, amQ, anQ, aoQ, apQ, aqQ, arQ, asQ, atQ, auQ, avQ, awQ, axQ, ayQ, azQ, aAQ, aBQ, aCQ, aDQ, aEQ, aFQ, aGQ, aHQ, aIQ, aJQ, aKQ, aLQ, aMQ, aNQ, aOQ, aPQ, aQQ, aRQ, aSQ, aTQ, aUQ, aVQ, aWQ, aXQ, aYQ, aZQ, baQ, bbQ, bcQ, bdQ, beQ, bfQ, bgQ, bhQ, biQ, bjQ, bkQ, blQ, bmQ, bnQ, boQ, bpQ, bqQ, brQ, bsQ, btQ, buQ, bvQ, bwQ, bxQ, byQ, bzQ, bAQ, bBQ, bCQ, bDQ, bEQ, bFQ, bGQ, bHQ, bIQ, bJQ, bKQ, bLQ, bMQ, bNQ, bOQ, bPQ, bQQ, bRQ, bSQ, bTQ, bUQ, bVQ, bWQ, bXQ, bYQ, bZQ, caQ, cbQ, ccQ, cdQ, ceQ, cfQ, cgQ, chQ, ciQ, cjQ, ckQ, clQ, cmQ, cnQ, coQ, cpQ, cqQ, crQ, csQ, ctQ, cuQ, cvQ, cwQ, cxQ, cyQ, czQ, cAQ, cBQ, cCQ, cDQ, cEQ, cFQ, cGQ, cHQ, cIQ, cJQ, cKQ, cLQ, cMQ, cNQ, cOQ, cPQ, cQQ, cRQ, cSQ, cTQ, cUQ, cVQ, cWQ, cXQ, cYQ, cZQ, daQ, dbQ, dcQ, ddQ, deQ, dfQ, dgQ, dhQ, diQ, djQ, dkQ, dlQ, dmQ, dnQ, doQ, dpQ, dqQ, drQ, dsQ, dtQ, duQ, dvQ, dwQ, dxQ, dyQ, dzQ, dAQ, dBQ, dCQ, dDQ, dEQ, dFQ, dGQ, dHQ, dIQ, dJQ, dKQ, dLQ, dMQ, dNQ, dOQ, dPQ, dQQ, dRQ, dSQ, dTQ, dUQ, dVQ, dWQ, dXQ, dYQ, dZQ, eaQ, ebQ, ecQ, edQ, eeQ, efQ, egQ, ehQ, eiQ, ejQ, ekQ, elQ, emQ, enQ, eoQ, epQ, eqQ, erQ, esQ, etQ, euQ, evQ, ewQ, exQ, eyQ, ezQ, eAQ, eBQ, eCQ, eDQ, eEQ, eFQ, eGQ, eHQ, eIQ, eJQ, eKQ, eLQ, eMQ, eNQ, eOQ, ePQ, eQQ, eRQ, eSQ, eTQ, eUQ, eVQ, eWQ, eXQ, eYQ, eZQ, faQ, fbQ, fcQ, fdQ, feQ, ffQ, fgQ, fhQ, fiQ, fjQ, fkQ, flQ, fmQ, fnQ, foQ, fpQ, fqQ, frQ, fsQ, ftQ, fuQ, fvQ, fwQ, fxQ, fyQ, fzQ, fAQ, fBQ, fCQ, fDQ, fEQ, fFQ, fGQ, fHQ, fIQ, fJQ, fKQ, fLQ, fMQ, fNQ, fOQ, fPQ, fQQ, fRQ, fSQ, fTQ, fUQ, fVQ, fWQ, fXQ, fYQ, fZQ, gaQ, gbQ, gcQ, gdQ, geQ, gfQ, ggQ, ghQ, giQ, gjQ, gkQ, glQ, gmQ, gnQ, goQ, gpQ, gqQ, grQ, gsQ, gtQ, guQ, gvQ, gwQ, gxQ, gyQ, gzQ, gAQ, gBQ, gCQ, gDQ, gEQ, gFQ, gGQ, gHQ, gIQ, gJQ, gKQ, gLQ, gMQ, gNQ, gOQ, gPQ, gQQ, gRQ, gSQ, gTQ, gUQ, gVQ, gWQ, gXQ, gYQ, gZQ, haQ, hbQ, hcQ, hdQ, heQ, hfQ, hgQ, hhQ, hiQ, hjQ, hkQ, hlQ, hmQ, hnQ, hoQ, hpQ, hqQ, hrQ, hsQ, htQ, huQ, hvQ, hwQ, hxQ, hyQ, hzQ, hAQ, hBQ, hCQ, hDQ, hEQ, hFQ, hGQ, hHQ, hIQ, hJQ, hKQ, hLQ, hMQ, hNQ, hOQ, hPQ, hQQ, hRQ, hSQ, hTQ, hUQ, hVQ, hWQ, hXQ, hYQ, hZQ, iaQ, euQ, etQ, exQ, ibQ, icQ, h1, Bool.not_false, if_true], h2⟩
theorem notInt_bl (b : Bool) : NotInt lo hi (.bl b) := ⟨fun L => by
  simp only [u_is_integer, F_is_integer, aaQ, abQ, acQ, adQ, aeQ, afQ, agQ, ahQ, aiQ, ajQ, akQ, alQ, amQ, anQ, aoQ, apQ, aqQ, arQ, asQ, atQ, auQ, avQ, awQ, axQ, ayQ, azQ, aAQ, aBQ, aCQ, aDQ, aEQ, aFQ, aGQ, aHQ, aIQ, aJQ, aKQ, aLQ, aMQ, aNQ, aOQ, aPQ, aQQ, aRQ, aSQ, aTQ, aUQ, aVQ, aWQ, aXQ, aYQ, aZQ, baQ, bbQ, bcQ, bdQ, beQ, bfQ, bgQ, bhQ, biQ, bjQ, bkQ, blQ, bmQ, bnQ, boQ, bpQ, bqQ, brQ, bsQ, btQ, buQ, bvQ, bwQ, bxQ, byQ, bzQ, bAQ, bBQ, bCQ, bDQ, bEQ, bFQ, bGQ, bHQ, bIQ, bJQ, bKQ, bLQ, bMQ, bNQ, bOQ, bPQ, bQQ, bRQ, bSQ, bTQ, bUQ, bVQ, bWQ, bXQ, bYQ, bZQ, caQ, cbQ, ccQ, cdQ, ceQ, cfQ, cgQ, chQ, ciQ, cjQ, ckQ, clQ, cmQ, cnQ, coQ, cpQ, cqQ, crQ, csQ, ctQ, cuQ, cvQ, cwQ, cxQ, cyQ, czQ, cAQ, cBQ, cCQ, cDQ, cEQ, cFQ, cGQ, cHQ, cIQ, cJQ, cKQ, cLQ, cMQ, cNQ, cOQ, cPQ, cQQ, cRQ, cSQ, cTQ, cUQ, cVQ, cWQ, cXQ, cYQ, cZQ, daQ, dbQ, dcQ, ddQ, deQ, dfQ, dgQ, dhQ, diQ, djQ, dkQ, dlQ, dmQ, dnQ, doQ, dpQ, dqQ, drQ, dsQ, dtQ, duQ, dvQ, dwQ, dxQ, dyQ, dzQ, dAQ, dBQ, dCQ, dDQ, dEQ, dFQ, dGQ, dHQ, dIQ, dJQ, dKQ, dLQ, dMQ, dNQ, dOQ, dPQ, dQQ, dRQ, dSQ, dTQ, dUQ, dVQ, dWQ, dXQ, dYQ, dZQ, eaQ, ebQ, ecQ, edQ, eeQ, efQ, egQ, ehQ, eiQ, ejQ, ekQ, elQ, emQ, enQ, eoQ, epQ, eqQ, erQ, esQ, etQ, euQ, evQ, ewQ, exQ, eyQ, ezQ, eAQ, eBQ, eCQ, eDQ, eEQ, eFQ, eGQ, eHQ, eIQ, eJQ, eKQ, eLQ, eMQ, eNQ, eOQ, ePQ, eQQ, eRQ, eSQ, eTQ, eUQ, eVQ, eWQ, eXQ, eYQ, eZQ, faQ, fbQ, fcQ, fdQ, feQ, ffQ, fgQ, fhQ, fiQ, fjQ, fkQ, flQ, fmQ, fnQ, foQ, fpQ, fqQ, frQ, fsQ, ftQ, fuQ, fvQ, fwQ, fxQ, fyQ, fzQ, fAQ, fBQ, fCQ, fDQ, fEQ, fFQ, fGQ, fHQ, fIQ, fJQ, fKQ, fLQ, fMQ, fNQ, fOQ, fPQ, fQQ, fRQ, fSQ, fTQ, fUQ, fVQ, fWQ, fXQ, fYQ, fZQ, gaQ, gbQ, gcQ, gdQ, geQ, gfQ, ggQ, ghQ, giQ, gjQ, gkQ, glQ, gmQ, gnQ, goQ, gpQ, gqQ, grQ, gsQ, gtQ, guQ, gvQ, gwQ, gxQ, gyQ, gzQ, gAQ, gBQ, gCQ, gDQ, gEQ, gFQ, gGQ, gHQ, gIQ, gJQ, gKQ, gLQ, gMQ, gNQ, gOQ, gPQ, gQQ, gRQ, gSQ, gTQ, gUQ, gVQ, gWQ, gXQ, gYQ, gZQ, haQ, hbQ, hcQ, hdQ, heQ, hfQ, hgQ, hhQ, hiQ, hjQ, hkQ, hlQ, hmQ, hnQ, hoQ, hpQ, hqQ, hrQ, hsQ, htQ, huQ, hvQ, hwQ, hxQ, hyQ, hzQ, hAQ, hBQ, hCQ, hDQ, hEQ, hFQ, hGQ, hHQ, hIQ, hJQ, hKQ, hLQ, hMQ, hNQ, hOQ, hPQ, hQQ, hRQ, hSQ, hTQ, hUQ, hVQ, hWQ, hXQ, hYQ, hZQ, iaQ, euQ, etQ, exQ, ibQ, icQ, Bool.not_true, Bool.false_eq_true, if_false, if_true], fun _ => rfl⟩
end
def Ext (n : Nat) (L M : Sto) : Prop := ∃ X tl, M = X ++ tl ∧ Nxt n L X
theorem Ext.of {n : Nat} {L M : Sto} (h : Nxt n L M) : Ext n L M := ⟨M, [], (List.append_nil _).symm, h⟩
theorem Ext.app {n : Nat} {L M : Sto} (h : Ext n L M) (tl : List D) : Ext n L (M ++ tl) := by
  obtain ⟨X, t, rfl, k⟩ := h
  exact ⟨X, t ++ tl, by rw [List.append_assoc], k⟩
theorem Ext.nxt {n : Nat} {L M M' : Sto} (hd : Dc n L) (h : Ext n L M) (k : Nxt n M M') : Ext n L M' := by
  obtain ⟨X, t, rfl, x⟩ := h
  obtain ⟨X', rfl, y⟩ := nxt_app (by rw [nxt_len x]; exact dc_lt hd) k
  exact ⟨X', t, rfl, x.trans y⟩
theorem Ext.drop {n : Nat} {L M : Sto} (hd : Dc n L) (h : Ext n L M) (b : Bool) : ∃ L', dropR L (.ok (.bl b) M) = .ok (.bl b) L' ∧ Nxt n L L' ∧ Dc n L' := by
  obtain ⟨X, t, rfl, x⟩ := h
  refine ⟨X, ?_, x, x.dc hd⟩
  refine (drop_val (nxt_take x _) rfl).trans ?_
  rw [← nxt_len x, List.take_left]
theorem one_last {n : Nat} {B : Sto} {t : D} {xs : List D} (hd : Dc n B) (h1 : 1 ≤ xs.length) (h2 : xs.length ≤ 1000) : ∃ y B', y ∈ xs ∧ m_l_one_of [.loc n, .lst xs] (B ++ [t]) = .ok y (B' ++ [t]) ∧ Nxt n B B' ∧ Dc n B' := by
  obtain ⟨y, L', hy, q, x, d⟩ := one_of (dc_app hd [t]) h1 h2
  obtain ⟨B', rfl, k⟩ := nxt_app (dc_lt hd) x
  exact ⟨y, B', hy, q, k, k.dc hd⟩
theorem gEq_str1 {s : Str} (h : PyData.strOk s = true) {L : Sto} : gEq (.str s) (.str s) L = .ok (.bl true) L := by
  have o : okD 60 (.str s) = true := by simp [okD, h]
  have z := gEq_ev (L := L) (d := .str s) (e := .str s) o o
  have e : eqD (seen L (.str s)) (seen L (.str s)) = true := eqD_str s
  rw [e] at z
  exact z
structure Tp (d : D) (xs : List D) : Prop where
  t : ∀ L, gIsiK owns .tup d L = .ok (.bl true) L
  l : ∀ L, gLen [d] L = .ok (.int (xs.length : Nat)) L
  s : ∀ L, kit (.ok d L) = .ok ⟨xs, []⟩ L
theorem tp_tg (xs : List D) : Tp (.tg xs) xs := ⟨fun _ => rfl, fun _ => eyQ, fun _ => gpQ⟩
theorem tp_tup (xs : List D) : Tp (.tup xs) xs := ⟨fun _ => rfl, fun _ => ezQ, fun _ => goQ⟩
section
variable {d : D} {xs : List D} {b : D → Bool} {r : List Int} {h : Int} {L : Sto}
theorem isRow_k (h1 : ∀ L, gIsiK owns .tup d L = .ok (.bl false) L) : m_is_row [d] L = .ok (.bl false) L := by
  simp only [u_is_row, F_is_row, aaQ, abQ, acQ, adQ, aeQ, afQ, agQ, ahQ, aiQ, ajQ, akQ, alQ, amQ, anQ, aoQ, apQ, aqQ, arQ, asQ, atQ, auQ, avQ, awQ, axQ, ayQ, azQ, aAQ, aBQ, aCQ, aDQ, aEQ, aFQ, aGQ, aHQ, aIQ, aJQ, aKQ, aLQ, aMQ, aNQ, aOQ, aPQ, aQQ, aRQ, aSQ, aTQ, aUQ, aVQ, aWQ, aXQ, aYQ, aZQ, baQ, bbQ, bcQ, bdQ, beQ, bfQ, bgQ, bhQ, biQ, bjQ, bkQ, blQ, bmQ, bnQ, boQ, bpQ, bqQ, brQ, bsQ, btQ, buQ, bvQ, bwQ, bxQ, byQ, bzQ, bAQ, bBQ, bCQ, bDQ, bEQ, bFQ, bGQ, bHQ, bIQ, bJQ, bKQ, bLQ, bMQ, bNQ, bOQ, bPQ, bQQ, bRQ, bSQ, bTQ, bUQ, bVQ, bWQ, bXQ, bYQ, bZQ, caQ, cbQ, ccQ, cdQ, ceQ, cfQ, cgQ, chQ, ciQ, cjQ, ckQ, clQ, cmQ, cnQ, coQ, cpQ, cqQ, crQ, csQ, ctQ, cuQ, cvQ, cwQ, cxQ, cyQ, czQ, cAQ, cBQ, cCQ, cDQ, cEQ, cFQ, cGQ, cHQ, cIQ, cJQ, cKQ, cLQ, cMQ, cNQ, cOQ, cPQ, cQQ, cRQ, cSQ, cTQ, cUQ, cVQ, cWQ, cXQ, cYQ, cZQ, daQ, dbQ, dcQ, ddQ, deQ, dfQ, dgQ, dhQ, diQ, djQ, dkQ, dlQ, dmQ, dnQ, doQ, dpQ, dqQ, drQ, dsQ, dtQ, duQ, dvQ, dwQ, dxQ, dyQ, dzQ, dAQ, dBQ, dCQ, dDQ, dEQ, dFQ, dGQ, dHQ, dIQ, dJQ, dKQ, dLQ, dMQ, dNQ, dOQ, dPQ, dQQ, dRQ, dSQ, dTQ, dUQ, dVQ, dWQ, dXQ, dYQ, dZQ, eaQ, ebQ, ecQ, edQ, eeQ, efQ, egQ, ehQ, eiQ, ejQ, ekQ, elQ, emQ, enQ, eoQ, epQ, eqQ, erQ, esQ, etQ, euQ, evQ, ewQ, exQ, eyQ, ezQ, eAQ, eBQ, eCQ, eDQ, eEQ, eFQ, eGQ, eHQ, eIQ, eJQ, eKQ, eLQ, eMQ, eNQ, eOQ, ePQ, eQQ, eRQ, eSQ, eTQ, eUQ, eVQ, eWQ, eXQ, eYQ, eZQ, faQ, fbQ, fcQ, fdQ, feQ, ffQ, fgQ, fhQ, fiQ, fjQ, fkQ, flQ, fmQ, fnQ, foQ, fpQ, fqQ, frQ, fsQ, ftQ, fuQ, fvQ, fwQ, fxQ, fyQ, fzQ, fAQ, fBQ, fCQ, fDQ, fEQ, fFQ, fGQ, fHQ, fIQ, fJQ, fKQ, fLQ, fMQ, fNQ, fOQ, fPQ, fQQ, fRQ, fSQ, fTQ, fUQ, fVQ, fWQ, fXQ, fYQ, fZQ, gaQ, gbQ, gcQ, gdQ, geQ, gfQ, ggQ, ghQ, giQ, gjQ, gkQ, glQ, gmQ, gnQ, goQ, gpQ, gqQ, grQ, gsQ, gtQ, guQ, gvQ, gwQ, gxQ, gyQ, gzQ, gAQ, gBQ, gCQ, gDQ, gEQ, gFQ, gGQ, gHQ, gIQ, gJQ, gKQ, gLQ, gMQ, gNQ, gOQ, gPQ, gQQ, gRQ, gSQ, gTQ, gUQ, gVQ, gWQ, gXQ, gYQ, gZQ, haQ, hbQ, hcQ, hdQ, heQ, hfQ, hgQ, hhQ, hiQ, hjQ, hkQ, hlQ, hmQ, hnQ, hoQ, hpQ, hqQ, hrQ, hsQ, htQ, huQ, hvQ, hwQ, hxQ, hyQ, hzQ, hAQ, hBQ, hCQ, hDQ, hEQ, hFQ, hGQ, hHQ, hIQ, hJQ, hKQ, hLQ, hMQ, hNQ, hOQ, hPQ, hQQ, hRQ, hSQ, hTQ, hUQ, hVQ, hWQ, hXQ, hYQ, hZQ, iaQ, euQ, etQ, exQ, ibQ, icQ, h1, Bool.not_false, if_true]
theorem isRow_T (T : Tp d xs) (hx : ∀ x ∈ xs, ∀ L, m_is_integer [x, .int 0, .non] L = .ok (.bl (b x)) L) (hl : xs.length ≤ 1000) : m_is_row [d] L = .ok (.bl ((decide (1 ≤ xs.length) && decide (xs.length ≤ 20)) && xs.all b)) L := by
  have c : C1_is_row [some d, none] L = .ok (.lst (xs.map fun x => D.bl (b x))) L := by
    refine lc_map (box := false) xs id (fun x => D.bl (b x)) (src := []) (L1 := L) ?_ srcOk_nil (by omega) fun x hx' => ?_
    · simp only [aaQ, abQ, acQ, adQ, aeQ, afQ, agQ, ahQ, aiQ, ajQ, akQ, alQ, amQ, anQ, aoQ, apQ, aqQ, arQ, asQ, atQ, auQ, avQ, awQ, axQ, ayQ, azQ, aAQ, aBQ, aCQ, aDQ, aEQ, aFQ, aGQ, aHQ, aIQ, aJQ, aKQ, aLQ, aMQ, aNQ, aOQ, aPQ, aQQ, aRQ, aSQ, aTQ, aUQ, aVQ, aWQ, aXQ, aYQ, aZQ, baQ, bbQ, bcQ, bdQ, beQ, bfQ, bgQ, bhQ, biQ, bjQ, bkQ, blQ, bmQ, bnQ, boQ, bpQ, bqQ, brQ, bsQ, btQ, buQ, bvQ, bwQ, bxQ, byQ, bzQ, bAQ, bBQ, bCQ, bDQ, bEQ, bFQ, bGQ, bHQ, bIQ, bJQ, bKQ, bLQ, bMQ, bNQ, bOQ, bPQ, bQQ, bRQ, bSQ, bTQ, bUQ, bVQ, bWQ, bXQ, bYQ, bZQ, caQ, cbQ, ccQ, cdQ, ceQ, cfQ, cgQ, chQ, ciQ, cjQ, ckQ, clQ, cmQ, cnQ, coQ, cpQ, cqQ, crQ, csQ, ctQ, cuQ, cvQ, cwQ, cxQ, cyQ, czQ, cAQ, cBQ, cCQ, cDQ, cEQ, cFQ, cGQ, cHQ, cIQ, cJQ, cKQ, cLQ, cMQ, cNQ, cOQ, cPQ, cQQ, cRQ, cSQ, cTQ, cUQ, cVQ, cWQ, cXQ, cYQ, cZQ, daQ, dbQ, dcQ, ddQ, deQ, dfQ, dgQ, dhQ, diQ, djQ, dkQ, dlQ, dmQ, dnQ, doQ, dpQ, dqQ, drQ, dsQ, dtQ, duQ, dvQ, dwQ, dxQ, dyQ, dzQ, dAQ, dBQ, dCQ, dDQ, dEQ, dFQ, dGQ, dHQ, dIQ, dJQ, dKQ, dLQ, dMQ, dNQ, dOQ, dPQ, dQQ, dRQ, dSQ, dTQ, dUQ, dVQ, dWQ, dXQ, dYQ, dZQ, eaQ, ebQ, ecQ, edQ, eeQ, efQ, egQ, ehQ, eiQ, ejQ, ekQ, elQ, emQ, enQ, eoQ, epQ, eqQ, erQ, esQ, etQ, euQ, evQ, ewQ, exQ, eyQ, ezQ, eAQ, eBQ, eCQ, eDQ, eEQ, eFQ, eGQ, eHQ, eIQ, eJQ, eKQ, eLQ, eMQ, eNQ, eOQ, ePQ, eQQ, eRQ, eSQ, eTQ, eUQ, eVQ, eWQ, eXQ, eYQ, eZQ, faQ, fbQ, fcQ, fdQ, feQ, ffQ, fgQ, fhQ, fiQ, fjQ, fkQ, flQ, fmQ, fnQ, foQ, fpQ, fqQ, frQ, fsQ, ftQ, fuQ, fvQ, fwQ, fxQ, fyQ, fzQ, fAQ, fBQ, fCQ, fDQ, fEQ, fFQ, fGQ, fHQ, fIQ, fJQ, fKQ, fLQ, fMQ, fNQ, fOQ, fPQ, fQQ, fRQ, fSQ, fTQ, fUQ, fVQ, fWQ, fXQ, fYQ, fZQ, gaQ, gbQ, gcQ, gdQ, geQ, gfQ, ggQ, ghQ, giQ, gjQ, gkQ, glQ, gmQ, gnQ, goQ, gpQ, gqQ, grQ, gsQ, gtQ, guQ, gvQ, gwQ, gxQ, gyQ, gzQ, gAQ, gBQ, gCQ, gDQ, gEQ, gFQ, gGQ, gHQ, gIQ, gJQ, gKQ, gLQ, gMQ, gNQ, gOQ, gPQ, gQQ, gRQ, gSQ, gTQ, gUQ, gVQ, gWQ, gXQ, gYQ, gZQ, haQ, hbQ, hcQ, hdQ, heQ, hfQ, hgQ, hhQ, hiQ, hjQ, hkQ, hlQ, hmQ, hnQ, hoQ, hpQ, hqQ, hrQ, hsQ, htQ, huQ, hvQ, hwQ, hxQ, hyQ, hzQ, hAQ, hBQ, hCQ, hDQ, hEQ, hFQ, hGQ, hHQ, hIQ, hJQ, hKQ, hLQ, hMQ, hNQ, hOQ, hPQ, hQQ, hRQ, hSQ, hTQ, hUQ, hVQ, hWQ, hXQ, hYQ, hZQ, iaQ, euQ, etQ, exQ, ibQ, icQ, T.s, List.map_id]
    · have e : id x = x := rfl
      simp only [aaQ, abQ, acQ, adQ, aeQ, afQ, agQ, ahQ, aiQ, ajQ, akQ, alQ, amQ, anQ, aoQ, apQ, aqQ, arQ, asQ, atQ, auQ, avQ, awQ, axQ, ayQ, azQ, aAQ, aBQ, aCQ, aDQ, aEQ, aFQ, aGQ, aHQ, aIQ, aJQ, aKQ, aLQ, aMQ, aNQ, aOQ, aPQ, aQQ, aRQ, aSQ, aTQ, aUQ, aVQ, aWQ, aXQ, aYQ, aZQ, baQ, bbQ, bcQ, bdQ, beQ, bfQ, bgQ, bhQ, biQ, bjQ, bkQ, blQ, bmQ, bnQ, boQ, bpQ, bqQ, brQ, bsQ, btQ, buQ, bvQ, bwQ, bxQ, byQ, bzQ, bAQ, bBQ, bCQ, bDQ, bEQ, bFQ, bGQ, bHQ, bIQ, bJQ, bKQ, bLQ, bMQ, bNQ, bOQ, bPQ, bQQ, bRQ, bSQ, bTQ, bUQ, bVQ, bWQ, bXQ, bYQ, bZQ, caQ, cbQ, ccQ, cdQ, ceQ, cfQ, cgQ, chQ, ciQ, cjQ, ckQ, clQ, cmQ, cnQ, coQ, cpQ, cqQ, crQ, csQ, ctQ, cuQ, cvQ, cwQ, cxQ, cyQ, czQ, cAQ, cBQ, cCQ, cDQ, cEQ, cFQ, cGQ, cHQ, cIQ, cJQ, cKQ, cLQ, cMQ, cNQ, cOQ, cPQ, cQQ, cRQ, cSQ, cTQ, cUQ, cVQ, cWQ, cXQ, cYQ, cZQ, daQ, dbQ, dcQ, ddQ, deQ, dfQ, dgQ, dhQ, diQ, djQ, dkQ, dlQ, dmQ, dnQ, doQ, dpQ, dqQ, drQ, dsQ, dtQ, duQ, dvQ, dwQ, dxQ, dyQ, dzQ, dAQ, dBQ, dCQ, dDQ, dEQ, dFQ, dGQ, dHQ, dIQ, dJQ, dKQ, dLQ, dMQ, dNQ, dOQ, dPQ, dQQ, dRQ, dSQ, dTQ, dUQ, dVQ, dWQ, dXQ, dYQ, dZQ, eaQ, ebQ, ecQ, edQ, eeQ, efQ, egQ, ehQ, eiQ, ejQ, ekQ, elQ, emQ, enQ, eoQ, epQ, eqQ, erQ, esQ, etQ, euQ, evQ, ewQ, exQ, eyQ, ezQ, eAQ, eBQ, eCQ, eDQ, eEQ, eFQ, eGQ, eHQ, eIQ, eJQ, eKQ, eLQ, eMQ, eNQ, eOQ, ePQ, eQQ, eRQ, eSQ, eTQ, eUQ, eVQ, eWQ, eXQ, eYQ, eZQ, faQ, fbQ, fcQ, fdQ, feQ, ffQ, fgQ, fhQ, fiQ, fjQ, fkQ, flQ, fmQ, fnQ, foQ, fpQ, fqQ, frQ, fsQ, ftQ, fuQ, fvQ, fwQ, fxQ, fyQ, fzQ, fAQ, fBQ, fCQ, fDQ, fEQ, fFQ, fGQ, fHQ, fIQ, fJQ, fKQ, fLQ, fMQ, fNQ, fOQ, fPQ, fQQ, fRQ, fSQ, fTQ, fUQ, fVQ, fWQ, fXQ, fYQ, fZQ, gaQ, gbQ, gcQ, gdQ, geQ, gfQ, ggQ, ghQ, giQ, gjQ, gkQ, glQ, gmQ, gnQ, goQ, gpQ, gqQ, grQ, gsQ, gtQ, guQ, gvQ, gwQ, gxQ, gyQ, gzQ, gAQ, gBQ, gCQ, gDQ, gEQ, gFQ, gGQ, gHQ, gIQ, gJQ, gKQ, gLQ, gMQ, gNQ, gOQ, gPQ, gQQ, gRQ, gSQ, gTQ, gUQ, gVQ, gWQ, gXQ, gYQ, gZQ, haQ, hbQ, hcQ, hdQ, heQ, hfQ, hgQ, hhQ, hiQ, hjQ, hkQ, hlQ, hmQ, hnQ, hoQ, hpQ, hqQ, hrQ, hsQ, htQ, huQ, hvQ, hwQ, hxQ, hyQ, hzQ, hAQ, hBQ, hCQ, hDQ, hEQ, hFQ, hGQ, hHQ, hIQ, hJQ, hKQ, hLQ, hMQ, hNQ, hOQ, hPQ, hQQ, hRQ, hSQ, hTQ, hUQ, hVQ, hWQ, hXQ, hYQ, hZQ, iaQ, euQ, etQ, exQ, ibQ, icQ, e, hx x hx']
  have e1 : decide ((1 : Int) ≤ (xs.length : Nat)) = decide (1 ≤ xs.length) := decide_eq_decide.mpr (by omega)
  have e2 : decide (((xs.length : Nat) : Int) ≤ 20) = decide (xs.length ≤ 20) := decide_eq_decide.mpr (by omega)
  cases k : (decide (1 ≤ xs.length) && decide (xs.length ≤ 20)) with
  | false => simp only [u_is_row, F_is_row, aaQ, abQ, acQ, adQ, aeQ, afQ, agQ, ahQ, aiQ, ajQ, akQ, alQ, amQ, anQ, aoQ, apQ, aqQ, arQ, asQ, atQ, auQ, avQ, awQ, axQ, ayQ, azQ, aAQ, aBQ, aCQ, aDQ, aEQ, aFQ, aGQ, aHQ, aIQ, aJQ, aKQ, aLQ, aMQ, aNQ, aOQ, aPQ, aQQ, aRQ, aSQ, aTQ, aUQ, aVQ, aWQ, aXQ, aYQ, aZQ, baQ, bbQ, bcQ, bdQ, beQ, bfQ, bgQ, bhQ, biQ, bjQ, bkQ, blQ, bmQ, bnQ, boQ, bpQ, bqQ, brQ, bsQ, btQ, buQ, bvQ, bwQ, bxQ, byQ, bzQ, bAQ, bBQ, bCQ, bDQ, bEQ, bFQ, bGQ, bHQ, bIQ, bJQ, bKQ, bLQ, bMQ, bNQ, bOQ, bPQ, bQQ, bRQ, bSQ, bTQ, bUQ, bVQ, bWQ, bXQ, bYQ, bZQ, caQ, cbQ, ccQ, cdQ, ceQ, cfQ, cgQ, chQ, ciQ, cjQ, ckQ, clQ, cmQ, cnQ, coQ, cpQ, cqQ, crQ, csQ, ctQ, cuQ, cvQ, cwQ, cxQ, cyQ, czQ, cAQ, cBQ, cCQ, cDQ, cEQ, cFQ, cGQ, cHQ, cIQ, cJQ, cKQ, cLQ, cMQ, cNQ, cOQ, cPQ, cQQ, cRQ, cSQ, cTQ, cUQ, cVQ, cWQ, cXQ, cYQ, cZQ, daQ, dbQ, dcQ, ddQ, deQ, dfQ, dgQ, dhQ, diQ, djQ, dkQ, dlQ, dmQ, dnQ, doQ, dpQ, dqQ, drQ, dsQ, dtQ, duQ, dvQ, dwQ, dxQ, dyQ, dzQ, dAQ, dBQ, dCQ, dDQ, dEQ, dFQ, dGQ, dHQ, dIQ, dJQ, dKQ, dLQ, dMQ, dNQ, dOQ, dPQ, dQQ, dRQ, dSQ, dTQ, dUQ, dVQ, dWQ, dXQ, dYQ, dZQ, eaQ, ebQ, ecQ, edQ, eeQ, efQ, egQ, ehQ, eiQ, ejQ, ekQ, elQ, emQ, enQ, eoQ, epQ, eqQ, erQ, esQ, etQ, euQ, evQ, ewQ, exQ, eyQ, ezQ, eAQ, eBQ, eCQ, eDQ, eEQ, eFQ, eGQ, eHQ, eIQ, eJQ, eKQ, eLQ, eMQ, eNQ, eOQ, ePQ, eQQ, eRQ, eSQ, eTQ, eUQ, eVQ, eWQ, eXQ, eYQ, eZQ, faQ, fbQ, fcQ, fdQ, feQ, ffQ, fgQ, fhQ, fiQ, fjQ, fkQ, flQ, fmQ, fnQ, foQ, fpQ, fqQ, frQ, fsQ, ftQ, fuQ, fvQ, fwQ, fxQ, fyQ, fzQ, fAQ, fBQ, fCQ, fDQ, fEQ, fFQ, fGQ, fHQ, fIQ, fJQ, fKQ, fLQ, fMQ, fNQ, fOQ, fPQ, fQQ, fRQ, fSQ, fTQ, fUQ, fVQ, fWQ, fXQ, fYQ, fZQ, gaQ, gbQ, gcQ, gdQ, geQ, gfQ, ggQ, ghQ, giQ, gjQ, gkQ, glQ, gmQ, gnQ, goQ, gpQ, gqQ, grQ, gsQ, gtQ, guQ, gvQ, gwQ, gxQ, gyQ, gzQ, gAQ, gBQ, gCQ, gDQ, gEQ, gFQ, gGQ, gHQ, gIQ, gJQ, gKQ, gLQ, gMQ, gNQ, gOQ, gPQ, gQQ, gRQ, gSQ, gTQ, gUQ, gVQ, gWQ, gXQ, gYQ, gZQ, haQ, hbQ, hcQ, hdQ, heQ, hfQ, hgQ, hhQ, hiQ, hjQ, hkQ, hlQ, hmQ, hnQ, hoQ, hpQ, hqQ, hrQ, hsQ, htQ, huQ, hvQ, hwQ, hxQ, hyQ, hzQ, hAQ, hBQ, hCQ, hDQ, hEQ, hFQ, hGQ, hHQ, hIQ, hJQ, hKQ, hLQ, hMQ, hNQ, hOQ, hPQ, hQQ, hRQ, hSQ, hTQ, hUQ, hVQ, hWQ, hXQ, hYQ, hZQ, iaQ, euQ, etQ, exQ, ibQ, icQ, T.t, T.l, e1, e2, blQ, k, Bool.not_true, Bool.not_false, Bool.false_eq_true, if_false, if_true, Bool.false_and]
  | true => simp only [u_is_row, F_is_row, aaQ, abQ, acQ, adQ, aeQ, afQ, agQ, ahQ, aiQ, ajQ, akQ, alQ, amQ, anQ, aoQ, apQ, aqQ, arQ, asQ, atQ, auQ, avQ, awQ, axQ, ayQ, azQ, aAQ, aBQ, aCQ, aDQ, aEQ, aFQ, aGQ, aHQ, aIQ, aJQ, aKQ, aLQ, aMQ, aNQ, aOQ, aPQ, aQQ, aRQ, aSQ, aTQ, aUQ, aVQ, aWQ, aXQ, aYQ, aZQ, baQ, bbQ, bcQ, bdQ, beQ, bfQ, bgQ, bhQ, biQ, bjQ, bkQ, blQ, bmQ, bnQ, boQ, bpQ, bqQ, brQ, bsQ, btQ, buQ, bvQ, bwQ, bxQ, byQ, bzQ, bAQ, bBQ, bCQ, bDQ, bEQ, bFQ, bGQ, bHQ, bIQ, bJQ, bKQ, bLQ, bMQ, bNQ, bOQ, bPQ, bQQ, bRQ, bSQ, bTQ, bUQ, bVQ, bWQ, bXQ, bYQ, bZQ, caQ, cbQ, ccQ, cdQ, ceQ, cfQ, cgQ, chQ, ciQ, cjQ, ckQ, clQ, cmQ, cnQ, coQ, cpQ, cqQ, crQ, csQ, ctQ, cuQ, cvQ, cwQ, cxQ, cyQ, czQ, cAQ, cBQ, cCQ, cDQ, cEQ, cFQ, cGQ, cHQ, cIQ, cJQ, cKQ, cLQ, cMQ, cNQ, cOQ, cPQ, cQQ, cRQ, cSQ, cTQ, cUQ, cVQ, cWQ, cXQ, cYQ, cZQ, daQ, dbQ, dcQ, ddQ, deQ, dfQ, dgQ, dhQ, diQ, djQ, dkQ, dlQ, dmQ, dnQ, doQ, dpQ, dqQ, drQ, dsQ, dtQ, duQ, dvQ, dwQ, dxQ, dyQ, dzQ, dAQ, dBQ, dCQ, dDQ, dEQ, dFQ, dGQ, dHQ, dIQ, dJQ, dKQ, dLQ, dMQ, dNQ, dOQ, dPQ, dQQ, dRQ, dSQ, dTQ, dUQ, dVQ, dWQ, dXQ, dYQ, dZQ, eaQ, ebQ, ecQ, edQ, eeQ, efQ, egQ, ehQ, eiQ, ejQ, ekQ, elQ, emQ, enQ, eoQ, epQ, eqQ, erQ, esQ, etQ, euQ, evQ, ewQ, exQ, eyQ, ezQ, eAQ, eBQ, eCQ, eDQ, eEQ, eFQ, eGQ, eHQ, eIQ, eJQ, eKQ, eLQ, eMQ, eNQ, eOQ, ePQ, eQQ, eRQ, eSQ, eTQ, eUQ, eVQ, eWQ, eXQ, eYQ, eZQ, faQ, fbQ, fcQ, fdQ, feQ, ffQ, fgQ, fhQ, fiQ, fjQ, fkQ, flQ, fmQ, fnQ, foQ, fpQ, fqQ, frQ, fsQ, ftQ, fuQ, fvQ, fwQ, fxQ, fyQ, fzQ, fAQ, fBQ, fCQ, fDQ, fEQ, fFQ, fGQ, fHQ, fIQ, fJQ, fKQ, fLQ, fMQ, fNQ, fOQ, fPQ, fQQ, fRQ, fSQ, fTQ, fUQ, fVQ, fWQ, fXQ, fYQ, fZQ, gaQ, gbQ, gcQ, gdQ, geQ, gfQ, ggQ, ghQ, giQ, gjQ, gkQ, glQ, gmQ, gnQ, goQ, gpQ, gqQ, grQ, gsQ, gtQ, guQ, gvQ, gwQ, gxQ, gyQ, gzQ, gAQ, gBQ, gCQ, gDQ, gEQ, gFQ, gGQ, gHQ, gIQ, gJQ, gKQ, gLQ, gMQ, gNQ, gOQ, gPQ, gQQ, gRQ, gSQ, gTQ, gUQ, gVQ, gWQ, gXQ, gYQ, gZQ, haQ, hbQ, hcQ, hdQ, heQ, hfQ, hgQ, hhQ, hiQ, hjQ, hkQ, hlQ, hmQ, hnQ, hoQ, hpQ, hqQ, hrQ, hsQ, htQ, huQ, hvQ, hwQ, hxQ, hyQ, hzQ, hAQ, hBQ, hCQ, hDQ, hEQ, hFQ, hGQ, hHQ, hIQ, hJQ, hKQ, hLQ, hMQ, hNQ, hOQ, hPQ, hQQ, hRQ, hSQ, hTQ, hUQ, hVQ, hWQ, hXQ, hYQ, hZQ, iaQ, euQ, etQ, exQ, ibQ, icQ, T.t, T.l, e1, e2, blQ, k, Bool.not_true, Bool.false_eq_true, if_false, c, gAll_map, Bool.true_and]
theorem isRow_ints (T : Tp d (r.map .int)) (hl : r.length ≤ 1000) : m_is_row [d] L = .ok (.bl ((decide (1 ≤ r.length) && decide (r.length ≤ 20)) && r.all fun x => decide (0 ≤ x))) L := by
  rw [isRow_T (b := fun x => match x with | .int i => decide (0 ≤ i) | _ => false) T (fun x hx L => by
    obtain ⟨i, _, rfl⟩ := List.mem_map.mp hx
    exact sInt_in) (by rw [List.length_map]; exact hl), List.length_map, List.all_map]
  rfl
structure NotRow (d : D) : Prop where
  no : ∀ L, m_is_row [d] L = .ok (.bl false) L
theorem isRow_ok (hr : IsRow r) : m_is_row [.tg (r.map .int)] L = .ok (.bl true) L := by
  have := hr.l1
  have := hr.l2
  rw [isRow_ints (tp_tg _) (by omega), decide_eq_true hr.l1, decide_eq_true hr.l2, List.all_eq_true.mpr fun x hx => decide_eq_true (hr.nn x hx)]
  rfl
theorem rRow_no (k : NotRow d) : m_require_row [d] L = .err "InvalidRow" [] L := by
  simp only [u_require_row, F_require_row, aaQ, abQ, acQ, adQ, aeQ, afQ, agQ, ahQ, aiQ, ajQ, akQ, alQ, amQ, anQ, aoQ, apQ, aqQ, arQ, asQ, atQ, auQ, avQ, awQ, axQ, ayQ, azQ, aAQ, aBQ, aCQ, aDQ, aEQ, aFQ, aGQ, aHQ, aIQ, aJQ, aKQ, aLQ, aMQ, aNQ, aOQ, aPQ, aQQ, aRQ, aSQ, aTQ, aUQ, aVQ, aWQ, aXQ, aYQ, aZQ, baQ, bbQ, bcQ, bdQ, beQ, bfQ, bgQ, bhQ, biQ, bjQ, bkQ, blQ, bmQ, bnQ, boQ, bpQ, bqQ, brQ, bsQ, btQ, buQ, bvQ, bwQ, bxQ, byQ, bzQ, bAQ, bBQ, bCQ, bDQ, bEQ, bFQ, bGQ, bHQ, bIQ, bJQ, bKQ, bLQ, bMQ, bNQ, bOQ, bPQ, bQQ, bRQ, bSQ, bTQ, bUQ, bVQ, bWQ, bXQ, bYQ, bZQ, caQ, cbQ, ccQ, cdQ, ceQ, cfQ, cgQ, chQ, ciQ, cjQ, ckQ, clQ, cmQ, cnQ, coQ, cpQ, cqQ, crQ, csQ, ctQ, cuQ, cvQ, cwQ, cxQ, cyQ, czQ, cAQ, cBQ, cCQ, cDQ, cEQ, cFQ, cGQ, cHQ, cIQ, cJQ, cKQ, cLQ, cMQ, cNQ, cOQ, cPQ, cQQ, cRQ, cSQ, cTQ, cUQ, cVQ, cWQ, cXQ, cYQ, cZQ, daQ, dbQ, dcQ, ddQ, deQ, dfQ, dgQ, dhQ, diQ, djQ, dkQ, dlQ, dmQ, dnQ, doQ, dpQ, dqQ, drQ, dsQ, dtQ, duQ, dvQ, dwQ, dxQ, dyQ, dzQ, dAQ, dBQ, dCQ, dDQ, dEQ, dFQ, dGQ, dHQ, dIQ, dJQ, dKQ, dLQ, dMQ, dNQ, dOQ, dPQ, dQQ, dRQ, dSQ, dTQ, dUQ, dVQ, dWQ, dXQ, dYQ, dZQ, eaQ, ebQ, ecQ, edQ, eeQ, efQ, egQ, ehQ, eiQ, ejQ, ekQ, elQ, emQ, enQ, eoQ, epQ, eqQ, erQ, esQ, etQ, euQ, evQ, ewQ, exQ, eyQ, ezQ, eAQ, eBQ, eCQ, eDQ, eEQ, eFQ, eGQ, eHQ, eIQ, eJQ, eKQ, eLQ, eMQ, eNQ, eOQ, ePQ, eQQ, eRQ, eSQ, eTQ, eUQ, eVQ, eWQ, eXQ, eYQ, eZQ, faQ, fbQ, fcQ, fdQ, feQ, ffQ, fgQ, fhQ, fiQ, fjQ, fkQ, flQ, fmQ, fnQ, foQ, fpQ, fqQ, frQ, fsQ, ftQ, fuQ, fvQ, fwQ, fxQ, fyQ, fzQ, fAQ, fBQ, fCQ, fDQ, fEQ, fFQ, fGQ, fHQ, fIQ, fJQ, fKQ, fLQ, fMQ, fNQ, fOQ, fPQ, fQQ, fRQ, fSQ, fTQ, fUQ, fVQ, fWQ, fXQ, fYQ, fZQ, gaQ, gbQ, gcQ, gdQ, geQ, gfQ, ggQ, ghQ, giQ, gjQ, gkQ, glQ, gmQ, gnQ, goQ, gpQ, gqQ, grQ, gsQ, gtQ, guQ, gvQ, gwQ, gxQ, gyQ, gzQ, gAQ, gBQ, gCQ, gDQ, gEQ, gFQ, gGQ, gHQ, gIQ, gJQ, gKQ, gLQ, gMQ, gNQ, gOQ, gPQ, gQQ, gRQ, gSQ, gTQ, gUQ, gVQ, gWQ, gXQ, gYQ, gZQ, haQ, hbQ, hcQ, hdQ, heQ, hfQ, hgQ, hhQ, hiQ, hjQ, hkQ, hlQ, hmQ, hnQ, hoQ, hpQ, hqQ, hrQ, hsQ, htQ, huQ, hvQ, hwQ, hxQ, hyQ, hzQ, hAQ, hBQ, hCQ, hDQ, hEQ, hFQ, hGQ, hHQ, hIQ, hJQ, hKQ, hLQ, hMQ, hNQ, hOQ, hPQ, hQQ, hRQ, hSQ, hTQ, hUQ, hVQ, hWQ, hXQ, hYQ, hZQ, iaQ, euQ, etQ, exQ, ibQ, icQ, k.no, Bool.not_false, if_true]
theorem rRow_ok (hr : IsRow r) : m_require_row [rowD r] L = .ok .non L := by
  simp only [u_require_row, F_require_row, aaQ, abQ, acQ, adQ, aeQ, afQ, agQ, ahQ, aiQ, ajQ, akQ, alQ, amQ, anQ, aoQ, apQ, aqQ, arQ, asQ, atQ, auQ, avQ, awQ, axQ, ayQ, azQ, aAQ, aBQ, aCQ, aDQ, aEQ, aFQ, aGQ, aHQ, aIQ, aJQ, aKQ, aLQ, aMQ, aNQ, aOQ, aPQ, aQQ, aRQ, aSQ, aTQ, aUQ, aVQ, aWQ, aXQ, aYQ, aZQ, baQ, bbQ, bcQ, bdQ, beQ, bfQ, bgQ, bhQ, biQ, bjQ, bkQ, blQ, bmQ, bnQ, boQ, bpQ, bqQ, brQ, bsQ, btQ, buQ, bvQ, bwQ, bxQ, byQ, bzQ, bAQ, bBQ, bCQ, bDQ, bEQ, bFQ, bGQ, bHQ, bIQ, bJQ, bKQ, bLQ, bMQ, bNQ, bOQ, bPQ, bQQ, bRQ, bSQ, bTQ, bUQ, bVQ, bWQ, bXQ, bYQ, bZQ, caQ, cbQ, ccQ, cdQ, ceQ, cfQ, cgQ, chQ, ciQ, cjQ, ckQ, clQ, cmQ, cnQ, coQ, cpQ, cqQ, crQ, csQ, ctQ, cuQ, cvQ, cwQ, cxQ, cyQ, czQ, cAQ, cBQ, cCQ, cDQ, cEQ, cFQ, cGQ, cHQ, cIQ, cJQ, cKQ, cLQ, cMQ, cNQ, cOQ, cPQ, cQQ, cRQ, cSQ, cTQ, cUQ, cVQ, cWQ, cXQ, cYQ, cZQ, daQ, dbQ, dcQ, ddQ, deQ, dfQ, dgQ, dhQ, diQ, djQ, dkQ, dlQ, dmQ, dnQ, doQ, dpQ, dqQ, drQ, dsQ, dtQ, duQ, dvQ, dwQ, dxQ, dyQ, dzQ, dAQ, dBQ, dCQ, dDQ, dEQ, dFQ, dGQ, dHQ, dIQ, dJQ, dKQ, dLQ, dMQ, dNQ, dOQ, dPQ, dQQ, dRQ, dSQ, dTQ, dUQ, dVQ, dWQ, dXQ, dYQ, dZQ, eaQ, ebQ, ecQ, edQ, eeQ, efQ, egQ, ehQ, eiQ, ejQ, ekQ, elQ, emQ, enQ, eoQ, epQ, eqQ, erQ, esQ, etQ, euQ, evQ, ewQ, exQ, eyQ, ezQ, eAQ, eBQ, eCQ, eDQ, eEQ, eFQ, eGQ, eHQ, eIQ, eJQ, eKQ, eLQ, eMQ, eNQ, eOQ, ePQ, eQQ, eRQ, eSQ, eTQ, eUQ, eVQ, eWQ, eXQ, eYQ, eZQ, faQ, fbQ, fcQ, fdQ, feQ, ffQ, fgQ, fhQ, fiQ, fjQ, fkQ, flQ, fmQ, fnQ, foQ, fpQ, fqQ, frQ, fsQ, ftQ, fuQ, fvQ, fwQ, fxQ, fyQ, fzQ, fAQ, fBQ, fCQ, fDQ, fEQ, fFQ, fGQ, fHQ, fIQ, fJQ, fKQ, fLQ, fMQ, fNQ, fOQ, fPQ, fQQ, fRQ, fSQ, fTQ, fUQ, fVQ, fWQ, fXQ, fYQ, fZQ, gaQ, gbQ, gcQ, gdQ, geQ, gfQ, ggQ, ghQ, giQ, gjQ, gkQ, glQ, gmQ, gnQ, goQ, gpQ, gqQ, grQ, gsQ, gtQ, guQ, gvQ, gwQ, gxQ, gyQ, gzQ, gAQ, gBQ, gCQ, gDQ, gEQ, gFQ, gGQ, gHQ, gIQ, gJQ, gKQ, gLQ, gMQ, gNQ, gOQ, gPQ, gQQ, gRQ, gSQ, gTQ, gUQ, gVQ, gWQ, gXQ, gYQ, gZQ, haQ, hbQ, hcQ, hdQ, heQ, hfQ, hgQ, hhQ, hiQ, hjQ, hkQ, hlQ, hmQ, hnQ, hoQ, hpQ, hqQ, hrQ, hsQ, htQ, huQ, hvQ, hwQ, hxQ, hyQ, hzQ, hAQ, hBQ, hCQ, hDQ, hEQ, hFQ, hGQ, hHQ, hIQ, hJQ, hKQ, hLQ, hMQ, hNQ, hOQ, hPQ, hQQ, hRQ, hSQ, hTQ, hUQ, hVQ, hWQ, hXQ, hYQ, hZQ, iaQ, euQ, etQ, exQ, ibQ, icQ, isRow_ok hr, Bool.not_true, Bool.false_eq_true, if_false]
theorem rHues_no (h : NotInt 1 20 d) : m_require_hues [d] L = .err "InvalidNumber" [("value", d)] L := by
  simp only [u_require_hues, F_require_hues, aaQ, abQ, acQ, adQ, aeQ, afQ, agQ, ahQ, aiQ, ajQ, akQ, alQ, amQ, anQ, aoQ, apQ, aqQ, arQ, asQ, atQ, auQ, avQ, awQ, axQ, ayQ, azQ, aAQ, aBQ, aCQ, aDQ, aEQ, aFQ, aGQ, aHQ, aIQ, aJQ, aKQ, aLQ, aMQ, aNQ, aOQ, aPQ, aQQ, aRQ, aSQ, aTQ, aUQ, aVQ, aWQ, aXQ, aYQ, aZQ, baQ, bbQ, bcQ, bdQ, beQ, bfQ, bgQ, bhQ, biQ, bjQ, bkQ, blQ, bmQ, bnQ, boQ, bpQ, bqQ, brQ, bsQ, btQ, buQ, bvQ, bwQ, bxQ, byQ, bzQ, bAQ, bBQ, bCQ, bDQ, bEQ, bFQ, bGQ, bHQ, bIQ, bJQ, bKQ, bLQ, bMQ, bNQ, bOQ, bPQ, bQQ, bRQ, bSQ, bTQ, bUQ, bVQ, bWQ, bXQ, bYQ, bZQ, caQ, cbQ, ccQ, cdQ, ceQ, cfQ, cgQ, chQ, ciQ, cjQ, ckQ, clQ, cmQ, cnQ, coQ, cpQ, cqQ, crQ, csQ, ctQ, cuQ, cvQ, cwQ, cxQ, cyQ, czQ, cAQ, cBQ, cCQ, cDQ, cEQ, cFQ, cGQ, cHQ, cIQ, cJQ, cKQ, cLQ, cMQ, cNQ, cOQ, cPQ, cQQ, cRQ, cSQ, cTQ, cUQ, cVQ, cWQ, cXQ, cYQ, cZQ, daQ, dbQ, dcQ, ddQ, deQ, dfQ, dgQ, dhQ, diQ, djQ, dkQ, dlQ, dmQ, dnQ, doQ, dpQ, dqQ, drQ, dsQ, dtQ, duQ, dvQ, dwQ, dxQ, dyQ, dzQ, dAQ, dBQ, dCQ, dDQ, dEQ, dFQ, dGQ, dHQ, dIQ, dJQ, dKQ, dLQ, dMQ, dNQ, dOQ, dPQ, dQQ, dRQ, dSQ, dTQ, dUQ, dVQ, dWQ, dXQ, dYQ, dZQ, eaQ, ebQ, ecQ, edQ, eeQ, efQ, egQ, ehQ, eiQ, ejQ, ekQ, elQ, emQ, enQ, eoQ, epQ, eqQ, erQ, esQ, etQ, euQ, evQ, ewQ, exQ, eyQ, ezQ, eAQ, eBQ, eCQ, eDQ, eEQ, eFQ, eGQ, eHQ, eIQ, eJQ, eKQ, eLQ, eMQ, eNQ, eOQ, ePQ, eQQ, eRQ, eSQ, eTQ, eUQ, eVQ, eWQ, eXQ, eYQ, eZQ, faQ, fbQ, fcQ, fdQ, feQ, ffQ, fgQ, fhQ, fiQ, fjQ, fkQ, flQ, fmQ, fnQ, foQ, fpQ, fqQ, frQ, fsQ, ftQ, fuQ, fvQ, fwQ, fxQ, fyQ, fzQ, fAQ, fBQ, fCQ, fDQ, fEQ, fFQ, fGQ, fHQ, fIQ, fJQ, fKQ, fLQ, fMQ, fNQ, fOQ, fPQ, fQQ, fRQ, fSQ, fTQ, fUQ, fVQ, fWQ, fXQ, fYQ, fZQ, gaQ, gbQ, gcQ, gdQ, geQ, gfQ, ggQ, ghQ, giQ, gjQ, gkQ, glQ, gmQ, gnQ, goQ, gpQ, gqQ, grQ, gsQ, gtQ, guQ, gvQ, gwQ, gxQ, gyQ, gzQ, gAQ, gBQ, gCQ, gDQ, gEQ, gFQ, gGQ, gHQ, gIQ, gJQ, gKQ, gLQ, gMQ, gNQ, gOQ, gPQ, gQQ, gRQ, gSQ, gTQ, gUQ, gVQ, gWQ, gXQ, gYQ, gZQ, haQ, hbQ, hcQ, hdQ, heQ, hfQ, hgQ, hhQ, hiQ, hjQ, hkQ, hlQ, hmQ, hnQ, hoQ, hpQ, hqQ, hrQ, hsQ, htQ, huQ, hvQ, hwQ, hxQ, hyQ, hzQ, hAQ, hBQ, hCQ, hDQ, hEQ, hFQ, hGQ, hHQ, hIQ, hJQ, hKQ, hLQ, hMQ, hNQ, hOQ, hPQ, hQQ, hRQ, hSQ, hTQ, hUQ, hVQ, hWQ, hXQ, hYQ, hZQ, iaQ, euQ, etQ, exQ, ibQ, icQ, h.no, Bool.not_false, if_true]
theorem rHues_ok (h1 : 1 ≤ h) (h2 : h ≤ 20) : m_require_hues [.int h] L = .ok .non L := by
  simp only [u_require_hues, F_require_hues, aaQ, abQ, acQ, adQ, aeQ, afQ, agQ, ahQ, aiQ, ajQ, akQ, alQ, amQ, anQ, aoQ, apQ, aqQ, arQ, asQ, atQ, auQ, avQ, awQ, axQ, ayQ, azQ, aAQ, aBQ, aCQ, aDQ, aEQ, aFQ, aGQ, aHQ, aIQ, aJQ, aKQ, aLQ, aMQ, aNQ, aOQ, aPQ, aQQ, aRQ, aSQ, aTQ, aUQ, aVQ, aWQ, aXQ, aYQ, aZQ, baQ, bbQ, bcQ, bdQ, beQ, bfQ, bgQ, bhQ, biQ, bjQ, bkQ, blQ, bmQ, bnQ, boQ, bpQ, bqQ, brQ, bsQ, btQ, buQ, bvQ, bwQ, bxQ, byQ, bzQ, bAQ, bBQ, bCQ, bDQ, bEQ, bFQ, bGQ, bHQ, bIQ, bJQ, bKQ, bLQ, bMQ, bNQ, bOQ, bPQ, bQQ, bRQ, bSQ, bTQ, bUQ, bVQ, bWQ, bXQ, bYQ, bZQ, caQ, cbQ, ccQ, cdQ, ceQ, cfQ, cgQ, chQ, ciQ, cjQ, ckQ, clQ, cmQ, cnQ, coQ, cpQ, cqQ, crQ, csQ, ctQ, cuQ, cvQ, cwQ, cxQ, cyQ, czQ, cAQ, cBQ, cCQ, cDQ, cEQ, cFQ, cGQ, cHQ, cIQ, cJQ, cKQ, cLQ, cMQ, cNQ, cOQ, cPQ, cQQ, cRQ, cSQ, cTQ, cUQ, cVQ, cWQ, cXQ, cYQ, cZQ, daQ, dbQ, dcQ, ddQ, deQ, dfQ, dgQ, dhQ, diQ, djQ, dkQ, dlQ, dmQ, dnQ, doQ, dpQ, dqQ, drQ, dsQ, dtQ, duQ, dvQ, dwQ, dxQ, dyQ, dzQ, dAQ, dBQ, dCQ, dDQ, dEQ, dFQ, dGQ, dHQ, dIQ, dJQ, dKQ, dLQ, dMQ, dNQ, dOQ, dPQ, dQQ, dRQ, dSQ, dTQ, dUQ, dVQ, dWQ, dXQ, dYQ, dZQ, eaQ, ebQ, ecQ, edQ, eeQ, efQ, egQ, ehQ, eiQ, ejQ, ekQ, elQ, emQ, enQ, eoQ, epQ, eqQ, erQ, esQ, etQ, euQ, evQ, ewQ, exQ, eyQ, ezQ, eAQ, eBQ, eCQ, eDQ, eEQ, eFQ, eGQ, eHQ, eIQ, eJQ, eKQ, eLQ, eMQ, eNQ, eOQ, ePQ, eQQ, eRQ, eSQ, eTQ, eUQ, eVQ, eWQ, eXQ, eYQ, eZQ, faQ, fbQ, fcQ, fdQ, feQ, ffQ, fgQ, fhQ, fiQ, fjQ, fkQ, flQ, fmQ, fnQ, foQ, fpQ, fqQ, frQ, fsQ, ftQ, fuQ, fvQ, fwQ, fxQ, fyQ, fzQ, fAQ, fBQ, fCQ, fDQ, fEQ, fFQ, fGQ, fHQ, fIQ, fJQ, fKQ, fLQ, fMQ, fNQ, fOQ, fPQ, fQQ, fRQ, fSQ, fTQ, fUQ, fVQ, fWQ, fXQ, fYQ, fZQ, gaQ, gbQ, gcQ, gdQ, geQ, gfQ, ggQ, ghQ, giQ, gjQ, gkQ, glQ, gmQ, gnQ, goQ, gpQ, gqQ, grQ, gsQ, gtQ, guQ, gvQ, gwQ, gxQ, gyQ, gzQ, gAQ, gBQ, gCQ, gDQ, gEQ, gFQ, gGQ, gHQ, gIQ, gJQ, gKQ, gLQ, gMQ, gNQ, gOQ, gPQ, gQQ, gRQ, gSQ, gTQ, gUQ, gVQ, gWQ, gXQ, gYQ, gZQ, haQ, hbQ, hcQ, hdQ, heQ, hfQ, hgQ, hhQ, hiQ, hjQ, hkQ, hlQ, hmQ, hnQ, hoQ, hpQ, hqQ, hrQ, hsQ, htQ, huQ, hvQ, hwQ, hxQ, hyQ, hzQ, hAQ, hBQ, hCQ, hDQ, hEQ, hFQ, hGQ, hHQ, hIQ, hJQ, hKQ, hLQ, hMQ, hNQ, hOQ, hPQ, hQQ, hRQ, hSQ, hTQ, hUQ, hVQ, hWQ, hXQ, hYQ, hZQ, iaQ, euQ, etQ, exQ, ibQ, icQ, sInt_ii, decide_eq_true h1, decide_eq_true h2, Bool.and_self, Bool.not_true, Bool.false_eq_true, if_false]
theorem below_c (hl : r.length ≤ 1000) : C1_require_below [some (rowD r), some (.int h), none] L = .ok (.lst (r.map fun x => D.bl (decide (x < h)))) L := by
  refine lc_map (box := false) r D.int _ (src := []) (L1 := L) ?_ srcOk_nil (by omega) fun x hx => ?_
  · simp only [aaQ, abQ, acQ, adQ, aeQ, afQ, agQ, ahQ, aiQ, ajQ, akQ, alQ, amQ, anQ, aoQ, apQ, aqQ, arQ, asQ, atQ, auQ, avQ, awQ, axQ, ayQ, azQ, aAQ, aBQ, aCQ, aDQ, aEQ, aFQ, aGQ, aHQ, aIQ, aJQ, aKQ, aLQ, aMQ, aNQ, aOQ, aPQ, aQQ, aRQ, aSQ, aTQ, aUQ, aVQ, aWQ, aXQ, aYQ, aZQ, baQ, bbQ, bcQ, bdQ, beQ, bfQ, bgQ, bhQ, biQ, bjQ, bkQ, blQ, bmQ, bnQ, boQ, bpQ, bqQ, brQ, bsQ, btQ, buQ, bvQ, bwQ, bxQ, byQ, bzQ, bAQ, bBQ, bCQ, bDQ, bEQ, bFQ, bGQ, bHQ, bIQ, bJQ, bKQ, bLQ, bMQ, bNQ, bOQ, bPQ, bQQ, bRQ, bSQ, bTQ, bUQ, bVQ, bWQ, bXQ, bYQ, bZQ, caQ, cbQ, ccQ, cdQ, ceQ, cfQ, cgQ, chQ, ciQ, cjQ, ckQ, clQ, cmQ, cnQ, coQ, cpQ, cqQ, crQ, csQ, ctQ, cuQ, cvQ, cwQ, cxQ, cyQ, czQ, cAQ, cBQ, cCQ, cDQ, cEQ, cFQ, cGQ, cHQ, cIQ, cJQ, cKQ, cLQ, cMQ, cNQ, cOQ, cPQ, cQQ, cRQ, cSQ, cTQ, cUQ, cVQ, cWQ, cXQ, cYQ, cZQ, daQ, dbQ, dcQ, ddQ, deQ, dfQ, dgQ, dhQ, diQ, djQ, dkQ, dlQ, dmQ, dnQ, doQ, dpQ, dqQ, drQ, dsQ, dtQ, duQ, dvQ, dwQ, dxQ, dyQ, dzQ, dAQ, dBQ, dCQ, dDQ, dEQ, dFQ, dGQ, dHQ, dIQ, dJQ, dKQ, dLQ, dMQ, dNQ, dOQ, dPQ, dQQ, dRQ, dSQ, dTQ, dUQ, dVQ, dWQ, dXQ, dYQ, dZQ, eaQ, ebQ, ecQ, edQ, eeQ, efQ, egQ, ehQ, eiQ, ejQ, ekQ, elQ, emQ, enQ, eoQ, epQ, eqQ, erQ, esQ, etQ, euQ, evQ, ewQ, exQ, eyQ, ezQ, eAQ, eBQ, eCQ, eDQ, eEQ, eFQ, eGQ, eHQ, eIQ, eJQ, eKQ, eLQ, eMQ, eNQ, eOQ, ePQ, eQQ, eRQ, eSQ, eTQ, eUQ, eVQ, eWQ, eXQ, eYQ, eZQ, faQ, fbQ, fcQ, fdQ, feQ, ffQ, fgQ, fhQ, fiQ, fjQ, fkQ, flQ, fmQ, fnQ, foQ, fpQ, fqQ, frQ, fsQ, ftQ, fuQ, fvQ, fwQ, fxQ, fyQ, fzQ, fAQ, fBQ, fCQ, fDQ, fEQ, fFQ, fGQ, fHQ, fIQ, fJQ, fKQ, fLQ, fMQ, fNQ, fOQ, fPQ, fQQ, fRQ, fSQ, fTQ, fUQ, fVQ, fWQ, fXQ, fYQ, fZQ, gaQ, gbQ, gcQ, gdQ, geQ, gfQ, ggQ, ghQ, giQ, gjQ, gkQ, glQ, gmQ, gnQ, goQ, gpQ, gqQ, grQ, gsQ, gtQ, guQ, gvQ, gwQ, gxQ, gyQ, gzQ, gAQ, gBQ, gCQ, gDQ, gEQ, gFQ, gGQ, gHQ, gIQ, gJQ, gKQ, gLQ, gMQ, gNQ, gOQ, gPQ, gQQ, gRQ, gSQ, gTQ, gUQ, gVQ, gWQ, gXQ, gYQ, gZQ, haQ, hbQ, hcQ, hdQ, heQ, hfQ, hgQ, hhQ, hiQ, hjQ, hkQ, hlQ, hmQ, hnQ, hoQ, hpQ, hqQ, hrQ, hsQ, htQ, huQ, hvQ, hwQ, hxQ, hyQ, hzQ, hAQ, hBQ, hCQ, hDQ, hEQ, hFQ, hGQ, hHQ, hIQ, hJQ, hKQ, hLQ, hMQ, hNQ, hOQ, hPQ, hQQ, hRQ, hSQ, hTQ, hUQ, hVQ, hWQ, hXQ, hYQ, hZQ, iaQ, euQ, etQ, exQ, ibQ, icQ]
  · simp only [aaQ, abQ, acQ, adQ, aeQ, afQ, agQ, ahQ, aiQ, ajQ, akQ, alQ, amQ, anQ, aoQ, apQ, aqQ, arQ, asQ, atQ, auQ, avQ, awQ, axQ, ayQ, azQ, aAQ, aBQ, aCQ, aDQ, aEQ, aFQ, aGQ, aHQ, aIQ, aJQ, aKQ, aLQ, aMQ, aNQ, aOQ, aPQ, aQQ, aRQ, aSQ, aTQ, aUQ, aVQ, aWQ, aXQ, aYQ, aZQ, baQ, bbQ, bcQ, bdQ, beQ, bfQ, bgQ, bhQ, biQ, bjQ, bkQ, blQ, bmQ, bnQ, boQ, bpQ, bqQ, brQ, bsQ, btQ, buQ, bvQ, bwQ, bxQ, byQ, bzQ, bAQ, bBQ, bCQ, bDQ, bEQ, bFQ, bGQ, bHQ, bIQ, bJQ, bKQ, bLQ, bMQ, bNQ, bOQ, bPQ, bQQ, bRQ, bSQ, bTQ, bUQ, bVQ, bWQ, bXQ, bYQ, bZQ, caQ, cbQ, ccQ, cdQ, ceQ, cfQ, cgQ, chQ, ciQ, cjQ, ckQ, clQ, cmQ, cnQ, coQ, cpQ, cqQ, crQ, csQ, ctQ, cuQ, cvQ, cwQ, cxQ, cyQ, czQ, cAQ, cBQ, cCQ, cDQ, cEQ, cFQ, cGQ, cHQ, cIQ, cJQ, cKQ, cLQ, cMQ, cNQ, cOQ, cPQ, cQQ, cRQ, cSQ, cTQ, cUQ, cVQ, cWQ, cXQ, cYQ, cZQ, daQ, dbQ, dcQ, ddQ, deQ, dfQ, dgQ, dhQ, diQ, djQ, dkQ, dlQ, dmQ, dnQ, doQ, dpQ, dqQ, drQ, dsQ, dtQ, duQ, dvQ, dwQ, dxQ, dyQ, dzQ, dAQ, dBQ, dCQ, dDQ, dEQ, dFQ, dGQ, dHQ, dIQ, dJQ, dKQ, dLQ, dMQ, dNQ, dOQ, dPQ, dQQ, dRQ, dSQ, dTQ, dUQ, dVQ, dWQ, dXQ, dYQ, dZQ, eaQ, ebQ, ecQ, edQ, eeQ, efQ, egQ, ehQ, eiQ, ejQ, ekQ, elQ, emQ, enQ, eoQ, epQ, eqQ, erQ, esQ, etQ, euQ, evQ, ewQ, exQ, eyQ, ezQ, eAQ, eBQ, eCQ, eDQ, eEQ, eFQ, eGQ, eHQ, eIQ, eJQ, eKQ, eLQ, eMQ, eNQ, eOQ, ePQ, eQQ, eRQ, eSQ, eTQ, eUQ, eVQ, eWQ, eXQ, eYQ, eZQ, faQ, fbQ, fcQ, fdQ, feQ, ffQ, fgQ, fhQ, fiQ, fjQ, fkQ, flQ, fmQ, fnQ, foQ, fpQ, fqQ, frQ, fsQ, ftQ, fuQ, fvQ, fwQ, fxQ, fyQ, fzQ, fAQ, fBQ, fCQ, fDQ, fEQ, fFQ, fGQ, fHQ, fIQ, fJQ, fKQ, fLQ, fMQ, fNQ, fOQ, fPQ, fQQ, fRQ, fSQ, fTQ, fUQ, fVQ, fWQ, fXQ, fYQ, fZQ, gaQ, gbQ, gcQ, gdQ, geQ, gfQ, ggQ, ghQ, giQ, gjQ, gkQ, glQ, gmQ, gnQ, goQ, gpQ, gqQ, grQ, gsQ, gtQ, guQ, gvQ, gwQ, gxQ, gyQ, gzQ, gAQ, gBQ, gCQ, gDQ, gEQ, gFQ, gGQ, gHQ, gIQ, gJQ, gKQ, gLQ, gMQ, gNQ, gOQ, gPQ, gQQ, gRQ, gSQ, gTQ, gUQ, gVQ, gWQ, gXQ, gYQ, gZQ, haQ, hbQ, hcQ, hdQ, heQ, hfQ, hgQ, hhQ, hiQ, hjQ, hkQ, hlQ, hmQ, hnQ, hoQ, hpQ, hqQ, hrQ, hsQ, htQ, huQ, hvQ, hwQ, hxQ, hyQ, hzQ, hAQ, hBQ, hCQ, hDQ, hEQ, hFQ, hGQ, hHQ, hIQ, hJQ, hKQ, hLQ, hMQ, hNQ, hOQ, hPQ, hQQ, hRQ, hSQ, hTQ, hUQ, hVQ, hWQ, hXQ, hYQ, hZQ, iaQ, euQ, etQ, exQ, ibQ, icQ]
theorem rBelow (hl : r.length ≤ 1000) : m_require_below [rowD r, .int h] L = if (r.all fun x => decide (x < h)) = true then .ok .non L else .err "InvalidRow" [] L := by
  cases k : r.all fun x => decide (x < h) with
  | true => simp only [u_require_below, F_require_below, aaQ, abQ, acQ, adQ, aeQ, afQ, agQ, ahQ, aiQ, ajQ, akQ, alQ, amQ, anQ, aoQ, apQ, aqQ, arQ, asQ, atQ, auQ, avQ, awQ, axQ, ayQ, azQ, aAQ, aBQ, aCQ, aDQ, aEQ, aFQ, aGQ, aHQ, aIQ, aJQ, aKQ, aLQ, aMQ, aNQ, aOQ, aPQ, aQQ, aRQ, aSQ, aTQ, aUQ, aVQ, aWQ, aXQ, aYQ, aZQ, baQ, bbQ, bcQ, bdQ, beQ, bfQ, bgQ, bhQ, biQ, bjQ, bkQ, blQ, bmQ, bnQ, boQ, bpQ, bqQ, brQ, bsQ, btQ, buQ, bvQ, bwQ, bxQ, byQ, bzQ, bAQ, bBQ, bCQ, bDQ, bEQ, bFQ, bGQ, bHQ, bIQ, bJQ, bKQ, bLQ, bMQ, bNQ, bOQ, bPQ, bQQ, bRQ, bSQ, bTQ, bUQ, bVQ, bWQ, bXQ, bYQ, bZQ, caQ, cbQ, ccQ, cdQ, ceQ, cfQ, cgQ, chQ, ciQ, cjQ, ckQ, clQ, cmQ, cnQ, coQ, cpQ, cqQ, crQ, csQ, ctQ, cuQ, cvQ, cwQ, cxQ, cyQ, czQ, cAQ, cBQ, cCQ, cDQ, cEQ, cFQ, cGQ, cHQ, cIQ, cJQ, cKQ, cLQ, cMQ, cNQ, cOQ, cPQ, cQQ, cRQ, cSQ, cTQ, cUQ, cVQ, cWQ, cXQ, cYQ, cZQ, daQ, dbQ, dcQ, ddQ, deQ, dfQ, dgQ, dhQ, diQ, djQ, dkQ, dlQ, dmQ, dnQ, doQ, dpQ, dqQ, drQ, dsQ, dtQ, duQ, dvQ, dwQ, dxQ, dyQ, dzQ, dAQ, dBQ, dCQ, dDQ, dEQ, dFQ, dGQ, dHQ, dIQ, dJQ, dKQ, dLQ, dMQ, dNQ, dOQ, dPQ, dQQ, dRQ, dSQ, dTQ, dUQ, dVQ, dWQ, dXQ, dYQ, dZQ, eaQ, ebQ, ecQ, edQ, eeQ, efQ, egQ, ehQ, eiQ, ejQ, ekQ, elQ, emQ, enQ, eoQ, epQ, eqQ, erQ, esQ, etQ, euQ, evQ, ewQ, exQ, eyQ, ezQ, eAQ, eBQ, eCQ, eDQ, eEQ, eFQ, eGQ, eHQ, eIQ, eJQ, eKQ, eLQ, eMQ, eNQ, eOQ, ePQ, eQQ, eRQ, eSQ, eTQ, eUQ, eVQ, eWQ, eXQ, eYQ, eZQ, faQ, fbQ, fcQ, fdQ, feQ, ffQ, fgQ, fhQ, fiQ, fjQ, fkQ, flQ, fmQ, fnQ, foQ, fpQ, fqQ, frQ, fsQ, ftQ, fuQ, fvQ, fwQ, fxQ, fyQ, fzQ, fAQ, fBQ, fCQ, fDQ, fEQ, fFQ, fGQ, fHQ, fIQ, fJQ, fKQ, fLQ, fMQ, fNQ, fOQ, fPQ, fQQ, fRQ, fSQ, fTQ, fUQ, fVQ, fWQ, fXQ, fYQ, fZQ, gaQ, gbQ, gcQ, gdQ, geQ, gfQ, ggQ, ghQ, giQ, gjQ, gkQ, glQ, gmQ, gnQ, goQ, gpQ, gqQ, grQ, gsQ, gtQ, guQ, gvQ, gwQ, gxQ, gyQ, gzQ, gAQ, gBQ, gCQ, gDQ, gEQ, gFQ, gGQ, gHQ, gIQ, gJQ, gKQ, gLQ, gMQ, gNQ, gOQ, gPQ, gQQ, gRQ, gSQ, gTQ, gUQ, gVQ, gWQ, gXQ, gYQ, gZQ, haQ, hbQ, hcQ, hdQ, heQ, hfQ, hgQ, hhQ, hiQ, hjQ, hkQ, hlQ, hmQ, hnQ, hoQ, hpQ, hqQ, hrQ, hsQ, htQ, huQ, hvQ, hwQ, hxQ, hyQ, hzQ, hAQ, hBQ, hCQ, hDQ, hEQ, hFQ, hGQ, hHQ, hIQ, hJQ, hKQ, hLQ, hMQ, hNQ, hOQ, hPQ, hQQ, hRQ, hSQ, hTQ, hUQ, hVQ, hWQ, hXQ, hYQ, hZQ, iaQ, euQ, etQ, exQ, ibQ, icQ, below_c hl, gAll_map, k, Bool.not_true, Bool.false_eq_true, if_false, if_true]
  | false => simp only [u_require_below, F_require_below, aaQ, abQ, acQ, adQ, aeQ, afQ, agQ, ahQ, aiQ, ajQ, akQ, alQ, amQ, anQ, aoQ, apQ, aqQ, arQ, asQ, atQ, auQ, avQ, awQ, axQ, ayQ, azQ, aAQ, aBQ, aCQ, aDQ, aEQ, aFQ, aGQ, aHQ, aIQ, aJQ, aKQ, aLQ, aMQ, aNQ, aOQ, aPQ, aQQ, aRQ, aSQ, aTQ, aUQ, aVQ, aWQ, aXQ, aYQ, aZQ, baQ, bbQ, bcQ, bdQ, beQ, bfQ, bgQ, bhQ, biQ, bjQ, bkQ, blQ, bmQ, bnQ, boQ, bpQ, bqQ, brQ, bsQ, btQ, buQ, bvQ, bwQ, bxQ, byQ, bzQ, bAQ, bBQ, bCQ, bDQ, bEQ, bFQ, bGQ, bHQ, bIQ, bJQ, bKQ, bLQ, bMQ, bNQ, bOQ, bPQ, bQQ, bRQ, bSQ, bTQ, bUQ, bVQ, bWQ, bXQ, bYQ, bZQ, caQ, cbQ, ccQ, cdQ, ceQ, cfQ, cgQ, chQ, ciQ, cjQ, ckQ, clQ, cmQ, cnQ, coQ, cpQ, cqQ, crQ, csQ, ctQ, cuQ, cvQ, cwQ, cxQ, cyQ, czQ, cAQ, cBQ, cCQ, cDQ, cEQ, cFQ, cGQ, cHQ, cIQ, cJQ, cKQ, cLQ, cMQ, cNQ, cOQ, cPQ, cQQ, cRQ, cSQ, cTQ, cUQ, cVQ, cWQ, cXQ, cYQ, cZQ, daQ, dbQ, dcQ, ddQ, deQ, dfQ, dgQ, dhQ, diQ, djQ, dkQ, dlQ, dmQ, dnQ, doQ, dpQ, dqQ, drQ, dsQ, dtQ, duQ, dvQ, dwQ, dxQ, dyQ, dzQ, dAQ, dBQ, dCQ, dDQ, dEQ, dFQ, dGQ, dHQ, dIQ, dJQ, dKQ, dLQ, dMQ, dNQ, dOQ, dPQ, dQQ, dRQ, dSQ, dTQ, dUQ, dVQ, dWQ, dXQ, dYQ, dZQ, eaQ, ebQ, ecQ, edQ, eeQ, efQ, egQ, ehQ, eiQ, ejQ, ekQ, elQ, emQ, enQ, eoQ, epQ, eqQ, erQ, esQ, etQ, euQ, evQ, ewQ, exQ, eyQ, ezQ, eAQ, eBQ, eCQ, eDQ, eEQ, eFQ, eGQ, eHQ, eIQ, eJQ, eKQ, eLQ, eMQ, eNQ, eOQ, ePQ, eQQ, eRQ, eSQ, eTQ, eUQ, eVQ, eWQ, eXQ, eYQ, eZQ, faQ, fbQ, fcQ, fdQ, feQ, ffQ, fgQ, fhQ, fiQ, fjQ, fkQ, flQ, fmQ, fnQ, foQ, fpQ, fqQ, frQ, fsQ, ftQ, fuQ, fvQ, fwQ, fxQ, fyQ, fzQ, fAQ, fBQ, fCQ, fDQ, fEQ, fFQ, fGQ, fHQ, fIQ, fJQ, fKQ, fLQ, fMQ, fNQ, fOQ, fPQ, fQQ, fRQ, fSQ, fTQ, fUQ, fVQ, fWQ, fXQ, fYQ, fZQ, gaQ, gbQ, gcQ, gdQ, geQ, gfQ, ggQ, ghQ, giQ, gjQ, gkQ, glQ, gmQ, gnQ, goQ, gpQ, gqQ, grQ, gsQ, gtQ, guQ, gvQ, gwQ, gxQ, gyQ, gzQ, gAQ, gBQ, gCQ, gDQ, gEQ, gFQ, gGQ, gHQ, gIQ, gJQ, gKQ, gLQ, gMQ, gNQ, gOQ, gPQ, gQQ, gRQ, gSQ, gTQ, gUQ, gVQ, gWQ, gXQ, gYQ, gZQ, haQ, hbQ, hcQ, hdQ, heQ, hfQ, hgQ, hhQ, hiQ, hjQ, hkQ, hlQ, hmQ, hnQ, hoQ, hpQ, hqQ, hrQ, hsQ, htQ, huQ, hvQ, hwQ, hxQ, hyQ, hzQ, hAQ, hBQ, hCQ, hDQ, hEQ, hFQ, hGQ, hHQ, hIQ, hJQ, hKQ, hLQ, hMQ, hNQ, hOQ, hPQ, hQQ, hRQ, hSQ, hTQ, hUQ, hVQ, hWQ, hXQ, hYQ, hZQ, iaQ, euQ, etQ, exQ, ibQ, icQ, below_c hl, gAll_map, k, Bool.not_false, Bool.false_eq_true, if_false, if_true]
theorem rBoth_row (k : NotRow d) {e : D} : m_require_both [d, e] L = .err "InvalidRow" [] L := by
  simp only [u_require_both, F_require_both, aaQ, abQ, acQ, adQ, aeQ, afQ, agQ, ahQ, aiQ, ajQ, akQ, alQ, amQ, anQ, aoQ, apQ, aqQ, arQ, asQ, atQ, auQ, avQ, awQ, axQ, ayQ, azQ, aAQ, aBQ, aCQ, aDQ, aEQ, aFQ, aGQ, aHQ, aIQ, aJQ, aKQ, aLQ, aMQ, aNQ, aOQ, aPQ, aQQ, aRQ, aSQ, aTQ, aUQ, aVQ, aWQ, aXQ, aYQ, aZQ, baQ, bbQ, bcQ, bdQ, beQ, bfQ, bgQ, bhQ, biQ, bjQ, bkQ, blQ, bmQ, bnQ, boQ, bpQ, bqQ, brQ, bsQ, btQ, buQ, bvQ, bwQ, bxQ, byQ, bzQ, bAQ, bBQ, bCQ, bDQ, bEQ, bFQ, bGQ, bHQ, bIQ, bJQ, bKQ, bLQ, bMQ, bNQ, bOQ, bPQ, bQQ, bRQ, bSQ, bTQ, bUQ, bVQ, bWQ, bXQ, bYQ, bZQ, caQ, cbQ, ccQ, cdQ, ceQ, cfQ, cgQ, chQ, ciQ, cjQ, ckQ, clQ, cmQ, cnQ, coQ, cpQ, cqQ, crQ, csQ, ctQ, cuQ, cvQ, cwQ, cxQ, cyQ, czQ, cAQ, cBQ, cCQ, cDQ, cEQ, cFQ, cGQ, cHQ, cIQ, cJQ, cKQ, cLQ, cMQ, cNQ, cOQ, cPQ, cQQ, cRQ, cSQ, cTQ, cUQ, cVQ, cWQ, cXQ, cYQ, cZQ, daQ, dbQ, dcQ, ddQ, deQ, dfQ, dgQ, dhQ, diQ, djQ, dkQ, dlQ, dmQ, dnQ, doQ, dpQ, dqQ, drQ, dsQ, dtQ, duQ, dvQ, dwQ, dxQ, dyQ, dzQ, dAQ, dBQ, dCQ, dDQ, dEQ, dFQ, dGQ, dHQ, dIQ, dJQ, dKQ, dLQ, dMQ, dNQ, dOQ, dPQ, dQQ, dRQ, dSQ, dTQ, dUQ, dVQ, dWQ, dXQ, dYQ, dZQ, eaQ, ebQ, ecQ, edQ, eeQ, efQ, egQ, ehQ, eiQ, ejQ, ekQ, elQ, emQ, enQ, eoQ, epQ, eqQ, erQ, esQ, etQ, euQ, evQ, ewQ, exQ, eyQ, ezQ, eAQ, eBQ, eCQ, eDQ, eEQ, eFQ, eGQ, eHQ, eIQ, eJQ, eKQ, eLQ, eMQ, eNQ, eOQ, ePQ, eQQ, eRQ, eSQ, eTQ, eUQ, eVQ, eWQ, eXQ, eYQ, eZQ, faQ, fbQ, fcQ, fdQ, feQ, ffQ, fgQ, fhQ, fiQ, fjQ, fkQ, flQ, fmQ, fnQ, foQ, fpQ, fqQ, frQ, fsQ, ftQ, fuQ, fvQ, fwQ, fxQ, fyQ, fzQ, fAQ, fBQ, fCQ, fDQ, fEQ, fFQ, fGQ, fHQ, fIQ, fJQ, fKQ, fLQ, fMQ, fNQ, fOQ, fPQ, fQQ, fRQ, fSQ, fTQ, fUQ, fVQ, fWQ, fXQ, fYQ, fZQ, gaQ, gbQ, gcQ, gdQ, geQ, gfQ, ggQ, ghQ, giQ, gjQ, gkQ, glQ, gmQ, gnQ, goQ, gpQ, gqQ, grQ, gsQ, gtQ, guQ, gvQ, gwQ, gxQ, gyQ, gzQ, gAQ, gBQ, gCQ, gDQ, gEQ, gFQ, gGQ, gHQ, gIQ, gJQ, gKQ, gLQ, gMQ, gNQ, gOQ, gPQ, gQQ, gRQ, gSQ, gTQ, gUQ, gVQ, gWQ, gXQ, gYQ, gZQ, haQ, hbQ, hcQ, hdQ, heQ, hfQ, hgQ, hhQ, hiQ, hjQ, hkQ, hlQ, hmQ, hnQ, hoQ, hpQ, hqQ, hrQ, hsQ, htQ, huQ, hvQ, hwQ, hxQ, hyQ, hzQ, hAQ, hBQ, hCQ, hDQ, hEQ, hFQ, hGQ, hHQ, hIQ, hJQ, hKQ, hLQ, hMQ, hNQ, hOQ, hPQ, hQQ, hRQ, hSQ, hTQ, hUQ, hVQ, hWQ, hXQ, hYQ, hZQ, iaQ, euQ, etQ, exQ, ibQ, icQ, rRow_no k]
theorem rBoth_num (hr : IsRow r) (k : NotInt 1 20 d) : m_require_both [rowD r, d] L = .err "InvalidNumber" [("value", d)] L := by
  simp only [u_require_both, F_require_both, aaQ, abQ, acQ, adQ, aeQ, afQ, agQ, ahQ, aiQ, ajQ, akQ, alQ, amQ, anQ, aoQ, apQ, aqQ, arQ, asQ, atQ, auQ, avQ, awQ, axQ, ayQ, azQ, aAQ, aBQ, aCQ, aDQ, aEQ, aFQ, aGQ, aHQ, aIQ, aJQ, aKQ, aLQ, aMQ, aNQ, aOQ, aPQ, aQQ, aRQ, aSQ, aTQ, aUQ, aVQ, aWQ, aXQ, aYQ, aZQ, baQ, bbQ, bcQ, bdQ, beQ, bfQ, bgQ, bhQ, biQ, bjQ, bkQ, blQ, bmQ, bnQ, boQ, bpQ, bqQ, brQ, bsQ, btQ, buQ, bvQ, bwQ, bxQ, byQ, bzQ, bAQ, bBQ, bCQ, bDQ, bEQ, bFQ, bGQ, bHQ, bIQ, bJQ, bKQ, bLQ, bMQ, bNQ, bOQ, bPQ, bQQ, bRQ, bSQ, bTQ, bUQ, bVQ, bWQ, bXQ, bYQ, bZQ, caQ, cbQ, ccQ, cdQ, ceQ, cfQ, cgQ, chQ, ciQ, cjQ, ckQ, clQ, cmQ, cnQ, coQ, cpQ, cqQ, crQ, csQ, ctQ, cuQ, cvQ, cwQ, cxQ, cyQ, czQ, cAQ, cBQ, cCQ, cDQ, cEQ, cFQ, cGQ, cHQ, cIQ, cJQ, cKQ, cLQ, cMQ, cNQ, cOQ, cPQ, cQQ, cRQ, cSQ, cTQ, cUQ, cVQ, cWQ, cXQ, cYQ, cZQ, daQ, dbQ, dcQ, ddQ, deQ, dfQ, dgQ, dhQ, diQ, djQ, dkQ, dlQ, dmQ, dnQ, doQ, dpQ, dqQ, drQ, dsQ, dtQ, duQ, dvQ, dwQ, dxQ, dyQ, dzQ, dAQ, dBQ, dCQ, dDQ, dEQ, dFQ, dGQ, dHQ, dIQ, dJQ, dKQ, dLQ, dMQ, dNQ, dOQ, dPQ, dQQ, dRQ, dSQ, dTQ, dUQ, dVQ, dWQ, dXQ, dYQ, dZQ, eaQ, ebQ, ecQ, edQ, eeQ, efQ, egQ, ehQ, eiQ, ejQ, ekQ, elQ, emQ, enQ, eoQ, epQ, eqQ, erQ, esQ, etQ, euQ, evQ, ewQ, exQ, eyQ, ezQ, eAQ, eBQ, eCQ, eDQ, eEQ, eFQ, eGQ, eHQ, eIQ, eJQ, eKQ, eLQ, eMQ, eNQ, eOQ, ePQ, eQQ, eRQ, eSQ, eTQ, eUQ, eVQ, eWQ, eXQ, eYQ, eZQ, faQ, fbQ, fcQ, fdQ, feQ, ffQ, fgQ, fhQ, fiQ, fjQ, fkQ, flQ, fmQ, fnQ, foQ, fpQ, fqQ, frQ, fsQ, ftQ, fuQ, fvQ, fwQ, fxQ, fyQ, fzQ, fAQ, fBQ, fCQ, fDQ, fEQ, fFQ, fGQ, fHQ, fIQ, fJQ, fKQ, fLQ, fMQ, fNQ, fOQ, fPQ, fQQ, fRQ, fSQ, fTQ, fUQ, fVQ, fWQ, fXQ, fYQ, fZQ, gaQ, gbQ, gcQ, gdQ, geQ, gfQ, ggQ, ghQ, giQ, gjQ, gkQ, glQ, gmQ, gnQ, goQ, gpQ, gqQ, grQ, gsQ, gtQ, guQ, gvQ, gwQ, gxQ, gyQ, gzQ, gAQ, gBQ, gCQ, gDQ, gEQ, gFQ, gGQ, gHQ, gIQ, gJQ, gKQ, gLQ, gMQ, gNQ, gOQ, gPQ, gQQ, gRQ, gSQ, gTQ, gUQ, gVQ, gWQ, gXQ, gYQ, gZQ, haQ, hbQ, hcQ, hdQ, heQ, hfQ, hgQ, hhQ, hiQ, hjQ, hkQ, hlQ, hmQ, hnQ, hoQ, hpQ, hqQ, hrQ, hsQ, htQ, huQ, hvQ, hwQ, hxQ, hyQ, hzQ, hAQ, hBQ, hCQ, hDQ, hEQ, hFQ, hGQ, hHQ, hIQ, hJQ, hKQ, hLQ, hMQ, hNQ, hOQ, hPQ, hQQ, hRQ, hSQ, hTQ, hUQ, hVQ, hWQ, hXQ, hYQ, hZQ, iaQ, euQ, etQ, exQ, ibQ, icQ, rRow_ok hr, rHues_no k]
theorem rBoth_far (hr : IsRow r) (h1 : 1 ≤ h) (h2 : h ≤ 20) (k : ¬ ∀ x ∈ r, x < h) : m_require_both [rowD r, .int h] L = .err "InvalidRow" [] L := by
  have a : (r.all fun x => decide (x < h)) = false := by
    rw [List.all_eq_false]
    have ⟨x, hx, hn⟩ : ∃ x, x ∈ r ∧ ¬ x < h := by
      apply Classical.byContradiction
      intro z
      exact k fun x hx => Classical.byContradiction fun w => z ⟨x, hx, w⟩
    exact ⟨x, hx, by simpa using hn⟩
  have hl := hr.l2
  simp only [u_require_both, F_require_both, aaQ, abQ, acQ, adQ, aeQ, afQ, agQ, ahQ, aiQ, ajQ, akQ, alQ, amQ, anQ, aoQ, apQ, aqQ, arQ, asQ, atQ, auQ, avQ, awQ, axQ, ayQ, azQ, aAQ, aBQ, aCQ, aDQ, aEQ, aFQ, aGQ, aHQ, aIQ, aJQ, aKQ, aLQ, aMQ, aNQ, aOQ, aPQ, aQQ, aRQ, aSQ, aTQ, aUQ, aVQ, aWQ, aXQ, aYQ, aZQ, baQ, bbQ, bcQ, bdQ, beQ, bfQ, bgQ, bhQ, biQ, bjQ, bkQ, blQ, bmQ, bnQ, boQ, bpQ, bqQ, brQ, bsQ, btQ, buQ, bvQ, bwQ, bxQ, byQ, bzQ, bAQ, bBQ, bCQ, bDQ, bEQ, bFQ, bGQ, bHQ, bIQ, bJQ, bKQ, bLQ, bMQ, bNQ, bOQ, bPQ, bQQ, bRQ, bSQ, bTQ, bUQ, bVQ, bWQ, bXQ, bYQ, bZQ, caQ, cbQ, ccQ, cdQ, ceQ, cfQ, cgQ, chQ, ciQ, cjQ, ckQ, clQ, cmQ, cnQ, coQ, cpQ, cqQ, crQ, csQ, ctQ, cuQ, cvQ, cwQ, cxQ, cyQ, czQ, cAQ, cBQ, cCQ, cDQ, cEQ, cFQ, cGQ, cHQ, cIQ, cJQ, cKQ, cLQ, cMQ, cNQ, cOQ, cPQ, cQQ, cRQ, cSQ, cTQ, cUQ, cVQ, cWQ, cXQ, cYQ, cZQ, daQ, dbQ, dcQ, ddQ, deQ, dfQ, dgQ, dhQ, diQ, djQ, dkQ, dlQ, dmQ, dnQ, doQ, dpQ, dqQ, drQ, dsQ, dtQ, duQ, dvQ, dwQ, dxQ, dyQ, dzQ, dAQ, dBQ, dCQ, dDQ, dEQ, dFQ, dGQ, dHQ, dIQ, dJQ, dKQ, dLQ, dMQ, dNQ, dOQ, dPQ, dQQ, dRQ, dSQ, dTQ, dUQ, dVQ, dWQ, dXQ, dYQ, dZQ, eaQ, ebQ, ecQ, edQ, eeQ, efQ, egQ, ehQ, eiQ, ejQ, ekQ, elQ, emQ, enQ, eoQ, epQ, eqQ, erQ, esQ, etQ, euQ, evQ, ewQ, exQ, eyQ, ezQ, eAQ, eBQ, eCQ, eDQ, eEQ, eFQ, eGQ, eHQ, eIQ, eJQ, eKQ, eLQ, eMQ, eNQ, eOQ, ePQ, eQQ, eRQ, eSQ, eTQ, eUQ, eVQ, eWQ, eXQ, eYQ, eZQ, faQ, fbQ, fcQ, fdQ, feQ, ffQ, fgQ, fhQ, fiQ, fjQ, fkQ, flQ, fmQ, fnQ, foQ, fpQ, fqQ, frQ, fsQ, ftQ, fuQ, fvQ, fwQ, fxQ, fyQ, fzQ, fAQ, fBQ, fCQ, fDQ, fEQ, fFQ, fGQ, fHQ, fIQ, fJQ, fKQ, fLQ, fMQ, fNQ, fOQ, fPQ, fQQ, fRQ, fSQ, fTQ, fUQ, fVQ, fWQ, fXQ, fYQ, fZQ, gaQ, gbQ, gcQ, gdQ, geQ, gfQ, ggQ, ghQ, giQ, gjQ, gkQ, glQ, gmQ, gnQ, goQ, gpQ, gqQ, grQ, gsQ, gtQ, guQ, gvQ, gwQ, gxQ, gyQ, gzQ, gAQ, gBQ, gCQ, gDQ, gEQ, gFQ, gGQ, gHQ, gIQ, gJQ, gKQ, gLQ, gMQ, gNQ, gOQ, gPQ, gQQ, gRQ, gSQ, gTQ, gUQ, gVQ, gWQ, gXQ, gYQ, gZQ, haQ, hbQ, hcQ, hdQ, heQ, hfQ, hgQ, hhQ, hiQ, hjQ, hkQ, hlQ, hmQ, hnQ, hoQ, hpQ, hqQ, hrQ, hsQ, htQ, huQ, hvQ, hwQ, hxQ, hyQ, hzQ, hAQ, hBQ, hCQ, hDQ, hEQ, hFQ, hGQ, hHQ, hIQ, hJQ, hKQ, hLQ, hMQ, hNQ, hOQ, hPQ, hQQ, hRQ, hSQ, hTQ, hUQ, hVQ, hWQ, hXQ, hYQ, hZQ, iaQ, euQ, etQ, exQ, ibQ, icQ, rRow_ok hr, rHues_ok h1 h2, rBelow (r := r) (h := h) (by omega : r.length ≤ 1000), a, Bool.false_eq_true, if_false]
theorem rBoth_ok (hr : HRow r h) : m_require_both [rowD r, .int h] L = .ok .non L := by
  have a : (r.all fun x => decide (x < h)) = true := List.all_eq_true.mpr fun x hx => decide_eq_true (hr.lt x hx)
  have hl := hr.l2
  simp only [u_require_both, F_require_both, aaQ, abQ, acQ, adQ, aeQ, afQ, agQ, ahQ, aiQ, ajQ, akQ, alQ, amQ, anQ, aoQ, apQ, aqQ, arQ, asQ, atQ, auQ, avQ, awQ, axQ, ayQ, azQ, aAQ, aBQ, aCQ, aDQ, aEQ, aFQ, aGQ, aHQ, aIQ, aJQ, aKQ, aLQ, aMQ, aNQ, aOQ, aPQ, aQQ, aRQ, aSQ, aTQ, aUQ, aVQ, aWQ, aXQ, aYQ, aZQ, baQ, bbQ, bcQ, bdQ, beQ, bfQ, bgQ, bhQ, biQ, bjQ, bkQ, blQ, bmQ, bnQ, boQ, bpQ, bqQ, brQ, bsQ, btQ, buQ, bvQ, bwQ, bxQ, byQ, bzQ, bAQ, bBQ, bCQ, bDQ, bEQ, bFQ, bGQ, bHQ, bIQ, bJQ, bKQ, bLQ, bMQ, bNQ, bOQ, bPQ, bQQ, bRQ, bSQ, bTQ, bUQ, bVQ, bWQ, bXQ, bYQ, bZQ, caQ, cbQ, ccQ, cdQ, ceQ, cfQ, cgQ, chQ, ciQ, cjQ, ckQ, clQ, cmQ, cnQ, coQ, cpQ, cqQ, crQ, csQ, ctQ, cuQ, cvQ, cwQ, cxQ, cyQ, czQ, cAQ, cBQ, cCQ, cDQ, cEQ, cFQ, cGQ, cHQ, cIQ, cJQ, cKQ, cLQ, cMQ, cNQ, cOQ, cPQ, cQQ, cRQ, cSQ, cTQ, cUQ, cVQ, cWQ, cXQ, cYQ, cZQ, daQ, dbQ, dcQ, ddQ, deQ, dfQ, dgQ, dhQ, diQ, djQ, dkQ, dlQ, dmQ, dnQ, doQ, dpQ, dqQ, drQ, dsQ, dtQ, duQ, dvQ, dwQ, dxQ, dyQ, dzQ, dAQ, dBQ, dCQ, dDQ, dEQ, dFQ, dGQ, dHQ, dIQ, dJQ, dKQ, dLQ, dMQ, dNQ, dOQ, dPQ, dQQ, dRQ, dSQ, dTQ, dUQ, dVQ, dWQ, dXQ, dYQ, dZQ, eaQ, ebQ, ecQ, edQ, eeQ, efQ, egQ, ehQ, eiQ, ejQ, ekQ, elQ, emQ, enQ, eoQ, epQ, eqQ, erQ, esQ, etQ, euQ, evQ, ewQ, exQ, eyQ, ezQ, eAQ, eBQ, eCQ, eDQ, eEQ, eFQ, eGQ, eHQ, eIQ, eJQ, eKQ, eLQ, eMQ, eNQ, eOQ, ePQ, eQQ, eRQ, eSQ, eTQ, eUQ, eVQ, eWQ, eXQ, eYQ, eZQ, faQ, fbQ, fcQ, fdQ, feQ, ffQ, fgQ, fhQ, fiQ, fjQ, fkQ, flQ, fmQ, fnQ, foQ, fpQ, fqQ, frQ, fsQ, ftQ, fuQ, fvQ, fwQ, fxQ, fyQ, fzQ, fAQ, fBQ, fCQ, fDQ, fEQ, fFQ, fGQ, fHQ, fIQ, fJQ, fKQ, fLQ, fMQ, fNQ, fOQ, fPQ, fQQ, fRQ, fSQ, fTQ, fUQ, fVQ, fWQ, fXQ, fYQ, fZQ, gaQ, gbQ, gcQ, gdQ, geQ, gfQ, ggQ, ghQ, giQ, gjQ, gkQ, glQ, gmQ, gnQ, goQ, gpQ, gqQ, grQ, gsQ, gtQ, guQ, gvQ, gwQ, gxQ, gyQ, gzQ, gAQ, gBQ, gCQ, gDQ, gEQ, gFQ, gGQ, gHQ, gIQ, gJQ, gKQ, gLQ, gMQ, gNQ, gOQ, gPQ, gQQ, gRQ, gSQ, gTQ, gUQ, gVQ, gWQ, gXQ, gYQ, gZQ, haQ, hbQ, hcQ, hdQ, heQ, hfQ, hgQ, hhQ, hiQ, hjQ, hkQ, hlQ, hmQ, hnQ, hoQ, hpQ, hqQ, hrQ, hsQ, htQ, huQ, hvQ, hwQ, hxQ, hyQ, hzQ, hAQ, hBQ, hCQ, hDQ, hEQ, hFQ, hGQ, hHQ, hIQ, hJQ, hKQ, hLQ, hMQ, hNQ, hOQ, hPQ, hQQ, hRQ, hSQ, hTQ, hUQ, hVQ, hWQ, hXQ, hYQ, hZQ, iaQ, euQ, etQ, exQ, ibQ, icQ, rRow_ok hr.toIsRow, rHues_ok hr.h1 hr.h2, rBelow (r := r) (h := h) (by omega : r.length ≤ 1000), a, if_true]
theorem rHue_no (k : NotInt 0 (h - 1) d) : m_require_hue [d, .int h] L = .err "InvalidNumber" [("value", d)] L := by
  simp only [u_require_hue, F_require_hue, aaQ, abQ, acQ, adQ, aeQ, afQ, agQ, ahQ, aiQ, ajQ, akQ, alQ, amQ, anQ, aoQ, apQ, aqQ, arQ, asQ, atQ, auQ, avQ, awQ, axQ, ayQ, azQ, aAQ, aBQ, aCQ, aDQ, aEQ, aFQ, aGQ, aHQ, aIQ, aJQ, aKQ, aLQ, aMQ, aNQ, aOQ, aPQ, aQQ, aRQ, aSQ, aTQ, aUQ, aVQ, aWQ, aXQ, aYQ, aZQ, baQ, bbQ, bcQ, bdQ, beQ, bfQ, bgQ, bhQ, biQ, bjQ, bkQ, blQ, bmQ, bnQ, boQ, bpQ, bqQ, brQ, bsQ, btQ, buQ, bvQ, bwQ, bxQ, byQ, bzQ, bAQ, bBQ, bCQ, bDQ, bEQ, bFQ, bGQ, bHQ, bIQ, bJQ, bKQ, bLQ, bMQ, bNQ, bOQ, bPQ, bQQ, bRQ, bSQ, bTQ, bUQ, bVQ, bWQ, bXQ, bYQ, bZQ, caQ, cbQ, ccQ, cdQ, ceQ, cfQ, cgQ, chQ, ciQ, cjQ, ckQ, clQ, cmQ, cnQ, coQ, cpQ, cqQ, crQ, csQ, ctQ, cuQ, cvQ, cwQ, cxQ, cyQ, czQ, cAQ, cBQ, cCQ, cDQ, cEQ, cFQ, cGQ, cHQ, cIQ, cJQ, cKQ, cLQ, cMQ, cNQ, cOQ, cPQ, cQQ, cRQ, cSQ, cTQ, cUQ, cVQ, cWQ, cXQ, cYQ, cZQ, daQ, dbQ, dcQ, ddQ, deQ, dfQ, dgQ, dhQ, diQ, djQ, dkQ, dlQ, dmQ, dnQ, doQ, dpQ, dqQ, drQ, dsQ, dtQ, duQ, dvQ, dwQ, dxQ, dyQ, dzQ, dAQ, dBQ, dCQ, dDQ, dEQ, dFQ, dGQ, dHQ, dIQ, dJQ, dKQ, dLQ, dMQ, dNQ, dOQ, dPQ, dQQ, dRQ, dSQ, dTQ, dUQ, dVQ, dWQ, dXQ, dYQ, dZQ, eaQ, ebQ, ecQ, edQ, eeQ, efQ, egQ, ehQ, eiQ, ejQ, ekQ, elQ, emQ, enQ, eoQ, epQ, eqQ, erQ, esQ, etQ, euQ, evQ, ewQ, exQ, eyQ, ezQ, eAQ, eBQ, eCQ, eDQ, eEQ, eFQ, eGQ, eHQ, eIQ, eJQ, eKQ, eLQ, eMQ, eNQ, eOQ, ePQ, eQQ, eRQ, eSQ, eTQ, eUQ, eVQ, eWQ, eXQ, eYQ, eZQ, faQ, fbQ, fcQ, fdQ, feQ, ffQ, fgQ, fhQ, fiQ, fjQ, fkQ, flQ, fmQ, fnQ, foQ, fpQ, fqQ, frQ, fsQ, ftQ, fuQ, fvQ, fwQ, fxQ, fyQ, fzQ, fAQ, fBQ, fCQ, fDQ, fEQ, fFQ, fGQ, fHQ, fIQ, fJQ, fKQ, fLQ, fMQ, fNQ, fOQ, fPQ, fQQ, fRQ, fSQ, fTQ, fUQ, fVQ, fWQ, fXQ, fYQ, fZQ, gaQ, gbQ, gcQ, gdQ, geQ, gfQ, ggQ, ghQ, giQ, gjQ, gkQ, glQ, gmQ, gnQ, goQ, gpQ, gqQ, grQ, gsQ, gtQ, guQ, gvQ, gwQ, gxQ, gyQ, gzQ, gAQ, gBQ, gCQ, gDQ, gEQ, gFQ, gGQ, gHQ, gIQ, gJQ, gKQ, gLQ, gMQ, gNQ, gOQ, gPQ, gQQ, gRQ, gSQ, gTQ, gUQ, gVQ, gWQ, gXQ, gYQ, gZQ, haQ, hbQ, hcQ, hdQ, heQ, hfQ, hgQ, hhQ, hiQ, hjQ, hkQ, hlQ, hmQ, hnQ, hoQ, hpQ, hqQ, hrQ, hsQ, htQ, huQ, hvQ, hwQ, hxQ, hyQ, hzQ, hAQ, hBQ, hCQ, hDQ, hEQ, hFQ, hGQ, hHQ, hIQ, hJQ, hKQ, hLQ, hMQ, hNQ, hOQ, hPQ, hQQ, hRQ, hSQ, hTQ, hUQ, hVQ, hWQ, hXQ, hYQ, hZQ, iaQ, euQ, etQ, exQ, ibQ, icQ, k.no, Bool.not_false, if_true]
theorem rHue_ok {x : Int} (h0 : 0 ≤ x) (h1 : x < h) : m_require_hue [.int x, .int h] L = .ok .non L := by
  simp only [u_require_hue, F_require_hue, aaQ, abQ, acQ, adQ, aeQ, afQ, agQ, ahQ, aiQ, ajQ, akQ, alQ, amQ, anQ, aoQ, apQ, aqQ, arQ, asQ, atQ, auQ, avQ, awQ, axQ, ayQ, azQ, aAQ, aBQ, aCQ, aDQ, aEQ, aFQ, aGQ, aHQ, aIQ, aJQ, aKQ, aLQ, aMQ, aNQ, aOQ, aPQ, aQQ, aRQ, aSQ, aTQ, aUQ, aVQ, aWQ, aXQ, aYQ, aZQ, baQ, bbQ, bcQ, bdQ, beQ, bfQ, bgQ, bhQ, biQ, bjQ, bkQ, blQ, bmQ, bnQ, boQ, bpQ, bqQ, brQ, bsQ, btQ, buQ, bvQ, bwQ, bxQ, byQ, bzQ, bAQ, bBQ, bCQ, bDQ, bEQ, bFQ, bGQ, bHQ, bIQ, bJQ, bKQ, bLQ, bMQ, bNQ, bOQ, bPQ, bQQ, bRQ, bSQ, bTQ, bUQ, bVQ, bWQ, bXQ, bYQ, bZQ, caQ, cbQ, ccQ, cdQ, ceQ, cfQ, cgQ, chQ, ciQ, cjQ, ckQ, clQ, cmQ, cnQ, coQ, cpQ, cqQ, crQ, csQ, ctQ, cuQ, cvQ, cwQ, cxQ, cyQ, czQ, cAQ, cBQ, cCQ, cDQ, cEQ, cFQ, cGQ, cHQ, cIQ, cJQ, cKQ, cLQ, cMQ, cNQ, cOQ, cPQ, cQQ, cRQ, cSQ, cTQ, cUQ, cVQ, cWQ, cXQ, cYQ, cZQ, daQ, dbQ, dcQ, ddQ, deQ, dfQ, dgQ, dhQ, diQ, djQ, dkQ, dlQ, dmQ, dnQ, doQ, dpQ, dqQ, drQ, dsQ, dtQ, duQ, dvQ, dwQ, dxQ, dyQ, dzQ, dAQ, dBQ, dCQ, dDQ, dEQ, dFQ, dGQ, dHQ, dIQ, dJQ, dKQ, dLQ, dMQ, dNQ, dOQ, dPQ, dQQ, dRQ, dSQ, dTQ, dUQ, dVQ, dWQ, dXQ, dYQ, dZQ, eaQ, ebQ, ecQ, edQ, eeQ, efQ, egQ, ehQ, eiQ, ejQ, ekQ, elQ, emQ, enQ, eoQ, epQ, eqQ, erQ, esQ, etQ, euQ, evQ, ewQ, exQ, eyQ, ezQ, eAQ, eBQ, eCQ, eDQ, eEQ, eFQ, eGQ, eHQ, eIQ, eJQ, eKQ, eLQ, eMQ, eNQ, eOQ, ePQ, eQQ, eRQ, eSQ, eTQ, eUQ, eVQ, eWQ, eXQ, eYQ, eZQ, faQ, fbQ, fcQ, fdQ, feQ, ffQ, fgQ, fhQ, fiQ, fjQ, fkQ, flQ, fmQ, fnQ, foQ, fpQ, fqQ, frQ, fsQ, ftQ, fuQ, fvQ, fwQ, fxQ, fyQ, fzQ, fAQ, fBQ, fCQ, fDQ, fEQ, fFQ, fGQ, fHQ, fIQ, fJQ, fKQ, fLQ, fMQ, fNQ, fOQ, fPQ, fQQ, fRQ, fSQ, fTQ, fUQ, fVQ, fWQ, fXQ, fYQ, fZQ, gaQ, gbQ, gcQ, gdQ, geQ, gfQ, ggQ, ghQ, giQ, gjQ, gkQ, glQ, gmQ, gnQ, goQ, gpQ, gqQ, grQ, gsQ, gtQ, guQ, gvQ, gwQ, gxQ, gyQ, gzQ, gAQ, gBQ, gCQ, gDQ, gEQ, gFQ, gGQ, gHQ, gIQ, gJQ, gKQ, gLQ, gMQ, gNQ, gOQ, gPQ, gQQ, gRQ, gSQ, gTQ, gUQ, gVQ, gWQ, gXQ, gYQ, gZQ, haQ, hbQ, hcQ, hdQ, heQ, hfQ, hgQ, hhQ, hiQ, hjQ, hkQ, hlQ, hmQ, hnQ, hoQ, hpQ, hqQ, hrQ, hsQ, htQ, huQ, hvQ, hwQ, hxQ, hyQ, hzQ, hAQ, hBQ, hCQ, hDQ, hEQ, hFQ, hGQ, hHQ, hIQ, hJQ, hKQ, hLQ, hMQ, hNQ, hOQ, hPQ, hQQ, hRQ, hSQ, hTQ, hUQ, hVQ, hWQ, hXQ, hYQ, hZQ, iaQ, euQ, etQ, exQ, ibQ, icQ, sInt_ii, decide_eq_true h0, decide_eq_true (show x ≤ h - 1 by omega), Bool.and_self, Bool.not_true, Bool.false_eq_true, if_false]
theorem sizesIn (h0 : 0 ≤ h) (h1 : h ≤ 20) : m_sizes_in [rowD r, .int h] L = .ok (.lst ((cnt r h).map .int)) L := by
  have c : C1_sizes_in [some (rowD r), some (.int h), none] L = .ok (.lst ((cnt r h).map .int)) L := by
    unfold cnt
    rw [List.map_map]
    refine lc_map (box := false) (List.range h.toNat) natD _ (src := []) (L1 := L) ?_ srcOk_nil (by rw [List.length_range]; omega) fun i hi => ?_
    · simp only [aaQ, abQ, acQ, adQ, aeQ, afQ, agQ, ahQ, aiQ, ajQ, akQ, alQ, amQ, anQ, aoQ, apQ, aqQ, arQ, asQ, atQ, auQ, avQ, awQ, axQ, ayQ, azQ, aAQ, aBQ, aCQ, aDQ, aEQ, aFQ, aGQ, aHQ, aIQ, aJQ, aKQ, aLQ, aMQ, aNQ, aOQ, aPQ, aQQ, aRQ, aSQ, aTQ, aUQ, aVQ, aWQ, aXQ, aYQ, aZQ, baQ, bbQ, bcQ, bdQ, beQ, bfQ, bgQ, bhQ, biQ, bjQ, bkQ, blQ, bmQ, bnQ, boQ, bpQ, bqQ, brQ, bsQ, btQ, buQ, bvQ, bwQ, bxQ, byQ, bzQ, bAQ, bBQ, bCQ, bDQ, bEQ, bFQ, bGQ, bHQ, bIQ, bJQ, bKQ, bLQ, bMQ, bNQ, bOQ, bPQ, bQQ, bRQ, bSQ, bTQ, bUQ, bVQ, bWQ, bXQ, bYQ, bZQ, caQ, cbQ, ccQ, cdQ, ceQ, cfQ, cgQ, chQ, ciQ, cjQ, ckQ, clQ, cmQ, cnQ, coQ, cpQ, cqQ, crQ, csQ, ctQ, cuQ, cvQ, cwQ, cxQ, cyQ, czQ, cAQ, cBQ, cCQ, cDQ, cEQ, cFQ, cGQ, cHQ, cIQ, cJQ, cKQ, cLQ, cMQ, cNQ, cOQ, cPQ, cQQ, cRQ, cSQ, cTQ, cUQ, cVQ, cWQ, cXQ, cYQ, cZQ, daQ, dbQ, dcQ, ddQ, deQ, dfQ, dgQ, dhQ, diQ, djQ, dkQ, dlQ, dmQ, dnQ, doQ, dpQ, dqQ, drQ, dsQ, dtQ, duQ, dvQ, dwQ, dxQ, dyQ, dzQ, dAQ, dBQ, dCQ, dDQ, dEQ, dFQ, dGQ, dHQ, dIQ, dJQ, dKQ, dLQ, dMQ, dNQ, dOQ, dPQ, dQQ, dRQ, dSQ, dTQ, dUQ, dVQ, dWQ, dXQ, dYQ, dZQ, eaQ, ebQ, ecQ, edQ, eeQ, efQ, egQ, ehQ, eiQ, ejQ, ekQ, elQ, emQ, enQ, eoQ, epQ, eqQ, erQ, esQ, etQ, euQ, evQ, ewQ, exQ, eyQ, ezQ, eAQ, eBQ, eCQ, eDQ, eEQ, eFQ, eGQ, eHQ, eIQ, eJQ, eKQ, eLQ, eMQ, eNQ, eOQ, ePQ, eQQ, eRQ, eSQ, eTQ, eUQ, eVQ, eWQ, eXQ, eYQ, eZQ, faQ, fbQ, fcQ, fdQ, feQ, ffQ, fgQ, fhQ, fiQ, fjQ, fkQ, flQ, fmQ, fnQ, foQ, fpQ, fqQ, frQ, fsQ, ftQ, fuQ, fvQ, fwQ, fxQ, fyQ, fzQ, fAQ, fBQ, fCQ, fDQ, fEQ, fFQ, fGQ, fHQ, fIQ, fJQ, fKQ, fLQ, fMQ, fNQ, fOQ, fPQ, fQQ, fRQ, fSQ, fTQ, fUQ, fVQ, fWQ, fXQ, fYQ, fZQ, gaQ, gbQ, gcQ, gdQ, geQ, gfQ, ggQ, ghQ, giQ, gjQ, gkQ, glQ, gmQ, gnQ, goQ, gpQ, gqQ, grQ, gsQ, gtQ, guQ, gvQ, gwQ, gxQ, gyQ, gzQ, gAQ, gBQ, gCQ, gDQ, gEQ, gFQ, gGQ, gHQ, gIQ, gJQ, gKQ, gLQ, gMQ, gNQ, gOQ, gPQ, gQQ, gRQ, gSQ, gTQ, gUQ, gVQ, gWQ, gXQ, gYQ, gZQ, haQ, hbQ, hcQ, hdQ, heQ, hfQ, hgQ, hhQ, hiQ, hjQ, hkQ, hlQ, hmQ, hnQ, hoQ, hpQ, hqQ, hrQ, hsQ, htQ, huQ, hvQ, hwQ, hxQ, hyQ, hzQ, hAQ, hBQ, hCQ, hDQ, hEQ, hFQ, hGQ, hHQ, hIQ, hJQ, hKQ, hLQ, hMQ, hNQ, hOQ, hPQ, hQQ, hRQ, hSQ, hTQ, hUQ, hVQ, hWQ, hXQ, hYQ, hZQ, iaQ, euQ, etQ, exQ, ibQ, icQ, gwQ h0 (show h ≤ 1000000 by omega)]
    · simp only [aaQ, abQ, acQ, adQ, aeQ, afQ, agQ, ahQ, aiQ, ajQ, akQ, alQ, amQ, anQ, aoQ, apQ, aqQ, arQ, asQ, atQ, auQ, avQ, awQ, axQ, ayQ, azQ, aAQ, aBQ, aCQ, aDQ, aEQ, aFQ, aGQ, aHQ, aIQ, aJQ, aKQ, aLQ, aMQ, aNQ, aOQ, aPQ, aQQ, aRQ, aSQ, aTQ, aUQ, aVQ, aWQ, aXQ, aYQ, aZQ, baQ, bbQ, bcQ, bdQ, beQ, bfQ, bgQ, bhQ, biQ, bjQ, bkQ, blQ, bmQ, bnQ, boQ, bpQ, bqQ, brQ, bsQ, btQ, buQ, bvQ, bwQ, bxQ, byQ, bzQ, bAQ, bBQ, bCQ, bDQ, bEQ, bFQ, bGQ, bHQ, bIQ, bJQ, bKQ, bLQ, bMQ, bNQ, bOQ, bPQ, bQQ, bRQ, bSQ, bTQ, bUQ, bVQ, bWQ, bXQ, bYQ, bZQ, caQ, cbQ, ccQ, cdQ, ceQ, cfQ, cgQ, chQ, ciQ, cjQ, ckQ, clQ, cmQ, cnQ, coQ, cpQ, cqQ, crQ, csQ, ctQ, cuQ, cvQ, cwQ, cxQ, cyQ, czQ, cAQ, cBQ, cCQ, cDQ, cEQ, cFQ, cGQ, cHQ, cIQ, cJQ, cKQ, cLQ, cMQ, cNQ, cOQ, cPQ, cQQ, cRQ, cSQ, cTQ, cUQ, cVQ, cWQ, cXQ, cYQ, cZQ, daQ, dbQ, dcQ, ddQ, deQ, dfQ, dgQ, dhQ, diQ, djQ, dkQ, dlQ, dmQ, dnQ, doQ, dpQ, dqQ, drQ, dsQ, dtQ, duQ, dvQ, dwQ, dxQ, dyQ, dzQ, dAQ, dBQ, dCQ, dDQ, dEQ, dFQ, dGQ, dHQ, dIQ, dJQ, dKQ, dLQ, dMQ, dNQ, dOQ, dPQ, dQQ, dRQ, dSQ, dTQ, dUQ, dVQ, dWQ, dXQ, dYQ, dZQ, eaQ, ebQ, ecQ, edQ, eeQ, efQ, egQ, ehQ, eiQ, ejQ, ekQ, elQ, emQ, enQ, eoQ, epQ, eqQ, erQ, esQ, etQ, euQ, evQ, ewQ, exQ, eyQ, ezQ, eAQ, eBQ, eCQ, eDQ, eEQ, eFQ, eGQ, eHQ, eIQ, eJQ, eKQ, eLQ, eMQ, eNQ, eOQ, ePQ, eQQ, eRQ, eSQ, eTQ, eUQ, eVQ, eWQ, eXQ, eYQ, eZQ, faQ, fbQ, fcQ, fdQ, feQ, ffQ, fgQ, fhQ, fiQ, fjQ, fkQ, flQ, fmQ, fnQ, foQ, fpQ, fqQ, frQ, fsQ, ftQ, fuQ, fvQ, fwQ, fxQ, fyQ, fzQ, fAQ, fBQ, fCQ, fDQ, fEQ, fFQ, fGQ, fHQ, fIQ, fJQ, fKQ, fLQ, fMQ, fNQ, fOQ, fPQ, fQQ, fRQ, fSQ, fTQ, fUQ, fVQ, fWQ, fXQ, fYQ, fZQ, gaQ, gbQ, gcQ, gdQ, geQ, gfQ, ggQ, ghQ, giQ, gjQ, gkQ, glQ, gmQ, gnQ, goQ, gpQ, gqQ, grQ, gsQ, gtQ, guQ, gvQ, gwQ, gxQ, gyQ, gzQ, gAQ, gBQ, gCQ, gDQ, gEQ, gFQ, gGQ, gHQ, gIQ, gJQ, gKQ, gLQ, gMQ, gNQ, gOQ, gPQ, gQQ, gRQ, gSQ, gTQ, gUQ, gVQ, gWQ, gXQ, gYQ, gZQ, haQ, hbQ, hcQ, hdQ, heQ, hfQ, hgQ, hhQ, hiQ, hjQ, hkQ, hlQ, hmQ, hnQ, hoQ, hpQ, hqQ, hrQ, hsQ, htQ, huQ, hvQ, hwQ, hxQ, hyQ, hzQ, hAQ, hBQ, hCQ, hDQ, hEQ, hFQ, hGQ, hHQ, hIQ, hJQ, hKQ, hLQ, hMQ, hNQ, hOQ, hPQ, hQQ, hRQ, hSQ, hTQ, hUQ, hVQ, hWQ, hXQ, hYQ, hZQ, iaQ, euQ, etQ, exQ, ibQ, icQ, y_cm2, y_kci, y_kci2, natD, gCount_row]
      rfl
  simp only [u_sizes_in, F_sizes_in, aaQ, abQ, acQ, adQ, aeQ, afQ, agQ, ahQ, aiQ, ajQ, akQ, alQ, amQ, anQ, aoQ, apQ, aqQ, arQ, asQ, atQ, auQ, avQ, awQ, axQ, ayQ, azQ, aAQ, aBQ, aCQ, aDQ, aEQ, aFQ, aGQ, aHQ, aIQ, aJQ, aKQ, aLQ, aMQ, aNQ, aOQ, aPQ, aQQ, aRQ, aSQ, aTQ, aUQ, aVQ, aWQ, aXQ, aYQ, aZQ, baQ, bbQ, bcQ, bdQ, beQ, bfQ, bgQ, bhQ, biQ, bjQ, bkQ, blQ, bmQ, bnQ, boQ, bpQ, bqQ, brQ, bsQ, btQ, buQ, bvQ, bwQ, bxQ, byQ, bzQ, bAQ, bBQ, bCQ, bDQ, bEQ, bFQ, bGQ, bHQ, bIQ, bJQ, bKQ, bLQ, bMQ, bNQ, bOQ, bPQ, bQQ, bRQ, bSQ, bTQ, bUQ, bVQ, bWQ, bXQ, bYQ, bZQ, caQ, cbQ, ccQ, cdQ, ceQ, cfQ, cgQ, chQ, ciQ, cjQ, ckQ, clQ, cmQ, cnQ, coQ, cpQ, cqQ, crQ, csQ, ctQ, cuQ, cvQ, cwQ, cxQ, cyQ, czQ, cAQ, cBQ, cCQ, cDQ, cEQ, cFQ, cGQ, cHQ, cIQ, cJQ, cKQ, cLQ, cMQ, cNQ, cOQ, cPQ, cQQ, cRQ, cSQ, cTQ, cUQ, cVQ, cWQ, cXQ, cYQ, cZQ, daQ, dbQ, dcQ, ddQ, deQ, dfQ, dgQ, dhQ, diQ, djQ, dkQ, dlQ, dmQ, dnQ, doQ, dpQ, dqQ, drQ, dsQ, dtQ, duQ, dvQ, dwQ, dxQ, dyQ, dzQ, dAQ, dBQ, dCQ, dDQ, dEQ, dFQ, dGQ, dHQ, dIQ, dJQ, dKQ, dLQ, dMQ, dNQ, dOQ, dPQ, dQQ, dRQ, dSQ, dTQ, dUQ, dVQ, dWQ, dXQ, dYQ, dZQ, eaQ, ebQ, ecQ, edQ, eeQ, efQ, egQ, ehQ, eiQ, ejQ, ekQ, elQ, emQ, enQ, eoQ, epQ, eqQ, erQ, esQ, etQ, euQ, evQ, ewQ, exQ, eyQ, ezQ, eAQ, eBQ, eCQ, eDQ, eEQ, eFQ, eGQ, eHQ, eIQ, eJQ, eKQ, eLQ, eMQ, eNQ, eOQ, ePQ, eQQ, eRQ, eSQ, eTQ, eUQ, eVQ, eWQ, eXQ, eYQ, eZQ, faQ, fbQ, fcQ, fdQ, feQ, ffQ, fgQ, fhQ, fiQ, fjQ, fkQ, flQ, fmQ, fnQ, foQ, fpQ, fqQ, frQ, fsQ, ftQ, fuQ, fvQ, fwQ, fxQ, fyQ, fzQ, fAQ, fBQ, fCQ, fDQ, fEQ, fFQ, fGQ, fHQ, fIQ, fJQ, fKQ, fLQ, fMQ, fNQ, fOQ, fPQ, fQQ, fRQ, fSQ, fTQ, fUQ, fVQ, fWQ, fXQ, fYQ, fZQ, gaQ, gbQ, gcQ, gdQ, geQ, gfQ, ggQ, ghQ, giQ, gjQ, gkQ, glQ, gmQ, gnQ, goQ, gpQ, gqQ, grQ, gsQ, gtQ, guQ, gvQ, gwQ, gxQ, gyQ, gzQ, gAQ, gBQ, gCQ, gDQ, gEQ, gFQ, gGQ, gHQ, gIQ, gJQ, gKQ, gLQ, gMQ, gNQ, gOQ, gPQ, gQQ, gRQ, gSQ, gTQ, gUQ, gVQ, gWQ, gXQ, gYQ, gZQ, haQ, hbQ, hcQ, hdQ, heQ, hfQ, hgQ, hhQ, hiQ, hjQ, hkQ, hlQ, hmQ, hnQ, hoQ, hpQ, hqQ, hrQ, hsQ, htQ, huQ, hvQ, hwQ, hxQ, hyQ, hzQ, hAQ, hBQ, hCQ, hDQ, hEQ, hFQ, hGQ, hHQ, hIQ, hJQ, hKQ, hLQ, hMQ, hNQ, hOQ, hPQ, hQQ, hRQ, hSQ, hTQ, hUQ, hVQ, hWQ, hXQ, hYQ, hZQ, iaQ, euQ, etQ, exQ, ibQ, icQ, c]
theorem sizes_fine (hr : HRow r h) : ∃ d, ∀ L, m_sizes [rowD r, .int h] L = .ok d L := by
  have := hr.h1
  have := hr.h2
  refine ⟨.tg ((cnt r h).map .int), fun L => ?_⟩
  have gt : gTuple [.lst ((cnt r h).map .int)] L = .ok (.tg ((cnt r h).map .int)) L := gTuple_l (by rw [List.length_map]; unfold cnt; rw [List.length_map, List.length_range]; omega)
  simp only [u_sizes, F_sizes, aaQ, abQ, acQ, adQ, aeQ, afQ, agQ, ahQ, aiQ, ajQ, akQ, alQ, amQ, anQ, aoQ, apQ, aqQ, arQ, asQ, atQ, auQ, avQ, awQ, axQ, ayQ, azQ, aAQ, aBQ, aCQ, aDQ, aEQ, aFQ, aGQ, aHQ, aIQ, aJQ, aKQ, aLQ, aMQ, aNQ, aOQ, aPQ, aQQ, aRQ, aSQ, aTQ, aUQ, aVQ, aWQ, aXQ, aYQ, aZQ, baQ, bbQ, bcQ, bdQ, beQ, bfQ, bgQ, bhQ, biQ, bjQ, bkQ, blQ, bmQ, bnQ, boQ, bpQ, bqQ, brQ, bsQ, btQ, buQ, bvQ, bwQ, bxQ, byQ, bzQ, bAQ, bBQ, bCQ, bDQ, bEQ, bFQ, bGQ, bHQ, bIQ, bJQ, bKQ, bLQ, bMQ, bNQ, bOQ, bPQ, bQQ, bRQ, bSQ, bTQ, bUQ, bVQ, bWQ, bXQ, bYQ, bZQ, caQ, cbQ, ccQ, cdQ, ceQ, cfQ, cgQ, chQ, ciQ, cjQ, ckQ, clQ, cmQ, cnQ, coQ, cpQ, cqQ, crQ, csQ, ctQ, cuQ, cvQ, cwQ, cxQ, cyQ, czQ, cAQ, cBQ, cCQ, cDQ, cEQ, cFQ, cGQ, cHQ, cIQ, cJQ, cKQ, cLQ, cMQ, cNQ, cOQ, cPQ, cQQ, cRQ, cSQ, cTQ, cUQ, cVQ, cWQ, cXQ, cYQ, cZQ, daQ, dbQ, dcQ, ddQ, deQ, dfQ, dgQ, dhQ, diQ, djQ, dkQ, dlQ, dmQ, dnQ, doQ, dpQ, dqQ, drQ, dsQ, dtQ, duQ, dvQ, dwQ, dxQ, dyQ, dzQ, dAQ, dBQ, dCQ, dDQ, dEQ, dFQ, dGQ, dHQ, dIQ, dJQ, dKQ, dLQ, dMQ, dNQ, dOQ, dPQ, dQQ, dRQ, dSQ, dTQ, dUQ, dVQ, dWQ, dXQ, dYQ, dZQ, eaQ, ebQ, ecQ, edQ, eeQ, efQ, egQ, ehQ, eiQ, ejQ, ekQ, elQ, emQ, enQ, eoQ, epQ, eqQ, erQ, esQ, etQ, euQ, evQ, ewQ, exQ, eyQ, ezQ, eAQ, eBQ, eCQ, eDQ, eEQ, eFQ, eGQ, eHQ, eIQ, eJQ, eKQ, eLQ, eMQ, eNQ, eOQ, ePQ, eQQ, eRQ, eSQ, eTQ, eUQ, eVQ, eWQ, eXQ, eYQ, eZQ, faQ, fbQ, fcQ, fdQ, feQ, ffQ, fgQ, fhQ, fiQ, fjQ, fkQ, flQ, fmQ, fnQ, foQ, fpQ, fqQ, frQ, fsQ, ftQ, fuQ, fvQ, fwQ, fxQ, fyQ, fzQ, fAQ, fBQ, fCQ, fDQ, fEQ, fFQ, fGQ, fHQ, fIQ, fJQ, fKQ, fLQ, fMQ, fNQ, fOQ, fPQ, fQQ, fRQ, fSQ, fTQ, fUQ, fVQ, fWQ, fXQ, fYQ, fZQ, gaQ, gbQ, gcQ, gdQ, geQ, gfQ, ggQ, ghQ, giQ, gjQ, gkQ, glQ, gmQ, gnQ, goQ, gpQ, gqQ, grQ, gsQ, gtQ, guQ, gvQ, gwQ, gxQ, gyQ, gzQ, gAQ, gBQ, gCQ, gDQ, gEQ, gFQ, gGQ, gHQ, gIQ, gJQ, gKQ, gLQ, gMQ, gNQ, gOQ, gPQ, gQQ, gRQ, gSQ, gTQ, gUQ, gVQ, gWQ, gXQ, gYQ, gZQ, haQ, hbQ, hcQ, hdQ, heQ, hfQ, hgQ, hhQ, hiQ, hjQ, hkQ, hlQ, hmQ, hnQ, hoQ, hpQ, hqQ, hrQ, hsQ, htQ, huQ, hvQ, hwQ, hxQ, hyQ, hzQ, hAQ, hBQ, hCQ, hDQ, hEQ, hFQ, hGQ, hHQ, hIQ, hJQ, hKQ, hLQ, hMQ, hNQ, hOQ, hPQ, hQQ, hRQ, hSQ, hTQ, hUQ, hVQ, hWQ, hXQ, hYQ, hZQ, iaQ, euQ, etQ, exQ, ibQ, icQ, rBoth_ok hr, sizesIn (r := r) (h := h) (by omega) hr.h2, gt]
theorem cnt_ne' (h1 : 1 ≤ h) : cnt r h ≠ [] := fun e => by
  have := congrArg List.length e
  unfold cnt at this
  rw [List.length_map, List.length_range, List.length_nil] at this
  omega
theorem spread_fine (hr : HRow r h) : ∃ d, ∀ L, m_spread [rowD r, .int h] L = .ok d L := by
  have := hr.h1
  have ne := cnt_ne' (r := r) hr.h1
  refine ⟨.int (mx (cnt r h) - mn (cnt r h)), fun L => ?_⟩
  simp only [u_spread, F_spread, aaQ, abQ, acQ, adQ, aeQ, afQ, agQ, ahQ, aiQ, ajQ, akQ, alQ, amQ, anQ, aoQ, apQ, aqQ, arQ, asQ, atQ, auQ, avQ, awQ, axQ, ayQ, azQ, aAQ, aBQ, aCQ, aDQ, aEQ, aFQ, aGQ, aHQ, aIQ, aJQ, aKQ, aLQ, aMQ, aNQ, aOQ, aPQ, aQQ, aRQ, aSQ, aTQ, aUQ, aVQ, aWQ, aXQ, aYQ, aZQ, baQ, bbQ, bcQ, bdQ, beQ, bfQ, bgQ, bhQ, biQ, bjQ, bkQ, blQ, bmQ, bnQ, boQ, bpQ, bqQ, brQ, bsQ, btQ, buQ, bvQ, bwQ, bxQ, byQ, bzQ, bAQ, bBQ, bCQ, bDQ, bEQ, bFQ, bGQ, bHQ, bIQ, bJQ, bKQ, bLQ, bMQ, bNQ, bOQ, bPQ, bQQ, bRQ, bSQ, bTQ, bUQ, bVQ, bWQ, bXQ, bYQ, bZQ, caQ, cbQ, ccQ, cdQ, ceQ, cfQ, cgQ, chQ, ciQ, cjQ, ckQ, clQ, cmQ, cnQ, coQ, cpQ, cqQ, crQ, csQ, ctQ, cuQ, cvQ, cwQ, cxQ, cyQ, czQ, cAQ, cBQ, cCQ, cDQ, cEQ, cFQ, cGQ, cHQ, cIQ, cJQ, cKQ, cLQ, cMQ, cNQ, cOQ, cPQ, cQQ, cRQ, cSQ, cTQ, cUQ, cVQ, cWQ, cXQ, cYQ, cZQ, daQ, dbQ, dcQ, ddQ, deQ, dfQ, dgQ, dhQ, diQ, djQ, dkQ, dlQ, dmQ, dnQ, doQ, dpQ, dqQ, drQ, dsQ, dtQ, duQ, dvQ, dwQ, dxQ, dyQ, dzQ, dAQ, dBQ, dCQ, dDQ, dEQ, dFQ, dGQ, dHQ, dIQ, dJQ, dKQ, dLQ, dMQ, dNQ, dOQ, dPQ, dQQ, dRQ, dSQ, dTQ, dUQ, dVQ, dWQ, dXQ, dYQ, dZQ, eaQ, ebQ, ecQ, edQ, eeQ, efQ, egQ, ehQ, eiQ, ejQ, ekQ, elQ, emQ, enQ, eoQ, epQ, eqQ, erQ, esQ, etQ, euQ, evQ, ewQ, exQ, eyQ, ezQ, eAQ, eBQ, eCQ, eDQ, eEQ, eFQ, eGQ, eHQ, eIQ, eJQ, eKQ, eLQ, eMQ, eNQ, eOQ, ePQ, eQQ, eRQ, eSQ, eTQ, eUQ, eVQ, eWQ, eXQ, eYQ, eZQ, faQ, fbQ, fcQ, fdQ, feQ, ffQ, fgQ, fhQ, fiQ, fjQ, fkQ, flQ, fmQ, fnQ, foQ, fpQ, fqQ, frQ, fsQ, ftQ, fuQ, fvQ, fwQ, fxQ, fyQ, fzQ, fAQ, fBQ, fCQ, fDQ, fEQ, fFQ, fGQ, fHQ, fIQ, fJQ, fKQ, fLQ, fMQ, fNQ, fOQ, fPQ, fQQ, fRQ, fSQ, fTQ, fUQ, fVQ, fWQ, fXQ, fYQ, fZQ, gaQ, gbQ, gcQ, gdQ, geQ, gfQ, ggQ, ghQ, giQ, gjQ, gkQ, glQ, gmQ, gnQ, goQ, gpQ, gqQ, grQ, gsQ, gtQ, guQ, gvQ, gwQ, gxQ, gyQ, gzQ, gAQ, gBQ, gCQ, gDQ, gEQ, gFQ, gGQ, gHQ, gIQ, gJQ, gKQ, gLQ, gMQ, gNQ, gOQ, gPQ, gQQ, gRQ, gSQ, gTQ, gUQ, gVQ, gWQ, gXQ, gYQ, gZQ, haQ, hbQ, hcQ, hdQ, heQ, hfQ, hgQ, hhQ, hiQ, hjQ, hkQ, hlQ, hmQ, hnQ, hoQ, hpQ, hqQ, hrQ, hsQ, htQ, huQ, hvQ, hwQ, hxQ, hyQ, hzQ, hAQ, hBQ, hCQ, hDQ, hEQ, hFQ, hGQ, hHQ, hIQ, hJQ, hKQ, hLQ, hMQ, hNQ, hOQ, hPQ, hQQ, hRQ, hSQ, hTQ, hUQ, hVQ, hWQ, hXQ, hYQ, hZQ, iaQ, euQ, etQ, exQ, ibQ, icQ, rBoth_ok hr, sizesIn (r := r) (h := h) (by omega) hr.h2, gMax_ints ne, gMin_ints ne, erQ]
theorem level_fine (hr : HRow r h) : ∃ d, ∀ L, m_is_level [rowD r, .int h] L = .ok d L := by
  have := hr.h1
  have ne := cnt_ne' (r := r) hr.h1
  refine ⟨.bl (decide (mx (cnt r h) - mn (cnt r h) < 2)), fun L => ?_⟩
  simp only [u_is_level, F_is_level, aaQ, abQ, acQ, adQ, aeQ, afQ, agQ, ahQ, aiQ, ajQ, akQ, alQ, amQ, anQ, aoQ, apQ, aqQ, arQ, asQ, atQ, auQ, avQ, awQ, axQ, ayQ, azQ, aAQ, aBQ, aCQ, aDQ, aEQ, aFQ, aGQ, aHQ, aIQ, aJQ, aKQ, aLQ, aMQ, aNQ, aOQ, aPQ, aQQ, aRQ, aSQ, aTQ, aUQ, aVQ, aWQ, aXQ, aYQ, aZQ, baQ, bbQ, bcQ, bdQ, beQ, bfQ, bgQ, bhQ, biQ, bjQ, bkQ, blQ, bmQ, bnQ, boQ, bpQ, bqQ, brQ, bsQ, btQ, buQ, bvQ, bwQ, bxQ, byQ, bzQ, bAQ, bBQ, bCQ, bDQ, bEQ, bFQ, bGQ, bHQ, bIQ, bJQ, bKQ, bLQ, bMQ, bNQ, bOQ, bPQ, bQQ, bRQ, bSQ, bTQ, bUQ, bVQ, bWQ, bXQ, bYQ, bZQ, caQ, cbQ, ccQ, cdQ, ceQ, cfQ, cgQ, chQ, ciQ, cjQ, ckQ, clQ, cmQ, cnQ, coQ, cpQ, cqQ, crQ, csQ, ctQ, cuQ, cvQ, cwQ, cxQ, cyQ, czQ, cAQ, cBQ, cCQ, cDQ, cEQ, cFQ, cGQ, cHQ, cIQ, cJQ, cKQ, cLQ, cMQ, cNQ, cOQ, cPQ, cQQ, cRQ, cSQ, cTQ, cUQ, cVQ, cWQ, cXQ, cYQ, cZQ, daQ, dbQ, dcQ, ddQ, deQ, dfQ, dgQ, dhQ, diQ, djQ, dkQ, dlQ, dmQ, dnQ, doQ, dpQ, dqQ, drQ, dsQ, dtQ, duQ, dvQ, dwQ, dxQ, dyQ, dzQ, dAQ, dBQ, dCQ, dDQ, dEQ, dFQ, dGQ, dHQ, dIQ, dJQ, dKQ, dLQ, dMQ, dNQ, dOQ, dPQ, dQQ, dRQ, dSQ, dTQ, dUQ, dVQ, dWQ, dXQ, dYQ, dZQ, eaQ, ebQ, ecQ, edQ, eeQ, efQ, egQ, ehQ, eiQ, ejQ, ekQ, elQ, emQ, enQ, eoQ, epQ, eqQ, erQ, esQ, etQ, euQ, evQ, ewQ, exQ, eyQ, ezQ, eAQ, eBQ, eCQ, eDQ, eEQ, eFQ, eGQ, eHQ, eIQ, eJQ, eKQ, eLQ, eMQ, eNQ, eOQ, ePQ, eQQ, eRQ, eSQ, eTQ, eUQ, eVQ, eWQ, eXQ, eYQ, eZQ, faQ, fbQ, fcQ, fdQ, feQ, ffQ, fgQ, fhQ, fiQ, fjQ, fkQ, flQ, fmQ, fnQ, foQ, fpQ, fqQ, frQ, fsQ, ftQ, fuQ, fvQ, fwQ, fxQ, fyQ, fzQ, fAQ, fBQ, fCQ, fDQ, fEQ, fFQ, fGQ, fHQ, fIQ, fJQ, fKQ, fLQ, fMQ, fNQ, fOQ, fPQ, fQQ, fRQ, fSQ, fTQ, fUQ, fVQ, fWQ, fXQ, fYQ, fZQ, gaQ, gbQ, gcQ, gdQ, geQ, gfQ, ggQ, ghQ, giQ, gjQ, gkQ, glQ, gmQ, gnQ, goQ, gpQ, gqQ, grQ, gsQ, gtQ, guQ, gvQ, gwQ, gxQ, gyQ, gzQ, gAQ, gBQ, gCQ, gDQ, gEQ, gFQ, gGQ, gHQ, gIQ, gJQ, gKQ, gLQ, gMQ, gNQ, gOQ, gPQ, gQQ, gRQ, gSQ, gTQ, gUQ, gVQ, gWQ, gXQ, gYQ, gZQ, haQ, hbQ, hcQ, hdQ, heQ, hfQ, hgQ, hhQ, hiQ, hjQ, hkQ, hlQ, hmQ, hnQ, hoQ, hpQ, hqQ, hrQ, hsQ, htQ, huQ, hvQ, hwQ, hxQ, hyQ, hzQ, hAQ, hBQ, hCQ, hDQ, hEQ, hFQ, hGQ, hHQ, hIQ, hJQ, hKQ, hLQ, hMQ, hNQ, hOQ, hPQ, hQQ, hRQ, hSQ, hTQ, hUQ, hVQ, hWQ, hXQ, hYQ, hZQ, iaQ, euQ, etQ, exQ, ibQ, icQ, rBoth_ok hr, sizesIn (r := r) (h := h) (by omega) hr.h2, gMax_ints ne, gMin_ints ne, erQ]
theorem enum_row (hl : r.length ≤ 1000) : enumD 0 (r.map .int) = (r.zipIdx 0).map fun p => D.tup [natD p.2, .int p.1] := enumD_map D.int r 0
theorem classesIn (hl : r.length ≤ 1000) (h0 : 0 ≤ h) (h1 : h ≤ 20) : ∃ f : Nat → List Nat, (∀ i, (f i).length ≤ r.length) ∧ ∀ L, m_classes_in [rowD r, .int h] L = .ok (.lst ((List.range h.toNat).map fun (i : Nat) => .lst ((f i).map natD))) L := by
  refine ⟨fun i => ((r.zipIdx 0).filter fun p => decide (p.1 = (i : Int))).map (·.2), fun i => ?_, fun L => ?_⟩
  · rw [List.length_map]
    refine Nat.le_trans (List.length_filter_le _ _) ?_
    rw [List.length_zipIdx]
    exact Nat.le_refl _
  have c1 : ∀ (i : Nat) (x y : Option D) (L : Sto), C1_classes_in [some (rowD r), some (.int h), some (natD i), x, y] L = .ok (.lst ((((r.zipIdx 0).filter fun p => decide (p.1 = (i : Int))).map (·.2)).map natD)) L := fun i x y L => by
    rw [List.map_map]
    refine lc_filter (box := false) (r.zipIdx 0) (fun p => D.tup [natD p.2, .int p.1]) (fun p => decide (p.1 = (i : Int))) _ (src := []) (L1 := L) ?_ srcOk_nil (by rw [List.length_zipIdx]; omega) (fun p hp => ?_) fun p hp hq => ?_
    · simp only [aaQ, abQ, acQ, adQ, aeQ, afQ, agQ, ahQ, aiQ, ajQ, akQ, alQ, amQ, anQ, aoQ, apQ, aqQ, arQ, asQ, atQ, auQ, avQ, awQ, axQ, ayQ, azQ, aAQ, aBQ, aCQ, aDQ, aEQ, aFQ, aGQ, aHQ, aIQ, aJQ, aKQ, aLQ, aMQ, aNQ, aOQ, aPQ, aQQ, aRQ, aSQ, aTQ, aUQ, aVQ, aWQ, aXQ, aYQ, aZQ, baQ, bbQ, bcQ, bdQ, beQ, bfQ, bgQ, bhQ, biQ, bjQ, bkQ, blQ, bmQ, bnQ, boQ, bpQ, bqQ, brQ, bsQ, btQ, buQ, bvQ, bwQ, bxQ, byQ, bzQ, bAQ, bBQ, bCQ, bDQ, bEQ, bFQ, bGQ, bHQ, bIQ, bJQ, bKQ, bLQ, bMQ, bNQ, bOQ, bPQ, bQQ, bRQ, bSQ, bTQ, bUQ, bVQ, bWQ, bXQ, bYQ, bZQ, caQ, cbQ, ccQ, cdQ, ceQ, cfQ, cgQ, chQ, ciQ, cjQ, ckQ, clQ, cmQ, cnQ, coQ, cpQ, cqQ, crQ, csQ, ctQ, cuQ, cvQ, cwQ, cxQ, cyQ, czQ, cAQ, cBQ, cCQ, cDQ, cEQ, cFQ, cGQ, cHQ, cIQ, cJQ, cKQ, cLQ, cMQ, cNQ, cOQ, cPQ, cQQ, cRQ, cSQ, cTQ, cUQ, cVQ, cWQ, cXQ, cYQ, cZQ, daQ, dbQ, dcQ, ddQ, deQ, dfQ, dgQ, dhQ, diQ, djQ, dkQ, dlQ, dmQ, dnQ, doQ, dpQ, dqQ, drQ, dsQ, dtQ, duQ, dvQ, dwQ, dxQ, dyQ, dzQ, dAQ, dBQ, dCQ, dDQ, dEQ, dFQ, dGQ, dHQ, dIQ, dJQ, dKQ, dLQ, dMQ, dNQ, dOQ, dPQ, dQQ, dRQ, dSQ, dTQ, dUQ, dVQ, dWQ, dXQ, dYQ, dZQ, eaQ, ebQ, ecQ, edQ, eeQ, efQ, egQ, ehQ, eiQ, ejQ, ekQ, elQ, emQ, enQ, eoQ, epQ, eqQ, erQ, esQ, etQ, euQ, evQ, ewQ, exQ, eyQ, ezQ, eAQ, eBQ, eCQ, eDQ, eEQ, eFQ, eGQ, eHQ, eIQ, eJQ, eKQ, eLQ, eMQ, eNQ, eOQ, ePQ, eQQ, eRQ, eSQ, eTQ, eUQ, eVQ, eWQ, eXQ, eYQ, eZQ, faQ, fbQ, fcQ, fdQ, feQ, ffQ, fgQ, fhQ, fiQ, fjQ, fkQ, flQ, fmQ, fnQ, foQ, fpQ, fqQ, frQ, fsQ, ftQ, fuQ, fvQ, fwQ, fxQ, fyQ, fzQ, fAQ, fBQ, fCQ, fDQ, fEQ, fFQ, fGQ, fHQ, fIQ, fJQ, fKQ, fLQ, fMQ, fNQ, fOQ, fPQ, fQQ, fRQ, fSQ, fTQ, fUQ, fVQ, fWQ, fXQ, fYQ, fZQ, gaQ, gbQ, gcQ, gdQ, geQ, gfQ, ggQ, ghQ, giQ, gjQ, gkQ, glQ, gmQ, gnQ, goQ, gpQ, gqQ, grQ, gsQ, gtQ, guQ, gvQ, gwQ, gxQ, gyQ, gzQ, gAQ, gBQ, gCQ, gDQ, gEQ, gFQ, gGQ, gHQ, gIQ, gJQ, gKQ, gLQ, gMQ, gNQ, gOQ, gPQ, gQQ, gRQ, gSQ, gTQ, gUQ, gVQ, gWQ, gXQ, gYQ, gZQ, haQ, hbQ, hcQ, hdQ, heQ, hfQ, hgQ, hhQ, hiQ, hjQ, hkQ, hlQ, hmQ, hnQ, hoQ, hpQ, hqQ, hrQ, hsQ, htQ, huQ, hvQ, hwQ, hxQ, hyQ, hzQ, hAQ, hBQ, hCQ, hDQ, hEQ, hFQ, hGQ, hHQ, hIQ, hJQ, hKQ, hLQ, hMQ, hNQ, hOQ, hPQ, hQQ, hRQ, hSQ, hTQ, hUQ, hVQ, hWQ, hXQ, hYQ, hZQ, iaQ, euQ, etQ, exQ, ibQ, icQ, enum_row hl]
    · simp only [aaQ, abQ, acQ, adQ, aeQ, afQ, agQ, ahQ, aiQ, ajQ, akQ, alQ, amQ, anQ, aoQ, apQ, aqQ, arQ, asQ, atQ, auQ, avQ, awQ, axQ, ayQ, azQ, aAQ, aBQ, aCQ, aDQ, aEQ, aFQ, aGQ, aHQ, aIQ, aJQ, aKQ, aLQ, aMQ, aNQ, aOQ, aPQ, aQQ, aRQ, aSQ, aTQ, aUQ, aVQ, aWQ, aXQ, aYQ, aZQ, baQ, bbQ, bcQ, bdQ, beQ, bfQ, bgQ, bhQ, biQ, bjQ, bkQ, blQ, bmQ, bnQ, boQ, bpQ, bqQ, brQ, bsQ, btQ, buQ, bvQ, bwQ, bxQ, byQ, bzQ, bAQ, bBQ, bCQ, bDQ, bEQ, bFQ, bGQ, bHQ, bIQ, bJQ, bKQ, bLQ, bMQ, bNQ, bOQ, bPQ, bQQ, bRQ, bSQ, bTQ, bUQ, bVQ, bWQ, bXQ, bYQ, bZQ, caQ, cbQ, ccQ, cdQ, ceQ, cfQ, cgQ, chQ, ciQ, cjQ, ckQ, clQ, cmQ, cnQ, coQ, cpQ, cqQ, crQ, csQ, ctQ, cuQ, cvQ, cwQ, cxQ, cyQ, czQ, cAQ, cBQ, cCQ, cDQ, cEQ, cFQ, cGQ, cHQ, cIQ, cJQ, cKQ, cLQ, cMQ, cNQ, cOQ, cPQ, cQQ, cRQ, cSQ, cTQ, cUQ, cVQ, cWQ, cXQ, cYQ, cZQ, daQ, dbQ, dcQ, ddQ, deQ, dfQ, dgQ, dhQ, diQ, djQ, dkQ, dlQ, dmQ, dnQ, doQ, dpQ, dqQ, drQ, dsQ, dtQ, duQ, dvQ, dwQ, dxQ, dyQ, dzQ, dAQ, dBQ, dCQ, dDQ, dEQ, dFQ, dGQ, dHQ, dIQ, dJQ, dKQ, dLQ, dMQ, dNQ, dOQ, dPQ, dQQ, dRQ, dSQ, dTQ, dUQ, dVQ, dWQ, dXQ, dYQ, dZQ, eaQ, ebQ, ecQ, edQ, eeQ, efQ, egQ, ehQ, eiQ, ejQ, ekQ, elQ, emQ, enQ, eoQ, epQ, eqQ, erQ, esQ, etQ, euQ, evQ, ewQ, exQ, eyQ, ezQ, eAQ, eBQ, eCQ, eDQ, eEQ, eFQ, eGQ, eHQ, eIQ, eJQ, eKQ, eLQ, eMQ, eNQ, eOQ, ePQ, eQQ, eRQ, eSQ, eTQ, eUQ, eVQ, eWQ, eXQ, eYQ, eZQ, faQ, fbQ, fcQ, fdQ, feQ, ffQ, fgQ, fhQ, fiQ, fjQ, fkQ, flQ, fmQ, fnQ, foQ, fpQ, fqQ, frQ, fsQ, ftQ, fuQ, fvQ, fwQ, fxQ, fyQ, fzQ, fAQ, fBQ, fCQ, fDQ, fEQ, fFQ, fGQ, fHQ, fIQ, fJQ, fKQ, fLQ, fMQ, fNQ, fOQ, fPQ, fQQ, fRQ, fSQ, fTQ, fUQ, fVQ, fWQ, fXQ, fYQ, fZQ, gaQ, gbQ, gcQ, gdQ, geQ, gfQ, ggQ, ghQ, giQ, gjQ, gkQ, glQ, gmQ, gnQ, goQ, gpQ, gqQ, grQ, gsQ, gtQ, guQ, gvQ, gwQ, gxQ, gyQ, gzQ, gAQ, gBQ, gCQ, gDQ, gEQ, gFQ, gGQ, gHQ, gIQ, gJQ, gKQ, gLQ, gMQ, gNQ, gOQ, gPQ, gQQ, gRQ, gSQ, gTQ, gUQ, gVQ, gWQ, gXQ, gYQ, gZQ, haQ, hbQ, hcQ, hdQ, heQ, hfQ, hgQ, hhQ, hiQ, hjQ, hkQ, hlQ, hmQ, hnQ, hoQ, hpQ, hqQ, hrQ, hsQ, htQ, huQ, hvQ, hwQ, hxQ, hyQ, hzQ, hAQ, hBQ, hCQ, hDQ, hEQ, hFQ, hGQ, hHQ, hIQ, hJQ, hKQ, hLQ, hMQ, hNQ, hOQ, hPQ, hQQ, hRQ, hSQ, hTQ, hUQ, hVQ, hWQ, hXQ, hYQ, hZQ, iaQ, euQ, etQ, exQ, ibQ, icQ, natD]
    · simp only [aaQ, abQ, acQ, adQ, aeQ, afQ, agQ, ahQ, aiQ, ajQ, akQ, alQ, amQ, anQ, aoQ, apQ, aqQ, arQ, asQ, atQ, auQ, avQ, awQ, axQ, ayQ, azQ, aAQ, aBQ, aCQ, aDQ, aEQ, aFQ, aGQ, aHQ, aIQ, aJQ, aKQ, aLQ, aMQ, aNQ, aOQ, aPQ, aQQ, aRQ, aSQ, aTQ, aUQ, aVQ, aWQ, aXQ, aYQ, aZQ, baQ, bbQ, bcQ, bdQ, beQ, bfQ, bgQ, bhQ, biQ, bjQ, bkQ, blQ, bmQ, bnQ, boQ, bpQ, bqQ, brQ, bsQ, btQ, buQ, bvQ, bwQ, bxQ, byQ, bzQ, bAQ, bBQ, bCQ, bDQ, bEQ, bFQ, bGQ, bHQ, bIQ, bJQ, bKQ, bLQ, bMQ, bNQ, bOQ, bPQ, bQQ, bRQ, bSQ, bTQ, bUQ, bVQ, bWQ, bXQ, bYQ, bZQ, caQ, cbQ, ccQ, cdQ, ceQ, cfQ, cgQ, chQ, ciQ, cjQ, ckQ, clQ, cmQ, cnQ, coQ, cpQ, cqQ, crQ, csQ, ctQ, cuQ, cvQ, cwQ, cxQ, cyQ, czQ, cAQ, cBQ, cCQ, cDQ, cEQ, cFQ, cGQ, cHQ, cIQ, cJQ, cKQ, cLQ, cMQ, cNQ, cOQ, cPQ, cQQ, cRQ, cSQ, cTQ, cUQ, cVQ, cWQ, cXQ, cYQ, cZQ, daQ, dbQ, dcQ, ddQ, deQ, dfQ, dgQ, dhQ, diQ, djQ, dkQ, dlQ, dmQ, dnQ, doQ, dpQ, dqQ, drQ, dsQ, dtQ, duQ, dvQ, dwQ, dxQ, dyQ, dzQ, dAQ, dBQ, dCQ, dDQ, dEQ, dFQ, dGQ, dHQ, dIQ, dJQ, dKQ, dLQ, dMQ, dNQ, dOQ, dPQ, dQQ, dRQ, dSQ, dTQ, dUQ, dVQ, dWQ, dXQ, dYQ, dZQ, eaQ, ebQ, ecQ, edQ, eeQ, efQ, egQ, ehQ, eiQ, ejQ, ekQ, elQ, emQ, enQ, eoQ, epQ, eqQ, erQ, esQ, etQ, euQ, evQ, ewQ, exQ, eyQ, ezQ, eAQ, eBQ, eCQ, eDQ, eEQ, eFQ, eGQ, eHQ, eIQ, eJQ, eKQ, eLQ, eMQ, eNQ, eOQ, ePQ, eQQ, eRQ, eSQ, eTQ, eUQ, eVQ, eWQ, eXQ, eYQ, eZQ, faQ, fbQ, fcQ, fdQ, feQ, ffQ, fgQ, fhQ, fiQ, fjQ, fkQ, flQ, fmQ, fnQ, foQ, fpQ, fqQ, frQ, fsQ, ftQ, fuQ, fvQ, fwQ, fxQ, fyQ, fzQ, fAQ, fBQ, fCQ, fDQ, fEQ, fFQ, fGQ, fHQ, fIQ, fJQ, fKQ, fLQ, fMQ, fNQ, fOQ, fPQ, fQQ, fRQ, fSQ, fTQ, fUQ, fVQ, fWQ, fXQ, fYQ, fZQ, gaQ, gbQ, gcQ, gdQ, geQ, gfQ, ggQ, ghQ, giQ, gjQ, gkQ, glQ, gmQ, gnQ, goQ, gpQ, gqQ, grQ, gsQ, gtQ, guQ, gvQ, gwQ, gxQ, gyQ, gzQ, gAQ, gBQ, gCQ, gDQ, gEQ, gFQ, gGQ, gHQ, gIQ, gJQ, gKQ, gLQ, gMQ, gNQ, gOQ, gPQ, gQQ, gRQ, gSQ, gTQ, gUQ, gVQ, gWQ, gXQ, gYQ, gZQ, haQ, hbQ, hcQ, hdQ, heQ, hfQ, hgQ, hhQ, hiQ, hjQ, hkQ, hlQ, hmQ, hnQ, hoQ, hpQ, hqQ, hrQ, hsQ, htQ, huQ, hvQ, hwQ, hxQ, hyQ, hzQ, hAQ, hBQ, hCQ, hDQ, hEQ, hFQ, hGQ, hHQ, hIQ, hJQ, hKQ, hLQ, hMQ, hNQ, hOQ, hPQ, hQQ, hRQ, hSQ, hTQ, hUQ, hVQ, hWQ, hXQ, hYQ, hZQ, iaQ, euQ, etQ, exQ, ibQ, icQ]
      rfl
  have c2 : C2_classes_in [some (rowD r), some (.int h), none, none, none] L = .ok (.lst ((List.range h.toNat).map fun (i : Nat) => .lst ((((r.zipIdx 0).filter fun p => decide (p.1 = (i : Int))).map (·.2)).map natD))) L := by
    refine lc_map (box := false) (List.range h.toNat) natD _ (src := []) (L1 := L) ?_ srcOk_nil (by rw [List.length_range]; omega) fun i hi => ?_
    · simp only [aaQ, abQ, acQ, adQ, aeQ, afQ, agQ, ahQ, aiQ, ajQ, akQ, alQ, amQ, anQ, aoQ, apQ, aqQ, arQ, asQ, atQ, auQ, avQ, awQ, axQ, ayQ, azQ, aAQ, aBQ, aCQ, aDQ, aEQ, aFQ, aGQ, aHQ, aIQ, aJQ, aKQ, aLQ, aMQ, aNQ, aOQ, aPQ, aQQ, aRQ, aSQ, aTQ, aUQ, aVQ, aWQ, aXQ, aYQ, aZQ, baQ, bbQ, bcQ, bdQ, beQ, bfQ, bgQ, bhQ, biQ, bjQ, bkQ, blQ, bmQ, bnQ, boQ, bpQ, bqQ, brQ, bsQ, btQ, buQ, bvQ, bwQ, bxQ, byQ, bzQ, bAQ, bBQ, bCQ, bDQ, bEQ, bFQ, bGQ, bHQ, bIQ, bJQ, bKQ, bLQ, bMQ, bNQ, bOQ, bPQ, bQQ, bRQ, bSQ, bTQ, bUQ, bVQ, bWQ, bXQ, bYQ, bZQ, caQ, cbQ, ccQ, cdQ, ceQ, cfQ, cgQ, chQ, ciQ, cjQ, ckQ, clQ, cmQ, cnQ, coQ, cpQ, cqQ, crQ, csQ, ctQ, cuQ, cvQ, cwQ, cxQ, cyQ, czQ, cAQ, cBQ, cCQ, cDQ, cEQ, cFQ, cGQ, cHQ, cIQ, cJQ, cKQ, cLQ, cMQ, cNQ, cOQ, cPQ, cQQ, cRQ, cSQ, cTQ, cUQ, cVQ, cWQ, cXQ, cYQ, cZQ, daQ, dbQ, dcQ, ddQ, deQ, dfQ, dgQ, dhQ, diQ, djQ, dkQ, dlQ, dmQ, dnQ, doQ, dpQ, dqQ, drQ, dsQ, dtQ, duQ, dvQ, dwQ, dxQ, dyQ, dzQ, dAQ, dBQ, dCQ, dDQ, dEQ, dFQ, dGQ, dHQ, dIQ, dJQ, dKQ, dLQ, dMQ, dNQ, dOQ, dPQ, dQQ, dRQ, dSQ, dTQ, dUQ, dVQ, dWQ, dXQ, dYQ, dZQ, eaQ, ebQ, ecQ, edQ, eeQ, efQ, egQ, ehQ, eiQ, ejQ, ekQ, elQ, emQ, enQ, eoQ, epQ, eqQ, erQ, esQ, etQ, euQ, evQ, ewQ, exQ, eyQ, ezQ, eAQ, eBQ, eCQ, eDQ, eEQ, eFQ, eGQ, eHQ, eIQ, eJQ, eKQ, eLQ, eMQ, eNQ, eOQ, ePQ, eQQ, eRQ, eSQ, eTQ, eUQ, eVQ, eWQ, eXQ, eYQ, eZQ, faQ, fbQ, fcQ, fdQ, feQ, ffQ, fgQ, fhQ, fiQ, fjQ, fkQ, flQ, fmQ, fnQ, foQ, fpQ, fqQ, frQ, fsQ, ftQ, fuQ, fvQ, fwQ, fxQ, fyQ, fzQ, fAQ, fBQ, fCQ, fDQ, fEQ, fFQ, fGQ, fHQ, fIQ, fJQ, fKQ, fLQ, fMQ, fNQ, fOQ, fPQ, fQQ, fRQ, fSQ, fTQ, fUQ, fVQ, fWQ, fXQ, fYQ, fZQ, gaQ, gbQ, gcQ, gdQ, geQ, gfQ, ggQ, ghQ, giQ, gjQ, gkQ, glQ, gmQ, gnQ, goQ, gpQ, gqQ, grQ, gsQ, gtQ, guQ, gvQ, gwQ, gxQ, gyQ, gzQ, gAQ, gBQ, gCQ, gDQ, gEQ, gFQ, gGQ, gHQ, gIQ, gJQ, gKQ, gLQ, gMQ, gNQ, gOQ, gPQ, gQQ, gRQ, gSQ, gTQ, gUQ, gVQ, gWQ, gXQ, gYQ, gZQ, haQ, hbQ, hcQ, hdQ, heQ, hfQ, hgQ, hhQ, hiQ, hjQ, hkQ, hlQ, hmQ, hnQ, hoQ, hpQ, hqQ, hrQ, hsQ, htQ, huQ, hvQ, hwQ, hxQ, hyQ, hzQ, hAQ, hBQ, hCQ, hDQ, hEQ, hFQ, hGQ, hHQ, hIQ, hJQ, hKQ, hLQ, hMQ, hNQ, hOQ, hPQ, hQQ, hRQ, hSQ, hTQ, hUQ, hVQ, hWQ, hXQ, hYQ, hZQ, iaQ, euQ, etQ, exQ, ibQ, icQ, gwQ h0 (show h ≤ 1000000 by omega)]
    · simp only [aaQ, abQ, acQ, adQ, aeQ, afQ, agQ, ahQ, aiQ, ajQ, akQ, alQ, amQ, anQ, aoQ, apQ, aqQ, arQ, asQ, atQ, auQ, avQ, awQ, axQ, ayQ, azQ, aAQ, aBQ, aCQ, aDQ, aEQ, aFQ, aGQ, aHQ, aIQ, aJQ, aKQ, aLQ, aMQ, aNQ, aOQ, aPQ, aQQ, aRQ, aSQ, aTQ, aUQ, aVQ, aWQ, aXQ, aYQ, aZQ, baQ, bbQ, bcQ, bdQ, beQ, bfQ, bgQ, bhQ, biQ, bjQ, bkQ, blQ, bmQ, bnQ, boQ, bpQ, bqQ, brQ, bsQ, btQ, buQ, bvQ, bwQ, bxQ, byQ, bzQ, bAQ, bBQ, bCQ, bDQ, bEQ, bFQ, bGQ, bHQ, bIQ, bJQ, bKQ, bLQ, bMQ, bNQ, bOQ, bPQ, bQQ, bRQ, bSQ, bTQ, bUQ, bVQ, bWQ, bXQ, bYQ, bZQ, caQ, cbQ, ccQ, cdQ, ceQ, cfQ, cgQ, chQ, ciQ, cjQ, ckQ, clQ, cmQ, cnQ, coQ, cpQ, cqQ, crQ, csQ, ctQ, cuQ, cvQ, cwQ, cxQ, cyQ, czQ, cAQ, cBQ, cCQ, cDQ, cEQ, cFQ, cGQ, cHQ, cIQ, cJQ, cKQ, cLQ, cMQ, cNQ, cOQ, cPQ, cQQ, cRQ, cSQ, cTQ, cUQ, cVQ, cWQ, cXQ, cYQ, cZQ, daQ, dbQ, dcQ, ddQ, deQ, dfQ, dgQ, dhQ, diQ, djQ, dkQ, dlQ, dmQ, dnQ, doQ, dpQ, dqQ, drQ, dsQ, dtQ, duQ, dvQ, dwQ, dxQ, dyQ, dzQ, dAQ, dBQ, dCQ, dDQ, dEQ, dFQ, dGQ, dHQ, dIQ, dJQ, dKQ, dLQ, dMQ, dNQ, dOQ, dPQ, dQQ, dRQ, dSQ, dTQ, dUQ, dVQ, dWQ, dXQ, dYQ, dZQ, eaQ, ebQ, ecQ, edQ, eeQ, efQ, egQ, ehQ, eiQ, ejQ, ekQ, elQ, emQ, enQ, eoQ, epQ, eqQ, erQ, esQ, etQ, euQ, evQ, ewQ, exQ, eyQ, ezQ, eAQ, eBQ, eCQ, eDQ, eEQ, eFQ, eGQ, eHQ, eIQ, eJQ, eKQ, eLQ, eMQ, eNQ, eOQ, ePQ, eQQ, eRQ, eSQ, eTQ, eUQ, eVQ, eWQ, eXQ, eYQ, eZQ, faQ, fbQ, fcQ, fdQ, feQ, ffQ, fgQ, fhQ, fiQ, fjQ, fkQ, flQ, fmQ, fnQ, foQ, fpQ, fqQ, frQ, fsQ, ftQ, fuQ, fvQ, fwQ, fxQ, fyQ, fzQ, fAQ, fBQ, fCQ, fDQ, fEQ, fFQ, fGQ, fHQ, fIQ, fJQ, fKQ, fLQ, fMQ, fNQ, fOQ, fPQ, fQQ, fRQ, fSQ, fTQ, fUQ, fVQ, fWQ, fXQ, fYQ, fZQ, gaQ, gbQ, gcQ, gdQ, geQ, gfQ, ggQ, ghQ, giQ, gjQ, gkQ, glQ, gmQ, gnQ, goQ, gpQ, gqQ, grQ, gsQ, gtQ, guQ, gvQ, gwQ, gxQ, gyQ, gzQ, gAQ, gBQ, gCQ, gDQ, gEQ, gFQ, gGQ, gHQ, gIQ, gJQ, gKQ, gLQ, gMQ, gNQ, gOQ, gPQ, gQQ, gRQ, gSQ, gTQ, gUQ, gVQ, gWQ, gXQ, gYQ, gZQ, haQ, hbQ, hcQ, hdQ, heQ, hfQ, hgQ, hhQ, hiQ, hjQ, hkQ, hlQ, hmQ, hnQ, hoQ, hpQ, hqQ, hrQ, hsQ, htQ, huQ, hvQ, hwQ, hxQ, hyQ, hzQ, hAQ, hBQ, hCQ, hDQ, hEQ, hFQ, hGQ, hHQ, hIQ, hJQ, hKQ, hLQ, hMQ, hNQ, hOQ, hPQ, hQQ, hRQ, hSQ, hTQ, hUQ, hVQ, hWQ, hXQ, hYQ, hZQ, iaQ, euQ, etQ, exQ, ibQ, icQ, c1]
  simp only [u_classes_in, F_classes_in, aaQ, abQ, acQ, adQ, aeQ, afQ, agQ, ahQ, aiQ, ajQ, akQ, alQ, amQ, anQ, aoQ, apQ, aqQ, arQ, asQ, atQ, auQ, avQ, awQ, axQ, ayQ, azQ, aAQ, aBQ, aCQ, aDQ, aEQ, aFQ, aGQ, aHQ, aIQ, aJQ, aKQ, aLQ, aMQ, aNQ, aOQ, aPQ, aQQ, aRQ, aSQ, aTQ, aUQ, aVQ, aWQ, aXQ, aYQ, aZQ, baQ, bbQ, bcQ, bdQ, beQ, bfQ, bgQ, bhQ, biQ, bjQ, bkQ, blQ, bmQ, bnQ, boQ, bpQ, bqQ, brQ, bsQ, btQ, buQ, bvQ, bwQ, bxQ, byQ, bzQ, bAQ, bBQ, bCQ, bDQ, bEQ, bFQ, bGQ, bHQ, bIQ, bJQ, bKQ, bLQ, bMQ, bNQ, bOQ, bPQ, bQQ, bRQ, bSQ, bTQ, bUQ, bVQ, bWQ, bXQ, bYQ, bZQ, caQ, cbQ, ccQ, cdQ, ceQ, cfQ, cgQ, chQ, ciQ, cjQ, ckQ, clQ, cmQ, cnQ, coQ, cpQ, cqQ, crQ, csQ, ctQ, cuQ, cvQ, cwQ, cxQ, cyQ, czQ, cAQ, cBQ, cCQ, cDQ, cEQ, cFQ, cGQ, cHQ, cIQ, cJQ, cKQ, cLQ, cMQ, cNQ, cOQ, cPQ, cQQ, cRQ, cSQ, cTQ, cUQ, cVQ, cWQ, cXQ, cYQ, cZQ, daQ, dbQ, dcQ, ddQ, deQ, dfQ, dgQ, dhQ, diQ, djQ, dkQ, dlQ, dmQ, dnQ, doQ, dpQ, dqQ, drQ, dsQ, dtQ, duQ, dvQ, dwQ, dxQ, dyQ, dzQ, dAQ, dBQ, dCQ, dDQ, dEQ, dFQ, dGQ, dHQ, dIQ, dJQ, dKQ, dLQ, dMQ, dNQ, dOQ, dPQ, dQQ, dRQ, dSQ, dTQ, dUQ, dVQ, dWQ, dXQ, dYQ, dZQ, eaQ, ebQ, ecQ, edQ, eeQ, efQ, egQ, ehQ, eiQ, ejQ, ekQ, elQ, emQ, enQ, eoQ, epQ, eqQ, erQ, esQ, etQ, euQ, evQ, ewQ, exQ, eyQ, ezQ, eAQ, eBQ, eCQ, eDQ, eEQ, eFQ, eGQ, eHQ, eIQ, eJQ, eKQ, eLQ, eMQ, eNQ, eOQ, ePQ, eQQ, eRQ, eSQ, eTQ, eUQ, eVQ, eWQ, eXQ, eYQ, eZQ, faQ, fbQ, fcQ, fdQ, feQ, ffQ, fgQ, fhQ, fiQ, fjQ, fkQ, flQ, fmQ, fnQ, foQ, fpQ, fqQ, frQ, fsQ, ftQ, fuQ, fvQ, fwQ, fxQ, fyQ, fzQ, fAQ, fBQ, fCQ, fDQ, fEQ, fFQ, fGQ, fHQ, fIQ, fJQ, fKQ, fLQ, fMQ, fNQ, fOQ, fPQ, fQQ, fRQ, fSQ, fTQ, fUQ, fVQ, fWQ, fXQ, fYQ, fZQ, gaQ, gbQ, gcQ, gdQ, geQ, gfQ, ggQ, ghQ, giQ, gjQ, gkQ, glQ, gmQ, gnQ, goQ, gpQ, gqQ, grQ, gsQ, gtQ, guQ, gvQ, gwQ, gxQ, gyQ, gzQ, gAQ, gBQ, gCQ, gDQ, gEQ, gFQ, gGQ, gHQ, gIQ, gJQ, gKQ, gLQ, gMQ, gNQ, gOQ, gPQ, gQQ, gRQ, gSQ, gTQ, gUQ, gVQ, gWQ, gXQ, gYQ, gZQ, haQ, hbQ, hcQ, hdQ, heQ, hfQ, hgQ, hhQ, hiQ, hjQ, hkQ, hlQ, hmQ, hnQ, hoQ, hpQ, hqQ, hrQ, hsQ, htQ, huQ, hvQ, hwQ, hxQ, hyQ, hzQ, hAQ, hBQ, hCQ, hDQ, hEQ, hFQ, hGQ, hHQ, hIQ, hJQ, hKQ, hLQ, hMQ, hNQ, hOQ, hPQ, hQQ, hRQ, hSQ, hTQ, hUQ, hVQ, hWQ, hXQ, hYQ, hZQ, iaQ, euQ, etQ, exQ, ibQ, icQ, c2]
theorem classes_fine (hr : HRow r h) : ∃ d, ∀ L, m_classes [rowD r, .int h] L = .ok d L := by
  have := hr.h1
  have := hr.h2
  have l2 := hr.l2
  obtain ⟨f, hf, e⟩ := classesIn (r := r) (h := h) (by omega) (by omega) hr.h2
  refine ⟨.tg ((List.range h.toNat).map fun (i : Nat) => .tg ((f i).map natD)), fun L => ?_⟩
  have c : C1_classes [some (rowD r), some (.int h), none] L = .ok (.lst ((List.range h.toNat).map fun (i : Nat) => .tg ((f i).map natD))) L := by
    refine lc_map (box := false) (List.range h.toNat) (fun i => D.lst ((f i).map natD)) _ (src := []) (L1 := L) ?_ srcOk_nil (by rw [List.length_range]; omega) fun i hi => ?_
    · simp only [aaQ, abQ, acQ, adQ, aeQ, afQ, agQ, ahQ, aiQ, ajQ, akQ, alQ, amQ, anQ, aoQ, apQ, aqQ, arQ, asQ, atQ, auQ, avQ, awQ, axQ, ayQ, azQ, aAQ, aBQ, aCQ, aDQ, aEQ, aFQ, aGQ, aHQ, aIQ, aJQ, aKQ, aLQ, aMQ, aNQ, aOQ, aPQ, aQQ, aRQ, aSQ, aTQ, aUQ, aVQ, aWQ, aXQ, aYQ, aZQ, baQ, bbQ, bcQ, bdQ, beQ, bfQ, bgQ, bhQ, biQ, bjQ, bkQ, blQ, bmQ, bnQ, boQ, bpQ, bqQ, brQ, bsQ, btQ, buQ, bvQ, bwQ, bxQ, byQ, bzQ, bAQ, bBQ, bCQ, bDQ, bEQ, bFQ, bGQ, bHQ, bIQ, bJQ, bKQ, bLQ, bMQ, bNQ, bOQ, bPQ, bQQ, bRQ, bSQ, bTQ, bUQ, bVQ, bWQ, bXQ, bYQ, bZQ, caQ, cbQ, ccQ, cdQ, ceQ, cfQ, cgQ, chQ, ciQ, cjQ, ckQ, clQ, cmQ, cnQ, coQ, cpQ, cqQ, crQ, csQ, ctQ, cuQ, cvQ, cwQ, cxQ, cyQ, czQ, cAQ, cBQ, cCQ, cDQ, cEQ, cFQ, cGQ, cHQ, cIQ, cJQ, cKQ, cLQ, cMQ, cNQ, cOQ, cPQ, cQQ, cRQ, cSQ, cTQ, cUQ, cVQ, cWQ, cXQ, cYQ, cZQ, daQ, dbQ, dcQ, ddQ, deQ, dfQ, dgQ, dhQ, diQ, djQ, dkQ, dlQ, dmQ, dnQ, doQ, dpQ, dqQ, drQ, dsQ, dtQ, duQ, dvQ, dwQ, dxQ, dyQ, dzQ, dAQ, dBQ, dCQ, dDQ, dEQ, dFQ, dGQ, dHQ, dIQ, dJQ, dKQ, dLQ, dMQ, dNQ, dOQ, dPQ, dQQ, dRQ, dSQ, dTQ, dUQ, dVQ, dWQ, dXQ, dYQ, dZQ, eaQ, ebQ, ecQ, edQ, eeQ, efQ, egQ, ehQ, eiQ, ejQ, ekQ, elQ, emQ, enQ, eoQ, epQ, eqQ, erQ, esQ, etQ, euQ, evQ, ewQ, exQ, eyQ, ezQ, eAQ, eBQ, eCQ, eDQ, eEQ, eFQ, eGQ, eHQ, eIQ, eJQ, eKQ, eLQ, eMQ, eNQ, eOQ, ePQ, eQQ, eRQ, eSQ, eTQ, eUQ, eVQ, eWQ, eXQ, eYQ, eZQ, faQ, fbQ, fcQ, fdQ, feQ, ffQ, fgQ, fhQ, fiQ, fjQ, fkQ, flQ, fmQ, fnQ, foQ, fpQ, fqQ, frQ, fsQ, ftQ, fuQ, fvQ, fwQ, fxQ, fyQ, fzQ, fAQ, fBQ, fCQ, fDQ, fEQ, fFQ, fGQ, fHQ, fIQ, fJQ, fKQ, fLQ, fMQ, fNQ, fOQ, fPQ, fQQ, fRQ, fSQ, fTQ, fUQ, fVQ, fWQ, fXQ, fYQ, fZQ, gaQ, gbQ, gcQ, gdQ, geQ, gfQ, ggQ, ghQ, giQ, gjQ, gkQ, glQ, gmQ, gnQ, goQ, gpQ, gqQ, grQ, gsQ, gtQ, guQ, gvQ, gwQ, gxQ, gyQ, gzQ, gAQ, gBQ, gCQ, gDQ, gEQ, gFQ, gGQ, gHQ, gIQ, gJQ, gKQ, gLQ, gMQ, gNQ, gOQ, gPQ, gQQ, gRQ, gSQ, gTQ, gUQ, gVQ, gWQ, gXQ, gYQ, gZQ, haQ, hbQ, hcQ, hdQ, heQ, hfQ, hgQ, hhQ, hiQ, hjQ, hkQ, hlQ, hmQ, hnQ, hoQ, hpQ, hqQ, hrQ, hsQ, htQ, huQ, hvQ, hwQ, hxQ, hyQ, hzQ, hAQ, hBQ, hCQ, hDQ, hEQ, hFQ, hGQ, hHQ, hIQ, hJQ, hKQ, hLQ, hMQ, hNQ, hOQ, hPQ, hQQ, hRQ, hSQ, hTQ, hUQ, hVQ, hWQ, hXQ, hYQ, hZQ, iaQ, euQ, etQ, exQ, ibQ, icQ, e]
    · have gt : gTuple [.lst ((f i).map natD)] L = .ok (.tg ((f i).map natD)) L := gTuple_l (by rw [List.length_map]; have := hf i; omega)
      simp only [aaQ, abQ, acQ, adQ, aeQ, afQ, agQ, ahQ, aiQ, ajQ, akQ, alQ, amQ, anQ, aoQ, apQ, aqQ, arQ, asQ, atQ, auQ, avQ, awQ, axQ, ayQ, azQ, aAQ, aBQ, aCQ, aDQ, aEQ, aFQ, aGQ, aHQ, aIQ, aJQ, aKQ, aLQ, aMQ, aNQ, aOQ, aPQ, aQQ, aRQ, aSQ, aTQ, aUQ, aVQ, aWQ, aXQ, aYQ, aZQ, baQ, bbQ, bcQ, bdQ, beQ, bfQ, bgQ, bhQ, biQ, bjQ, bkQ, blQ, bmQ, bnQ, boQ, bpQ, bqQ, brQ, bsQ, btQ, buQ, bvQ, bwQ, bxQ, byQ, bzQ, bAQ, bBQ, bCQ, bDQ, bEQ, bFQ, bGQ, bHQ, bIQ, bJQ, bKQ, bLQ, bMQ, bNQ, bOQ, bPQ, bQQ, bRQ, bSQ, bTQ, bUQ, bVQ, bWQ, bXQ, bYQ, bZQ, caQ, cbQ, ccQ, cdQ, ceQ, cfQ, cgQ, chQ, ciQ, cjQ, ckQ, clQ, cmQ, cnQ, coQ, cpQ, cqQ, crQ, csQ, ctQ, cuQ, cvQ, cwQ, cxQ, cyQ, czQ, cAQ, cBQ, cCQ, cDQ, cEQ, cFQ, cGQ, cHQ, cIQ, cJQ, cKQ, cLQ, cMQ, cNQ, cOQ, cPQ, cQQ, cRQ, cSQ, cTQ, cUQ, cVQ, cWQ, cXQ, cYQ, cZQ, daQ, dbQ, dcQ, ddQ, deQ, dfQ, dgQ, dhQ, diQ, djQ, dkQ, dlQ, dmQ, dnQ, doQ, dpQ, dqQ, drQ, dsQ, dtQ, duQ, dvQ, dwQ, dxQ, dyQ, dzQ, dAQ, dBQ, dCQ, dDQ, dEQ, dFQ, dGQ, dHQ, dIQ, dJQ, dKQ, dLQ, dMQ, dNQ, dOQ, dPQ, dQQ, dRQ, dSQ, dTQ, dUQ, dVQ, dWQ, dXQ, dYQ, dZQ, eaQ, ebQ, ecQ, edQ, eeQ, efQ, egQ, ehQ, eiQ, ejQ, ekQ, elQ, emQ, enQ, eoQ, epQ, eqQ, erQ, esQ, etQ, euQ, evQ, ewQ, exQ, eyQ, ezQ, eAQ, eBQ, eCQ, eDQ, eEQ, eFQ, eGQ, eHQ, eIQ, eJQ, eKQ, eLQ, eMQ, eNQ, eOQ, ePQ, eQQ, eRQ, eSQ, eTQ, eUQ, eVQ, eWQ, eXQ, eYQ, eZQ, faQ, fbQ, fcQ, fdQ, feQ, ffQ, fgQ, fhQ, fiQ, fjQ, fkQ, flQ, fmQ, fnQ, foQ, fpQ, fqQ, frQ, fsQ, ftQ, fuQ, fvQ, fwQ, fxQ, fyQ, fzQ, fAQ, fBQ, fCQ, fDQ, fEQ, fFQ, fGQ, fHQ, fIQ, fJQ, fKQ, fLQ, fMQ, fNQ, fOQ, fPQ, fQQ, fRQ, fSQ, fTQ, fUQ, fVQ, fWQ, fXQ, fYQ, fZQ, gaQ, gbQ, gcQ, gdQ, geQ, gfQ, ggQ, ghQ, giQ, gjQ, gkQ, glQ, gmQ, gnQ, goQ, gpQ, gqQ, grQ, gsQ, gtQ, guQ, gvQ, gwQ, gxQ, gyQ, gzQ, gAQ, gBQ, gCQ, gDQ, gEQ, gFQ, gGQ, gHQ, gIQ, gJQ, gKQ, gLQ, gMQ, gNQ, gOQ, gPQ, gQQ, gRQ, gSQ, gTQ, gUQ, gVQ, gWQ, gXQ, gYQ, gZQ, haQ, hbQ, hcQ, hdQ, heQ, hfQ, hgQ, hhQ, hiQ, hjQ, hkQ, hlQ, hmQ, hnQ, hoQ, hpQ, hqQ, hrQ, hsQ, htQ, huQ, hvQ, hwQ, hxQ, hyQ, hzQ, hAQ, hBQ, hCQ, hDQ, hEQ, hFQ, hGQ, hHQ, hIQ, hJQ, hKQ, hLQ, hMQ, hNQ, hOQ, hPQ, hQQ, hRQ, hSQ, hTQ, hUQ, hVQ, hWQ, hXQ, hYQ, hZQ, iaQ, euQ, etQ, exQ, ibQ, icQ, gt]
  have gt : gTuple [.lst ((List.range h.toNat).map fun (i : Nat) => .tg ((f i).map natD))] L = .ok (.tg ((List.range h.toNat).map fun (i : Nat) => .tg ((f i).map natD))) L := gTuple_l (by rw [List.length_map, List.length_range]; omega)
  simp only [u_classes, F_classes, aaQ, abQ, acQ, adQ, aeQ, afQ, agQ, ahQ, aiQ, ajQ, akQ, alQ, amQ, anQ, aoQ, apQ, aqQ, arQ, asQ, atQ, auQ, avQ, awQ, axQ, ayQ, azQ, aAQ, aBQ, aCQ, aDQ, aEQ, aFQ, aGQ, aHQ, aIQ, aJQ, aKQ, aLQ, aMQ, aNQ, aOQ, aPQ, aQQ, aRQ, aSQ, aTQ, aUQ, aVQ, aWQ, aXQ, aYQ, aZQ, baQ, bbQ, bcQ, bdQ, beQ, bfQ, bgQ, bhQ, biQ, bjQ, bkQ, blQ, bmQ, bnQ, boQ, bpQ, bqQ, brQ, bsQ, btQ, buQ, bvQ, bwQ, bxQ, byQ, bzQ, bAQ, bBQ, bCQ, bDQ, bEQ, bFQ, bGQ, bHQ, bIQ, bJQ, bKQ, bLQ, bMQ, bNQ, bOQ, bPQ, bQQ, bRQ, bSQ, bTQ, bUQ, bVQ, bWQ, bXQ, bYQ, bZQ, caQ, cbQ, ccQ, cdQ, ceQ, cfQ, cgQ, chQ, ciQ, cjQ, ckQ, clQ, cmQ, cnQ, coQ, cpQ, cqQ, crQ, csQ, ctQ, cuQ, cvQ, cwQ, cxQ, cyQ, czQ, cAQ, cBQ, cCQ, cDQ, cEQ, cFQ, cGQ, cHQ, cIQ, cJQ, cKQ, cLQ, cMQ, cNQ, cOQ, cPQ, cQQ, cRQ, cSQ, cTQ, cUQ, cVQ, cWQ, cXQ, cYQ, cZQ, daQ, dbQ, dcQ, ddQ, deQ, dfQ, dgQ, dhQ, diQ, djQ, dkQ, dlQ, dmQ, dnQ, doQ, dpQ, dqQ, drQ, dsQ, dtQ, duQ, dvQ, dwQ, dxQ, dyQ, dzQ, dAQ, dBQ, dCQ, dDQ, dEQ, dFQ, dGQ, dHQ, dIQ, dJQ, dKQ, dLQ, dMQ, dNQ, dOQ, dPQ, dQQ, dRQ, dSQ, dTQ, dUQ, dVQ, dWQ, dXQ, dYQ, dZQ, eaQ, ebQ, ecQ, edQ, eeQ, efQ, egQ, ehQ, eiQ, ejQ, ekQ, elQ, emQ, enQ, eoQ, epQ, eqQ, erQ, esQ, etQ, euQ, evQ, ewQ, exQ, eyQ, ezQ, eAQ, eBQ, eCQ, eDQ, eEQ, eFQ, eGQ, eHQ, eIQ, eJQ, eKQ, eLQ, eMQ, eNQ, eOQ, ePQ, eQQ, eRQ, eSQ, eTQ, eUQ, eVQ, eWQ, eXQ, eYQ, eZQ, faQ, fbQ, fcQ, fdQ, feQ, ffQ, fgQ, fhQ, fiQ, fjQ, fkQ, flQ, fmQ, fnQ, foQ, fpQ, fqQ, frQ, fsQ, ftQ, fuQ, fvQ, fwQ, fxQ, fyQ, fzQ, fAQ, fBQ, fCQ, fDQ, fEQ, fFQ, fGQ, fHQ, fIQ, fJQ, fKQ, fLQ, fMQ, fNQ, fOQ, fPQ, fQQ, fRQ, fSQ, fTQ, fUQ, fVQ, fWQ, fXQ, fYQ, fZQ, gaQ, gbQ, gcQ, gdQ, geQ, gfQ, ggQ, ghQ, giQ, gjQ, gkQ, glQ, gmQ, gnQ, goQ, gpQ, gqQ, grQ, gsQ, gtQ, guQ, gvQ, gwQ, gxQ, gyQ, gzQ, gAQ, gBQ, gCQ, gDQ, gEQ, gFQ, gGQ, gHQ, gIQ, gJQ, gKQ, gLQ, gMQ, gNQ, gOQ, gPQ, gQQ, gRQ, gSQ, gTQ, gUQ, gVQ, gWQ, gXQ, gYQ, gZQ, haQ, hbQ, hcQ, hdQ, heQ, hfQ, hgQ, hhQ, hiQ, hjQ, hkQ, hlQ, hmQ, hnQ, hoQ, hpQ, hqQ, hrQ, hsQ, htQ, huQ, hvQ, hwQ, hxQ, hyQ, hzQ, hAQ, hBQ, hCQ, hDQ, hEQ, hFQ, hGQ, hHQ, hIQ, hJQ, hKQ, hLQ, hMQ, hNQ, hOQ, hPQ, hQQ, hRQ, hSQ, hTQ, hUQ, hVQ, hWQ, hXQ, hYQ, hZQ, iaQ, euQ, etQ, exQ, ibQ, icQ, rBoth_ok hr, c, gt]
theorem exch_row (k : NotRow d) {e f g : D} : m_exchanged [d, e, f, g] L = .err "InvalidRow" [] L := by
  simp only [u_exchanged, F_exchanged, aaQ, abQ, acQ, adQ, aeQ, afQ, agQ, ahQ, aiQ, ajQ, akQ, alQ, amQ, anQ, aoQ, apQ, aqQ, arQ, asQ, atQ, auQ, avQ, awQ, axQ, ayQ, azQ, aAQ, aBQ, aCQ, aDQ, aEQ, aFQ, aGQ, aHQ, aIQ, aJQ, aKQ, aLQ, aMQ, aNQ, aOQ, aPQ, aQQ, aRQ, aSQ, aTQ, aUQ, aVQ, aWQ, aXQ, aYQ, aZQ, baQ, bbQ, bcQ, bdQ, beQ, bfQ, bgQ, bhQ, biQ, bjQ, bkQ, blQ, bmQ, bnQ, boQ, bpQ, bqQ, brQ, bsQ, btQ, buQ, bvQ, bwQ, bxQ, byQ, bzQ, bAQ, bBQ, bCQ, bDQ, bEQ, bFQ, bGQ, bHQ, bIQ, bJQ, bKQ, bLQ, bMQ, bNQ, bOQ, bPQ, bQQ, bRQ, bSQ, bTQ, bUQ, bVQ, bWQ, bXQ, bYQ, bZQ, caQ, cbQ, ccQ, cdQ, ceQ, cfQ, cgQ, chQ, ciQ, cjQ, ckQ, clQ, cmQ, cnQ, coQ, cpQ, cqQ, crQ, csQ, ctQ, cuQ, cvQ, cwQ, cxQ, cyQ, czQ, cAQ, cBQ, cCQ, cDQ, cEQ, cFQ, cGQ, cHQ, cIQ, cJQ, cKQ, cLQ, cMQ, cNQ, cOQ, cPQ, cQQ, cRQ, cSQ, cTQ, cUQ, cVQ, cWQ, cXQ, cYQ, cZQ, daQ, dbQ, dcQ, ddQ, deQ, dfQ, dgQ, dhQ, diQ, djQ, dkQ, dlQ, dmQ, dnQ, doQ, dpQ, dqQ, drQ, dsQ, dtQ, duQ, dvQ, dwQ, dxQ, dyQ, dzQ, dAQ, dBQ, dCQ, dDQ, dEQ, dFQ, dGQ, dHQ, dIQ, dJQ, dKQ, dLQ, dMQ, dNQ, dOQ, dPQ, dQQ, dRQ, dSQ, dTQ, dUQ, dVQ, dWQ, dXQ, dYQ, dZQ, eaQ, ebQ, ecQ, edQ, eeQ, efQ, egQ, ehQ, eiQ, ejQ, ekQ, elQ, emQ, enQ, eoQ, epQ, eqQ, erQ, esQ, etQ, euQ, evQ, ewQ, exQ, eyQ, ezQ, eAQ, eBQ, eCQ, eDQ, eEQ, eFQ, eGQ, eHQ, eIQ, eJQ, eKQ, eLQ, eMQ, eNQ, eOQ, ePQ, eQQ, eRQ, eSQ, eTQ, eUQ, eVQ, eWQ, eXQ, eYQ, eZQ, faQ, fbQ, fcQ, fdQ, feQ, ffQ, fgQ, fhQ, fiQ, fjQ, fkQ, flQ, fmQ, fnQ, foQ, fpQ, fqQ, frQ, fsQ, ftQ, fuQ, fvQ, fwQ, fxQ, fyQ, fzQ, fAQ, fBQ, fCQ, fDQ, fEQ, fFQ, fGQ, fHQ, fIQ, fJQ, fKQ, fLQ, fMQ, fNQ, fOQ, fPQ, fQQ, fRQ, fSQ, fTQ, fUQ, fVQ, fWQ, fXQ, fYQ, fZQ, gaQ, gbQ, gcQ, gdQ, geQ, gfQ, ggQ, ghQ, giQ, gjQ, gkQ, glQ, gmQ, gnQ, goQ, gpQ, gqQ, grQ, gsQ, gtQ, guQ, gvQ, gwQ, gxQ, gyQ, gzQ, gAQ, gBQ, gCQ, gDQ, gEQ, gFQ, gGQ, gHQ, gIQ, gJQ, gKQ, gLQ, gMQ, gNQ, gOQ, gPQ, gQQ, gRQ, gSQ, gTQ, gUQ, gVQ, gWQ, gXQ, gYQ, gZQ, haQ, hbQ, hcQ, hdQ, heQ, hfQ, hgQ, hhQ, hiQ, hjQ, hkQ, hlQ, hmQ, hnQ, hoQ, hpQ, hqQ, hrQ, hsQ, htQ, huQ, hvQ, hwQ, hxQ, hyQ, hzQ, hAQ, hBQ, hCQ, hDQ, hEQ, hFQ, hGQ, hHQ, hIQ, hJQ, hKQ, hLQ, hMQ, hNQ, hOQ, hPQ, hQQ, hRQ, hSQ, hTQ, hUQ, hVQ, hWQ, hXQ, hYQ, hZQ, iaQ, euQ, etQ, exQ, ibQ, icQ, rRow_no k]
theorem exch_num (hr : IsRow r) (k : NotInt 1 20 d) {f g : D} : m_exchanged [rowD r, d, f, g] L = .err "InvalidNumber" [("value", d)] L := by
  simp only [u_exchanged, F_exchanged, aaQ, abQ, acQ, adQ, aeQ, afQ, agQ, ahQ, aiQ, ajQ, akQ, alQ, amQ, anQ, aoQ, apQ, aqQ, arQ, asQ, atQ, auQ, avQ, awQ, axQ, ayQ, azQ, aAQ, aBQ, aCQ, aDQ, aEQ, aFQ, aGQ, aHQ, aIQ, aJQ, aKQ, aLQ, aMQ, aNQ, aOQ, aPQ, aQQ, aRQ, aSQ, aTQ, aUQ, aVQ, aWQ, aXQ, aYQ, aZQ, baQ, bbQ, bcQ, bdQ, beQ, bfQ, bgQ, bhQ, biQ, bjQ, bkQ, blQ, bmQ, bnQ, boQ, bpQ, bqQ, brQ, bsQ, btQ, buQ, bvQ, bwQ, bxQ, byQ, bzQ, bAQ, bBQ, bCQ, bDQ, bEQ, bFQ, bGQ, bHQ, bIQ, bJQ, bKQ, bLQ, bMQ, bNQ, bOQ, bPQ, bQQ, bRQ, bSQ, bTQ, bUQ, bVQ, bWQ, bXQ, bYQ, bZQ, caQ, cbQ, ccQ, cdQ, ceQ, cfQ, cgQ, chQ, ciQ, cjQ, ckQ, clQ, cmQ, cnQ, coQ, cpQ, cqQ, crQ, csQ, ctQ, cuQ, cvQ, cwQ, cxQ, cyQ, czQ, cAQ, cBQ, cCQ, cDQ, cEQ, cFQ, cGQ, cHQ, cIQ, cJQ, cKQ, cLQ, cMQ, cNQ, cOQ, cPQ, cQQ, cRQ, cSQ, cTQ, cUQ, cVQ, cWQ, cXQ, cYQ, cZQ, daQ, dbQ, dcQ, ddQ, deQ, dfQ, dgQ, dhQ, diQ, djQ, dkQ, dlQ, dmQ, dnQ, doQ, dpQ, dqQ, drQ, dsQ, dtQ, duQ, dvQ, dwQ, dxQ, dyQ, dzQ, dAQ, dBQ, dCQ, dDQ, dEQ, dFQ, dGQ, dHQ, dIQ, dJQ, dKQ, dLQ, dMQ, dNQ, dOQ, dPQ, dQQ, dRQ, dSQ, dTQ, dUQ, dVQ, dWQ, dXQ, dYQ, dZQ, eaQ, ebQ, ecQ, edQ, eeQ, efQ, egQ, ehQ, eiQ, ejQ, ekQ, elQ, emQ, enQ, eoQ, epQ, eqQ, erQ, esQ, etQ, euQ, evQ, ewQ, exQ, eyQ, ezQ, eAQ, eBQ, eCQ, eDQ, eEQ, eFQ, eGQ, eHQ, eIQ, eJQ, eKQ, eLQ, eMQ, eNQ, eOQ, ePQ, eQQ, eRQ, eSQ, eTQ, eUQ, eVQ, eWQ, eXQ, eYQ, eZQ, faQ, fbQ, fcQ, fdQ, feQ, ffQ, fgQ, fhQ, fiQ, fjQ, fkQ, flQ, fmQ, fnQ, foQ, fpQ, fqQ, frQ, fsQ, ftQ, fuQ, fvQ, fwQ, fxQ, fyQ, fzQ, fAQ, fBQ, fCQ, fDQ, fEQ, fFQ, fGQ, fHQ, fIQ, fJQ, fKQ, fLQ, fMQ, fNQ, fOQ, fPQ, fQQ, fRQ, fSQ, fTQ, fUQ, fVQ, fWQ, fXQ, fYQ, fZQ, gaQ, gbQ, gcQ, gdQ, geQ, gfQ, ggQ, ghQ, giQ, gjQ, gkQ, glQ, gmQ, gnQ, goQ, gpQ, gqQ, grQ, gsQ, gtQ, guQ, gvQ, gwQ, gxQ, gyQ, gzQ, gAQ, gBQ, gCQ, gDQ, gEQ, gFQ, gGQ, gHQ, gIQ, gJQ, gKQ, gLQ, gMQ, gNQ, gOQ, gPQ, gQQ, gRQ, gSQ, gTQ, gUQ, gVQ, gWQ, gXQ, gYQ, gZQ, haQ, hbQ, hcQ, hdQ, heQ, hfQ, hgQ, hhQ, hiQ, hjQ, hkQ, hlQ, hmQ, hnQ, hoQ, hpQ, hqQ, hrQ, hsQ, htQ, huQ, hvQ, hwQ, hxQ, hyQ, hzQ, hAQ, hBQ, hCQ, hDQ, hEQ, hFQ, hGQ, hHQ, hIQ, hJQ, hKQ, hLQ, hMQ, hNQ, hOQ, hPQ, hQQ, hRQ, hSQ, hTQ, hUQ, hVQ, hWQ, hXQ, hYQ, hZQ, iaQ, euQ, etQ, exQ, ibQ, icQ, rRow_ok hr, rHues_no k]
theorem exch_one (hr : IsRow r) (h1 : 1 ≤ h) (h2 : h ≤ 20) (k : NotInt 0 (h - 1) d) {g : D} : m_exchanged [rowD r, .int h, d, g] L = .err "InvalidNumber" [("value", d)] L := by
  simp only [u_exchanged, F_exchanged, aaQ, abQ, acQ, adQ, aeQ, afQ, agQ, ahQ, aiQ, ajQ, akQ, alQ, amQ, anQ, aoQ, apQ, aqQ, arQ, asQ, atQ, auQ, avQ, awQ, axQ, ayQ, azQ, aAQ, aBQ, aCQ, aDQ, aEQ, aFQ, aGQ, aHQ, aIQ, aJQ, aKQ, aLQ, aMQ, aNQ, aOQ, aPQ, aQQ, aRQ, aSQ, aTQ, aUQ, aVQ, aWQ, aXQ, aYQ, aZQ, baQ, bbQ, bcQ, bdQ, beQ, bfQ, bgQ, bhQ, biQ, bjQ, bkQ, blQ, bmQ, bnQ, boQ, bpQ, bqQ, brQ, bsQ, btQ, buQ, bvQ, bwQ, bxQ, byQ, bzQ, bAQ, bBQ, bCQ, bDQ, bEQ, bFQ, bGQ, bHQ, bIQ, bJQ, bKQ, bLQ, bMQ, bNQ, bOQ, bPQ, bQQ, bRQ, bSQ, bTQ, bUQ, bVQ, bWQ, bXQ, bYQ, bZQ, caQ, cbQ, ccQ, cdQ, ceQ, cfQ, cgQ, chQ, ciQ, cjQ, ckQ, clQ, cmQ, cnQ, coQ, cpQ, cqQ, crQ, csQ, ctQ, cuQ, cvQ, cwQ, cxQ, cyQ, czQ, cAQ, cBQ, cCQ, cDQ, cEQ, cFQ, cGQ, cHQ, cIQ, cJQ, cKQ, cLQ, cMQ, cNQ, cOQ, cPQ, cQQ, cRQ, cSQ, cTQ, cUQ, cVQ, cWQ, cXQ, cYQ, cZQ, daQ, dbQ, dcQ, ddQ, deQ, dfQ, dgQ, dhQ, diQ, djQ, dkQ, dlQ, dmQ, dnQ, doQ, dpQ, dqQ, drQ, dsQ, dtQ, duQ, dvQ, dwQ, dxQ, dyQ, dzQ, dAQ, dBQ, dCQ, dDQ, dEQ, dFQ, dGQ, dHQ, dIQ, dJQ, dKQ, dLQ, dMQ, dNQ, dOQ, dPQ, dQQ, dRQ, dSQ, dTQ, dUQ, dVQ, dWQ, dXQ, dYQ, dZQ, eaQ, ebQ, ecQ, edQ, eeQ, efQ, egQ, ehQ, eiQ, ejQ, ekQ, elQ, emQ, enQ, eoQ, epQ, eqQ, erQ, esQ, etQ, euQ, evQ, ewQ, exQ, eyQ, ezQ, eAQ, eBQ, eCQ, eDQ, eEQ, eFQ, eGQ, eHQ, eIQ, eJQ, eKQ, eLQ, eMQ, eNQ, eOQ, ePQ, eQQ, eRQ, eSQ, eTQ, eUQ, eVQ, eWQ, eXQ, eYQ, eZQ, faQ, fbQ, fcQ, fdQ, feQ, ffQ, fgQ, fhQ, fiQ, fjQ, fkQ, flQ, fmQ, fnQ, foQ, fpQ, fqQ, frQ, fsQ, ftQ, fuQ, fvQ, fwQ, fxQ, fyQ, fzQ, fAQ, fBQ, fCQ, fDQ, fEQ, fFQ, fGQ, fHQ, fIQ, fJQ, fKQ, fLQ, fMQ, fNQ, fOQ, fPQ, fQQ, fRQ, fSQ, fTQ, fUQ, fVQ, fWQ, fXQ, fYQ, fZQ, gaQ, gbQ, gcQ, gdQ, geQ, gfQ, ggQ, ghQ, giQ, gjQ, gkQ, glQ, gmQ, gnQ, goQ, gpQ, gqQ, grQ, gsQ, gtQ, guQ, gvQ, gwQ, gxQ, gyQ, gzQ, gAQ, gBQ, gCQ, gDQ, gEQ, gFQ, gGQ, gHQ, gIQ, gJQ, gKQ, gLQ, gMQ, gNQ, gOQ, gPQ, gQQ, gRQ, gSQ, gTQ, gUQ, gVQ, gWQ, gXQ, gYQ, gZQ, haQ, hbQ, hcQ, hdQ, heQ, hfQ, hgQ, hhQ, hiQ, hjQ, hkQ, hlQ, hmQ, hnQ, hoQ, hpQ, hqQ, hrQ, hsQ, htQ, huQ, hvQ, hwQ, hxQ, hyQ, hzQ, hAQ, hBQ, hCQ, hDQ, hEQ, hFQ, hGQ, hHQ, hIQ, hJQ, hKQ, hLQ, hMQ, hNQ, hOQ, hPQ, hQQ, hRQ, hSQ, hTQ, hUQ, hVQ, hWQ, hXQ, hYQ, hZQ, iaQ, euQ, etQ, exQ, ibQ, icQ, rRow_ok hr, rHues_ok h1 h2, rHue_no k]
theorem exch_two (hr : IsRow r) (h1 : 1 ≤ h) (h2 : h ≤ 20) (k : NotInt 0 (h - 1) d) : m_exchanged [rowD r, .int h, .int 0, d] L = .err "InvalidNumber" [("value", d)] L := by
  simp only [u_exchanged, F_exchanged, aaQ, abQ, acQ, adQ, aeQ, afQ, agQ, ahQ, aiQ, ajQ, akQ, alQ, amQ, anQ, aoQ, apQ, aqQ, arQ, asQ, atQ, auQ, avQ, awQ, axQ, ayQ, azQ, aAQ, aBQ, aCQ, aDQ, aEQ, aFQ, aGQ, aHQ, aIQ, aJQ, aKQ, aLQ, aMQ, aNQ, aOQ, aPQ, aQQ, aRQ, aSQ, aTQ, aUQ, aVQ, aWQ, aXQ, aYQ, aZQ, baQ, bbQ, bcQ, bdQ, beQ, bfQ, bgQ, bhQ, biQ, bjQ, bkQ, blQ, bmQ, bnQ, boQ, bpQ, bqQ, brQ, bsQ, btQ, buQ, bvQ, bwQ, bxQ, byQ, bzQ, bAQ, bBQ, bCQ, bDQ, bEQ, bFQ, bGQ, bHQ, bIQ, bJQ, bKQ, bLQ, bMQ, bNQ, bOQ, bPQ, bQQ, bRQ, bSQ, bTQ, bUQ, bVQ, bWQ, bXQ, bYQ, bZQ, caQ, cbQ, ccQ, cdQ, ceQ, cfQ, cgQ, chQ, ciQ, cjQ, ckQ, clQ, cmQ, cnQ, coQ, cpQ, cqQ, crQ, csQ, ctQ, cuQ, cvQ, cwQ, cxQ, cyQ, czQ, cAQ, cBQ, cCQ, cDQ, cEQ, cFQ, cGQ, cHQ, cIQ, cJQ, cKQ, cLQ, cMQ, cNQ, cOQ, cPQ, cQQ, cRQ, cSQ, cTQ, cUQ, cVQ, cWQ, cXQ, cYQ, cZQ, daQ, dbQ, dcQ, ddQ, deQ, dfQ, dgQ, dhQ, diQ, djQ, dkQ, dlQ, dmQ, dnQ, doQ, dpQ, dqQ, drQ, dsQ, dtQ, duQ, dvQ, dwQ, dxQ, dyQ, dzQ, dAQ, dBQ, dCQ, dDQ, dEQ, dFQ, dGQ, dHQ, dIQ, dJQ, dKQ, dLQ, dMQ, dNQ, dOQ, dPQ, dQQ, dRQ, dSQ, dTQ, dUQ, dVQ, dWQ, dXQ, dYQ, dZQ, eaQ, ebQ, ecQ, edQ, eeQ, efQ, egQ, ehQ, eiQ, ejQ, ekQ, elQ, emQ, enQ, eoQ, epQ, eqQ, erQ, esQ, etQ, euQ, evQ, ewQ, exQ, eyQ, ezQ, eAQ, eBQ, eCQ, eDQ, eEQ, eFQ, eGQ, eHQ, eIQ, eJQ, eKQ, eLQ, eMQ, eNQ, eOQ, ePQ, eQQ, eRQ, eSQ, eTQ, eUQ, eVQ, eWQ, eXQ, eYQ, eZQ, faQ, fbQ, fcQ, fdQ, feQ, ffQ, fgQ, fhQ, fiQ, fjQ, fkQ, flQ, fmQ, fnQ, foQ, fpQ, fqQ, frQ, fsQ, ftQ, fuQ, fvQ, fwQ, fxQ, fyQ, fzQ, fAQ, fBQ, fCQ, fDQ, fEQ, fFQ, fGQ, fHQ, fIQ, fJQ, fKQ, fLQ, fMQ, fNQ, fOQ, fPQ, fQQ, fRQ, fSQ, fTQ, fUQ, fVQ, fWQ, fXQ, fYQ, fZQ, gaQ, gbQ, gcQ, gdQ, geQ, gfQ, ggQ, ghQ, giQ, gjQ, gkQ, glQ, gmQ, gnQ, goQ, gpQ, gqQ, grQ, gsQ, gtQ, guQ, gvQ, gwQ, gxQ, gyQ, gzQ, gAQ, gBQ, gCQ, gDQ, gEQ, gFQ, gGQ, gHQ, gIQ, gJQ, gKQ, gLQ, gMQ, gNQ, gOQ, gPQ, gQQ, gRQ, gSQ, gTQ, gUQ, gVQ, gWQ, gXQ, gYQ, gZQ, haQ, hbQ, hcQ, hdQ, heQ, hfQ, hgQ, hhQ, hiQ, hjQ, hkQ, hlQ, hmQ, hnQ, hoQ, hpQ, hqQ, hrQ, hsQ, htQ, huQ, hvQ, hwQ, hxQ, hyQ, hzQ, hAQ, hBQ, hCQ, hDQ, hEQ, hFQ, hGQ, hHQ, hIQ, hJQ, hKQ, hLQ, hMQ, hNQ, hOQ, hPQ, hQQ, hRQ, hSQ, hTQ, hUQ, hVQ, hWQ, hXQ, hYQ, hZQ, iaQ, euQ, etQ, exQ, ibQ, icQ, rRow_ok hr, rHues_ok h1 h2, rHue_ok (x := 0) (h := h) (by omega) (by omega), rHue_no k]
theorem exch_far (hr : IsRow r) (h1 : 1 ≤ h) (h2 : h ≤ 20) (k : (r.all fun x => decide (x < h)) = false) : m_exchanged [rowD r, .int h, .int 0, .int 0] L = .err "InvalidRow" [] L := by
  have hl := hr.l2
  simp only [u_exchanged, F_exchanged, aaQ, abQ, acQ, adQ, aeQ, afQ, agQ, ahQ, aiQ, ajQ, akQ, alQ, amQ, anQ, aoQ, apQ, aqQ, arQ, asQ, atQ, auQ, avQ, awQ, axQ, ayQ, azQ, aAQ, aBQ, aCQ, aDQ, aEQ, aFQ, aGQ, aHQ, aIQ, aJQ, aKQ, aLQ, aMQ, aNQ, aOQ, aPQ, aQQ, aRQ, aSQ, aTQ, aUQ, aVQ, aWQ, aXQ, aYQ, aZQ, baQ, bbQ, bcQ, bdQ, beQ, bfQ, bgQ, bhQ, biQ, bjQ, bkQ, blQ, bmQ, bnQ, boQ, bpQ, bqQ, brQ, bsQ, btQ, buQ, bvQ, bwQ, bxQ, byQ, bzQ, bAQ, bBQ, bCQ, bDQ, bEQ, bFQ, bGQ, bHQ, bIQ, bJQ, bKQ, bLQ, bMQ, bNQ, bOQ, bPQ, bQQ, bRQ, bSQ, bTQ, bUQ, bVQ, bWQ, bXQ, bYQ, bZQ, caQ, cbQ, ccQ, cdQ, ceQ, cfQ, cgQ, chQ, ciQ, cjQ, ckQ, clQ, cmQ, cnQ, coQ, cpQ, cqQ, crQ, csQ, ctQ, cuQ, cvQ, cwQ, cxQ, cyQ, czQ, cAQ, cBQ, cCQ, cDQ, cEQ, cFQ, cGQ, cHQ, cIQ, cJQ, cKQ, cLQ, cMQ, cNQ, cOQ, cPQ, cQQ, cRQ, cSQ, cTQ, cUQ, cVQ, cWQ, cXQ, cYQ, cZQ, daQ, dbQ, dcQ, ddQ, deQ, dfQ, dgQ, dhQ, diQ, djQ, dkQ, dlQ, dmQ, dnQ, doQ, dpQ, dqQ, drQ, dsQ, dtQ, duQ, dvQ, dwQ, dxQ, dyQ, dzQ, dAQ, dBQ, dCQ, dDQ, dEQ, dFQ, dGQ, dHQ, dIQ, dJQ, dKQ, dLQ, dMQ, dNQ, dOQ, dPQ, dQQ, dRQ, dSQ, dTQ, dUQ, dVQ, dWQ, dXQ, dYQ, dZQ, eaQ, ebQ, ecQ, edQ, eeQ, efQ, egQ, ehQ, eiQ, ejQ, ekQ, elQ, emQ, enQ, eoQ, epQ, eqQ, erQ, esQ, etQ, euQ, evQ, ewQ, exQ, eyQ, ezQ, eAQ, eBQ, eCQ, eDQ, eEQ, eFQ, eGQ, eHQ, eIQ, eJQ, eKQ, eLQ, eMQ, eNQ, eOQ, ePQ, eQQ, eRQ, eSQ, eTQ, eUQ, eVQ, eWQ, eXQ, eYQ, eZQ, faQ, fbQ, fcQ, fdQ, feQ, ffQ, fgQ, fhQ, fiQ, fjQ, fkQ, flQ, fmQ, fnQ, foQ, fpQ, fqQ, frQ, fsQ, ftQ, fuQ, fvQ, fwQ, fxQ, fyQ, fzQ, fAQ, fBQ, fCQ, fDQ, fEQ, fFQ, fGQ, fHQ, fIQ, fJQ, fKQ, fLQ, fMQ, fNQ, fOQ, fPQ, fQQ, fRQ, fSQ, fTQ, fUQ, fVQ, fWQ, fXQ, fYQ, fZQ, gaQ, gbQ, gcQ, gdQ, geQ, gfQ, ggQ, ghQ, giQ, gjQ, gkQ, glQ, gmQ, gnQ, goQ, gpQ, gqQ, grQ, gsQ, gtQ, guQ, gvQ, gwQ, gxQ, gyQ, gzQ, gAQ, gBQ, gCQ, gDQ, gEQ, gFQ, gGQ, gHQ, gIQ, gJQ, gKQ, gLQ, gMQ, gNQ, gOQ, gPQ, gQQ, gRQ, gSQ, gTQ, gUQ, gVQ, gWQ, gXQ, gYQ, gZQ, haQ, hbQ, hcQ, hdQ, heQ, hfQ, hgQ, hhQ, hiQ, hjQ, hkQ, hlQ, hmQ, hnQ, hoQ, hpQ, hqQ, hrQ, hsQ, htQ, huQ, hvQ, hwQ, hxQ, hyQ, hzQ, hAQ, hBQ, hCQ, hDQ, hEQ, hFQ, hGQ, hHQ, hIQ, hJQ, hKQ, hLQ, hMQ, hNQ, hOQ, hPQ, hQQ, hRQ, hSQ, hTQ, hUQ, hVQ, hWQ, hXQ, hYQ, hZQ, iaQ, euQ, etQ, exQ, ibQ, icQ, rRow_ok hr, rHues_ok h1 h2, rHue_ok (x := 0) (h := h) (by omega) (by omega), rBelow (r := r) (h := h) (by omega : r.length ≤ 1000), k, Bool.false_eq_true, if_false]
theorem ren_no (k : NotRow d) : m_renamed [d] L = .err "InvalidRow" [] L := by
  simp only [u_renamed, F_renamed, aaQ, abQ, acQ, adQ, aeQ, afQ, agQ, ahQ, aiQ, ajQ, akQ, alQ, amQ, anQ, aoQ, apQ, aqQ, arQ, asQ, atQ, auQ, avQ, awQ, axQ, ayQ, azQ, aAQ, aBQ, aCQ, aDQ, aEQ, aFQ, aGQ, aHQ, aIQ, aJQ, aKQ, aLQ, aMQ, aNQ, aOQ, aPQ, aQQ, aRQ, aSQ, aTQ, aUQ, aVQ, aWQ, aXQ, aYQ, aZQ, baQ, bbQ, bcQ, bdQ, beQ, bfQ, bgQ, bhQ, biQ, bjQ, bkQ, blQ, bmQ, bnQ, boQ, bpQ, bqQ, brQ, bsQ, btQ, buQ, bvQ, bwQ, bxQ, byQ, bzQ, bAQ, bBQ, bCQ, bDQ, bEQ, bFQ, bGQ, bHQ, bIQ, bJQ, bKQ, bLQ, bMQ, bNQ, bOQ, bPQ, bQQ, bRQ, bSQ, bTQ, bUQ, bVQ, bWQ, bXQ, bYQ, bZQ, caQ, cbQ, ccQ, cdQ, ceQ, cfQ, cgQ, chQ, ciQ, cjQ, ckQ, clQ, cmQ, cnQ, coQ, cpQ, cqQ, crQ, csQ, ctQ, cuQ, cvQ, cwQ, cxQ, cyQ, czQ, cAQ, cBQ, cCQ, cDQ, cEQ, cFQ, cGQ, cHQ, cIQ, cJQ, cKQ, cLQ, cMQ, cNQ, cOQ, cPQ, cQQ, cRQ, cSQ, cTQ, cUQ, cVQ, cWQ, cXQ, cYQ, cZQ, daQ, dbQ, dcQ, ddQ, deQ, dfQ, dgQ, dhQ, diQ, djQ, dkQ, dlQ, dmQ, dnQ, doQ, dpQ, dqQ, drQ, dsQ, dtQ, duQ, dvQ, dwQ, dxQ, dyQ, dzQ, dAQ, dBQ, dCQ, dDQ, dEQ, dFQ, dGQ, dHQ, dIQ, dJQ, dKQ, dLQ, dMQ, dNQ, dOQ, dPQ, dQQ, dRQ, dSQ, dTQ, dUQ, dVQ, dWQ, dXQ, dYQ, dZQ, eaQ, ebQ, ecQ, edQ, eeQ, efQ, egQ, ehQ, eiQ, ejQ, ekQ, elQ, emQ, enQ, eoQ, epQ, eqQ, erQ, esQ, etQ, euQ, evQ, ewQ, exQ, eyQ, ezQ, eAQ, eBQ, eCQ, eDQ, eEQ, eFQ, eGQ, eHQ, eIQ, eJQ, eKQ, eLQ, eMQ, eNQ, eOQ, ePQ, eQQ, eRQ, eSQ, eTQ, eUQ, eVQ, eWQ, eXQ, eYQ, eZQ, faQ, fbQ, fcQ, fdQ, feQ, ffQ, fgQ, fhQ, fiQ, fjQ, fkQ, flQ, fmQ, fnQ, foQ, fpQ, fqQ, frQ, fsQ, ftQ, fuQ, fvQ, fwQ, fxQ, fyQ, fzQ, fAQ, fBQ, fCQ, fDQ, fEQ, fFQ, fGQ, fHQ, fIQ, fJQ, fKQ, fLQ, fMQ, fNQ, fOQ, fPQ, fQQ, fRQ, fSQ, fTQ, fUQ, fVQ, fWQ, fXQ, fYQ, fZQ, gaQ, gbQ, gcQ, gdQ, geQ, gfQ, ggQ, ghQ, giQ, gjQ, gkQ, glQ, gmQ, gnQ, goQ, gpQ, gqQ, grQ, gsQ, gtQ, guQ, gvQ, gwQ, gxQ, gyQ, gzQ, gAQ, gBQ, gCQ, gDQ, gEQ, gFQ, gGQ, gHQ, gIQ, gJQ, gKQ, gLQ, gMQ, gNQ, gOQ, gPQ, gQQ, gRQ, gSQ, gTQ, gUQ, gVQ, gWQ, gXQ, gYQ, gZQ, haQ, hbQ, hcQ, hdQ, heQ, hfQ, hgQ, hhQ, hiQ, hjQ, hkQ, hlQ, hmQ, hnQ, hoQ, hpQ, hqQ, hrQ, hsQ, htQ, huQ, hvQ, hwQ, hxQ, hyQ, hzQ, hAQ, hBQ, hCQ, hDQ, hEQ, hFQ, hGQ, hHQ, hIQ, hJQ, hKQ, hLQ, hMQ, hNQ, hOQ, hPQ, hQQ, hRQ, hSQ, hTQ, hUQ, hVQ, hWQ, hXQ, hYQ, hZQ, iaQ, euQ, etQ, exQ, ibQ, icQ, rRow_no k]
theorem alike_one (k : NotRow d) {e : D} : m_are_alike [d, e] L = .err "InvalidRow" [] L := by
  simp only [u_are_alike, F_are_alike, aaQ, abQ, acQ, adQ, aeQ, afQ, agQ, ahQ, aiQ, ajQ, akQ, alQ, amQ, anQ, aoQ, apQ, aqQ, arQ, asQ, atQ, auQ, avQ, awQ, axQ, ayQ, azQ, aAQ, aBQ, aCQ, aDQ, aEQ, aFQ, aGQ, aHQ, aIQ, aJQ, aKQ, aLQ, aMQ, aNQ, aOQ, aPQ, aQQ, aRQ, aSQ, aTQ, aUQ, aVQ, aWQ, aXQ, aYQ, aZQ, baQ, bbQ, bcQ, bdQ, beQ, bfQ, bgQ, bhQ, biQ, bjQ, bkQ, blQ, bmQ, bnQ, boQ, bpQ, bqQ, brQ, bsQ, btQ, buQ, bvQ, bwQ, bxQ, byQ, bzQ, bAQ, bBQ, bCQ, bDQ, bEQ, bFQ, bGQ, bHQ, bIQ, bJQ, bKQ, bLQ, bMQ, bNQ, bOQ, bPQ, bQQ, bRQ, bSQ, bTQ, bUQ, bVQ, bWQ, bXQ, bYQ, bZQ, caQ, cbQ, ccQ, cdQ, ceQ, cfQ, cgQ, chQ, ciQ, cjQ, ckQ, clQ, cmQ, cnQ, coQ, cpQ, cqQ, crQ, csQ, ctQ, cuQ, cvQ, cwQ, cxQ, cyQ, czQ, cAQ, cBQ, cCQ, cDQ, cEQ, cFQ, cGQ, cHQ, cIQ, cJQ, cKQ, cLQ, cMQ, cNQ, cOQ, cPQ, cQQ, cRQ, cSQ, cTQ, cUQ, cVQ, cWQ, cXQ, cYQ, cZQ, daQ, dbQ, dcQ, ddQ, deQ, dfQ, dgQ, dhQ, diQ, djQ, dkQ, dlQ, dmQ, dnQ, doQ, dpQ, dqQ, drQ, dsQ, dtQ, duQ, dvQ, dwQ, dxQ, dyQ, dzQ, dAQ, dBQ, dCQ, dDQ, dEQ, dFQ, dGQ, dHQ, dIQ, dJQ, dKQ, dLQ, dMQ, dNQ, dOQ, dPQ, dQQ, dRQ, dSQ, dTQ, dUQ, dVQ, dWQ, dXQ, dYQ, dZQ, eaQ, ebQ, ecQ, edQ, eeQ, efQ, egQ, ehQ, eiQ, ejQ, ekQ, elQ, emQ, enQ, eoQ, epQ, eqQ, erQ, esQ, etQ, euQ, evQ, ewQ, exQ, eyQ, ezQ, eAQ, eBQ, eCQ, eDQ, eEQ, eFQ, eGQ, eHQ, eIQ, eJQ, eKQ, eLQ, eMQ, eNQ, eOQ, ePQ, eQQ, eRQ, eSQ, eTQ, eUQ, eVQ, eWQ, eXQ, eYQ, eZQ, faQ, fbQ, fcQ, fdQ, feQ, ffQ, fgQ, fhQ, fiQ, fjQ, fkQ, flQ, fmQ, fnQ, foQ, fpQ, fqQ, frQ, fsQ, ftQ, fuQ, fvQ, fwQ, fxQ, fyQ, fzQ, fAQ, fBQ, fCQ, fDQ, fEQ, fFQ, fGQ, fHQ, fIQ, fJQ, fKQ, fLQ, fMQ, fNQ, fOQ, fPQ, fQQ, fRQ, fSQ, fTQ, fUQ, fVQ, fWQ, fXQ, fYQ, fZQ, gaQ, gbQ, gcQ, gdQ, geQ, gfQ, ggQ, ghQ, giQ, gjQ, gkQ, glQ, gmQ, gnQ, goQ, gpQ, gqQ, grQ, gsQ, gtQ, guQ, gvQ, gwQ, gxQ, gyQ, gzQ, gAQ, gBQ, gCQ, gDQ, gEQ, gFQ, gGQ, gHQ, gIQ, gJQ, gKQ, gLQ, gMQ, gNQ, gOQ, gPQ, gQQ, gRQ, gSQ, gTQ, gUQ, gVQ, gWQ, gXQ, gYQ, gZQ, haQ, hbQ, hcQ, hdQ, heQ, hfQ, hgQ, hhQ, hiQ, hjQ, hkQ, hlQ, hmQ, hnQ, hoQ, hpQ, hqQ, hrQ, hsQ, htQ, huQ, hvQ, hwQ, hxQ, hyQ, hzQ, hAQ, hBQ, hCQ, hDQ, hEQ, hFQ, hGQ, hHQ, hIQ, hJQ, hKQ, hLQ, hMQ, hNQ, hOQ, hPQ, hQQ, hRQ, hSQ, hTQ, hUQ, hVQ, hWQ, hXQ, hYQ, hZQ, iaQ, euQ, etQ, exQ, ibQ, icQ, rRow_no k]
theorem alike_two (hr : IsRow r) (k : NotRow d) : m_are_alike [rowD r, d] L = .err "InvalidRow" [] L := by
  simp only [u_are_alike, F_are_alike, aaQ, abQ, acQ, adQ, aeQ, afQ, agQ, ahQ, aiQ, ajQ, akQ, alQ, amQ, anQ, aoQ, apQ, aqQ, arQ, asQ, atQ, auQ, avQ, awQ, axQ, ayQ, azQ, aAQ, aBQ, aCQ, aDQ, aEQ, aFQ, aGQ, aHQ, aIQ, aJQ, aKQ, aLQ, aMQ, aNQ, aOQ, aPQ, aQQ, aRQ, aSQ, aTQ, aUQ, aVQ, aWQ, aXQ, aYQ, aZQ, baQ, bbQ, bcQ, bdQ, beQ, bfQ, bgQ, bhQ, biQ, bjQ, bkQ, blQ, bmQ, bnQ, boQ, bpQ, bqQ, brQ, bsQ, btQ, buQ, bvQ, bwQ, bxQ, byQ, bzQ, bAQ, bBQ, bCQ, bDQ, bEQ, bFQ, bGQ, bHQ, bIQ, bJQ, bKQ, bLQ, bMQ, bNQ, bOQ, bPQ, bQQ, bRQ, bSQ, bTQ, bUQ, bVQ, bWQ, bXQ, bYQ, bZQ, caQ, cbQ, ccQ, cdQ, ceQ, cfQ, cgQ, chQ, ciQ, cjQ, ckQ, clQ, cmQ, cnQ, coQ, cpQ, cqQ, crQ, csQ, ctQ, cuQ, cvQ, cwQ, cxQ, cyQ, czQ, cAQ, cBQ, cCQ, cDQ, cEQ, cFQ, cGQ, cHQ, cIQ, cJQ, cKQ, cLQ, cMQ, cNQ, cOQ, cPQ, cQQ, cRQ, cSQ, cTQ, cUQ, cVQ, cWQ, cXQ, cYQ, cZQ, daQ, dbQ, dcQ, ddQ, deQ, dfQ, dgQ, dhQ, diQ, djQ, dkQ, dlQ, dmQ, dnQ, doQ, dpQ, dqQ, drQ, dsQ, dtQ, duQ, dvQ, dwQ, dxQ, dyQ, dzQ, dAQ, dBQ, dCQ, dDQ, dEQ, dFQ, dGQ, dHQ, dIQ, dJQ, dKQ, dLQ, dMQ, dNQ, dOQ, dPQ, dQQ, dRQ, dSQ, dTQ, dUQ, dVQ, dWQ, dXQ, dYQ, dZQ, eaQ, ebQ, ecQ, edQ, eeQ, efQ, egQ, ehQ, eiQ, ejQ, ekQ, elQ, emQ, enQ, eoQ, epQ, eqQ, erQ, esQ, etQ, euQ, evQ, ewQ, exQ, eyQ, ezQ, eAQ, eBQ, eCQ, eDQ, eEQ, eFQ, eGQ, eHQ, eIQ, eJQ, eKQ, eLQ, eMQ, eNQ, eOQ, ePQ, eQQ, eRQ, eSQ, eTQ, eUQ, eVQ, eWQ, eXQ, eYQ, eZQ, faQ, fbQ, fcQ, fdQ, feQ, ffQ, fgQ, fhQ, fiQ, fjQ, fkQ, flQ, fmQ, fnQ, foQ, fpQ, fqQ, frQ, fsQ, ftQ, fuQ, fvQ, fwQ, fxQ, fyQ, fzQ, fAQ, fBQ, fCQ, fDQ, fEQ, fFQ, fGQ, fHQ, fIQ, fJQ, fKQ, fLQ, fMQ, fNQ, fOQ, fPQ, fQQ, fRQ, fSQ, fTQ, fUQ, fVQ, fWQ, fXQ, fYQ, fZQ, gaQ, gbQ, gcQ, gdQ, geQ, gfQ, ggQ, ghQ, giQ, gjQ, gkQ, glQ, gmQ, gnQ, goQ, gpQ, gqQ, grQ, gsQ, gtQ, guQ, gvQ, gwQ, gxQ, gyQ, gzQ, gAQ, gBQ, gCQ, gDQ, gEQ, gFQ, gGQ, gHQ, gIQ, gJQ, gKQ, gLQ, gMQ, gNQ, gOQ, gPQ, gQQ, gRQ, gSQ, gTQ, gUQ, gVQ, gWQ, gXQ, gYQ, gZQ, haQ, hbQ, hcQ, hdQ, heQ, hfQ, hgQ, hhQ, hiQ, hjQ, hkQ, hlQ, hmQ, hnQ, hoQ, hpQ, hqQ, hrQ, hsQ, htQ, huQ, hvQ, hwQ, hxQ, hyQ, hzQ, hAQ, hBQ, hCQ, hDQ, hEQ, hFQ, hGQ, hHQ, hIQ, hJQ, hKQ, hLQ, hMQ, hNQ, hOQ, hPQ, hQQ, hRQ, hSQ, hTQ, hUQ, hVQ, hWQ, hXQ, hYQ, hZQ, iaQ, euQ, etQ, exQ, ibQ, icQ, rRow_ok hr, rRow_no k]
theorem alike_len {q : List Int} (hr : IsRow r) (hq : IsRow q) (k : r.length ≠ q.length) : m_are_alike [rowD r, rowD q] L = .err "InvalidOperation" [] L := by
  have k' : ¬ ((r.length : Int) = (q.length : Int)) := by omega
  simp only [u_are_alike, F_are_alike, aaQ, abQ, acQ, adQ, aeQ, afQ, agQ, ahQ, aiQ, ajQ, akQ, alQ, amQ, anQ, aoQ, apQ, aqQ, arQ, asQ, atQ, auQ, avQ, awQ, axQ, ayQ, azQ, aAQ, aBQ, aCQ, aDQ, aEQ, aFQ, aGQ, aHQ, aIQ, aJQ, aKQ, aLQ, aMQ, aNQ, aOQ, aPQ, aQQ, aRQ, aSQ, aTQ, aUQ, aVQ, aWQ, aXQ, aYQ, aZQ, baQ, bbQ, bcQ, bdQ, beQ, bfQ, bgQ, bhQ, biQ, bjQ, bkQ, blQ, bmQ, bnQ, boQ, bpQ, bqQ, brQ, bsQ, btQ, buQ, bvQ, bwQ, bxQ, byQ, bzQ, bAQ, bBQ, bCQ, bDQ, bEQ, bFQ, bGQ, bHQ, bIQ, bJQ, bKQ, bLQ, bMQ, bNQ, bOQ, bPQ, bQQ, bRQ, bSQ, bTQ, bUQ, bVQ, bWQ, bXQ, bYQ, bZQ, caQ, cbQ, ccQ, cdQ, ceQ, cfQ, cgQ, chQ, ciQ, cjQ, ckQ, clQ, cmQ, cnQ, coQ, cpQ, cqQ, crQ, csQ, ctQ, cuQ, cvQ, cwQ, cxQ, cyQ, czQ, cAQ, cBQ, cCQ, cDQ, cEQ, cFQ, cGQ, cHQ, cIQ, cJQ, cKQ, cLQ, cMQ, cNQ, cOQ, cPQ, cQQ, cRQ, cSQ, cTQ, cUQ, cVQ, cWQ, cXQ, cYQ, cZQ, daQ, dbQ, dcQ, ddQ, deQ, dfQ, dgQ, dhQ, diQ, djQ, dkQ, dlQ, dmQ, dnQ, doQ, dpQ, dqQ, drQ, dsQ, dtQ, duQ, dvQ, dwQ, dxQ, dyQ, dzQ, dAQ, dBQ, dCQ, dDQ, dEQ, dFQ, dGQ, dHQ, dIQ, dJQ, dKQ, dLQ, dMQ, dNQ, dOQ, dPQ, dQQ, dRQ, dSQ, dTQ, dUQ, dVQ, dWQ, dXQ, dYQ, dZQ, eaQ, ebQ, ecQ, edQ, eeQ, efQ, egQ, ehQ, eiQ, ejQ, ekQ, elQ, emQ, enQ, eoQ, epQ, eqQ, erQ, esQ, etQ, euQ, evQ, ewQ, exQ, eyQ, ezQ, eAQ, eBQ, eCQ, eDQ, eEQ, eFQ, eGQ, eHQ, eIQ, eJQ, eKQ, eLQ, eMQ, eNQ, eOQ, ePQ, eQQ, eRQ, eSQ, eTQ, eUQ, eVQ, eWQ, eXQ, eYQ, eZQ, faQ, fbQ, fcQ, fdQ, feQ, ffQ, fgQ, fhQ, fiQ, fjQ, fkQ, flQ, fmQ, fnQ, foQ, fpQ, fqQ, frQ, fsQ, ftQ, fuQ, fvQ, fwQ, fxQ, fyQ, fzQ, fAQ, fBQ, fCQ, fDQ, fEQ, fFQ, fGQ, fHQ, fIQ, fJQ, fKQ, fLQ, fMQ, fNQ, fOQ, fPQ, fQQ, fRQ, fSQ, fTQ, fUQ, fVQ, fWQ, fXQ, fYQ, fZQ, gaQ, gbQ, gcQ, gdQ, geQ, gfQ, ggQ, ghQ, giQ, gjQ, gkQ, glQ, gmQ, gnQ, goQ, gpQ, gqQ, grQ, gsQ, gtQ, guQ, gvQ, gwQ, gxQ, gyQ, gzQ, gAQ, gBQ, gCQ, gDQ, gEQ, gFQ, gGQ, gHQ, gIQ, gJQ, gKQ, gLQ, gMQ, gNQ, gOQ, gPQ, gQQ, gRQ, gSQ, gTQ, gUQ, gVQ, gWQ, gXQ, gYQ, gZQ, haQ, hbQ, hcQ, hdQ, heQ, hfQ, hgQ, hhQ, hiQ, hjQ, hkQ, hlQ, hmQ, hnQ, hoQ, hpQ, hqQ, hrQ, hsQ, htQ, huQ, hvQ, hwQ, hxQ, hyQ, hzQ, hAQ, hBQ, hCQ, hDQ, hEQ, hFQ, hGQ, hHQ, hIQ, hJQ, hKQ, hLQ, hMQ, hNQ, hOQ, hPQ, hQQ, hRQ, hSQ, hTQ, hUQ, hVQ, hWQ, hXQ, hYQ, hZQ, iaQ, euQ, etQ, exQ, ibQ, icQ, rRow_ok hr, rRow_ok hq, eyQ, List.length_map, decide_eq_false k', Bool.not_false, if_true]
theorem lev_one (k : NotInt 1 20 d) {e : D} : m_level_sizes [d, e] L = .err "InvalidNumber" [("value", d)] L := by
  simp only [u_level_sizes, F_level_sizes, aaQ, abQ, acQ, adQ, aeQ, afQ, agQ, ahQ, aiQ, ajQ, akQ, alQ, amQ, anQ, aoQ, apQ, aqQ, arQ, asQ, atQ, auQ, avQ, awQ, axQ, ayQ, azQ, aAQ, aBQ, aCQ, aDQ, aEQ, aFQ, aGQ, aHQ, aIQ, aJQ, aKQ, aLQ, aMQ, aNQ, aOQ, aPQ, aQQ, aRQ, aSQ, aTQ, aUQ, aVQ, aWQ, aXQ, aYQ, aZQ, baQ, bbQ, bcQ, bdQ, beQ, bfQ, bgQ, bhQ, biQ, bjQ, bkQ, blQ, bmQ, bnQ, boQ, bpQ, bqQ, brQ, bsQ, btQ, buQ, bvQ, bwQ, bxQ, byQ, bzQ, bAQ, bBQ, bCQ, bDQ, bEQ, bFQ, bGQ, bHQ, bIQ, bJQ, bKQ, bLQ, bMQ, bNQ, bOQ, bPQ, bQQ, bRQ, bSQ, bTQ, bUQ, bVQ, bWQ, bXQ, bYQ, bZQ, caQ, cbQ, ccQ, cdQ, ceQ, cfQ, cgQ, chQ, ciQ, cjQ, ckQ, clQ, cmQ, cnQ, coQ, cpQ, cqQ, crQ, csQ, ctQ, cuQ, cvQ, cwQ, cxQ, cyQ, czQ, cAQ, cBQ, cCQ, cDQ, cEQ, cFQ, cGQ, cHQ, cIQ, cJQ, cKQ, cLQ, cMQ, cNQ, cOQ, cPQ, cQQ, cRQ, cSQ, cTQ, cUQ, cVQ, cWQ, cXQ, cYQ, cZQ, daQ, dbQ, dcQ, ddQ, deQ, dfQ, dgQ, dhQ, diQ, djQ, dkQ, dlQ, dmQ, dnQ, doQ, dpQ, dqQ, drQ, dsQ, dtQ, duQ, dvQ, dwQ, dxQ, dyQ, dzQ, dAQ, dBQ, dCQ, dDQ, dEQ, dFQ, dGQ, dHQ, dIQ, dJQ, dKQ, dLQ, dMQ, dNQ, dOQ, dPQ, dQQ, dRQ, dSQ, dTQ, dUQ, dVQ, dWQ, dXQ, dYQ, dZQ, eaQ, ebQ, ecQ, edQ, eeQ, efQ, egQ, ehQ, eiQ, ejQ, ekQ, elQ, emQ, enQ, eoQ, epQ, eqQ, erQ, esQ, etQ, euQ, evQ, ewQ, exQ, eyQ, ezQ, eAQ, eBQ, eCQ, eDQ, eEQ, eFQ, eGQ, eHQ, eIQ, eJQ, eKQ, eLQ, eMQ, eNQ, eOQ, ePQ, eQQ, eRQ, eSQ, eTQ, eUQ, eVQ, eWQ, eXQ, eYQ, eZQ, faQ, fbQ, fcQ, fdQ, feQ, ffQ, fgQ, fhQ, fiQ, fjQ, fkQ, flQ, fmQ, fnQ, foQ, fpQ, fqQ, frQ, fsQ, ftQ, fuQ, fvQ, fwQ, fxQ, fyQ, fzQ, fAQ, fBQ, fCQ, fDQ, fEQ, fFQ, fGQ, fHQ, fIQ, fJQ, fKQ, fLQ, fMQ, fNQ, fOQ, fPQ, fQQ, fRQ, fSQ, fTQ, fUQ, fVQ, fWQ, fXQ, fYQ, fZQ, gaQ, gbQ, gcQ, gdQ, geQ, gfQ, ggQ, ghQ, giQ, gjQ, gkQ, glQ, gmQ, gnQ, goQ, gpQ, gqQ, grQ, gsQ, gtQ, guQ, gvQ, gwQ, gxQ, gyQ, gzQ, gAQ, gBQ, gCQ, gDQ, gEQ, gFQ, gGQ, gHQ, gIQ, gJQ, gKQ, gLQ, gMQ, gNQ, gOQ, gPQ, gQQ, gRQ, gSQ, gTQ, gUQ, gVQ, gWQ, gXQ, gYQ, gZQ, haQ, hbQ, hcQ, hdQ, heQ, hfQ, hgQ, hhQ, hiQ, hjQ, hkQ, hlQ, hmQ, hnQ, hoQ, hpQ, hqQ, hrQ, hsQ, htQ, huQ, hvQ, hwQ, hxQ, hyQ, hzQ, hAQ, hBQ, hCQ, hDQ, hEQ, hFQ, hGQ, hHQ, hIQ, hJQ, hKQ, hLQ, hMQ, hNQ, hOQ, hPQ, hQQ, hRQ, hSQ, hTQ, hUQ, hVQ, hWQ, hXQ, hYQ, hZQ, iaQ, euQ, etQ, exQ, ibQ, icQ, rHues_no k]
theorem lev_two (k : NotInt 1 20 d) : m_level_sizes [.int 20, d] L = .err "InvalidNumber" [("value", d)] L := by
  simp only [u_level_sizes, F_level_sizes, aaQ, abQ, acQ, adQ, aeQ, afQ, agQ, ahQ, aiQ, ajQ, akQ, alQ, amQ, anQ, aoQ, apQ, aqQ, arQ, asQ, atQ, auQ, avQ, awQ, axQ, ayQ, azQ, aAQ, aBQ, aCQ, aDQ, aEQ, aFQ, aGQ, aHQ, aIQ, aJQ, aKQ, aLQ, aMQ, aNQ, aOQ, aPQ, aQQ, aRQ, aSQ, aTQ, aUQ, aVQ, aWQ, aXQ, aYQ, aZQ, baQ, bbQ, bcQ, bdQ, beQ, bfQ, bgQ, bhQ, biQ, bjQ, bkQ, blQ, bmQ, bnQ, boQ, bpQ, bqQ, brQ, bsQ, btQ, buQ, bvQ, bwQ, bxQ, byQ, bzQ, bAQ, bBQ, bCQ, bDQ, bEQ, bFQ, bGQ, bHQ, bIQ, bJQ, bKQ, bLQ, bMQ, bNQ, bOQ, bPQ, bQQ, bRQ, bSQ, bTQ, bUQ, bVQ, bWQ, bXQ, bYQ, bZQ, caQ, cbQ, ccQ, cdQ, ceQ, cfQ, cgQ, chQ, ciQ, cjQ, ckQ, clQ, cmQ, cnQ, coQ, cpQ, cqQ, crQ, csQ, ctQ, cuQ, cvQ, cwQ, cxQ, cyQ, czQ, cAQ, cBQ, cCQ, cDQ, cEQ, cFQ, cGQ, cHQ, cIQ, cJQ, cKQ, cLQ, cMQ, cNQ, cOQ, cPQ, cQQ, cRQ, cSQ, cTQ, cUQ, cVQ, cWQ, cXQ, cYQ, cZQ, daQ, dbQ, dcQ, ddQ, deQ, dfQ, dgQ, dhQ, diQ, djQ, dkQ, dlQ, dmQ, dnQ, doQ, dpQ, dqQ, drQ, dsQ, dtQ, duQ, dvQ, dwQ, dxQ, dyQ, dzQ, dAQ, dBQ, dCQ, dDQ, dEQ, dFQ, dGQ, dHQ, dIQ, dJQ, dKQ, dLQ, dMQ, dNQ, dOQ, dPQ, dQQ, dRQ, dSQ, dTQ, dUQ, dVQ, dWQ, dXQ, dYQ, dZQ, eaQ, ebQ, ecQ, edQ, eeQ, efQ, egQ, ehQ, eiQ, ejQ, ekQ, elQ, emQ, enQ, eoQ, epQ, eqQ, erQ, esQ, etQ, euQ, evQ, ewQ, exQ, eyQ, ezQ, eAQ, eBQ, eCQ, eDQ, eEQ, eFQ, eGQ, eHQ, eIQ, eJQ, eKQ, eLQ, eMQ, eNQ, eOQ, ePQ, eQQ, eRQ, eSQ, eTQ, eUQ, eVQ, eWQ, eXQ, eYQ, eZQ, faQ, fbQ, fcQ, fdQ, feQ, ffQ, fgQ, fhQ, fiQ, fjQ, fkQ, flQ, fmQ, fnQ, foQ, fpQ, fqQ, frQ, fsQ, ftQ, fuQ, fvQ, fwQ, fxQ, fyQ, fzQ, fAQ, fBQ, fCQ, fDQ, fEQ, fFQ, fGQ, fHQ, fIQ, fJQ, fKQ, fLQ, fMQ, fNQ, fOQ, fPQ, fQQ, fRQ, fSQ, fTQ, fUQ, fVQ, fWQ, fXQ, fYQ, fZQ, gaQ, gbQ, gcQ, gdQ, geQ, gfQ, ggQ, ghQ, giQ, gjQ, gkQ, glQ, gmQ, gnQ, goQ, gpQ, gqQ, grQ, gsQ, gtQ, guQ, gvQ, gwQ, gxQ, gyQ, gzQ, gAQ, gBQ, gCQ, gDQ, gEQ, gFQ, gGQ, gHQ, gIQ, gJQ, gKQ, gLQ, gMQ, gNQ, gOQ, gPQ, gQQ, gRQ, gSQ, gTQ, gUQ, gVQ, gWQ, gXQ, gYQ, gZQ, haQ, hbQ, hcQ, hdQ, heQ, hfQ, hgQ, hhQ, hiQ, hjQ, hkQ, hlQ, hmQ, hnQ, hoQ, hpQ, hqQ, hrQ, hsQ, htQ, huQ, hvQ, hwQ, hxQ, hyQ, hzQ, hAQ, hBQ, hCQ, hDQ, hEQ, hFQ, hGQ, hHQ, hIQ, hJQ, hKQ, hLQ, hMQ, hNQ, hOQ, hPQ, hQQ, hRQ, hSQ, hTQ, hUQ, hVQ, hWQ, hXQ, hYQ, hZQ, iaQ, euQ, etQ, exQ, ibQ, icQ, rHues_ok (h := 20) (by omega) (by omega), rHues_no k]
end
section
variable {d : D} {xs : List D} {b : D → Bool} {p : List Int} {L : Sto}
def ascB (p : List Int) : Bool := (p.zip (p.drop 1)).all fun q => decide (q.1 < q.2)
theorem isAsc_tup (hl : p.length ≤ 1000) : m_is_ascending [.tup (p.map .int)] L = .ok (.bl (ascB p)) L := by
  have c : C1_is_ascending [some (.tup (p.map .int)), none, none] L = .ok (.lst ((p.zip (p.drop 1)).map fun q => D.bl (decide (q.1 < q.2)))) L := by
    refine lc_map (box := false) (p.zip (p.drop 1)) (fun q => D.tup [.int q.1, .int q.2]) _ (src := []) (L1 := L) ?_ srcOk_nil (by rw [List.length_zip]; omega) fun a ha => ?_
    · simp only [aaQ, abQ, acQ, adQ, aeQ, afQ, agQ, ahQ, aiQ, ajQ, akQ, alQ, amQ, anQ, aoQ, apQ, aqQ, arQ, asQ, atQ, auQ, avQ, awQ, axQ, ayQ, azQ, aAQ, aBQ, aCQ, aDQ, aEQ, aFQ, aGQ, aHQ, aIQ, aJQ, aKQ, aLQ, aMQ, aNQ, aOQ, aPQ, aQQ, aRQ, aSQ, aTQ, aUQ, aVQ, aWQ, aXQ, aYQ, aZQ, baQ, bbQ, bcQ, bdQ, beQ, bfQ, bgQ, bhQ, biQ, bjQ, bkQ, blQ, bmQ, bnQ, boQ, bpQ, bqQ, brQ, bsQ, btQ, buQ, bvQ, bwQ, bxQ, byQ, bzQ, bAQ, bBQ, bCQ, bDQ, bEQ, bFQ, bGQ, bHQ, bIQ, bJQ, bKQ, bLQ, bMQ, bNQ, bOQ, bPQ, bQQ, bRQ, bSQ, bTQ, bUQ, bVQ, bWQ, bXQ, bYQ, bZQ, caQ, cbQ, ccQ, cdQ, ceQ, cfQ, cgQ, chQ, ciQ, cjQ, ckQ, clQ, cmQ, cnQ, coQ, cpQ, cqQ, crQ, csQ, ctQ, cuQ, cvQ, cwQ, cxQ, cyQ, czQ, cAQ, cBQ, cCQ, cDQ, cEQ, cFQ, cGQ, cHQ, cIQ, cJQ, cKQ, cLQ, cMQ, cNQ, cOQ, cPQ, cQQ, cRQ, cSQ, cTQ, cUQ, cVQ, cWQ, cXQ, cYQ, cZQ, daQ, dbQ, dcQ, ddQ, deQ, dfQ, dgQ, dhQ, diQ, djQ, dkQ, dlQ, dmQ, dnQ, doQ, dpQ, dqQ, drQ, dsQ, dtQ, duQ, dvQ, dwQ, dxQ, dyQ, dzQ, dAQ, dBQ, dCQ, dDQ, dEQ, dFQ, dGQ, dHQ, dIQ, dJQ, dKQ, dLQ, dMQ, dNQ, dOQ, dPQ, dQQ, dRQ, dSQ, dTQ, dUQ, dVQ, dWQ, dXQ, dYQ, dZQ, eaQ, ebQ, ecQ, edQ, eeQ, efQ, egQ, ehQ, eiQ, ejQ, ekQ, elQ, emQ, enQ, eoQ, epQ, eqQ, erQ, esQ, etQ, euQ, evQ, ewQ, exQ, eyQ, ezQ, eAQ, eBQ, eCQ, eDQ, eEQ, eFQ, eGQ, eHQ, eIQ, eJQ, eKQ, eLQ, eMQ, eNQ, eOQ, ePQ, eQQ, eRQ, eSQ, eTQ, eUQ, eVQ, eWQ, eXQ, eYQ, eZQ, faQ, fbQ, fcQ, fdQ, feQ, ffQ, fgQ, fhQ, fiQ, fjQ, fkQ, flQ, fmQ, fnQ, foQ, fpQ, fqQ, frQ, fsQ, ftQ, fuQ, fvQ, fwQ, fxQ, fyQ, fzQ, fAQ, fBQ, fCQ, fDQ, fEQ, fFQ, fGQ, fHQ, fIQ, fJQ, fKQ, fLQ, fMQ, fNQ, fOQ, fPQ, fQQ, fRQ, fSQ, fTQ, fUQ, fVQ, fWQ, fXQ, fYQ, fZQ, gaQ, gbQ, gcQ, gdQ, geQ, gfQ, ggQ, ghQ, giQ, gjQ, gkQ, glQ, gmQ, gnQ, goQ, gpQ, gqQ, grQ, gsQ, gtQ, guQ, gvQ, gwQ, gxQ, gyQ, gzQ, gAQ, gBQ, gCQ, gDQ, gEQ, gFQ, gGQ, gHQ, gIQ, gJQ, gKQ, gLQ, gMQ, gNQ, gOQ, gPQ, gQQ, gRQ, gSQ, gTQ, gUQ, gVQ, gWQ, gXQ, gYQ, gZQ, haQ, hbQ, hcQ, hdQ, heQ, hfQ, hgQ, hhQ, hiQ, hjQ, hkQ, hlQ, hmQ, hnQ, hoQ, hpQ, hqQ, hrQ, hsQ, htQ, huQ, hvQ, hwQ, hxQ, hyQ, hzQ, hAQ, hBQ, hCQ, hDQ, hEQ, hFQ, hGQ, hHQ, hIQ, hJQ, hKQ, hLQ, hMQ, hNQ, hOQ, hPQ, hQQ, hRQ, hSQ, hTQ, hUQ, hVQ, hWQ, hXQ, hYQ, hZQ, iaQ, euQ, etQ, exQ, ibQ, icQ]
      rw [← List.map_drop]
      exact w_kizp_map rfl rfl
    · simp only [aaQ, abQ, acQ, adQ, aeQ, afQ, agQ, ahQ, aiQ, ajQ, akQ, alQ, amQ, anQ, aoQ, apQ, aqQ, arQ, asQ, atQ, auQ, avQ, awQ, axQ, ayQ, azQ, aAQ, aBQ, aCQ, aDQ, aEQ, aFQ, aGQ, aHQ, aIQ, aJQ, aKQ, aLQ, aMQ, aNQ, aOQ, aPQ, aQQ, aRQ, aSQ, aTQ, aUQ, aVQ, aWQ, aXQ, aYQ, aZQ, baQ, bbQ, bcQ, bdQ, beQ, bfQ, bgQ, bhQ, biQ, bjQ, bkQ, blQ, bmQ, bnQ, boQ, bpQ, bqQ, brQ, bsQ, btQ, buQ, bvQ, bwQ, bxQ, byQ, bzQ, bAQ, bBQ, bCQ, bDQ, bEQ, bFQ, bGQ, bHQ, bIQ, bJQ, bKQ, bLQ, bMQ, bNQ, bOQ, bPQ, bQQ, bRQ, bSQ, bTQ, bUQ, bVQ, bWQ, bXQ, bYQ, bZQ, caQ, cbQ, ccQ, cdQ, ceQ, cfQ, cgQ, chQ, ciQ, cjQ, ckQ, clQ, cmQ, cnQ, coQ, cpQ, cqQ, crQ, csQ, ctQ, cuQ, cvQ, cwQ, cxQ, cyQ, czQ, cAQ, cBQ, cCQ, cDQ, cEQ, cFQ, cGQ, cHQ, cIQ, cJQ, cKQ, cLQ, cMQ, cNQ, cOQ, cPQ, cQQ, cRQ, cSQ, cTQ, cUQ, cVQ, cWQ, cXQ, cYQ, cZQ, daQ, dbQ, dcQ, ddQ, deQ, dfQ, dgQ, dhQ, diQ, djQ, dkQ, dlQ, dmQ, dnQ, doQ, dpQ, dqQ, drQ, dsQ, dtQ, duQ, dvQ, dwQ, dxQ, dyQ, dzQ, dAQ, dBQ, dCQ, dDQ, dEQ, dFQ, dGQ, dHQ, dIQ, dJQ, dKQ, dLQ, dMQ, dNQ, dOQ, dPQ, dQQ, dRQ, dSQ, dTQ, dUQ, dVQ, dWQ, dXQ, dYQ, dZQ, eaQ, ebQ, ecQ, edQ, eeQ, efQ, egQ, ehQ, eiQ, ejQ, ekQ, elQ, emQ, enQ, eoQ, epQ, eqQ, erQ, esQ, etQ, euQ, evQ, ewQ, exQ, eyQ, ezQ, eAQ, eBQ, eCQ, eDQ, eEQ, eFQ, eGQ, eHQ, eIQ, eJQ, eKQ, eLQ, eMQ, eNQ, eOQ, ePQ, eQQ, eRQ, eSQ, eTQ, eUQ, eVQ, eWQ, eXQ, eYQ, eZQ, faQ, fbQ, fcQ, fdQ, feQ, ffQ, fgQ, fhQ, fiQ, fjQ, fkQ, flQ, fmQ, fnQ, foQ, fpQ, fqQ, frQ, fsQ, ftQ, fuQ, fvQ, fwQ, fxQ, fyQ, fzQ, fAQ, fBQ, fCQ, fDQ, fEQ, fFQ, fGQ, fHQ, fIQ, fJQ, fKQ, fLQ, fMQ, fNQ, fOQ, fPQ, fQQ, fRQ, fSQ, fTQ, fUQ, fVQ, fWQ, fXQ, fYQ, fZQ, gaQ, gbQ, gcQ, gdQ, geQ, gfQ, ggQ, ghQ, giQ, gjQ, gkQ, glQ, gmQ, gnQ, goQ, gpQ, gqQ, grQ, gsQ, gtQ, guQ, gvQ, gwQ, gxQ, gyQ, gzQ, gAQ, gBQ, gCQ, gDQ, gEQ, gFQ, gGQ, gHQ, gIQ, gJQ, gKQ, gLQ, gMQ, gNQ, gOQ, gPQ, gQQ, gRQ, gSQ, gTQ, gUQ, gVQ, gWQ, gXQ, gYQ, gZQ, haQ, hbQ, hcQ, hdQ, heQ, hfQ, hgQ, hhQ, hiQ, hjQ, hkQ, hlQ, hmQ, hnQ, hoQ, hpQ, hqQ, hrQ, hsQ, htQ, huQ, hvQ, hwQ, hxQ, hyQ, hzQ, hAQ, hBQ, hCQ, hDQ, hEQ, hFQ, hGQ, hHQ, hIQ, hJQ, hKQ, hLQ, hMQ, hNQ, hOQ, hPQ, hQQ, hRQ, hSQ, hTQ, hUQ, hVQ, hWQ, hXQ, hYQ, hZQ, iaQ, euQ, etQ, exQ, ibQ, icQ]
  simp only [u_is_ascending, F_is_ascending, aaQ, abQ, acQ, adQ, aeQ, afQ, agQ, ahQ, aiQ, ajQ, akQ, alQ, amQ, anQ, aoQ, apQ, aqQ, arQ, asQ, atQ, auQ, avQ, awQ, axQ, ayQ, azQ, aAQ, aBQ, aCQ, aDQ, aEQ, aFQ, aGQ, aHQ, aIQ, aJQ, aKQ, aLQ, aMQ, aNQ, aOQ, aPQ, aQQ, aRQ, aSQ, aTQ, aUQ, aVQ, aWQ, aXQ, aYQ, aZQ, baQ, bbQ, bcQ, bdQ, beQ, bfQ, bgQ, bhQ, biQ, bjQ, bkQ, blQ, bmQ, bnQ, boQ, bpQ, bqQ, brQ, bsQ, btQ, buQ, bvQ, bwQ, bxQ, byQ, bzQ, bAQ, bBQ, bCQ, bDQ, bEQ, bFQ, bGQ, bHQ, bIQ, bJQ, bKQ, bLQ, bMQ, bNQ, bOQ, bPQ, bQQ, bRQ, bSQ, bTQ, bUQ, bVQ, bWQ, bXQ, bYQ, bZQ, caQ, cbQ, ccQ, cdQ, ceQ, cfQ, cgQ, chQ, ciQ, cjQ, ckQ, clQ, cmQ, cnQ, coQ, cpQ, cqQ, crQ, csQ, ctQ, cuQ, cvQ, cwQ, cxQ, cyQ, czQ, cAQ, cBQ, cCQ, cDQ, cEQ, cFQ, cGQ, cHQ, cIQ, cJQ, cKQ, cLQ, cMQ, cNQ, cOQ, cPQ, cQQ, cRQ, cSQ, cTQ, cUQ, cVQ, cWQ, cXQ, cYQ, cZQ, daQ, dbQ, dcQ, ddQ, deQ, dfQ, dgQ, dhQ, diQ, djQ, dkQ, dlQ, dmQ, dnQ, doQ, dpQ, dqQ, drQ, dsQ, dtQ, duQ, dvQ, dwQ, dxQ, dyQ, dzQ, dAQ, dBQ, dCQ, dDQ, dEQ, dFQ, dGQ, dHQ, dIQ, dJQ, dKQ, dLQ, dMQ, dNQ, dOQ, dPQ, dQQ, dRQ, dSQ, dTQ, dUQ, dVQ, dWQ, dXQ, dYQ, dZQ, eaQ, ebQ, ecQ, edQ, eeQ, efQ, egQ, ehQ, eiQ, ejQ, ekQ, elQ, emQ, enQ, eoQ, epQ, eqQ, erQ, esQ, etQ, euQ, evQ, ewQ, exQ, eyQ, ezQ, eAQ, eBQ, eCQ, eDQ, eEQ, eFQ, eGQ, eHQ, eIQ, eJQ, eKQ, eLQ, eMQ, eNQ, eOQ, ePQ, eQQ, eRQ, eSQ, eTQ, eUQ, eVQ, eWQ, eXQ, eYQ, eZQ, faQ, fbQ, fcQ, fdQ, feQ, ffQ, fgQ, fhQ, fiQ, fjQ, fkQ, flQ, fmQ, fnQ, foQ, fpQ, fqQ, frQ, fsQ, ftQ, fuQ, fvQ, fwQ, fxQ, fyQ, fzQ, fAQ, fBQ, fCQ, fDQ, fEQ, fFQ, fGQ, fHQ, fIQ, fJQ, fKQ, fLQ, fMQ, fNQ, fOQ, fPQ, fQQ, fRQ, fSQ, fTQ, fUQ, fVQ, fWQ, fXQ, fYQ, fZQ, gaQ, gbQ, gcQ, gdQ, geQ, gfQ, ggQ, ghQ, giQ, gjQ, gkQ, glQ, gmQ, gnQ, goQ, gpQ, gqQ, grQ, gsQ, gtQ, guQ, gvQ, gwQ, gxQ, gyQ, gzQ, gAQ, gBQ, gCQ, gDQ, gEQ, gFQ, gGQ, gHQ, gIQ, gJQ, gKQ, gLQ, gMQ, gNQ, gOQ, gPQ, gQQ, gRQ, gSQ, gTQ, gUQ, gVQ, gWQ, gXQ, gYQ, gZQ, haQ, hbQ, hcQ, hdQ, heQ, hfQ, hgQ, hhQ, hiQ, hjQ, hkQ, hlQ, hmQ, hnQ, hoQ, hpQ, hqQ, hrQ, hsQ, htQ, huQ, hvQ, hwQ, hxQ, hyQ, hzQ, hAQ, hBQ, hCQ, hDQ, hEQ, hFQ, hGQ, hHQ, hIQ, hJQ, hKQ, hLQ, hMQ, hNQ, hOQ, hPQ, hQQ, hRQ, hSQ, hTQ, hUQ, hVQ, hWQ, hXQ, hYQ, hZQ, iaQ, euQ, etQ, exQ, ibQ, icQ, c, gAll_map]
  rfl
def plB (p : List Int) : Bool := (p.all fun x => decide (0 ≤ x) && decide (x ≤ 19)) && ascB p
theorem plac_tup (hl : p.length ≤ 1000) : m_are_places [.tup (p.map .int), .int 20] L = .ok (.bl (plB p)) L := by
  have c : C1_are_places [some (.tup (p.map .int)), some (.int 20), none] L = .ok (.lst (p.map fun x => D.bl (decide (0 ≤ x) && decide (x ≤ 19)))) L := by
    refine lc_map (box := false) p D.int _ (src := []) (L1 := L) ?_ srcOk_nil (by omega) fun x hx => ?_
    · simp only [aaQ, abQ, acQ, adQ, aeQ, afQ, agQ, ahQ, aiQ, ajQ, akQ, alQ, amQ, anQ, aoQ, apQ, aqQ, arQ, asQ, atQ, auQ, avQ, awQ, axQ, ayQ, azQ, aAQ, aBQ, aCQ, aDQ, aEQ, aFQ, aGQ, aHQ, aIQ, aJQ, aKQ, aLQ, aMQ, aNQ, aOQ, aPQ, aQQ, aRQ, aSQ, aTQ, aUQ, aVQ, aWQ, aXQ, aYQ, aZQ, baQ, bbQ, bcQ, bdQ, beQ, bfQ, bgQ, bhQ, biQ, bjQ, bkQ, blQ, bmQ, bnQ, boQ, bpQ, bqQ, brQ, bsQ, btQ, buQ, bvQ, bwQ, bxQ, byQ, bzQ, bAQ, bBQ, bCQ, bDQ, bEQ, bFQ, bGQ, bHQ, bIQ, bJQ, bKQ, bLQ, bMQ, bNQ, bOQ, bPQ, bQQ, bRQ, bSQ, bTQ, bUQ, bVQ, bWQ, bXQ, bYQ, bZQ, caQ, cbQ, ccQ, cdQ, ceQ, cfQ, cgQ, chQ, ciQ, cjQ, ckQ, clQ, cmQ, cnQ, coQ, cpQ, cqQ, crQ, csQ, ctQ, cuQ, cvQ, cwQ, cxQ, cyQ, czQ, cAQ, cBQ, cCQ, cDQ, cEQ, cFQ, cGQ, cHQ, cIQ, cJQ, cKQ, cLQ, cMQ, cNQ, cOQ, cPQ, cQQ, cRQ, cSQ, cTQ, cUQ, cVQ, cWQ, cXQ, cYQ, cZQ, daQ, dbQ, dcQ, ddQ, deQ, dfQ, dgQ, dhQ, diQ, djQ, dkQ, dlQ, dmQ, dnQ, doQ, dpQ, dqQ, drQ, dsQ, dtQ, duQ, dvQ, dwQ, dxQ, dyQ, dzQ, dAQ, dBQ, dCQ, dDQ, dEQ, dFQ, dGQ, dHQ, dIQ, dJQ, dKQ, dLQ, dMQ, dNQ, dOQ, dPQ, dQQ, dRQ, dSQ, dTQ, dUQ, dVQ, dWQ, dXQ, dYQ, dZQ, eaQ, ebQ, ecQ, edQ, eeQ, efQ, egQ, ehQ, eiQ, ejQ, ekQ, elQ, emQ, enQ, eoQ, epQ, eqQ, erQ, esQ, etQ, euQ, evQ, ewQ, exQ, eyQ, ezQ, eAQ, eBQ, eCQ, eDQ, eEQ, eFQ, eGQ, eHQ, eIQ, eJQ, eKQ, eLQ, eMQ, eNQ, eOQ, ePQ, eQQ, eRQ, eSQ, eTQ, eUQ, eVQ, eWQ, eXQ, eYQ, eZQ, faQ, fbQ, fcQ, fdQ, feQ, ffQ, fgQ, fhQ, fiQ, fjQ, fkQ, flQ, fmQ, fnQ, foQ, fpQ, fqQ, frQ, fsQ, ftQ, fuQ, fvQ, fwQ, fxQ, fyQ, fzQ, fAQ, fBQ, fCQ, fDQ, fEQ, fFQ, fGQ, fHQ, fIQ, fJQ, fKQ, fLQ, fMQ, fNQ, fOQ, fPQ, fQQ, fRQ, fSQ, fTQ, fUQ, fVQ, fWQ, fXQ, fYQ, fZQ, gaQ, gbQ, gcQ, gdQ, geQ, gfQ, ggQ, ghQ, giQ, gjQ, gkQ, glQ, gmQ, gnQ, goQ, gpQ, gqQ, grQ, gsQ, gtQ, guQ, gvQ, gwQ, gxQ, gyQ, gzQ, gAQ, gBQ, gCQ, gDQ, gEQ, gFQ, gGQ, gHQ, gIQ, gJQ, gKQ, gLQ, gMQ, gNQ, gOQ, gPQ, gQQ, gRQ, gSQ, gTQ, gUQ, gVQ, gWQ, gXQ, gYQ, gZQ, haQ, hbQ, hcQ, hdQ, heQ, hfQ, hgQ, hhQ, hiQ, hjQ, hkQ, hlQ, hmQ, hnQ, hoQ, hpQ, hqQ, hrQ, hsQ, htQ, huQ, hvQ, hwQ, hxQ, hyQ, hzQ, hAQ, hBQ, hCQ, hDQ, hEQ, hFQ, hGQ, hHQ, hIQ, hJQ, hKQ, hLQ, hMQ, hNQ, hOQ, hPQ, hQQ, hRQ, hSQ, hTQ, hUQ, hVQ, hWQ, hXQ, hYQ, hZQ, iaQ, euQ, etQ, exQ, ibQ, icQ]
    · have e : ∀ L, gSub (.int 20) (.int 1) L = .ok (.int 19) L := fun _ => rfl
      simp only [aaQ, abQ, acQ, adQ, aeQ, afQ, agQ, ahQ, aiQ, ajQ, akQ, alQ, amQ, anQ, aoQ, apQ, aqQ, arQ, asQ, atQ, auQ, avQ, awQ, axQ, ayQ, azQ, aAQ, aBQ, aCQ, aDQ, aEQ, aFQ, aGQ, aHQ, aIQ, aJQ, aKQ, aLQ, aMQ, aNQ, aOQ, aPQ, aQQ, aRQ, aSQ, aTQ, aUQ, aVQ, aWQ, aXQ, aYQ, aZQ, baQ, bbQ, bcQ, bdQ, beQ, bfQ, bgQ, bhQ, biQ, bjQ, bkQ, blQ, bmQ, bnQ, boQ, bpQ, bqQ, brQ, bsQ, btQ, buQ, bvQ, bwQ, bxQ, byQ, bzQ, bAQ, bBQ, bCQ, bDQ, bEQ, bFQ, bGQ, bHQ, bIQ, bJQ, bKQ, bLQ, bMQ, bNQ, bOQ, bPQ, bQQ, bRQ, bSQ, bTQ, bUQ, bVQ, bWQ, bXQ, bYQ, bZQ, caQ, cbQ, ccQ, cdQ, ceQ, cfQ, cgQ, chQ, ciQ, cjQ, ckQ, clQ, cmQ, cnQ, coQ, cpQ, cqQ, crQ, csQ, ctQ, cuQ, cvQ, cwQ, cxQ, cyQ, czQ, cAQ, cBQ, cCQ, cDQ, cEQ, cFQ, cGQ, cHQ, cIQ, cJQ, cKQ, cLQ, cMQ, cNQ, cOQ, cPQ, cQQ, cRQ, cSQ, cTQ, cUQ, cVQ, cWQ, cXQ, cYQ, cZQ, daQ, dbQ, dcQ, ddQ, deQ, dfQ, dgQ, dhQ, diQ, djQ, dkQ, dlQ, dmQ, dnQ, doQ, dpQ, dqQ, drQ, dsQ, dtQ, duQ, dvQ, dwQ, dxQ, dyQ, dzQ, dAQ, dBQ, dCQ, dDQ, dEQ, dFQ, dGQ, dHQ, dIQ, dJQ, dKQ, dLQ, dMQ, dNQ, dOQ, dPQ, dQQ, dRQ, dSQ, dTQ, dUQ, dVQ, dWQ, dXQ, dYQ, dZQ, eaQ, ebQ, ecQ, edQ, eeQ, efQ, egQ, ehQ, eiQ, ejQ, ekQ, elQ, emQ, enQ, eoQ, epQ, eqQ, erQ, esQ, etQ, euQ, evQ, ewQ, exQ, eyQ, ezQ, eAQ, eBQ, eCQ, eDQ, eEQ, eFQ, eGQ, eHQ, eIQ, eJQ, eKQ, eLQ, eMQ, eNQ, eOQ, ePQ, eQQ, eRQ, eSQ, eTQ, eUQ, eVQ, eWQ, eXQ, eYQ, eZQ, faQ, fbQ, fcQ, fdQ, feQ, ffQ, fgQ, fhQ, fiQ, fjQ, fkQ, flQ, fmQ, fnQ, foQ, fpQ, fqQ, frQ, fsQ, ftQ, fuQ, fvQ, fwQ, fxQ, fyQ, fzQ, fAQ, fBQ, fCQ, fDQ, fEQ, fFQ, fGQ, fHQ, fIQ, fJQ, fKQ, fLQ, fMQ, fNQ, fOQ, fPQ, fQQ, fRQ, fSQ, fTQ, fUQ, fVQ, fWQ, fXQ, fYQ, fZQ, gaQ, gbQ, gcQ, gdQ, geQ, gfQ, ggQ, ghQ, giQ, gjQ, gkQ, glQ, gmQ, gnQ, goQ, gpQ, gqQ, grQ, gsQ, gtQ, guQ, gvQ, gwQ, gxQ, gyQ, gzQ, gAQ, gBQ, gCQ, gDQ, gEQ, gFQ, gGQ, gHQ, gIQ, gJQ, gKQ, gLQ, gMQ, gNQ, gOQ, gPQ, gQQ, gRQ, gSQ, gTQ, gUQ, gVQ, gWQ, gXQ, gYQ, gZQ, haQ, hbQ, hcQ, hdQ, heQ, hfQ, hgQ, hhQ, hiQ, hjQ, hkQ, hlQ, hmQ, hnQ, hoQ, hpQ, hqQ, hrQ, hsQ, htQ, huQ, hvQ, hwQ, hxQ, hyQ, hzQ, hAQ, hBQ, hCQ, hDQ, hEQ, hFQ, hGQ, hHQ, hIQ, hJQ, hKQ, hLQ, hMQ, hNQ, hOQ, hPQ, hQQ, hRQ, hSQ, hTQ, hUQ, hVQ, hWQ, hXQ, hYQ, hZQ, iaQ, euQ, etQ, exQ, ibQ, icQ, e, sInt_ii]
  unfold plB
  cases k : (p.all fun x => decide (0 ≤ x) && decide (x ≤ 19)) with
  | false => simp only [u_are_places, F_are_places, aaQ, abQ, acQ, adQ, aeQ, afQ, agQ, ahQ, aiQ, ajQ, akQ, alQ, amQ, anQ, aoQ, apQ, aqQ, arQ, asQ, atQ, auQ, avQ, awQ, axQ, ayQ, azQ, aAQ, aBQ, aCQ, aDQ, aEQ, aFQ, aGQ, aHQ, aIQ, aJQ, aKQ, aLQ, aMQ, aNQ, aOQ, aPQ, aQQ, aRQ, aSQ, aTQ, aUQ, aVQ, aWQ, aXQ, aYQ, aZQ, baQ, bbQ, bcQ, bdQ, beQ, bfQ, bgQ, bhQ, biQ, bjQ, bkQ, blQ, bmQ, bnQ, boQ, bpQ, bqQ, brQ, bsQ, btQ, buQ, bvQ, bwQ, bxQ, byQ, bzQ, bAQ, bBQ, bCQ, bDQ, bEQ, bFQ, bGQ, bHQ, bIQ, bJQ, bKQ, bLQ, bMQ, bNQ, bOQ, bPQ, bQQ, bRQ, bSQ, bTQ, bUQ, bVQ, bWQ, bXQ, bYQ, bZQ, caQ, cbQ, ccQ, cdQ, ceQ, cfQ, cgQ, chQ, ciQ, cjQ, ckQ, clQ, cmQ, cnQ, coQ, cpQ, cqQ, crQ, csQ, ctQ, cuQ, cvQ, cwQ, cxQ, cyQ, czQ, cAQ, cBQ, cCQ, cDQ, cEQ, cFQ, cGQ, cHQ, cIQ, cJQ, cKQ, cLQ, cMQ, cNQ, cOQ, cPQ, cQQ, cRQ, cSQ, cTQ, cUQ, cVQ, cWQ, cXQ, cYQ, cZQ, daQ, dbQ, dcQ, ddQ, deQ, dfQ, dgQ, dhQ, diQ, djQ, dkQ, dlQ, dmQ, dnQ, doQ, dpQ, dqQ, drQ, dsQ, dtQ, duQ, dvQ, dwQ, dxQ, dyQ, dzQ, dAQ, dBQ, dCQ, dDQ, dEQ, dFQ, dGQ, dHQ, dIQ, dJQ, dKQ, dLQ, dMQ, dNQ, dOQ, dPQ, dQQ, dRQ, dSQ, dTQ, dUQ, dVQ, dWQ, dXQ, dYQ, dZQ, eaQ, ebQ, ecQ, edQ, eeQ, efQ, egQ, ehQ, eiQ, ejQ, ekQ, elQ, emQ, enQ, eoQ, epQ, eqQ, erQ, esQ, etQ, euQ, evQ, ewQ, exQ, eyQ, ezQ, eAQ, eBQ, eCQ, eDQ, eEQ, eFQ, eGQ, eHQ, eIQ, eJQ, eKQ, eLQ, eMQ, eNQ, eOQ, ePQ, eQQ, eRQ, eSQ, eTQ, eUQ, eVQ, eWQ, eXQ, eYQ, eZQ, faQ, fbQ, fcQ, fdQ, feQ, ffQ, fgQ, fhQ, fiQ, fjQ, fkQ, flQ, fmQ, fnQ, foQ, fpQ, fqQ, frQ, fsQ, ftQ, fuQ, fvQ, fwQ, fxQ, fyQ, fzQ, fAQ, fBQ, fCQ, fDQ, fEQ, fFQ, fGQ, fHQ, fIQ, fJQ, fKQ, fLQ, fMQ, fNQ, fOQ, fPQ, fQQ, fRQ, fSQ, fTQ, fUQ, fVQ, fWQ, fXQ, fYQ, fZQ, gaQ, gbQ, gcQ, gdQ, geQ, gfQ, ggQ, ghQ, giQ, gjQ, gkQ, glQ, gmQ, gnQ, goQ, gpQ, gqQ, grQ, gsQ, gtQ, guQ, gvQ, gwQ, gxQ, gyQ, gzQ, gAQ, gBQ, gCQ, gDQ, gEQ, gFQ, gGQ, gHQ, gIQ, gJQ, gKQ, gLQ, gMQ, gNQ, gOQ, gPQ, gQQ, gRQ, gSQ, gTQ, gUQ, gVQ, gWQ, gXQ, gYQ, gZQ, haQ, hbQ, hcQ, hdQ, heQ, hfQ, hgQ, hhQ, hiQ, hjQ, hkQ, hlQ, hmQ, hnQ, hoQ, hpQ, hqQ, hrQ, hsQ, htQ, huQ, hvQ, hwQ, hxQ, hyQ, hzQ, hAQ, hBQ, hCQ, hDQ, hEQ, hFQ, hGQ, hHQ, hIQ, hJQ, hKQ, hLQ, hMQ, hNQ, hOQ, hPQ, hQQ, hRQ, hSQ, hTQ, hUQ, hVQ, hWQ, hXQ, hYQ, hZQ, iaQ, euQ, etQ, exQ, ibQ, icQ, c, gAll_map, k, Bool.not_true, Bool.not_false, Bool.false_eq_true, if_false, if_true, Bool.false_and]
  | true => simp only [u_are_places, F_are_places, aaQ, abQ, acQ, adQ, aeQ, afQ, agQ, ahQ, aiQ, ajQ, akQ, alQ, amQ, anQ, aoQ, apQ, aqQ, arQ, asQ, atQ, auQ, avQ, awQ, axQ, ayQ, azQ, aAQ, aBQ, aCQ, aDQ, aEQ, aFQ, aGQ, aHQ, aIQ, aJQ, aKQ, aLQ, aMQ, aNQ, aOQ, aPQ, aQQ, aRQ, aSQ, aTQ, aUQ, aVQ, aWQ, aXQ, aYQ, aZQ, baQ, bbQ, bcQ, bdQ, beQ, bfQ, bgQ, bhQ, biQ, bjQ, bkQ, blQ, bmQ, bnQ, boQ, bpQ, bqQ, brQ, bsQ, btQ, buQ, bvQ, bwQ, bxQ, byQ, bzQ, bAQ, bBQ, bCQ, bDQ, bEQ, bFQ, bGQ, bHQ, bIQ, bJQ, bKQ, bLQ, bMQ, bNQ, bOQ, bPQ, bQQ, bRQ, bSQ, bTQ, bUQ, bVQ, bWQ, bXQ, bYQ, bZQ, caQ, cbQ, ccQ, cdQ, ceQ, cfQ, cgQ, chQ, ciQ, cjQ, ckQ, clQ, cmQ, cnQ, coQ, cpQ, cqQ, crQ, csQ, ctQ, cuQ, cvQ, cwQ, cxQ, cyQ, czQ, cAQ, cBQ, cCQ, cDQ, cEQ, cFQ, cGQ, cHQ, cIQ, cJQ, cKQ, cLQ, cMQ, cNQ, cOQ, cPQ, cQQ, cRQ, cSQ, cTQ, cUQ, cVQ, cWQ, cXQ, cYQ, cZQ, daQ, dbQ, dcQ, ddQ, deQ, dfQ, dgQ, dhQ, diQ, djQ, dkQ, dlQ, dmQ, dnQ, doQ, dpQ, dqQ, drQ, dsQ, dtQ, duQ, dvQ, dwQ, dxQ, dyQ, dzQ, dAQ, dBQ, dCQ, dDQ, dEQ, dFQ, dGQ, dHQ, dIQ, dJQ, dKQ, dLQ, dMQ, dNQ, dOQ, dPQ, dQQ, dRQ, dSQ, dTQ, dUQ, dVQ, dWQ, dXQ, dYQ, dZQ, eaQ, ebQ, ecQ, edQ, eeQ, efQ, egQ, ehQ, eiQ, ejQ, ekQ, elQ, emQ, enQ, eoQ, epQ, eqQ, erQ, esQ, etQ, euQ, evQ, ewQ, exQ, eyQ, ezQ, eAQ, eBQ, eCQ, eDQ, eEQ, eFQ, eGQ, eHQ, eIQ, eJQ, eKQ, eLQ, eMQ, eNQ, eOQ, ePQ, eQQ, eRQ, eSQ, eTQ, eUQ, eVQ, eWQ, eXQ, eYQ, eZQ, faQ, fbQ, fcQ, fdQ, feQ, ffQ, fgQ, fhQ, fiQ, fjQ, fkQ, flQ, fmQ, fnQ, foQ, fpQ, fqQ, frQ, fsQ, ftQ, fuQ, fvQ, fwQ, fxQ, fyQ, fzQ, fAQ, fBQ, fCQ, fDQ, fEQ, fFQ, fGQ, fHQ, fIQ, fJQ, fKQ, fLQ, fMQ, fNQ, fOQ, fPQ, fQQ, fRQ, fSQ, fTQ, fUQ, fVQ, fWQ, fXQ, fYQ, fZQ, gaQ, gbQ, gcQ, gdQ, geQ, gfQ, ggQ, ghQ, giQ, gjQ, gkQ, glQ, gmQ, gnQ, goQ, gpQ, gqQ, grQ, gsQ, gtQ, guQ, gvQ, gwQ, gxQ, gyQ, gzQ, gAQ, gBQ, gCQ, gDQ, gEQ, gFQ, gGQ, gHQ, gIQ, gJQ, gKQ, gLQ, gMQ, gNQ, gOQ, gPQ, gQQ, gRQ, gSQ, gTQ, gUQ, gVQ, gWQ, gXQ, gYQ, gZQ, haQ, hbQ, hcQ, hdQ, heQ, hfQ, hgQ, hhQ, hiQ, hjQ, hkQ, hlQ, hmQ, hnQ, hoQ, hpQ, hqQ, hrQ, hsQ, htQ, huQ, hvQ, hwQ, hxQ, hyQ, hzQ, hAQ, hBQ, hCQ, hDQ, hEQ, hFQ, hGQ, hHQ, hIQ, hJQ, hKQ, hLQ, hMQ, hNQ, hOQ, hPQ, hQQ, hRQ, hSQ, hTQ, hUQ, hVQ, hWQ, hXQ, hYQ, hZQ, iaQ, euQ, etQ, exQ, ibQ, icQ, c, gAll_map, k, Bool.not_true, Bool.false_eq_true, if_false, isAsc_tup hl, Bool.true_and]
theorem plac_k (h1 : ∀ L, gIsiK owns .tup d L = .ok (.bl false) L) : m_are_places [d, .int 20] L = .ok (.bl false) L := by
  simp only [u_are_places, F_are_places, aaQ, abQ, acQ, adQ, aeQ, afQ, agQ, ahQ, aiQ, ajQ, akQ, alQ, amQ, anQ, aoQ, apQ, aqQ, arQ, asQ, atQ, auQ, avQ, awQ, axQ, ayQ, azQ, aAQ, aBQ, aCQ, aDQ, aEQ, aFQ, aGQ, aHQ, aIQ, aJQ, aKQ, aLQ, aMQ, aNQ, aOQ, aPQ, aQQ, aRQ, aSQ, aTQ, aUQ, aVQ, aWQ, aXQ, aYQ, aZQ, baQ, bbQ, bcQ, bdQ, beQ, bfQ, bgQ, bhQ, biQ, bjQ, bkQ, blQ, bmQ, bnQ, boQ, bpQ, bqQ, brQ, bsQ, btQ, buQ, bvQ, bwQ, bxQ, byQ, bzQ, bAQ, bBQ, bCQ, bDQ, bEQ, bFQ, bGQ, bHQ, bIQ, bJQ, bKQ, bLQ, bMQ, bNQ, bOQ, bPQ, bQQ, bRQ, bSQ, bTQ, bUQ, bVQ, bWQ, bXQ, bYQ, bZQ, caQ, cbQ, ccQ, cdQ, ceQ, cfQ, cgQ, chQ, ciQ, cjQ, ckQ, clQ, cmQ, cnQ, coQ, cpQ, cqQ, crQ, csQ, ctQ, cuQ, cvQ, cwQ, cxQ, cyQ, czQ, cAQ, cBQ, cCQ, cDQ, cEQ, cFQ, cGQ, cHQ, cIQ, cJQ, cKQ, cLQ, cMQ, cNQ, cOQ, cPQ, cQQ, cRQ, cSQ, cTQ, cUQ, cVQ, cWQ, cXQ, cYQ, cZQ, daQ, dbQ, dcQ, ddQ, deQ, dfQ, dgQ, dhQ, diQ, djQ, dkQ, dlQ, dmQ, dnQ, doQ, dpQ, dqQ, drQ, dsQ, dtQ, duQ, dvQ, dwQ, dxQ, dyQ, dzQ, dAQ, dBQ, dCQ, dDQ, dEQ, dFQ, dGQ, dHQ, dIQ, dJQ, dKQ, dLQ, dMQ, dNQ, dOQ, dPQ, dQQ, dRQ, dSQ, dTQ, dUQ, dVQ, dWQ, dXQ, dYQ, dZQ, eaQ, ebQ, ecQ, edQ, eeQ, efQ, egQ, ehQ, eiQ, ejQ, ekQ, elQ, emQ, enQ, eoQ, epQ, eqQ, erQ, esQ, etQ, euQ, evQ, ewQ, exQ, eyQ, ezQ, eAQ, eBQ, eCQ, eDQ, eEQ, eFQ, eGQ, eHQ, eIQ, eJQ, eKQ, eLQ, eMQ, eNQ, eOQ, ePQ, eQQ, eRQ, eSQ, eTQ, eUQ, eVQ, eWQ, eXQ, eYQ, eZQ, faQ, fbQ, fcQ, fdQ, feQ, ffQ, fgQ, fhQ, fiQ, fjQ, fkQ, flQ, fmQ, fnQ, foQ, fpQ, fqQ, frQ, fsQ, ftQ, fuQ, fvQ, fwQ, fxQ, fyQ, fzQ, fAQ, fBQ, fCQ, fDQ, fEQ, fFQ, fGQ, fHQ, fIQ, fJQ, fKQ, fLQ, fMQ, fNQ, fOQ, fPQ, fQQ, fRQ, fSQ, fTQ, fUQ, fVQ, fWQ, fXQ, fYQ, fZQ, gaQ, gbQ, gcQ, gdQ, geQ, gfQ, ggQ, ghQ, giQ, gjQ, gkQ, glQ, gmQ, gnQ, goQ, gpQ, gqQ, grQ, gsQ, gtQ, guQ, gvQ, gwQ, gxQ, gyQ, gzQ, gAQ, gBQ, gCQ, gDQ, gEQ, gFQ, gGQ, gHQ, gIQ, gJQ, gKQ, gLQ, gMQ, gNQ, gOQ, gPQ, gQQ, gRQ, gSQ, gTQ, gUQ, gVQ, gWQ, gXQ, gYQ, gZQ, haQ, hbQ, hcQ, hdQ, heQ, hfQ, hgQ, hhQ, hiQ, hjQ, hkQ, hlQ, hmQ, hnQ, hoQ, hpQ, hqQ, hrQ, hsQ, htQ, huQ, hvQ, hwQ, hxQ, hyQ, hzQ, hAQ, hBQ, hCQ, hDQ, hEQ, hFQ, hGQ, hHQ, hIQ, hJQ, hKQ, hLQ, hMQ, hNQ, hOQ, hPQ, hQQ, hRQ, hSQ, hTQ, hUQ, hVQ, hWQ, hXQ, hYQ, hZQ, iaQ, euQ, etQ, exQ, ibQ, icQ, h1, Bool.not_false, if_true]
theorem plac_one (h1 : ∀ L, m_is_integer [d, .int 0, .int 19] L = .ok (.bl false) L) : m_are_places [.tup [d], .int 20] L = .ok (.bl false) L := by
  have c : C1_are_places [some (.tup [d]), some (.int 20), none] L = .ok (.lst ([d].map fun _ => D.bl false)) L := by
    refine lc_map (box := false) [d] id _ (src := []) (L1 := L) ?_ srcOk_nil (show 1 ≤ 1000000 by decide) fun x hx => ?_
    · simp only [aaQ, abQ, acQ, adQ, aeQ, afQ, agQ, ahQ, aiQ, ajQ, akQ, alQ, amQ, anQ, aoQ, apQ, aqQ, arQ, asQ, atQ, auQ, avQ, awQ, axQ, ayQ, azQ, aAQ, aBQ, aCQ, aDQ, aEQ, aFQ, aGQ, aHQ, aIQ, aJQ, aKQ, aLQ, aMQ, aNQ, aOQ, aPQ, aQQ, aRQ, aSQ, aTQ, aUQ, aVQ, aWQ, aXQ, aYQ, aZQ, baQ, bbQ, bcQ, bdQ, beQ, bfQ, bgQ, bhQ, biQ, bjQ, bkQ, blQ, bmQ, bnQ, boQ, bpQ, bqQ, brQ, bsQ, btQ, buQ, bvQ, bwQ, bxQ, byQ, bzQ, bAQ, bBQ, bCQ, bDQ, bEQ, bFQ, bGQ, bHQ, bIQ, bJQ, bKQ, bLQ, bMQ, bNQ, bOQ, bPQ, bQQ, bRQ, bSQ, bTQ, bUQ, bVQ, bWQ, bXQ, bYQ, bZQ, caQ, cbQ, ccQ, cdQ, ceQ, cfQ, cgQ, chQ, ciQ, cjQ, ckQ, clQ, cmQ, cnQ, coQ, cpQ, cqQ, crQ, csQ, ctQ, cuQ, cvQ, cwQ, cxQ, cyQ, czQ, cAQ, cBQ, cCQ, cDQ, cEQ, cFQ, cGQ, cHQ, cIQ, cJQ, cKQ, cLQ, cMQ, cNQ, cOQ, cPQ, cQQ, cRQ, cSQ, cTQ, cUQ, cVQ, cWQ, cXQ, cYQ, cZQ, daQ, dbQ, dcQ, ddQ, deQ, dfQ, dgQ, dhQ, diQ, djQ, dkQ, dlQ, dmQ, dnQ, doQ, dpQ, dqQ, drQ, dsQ, dtQ, duQ, dvQ, dwQ, dxQ, dyQ, dzQ, dAQ, dBQ, dCQ, dDQ, dEQ, dFQ, dGQ, dHQ, dIQ, dJQ, dKQ, dLQ, dMQ, dNQ, dOQ, dPQ, dQQ, dRQ, dSQ, dTQ, dUQ, dVQ, dWQ, dXQ, dYQ, dZQ, eaQ, ebQ, ecQ, edQ, eeQ, efQ, egQ, ehQ, eiQ, ejQ, ekQ, elQ, emQ, enQ, eoQ, epQ, eqQ, erQ, esQ, etQ, euQ, evQ, ewQ, exQ, eyQ, ezQ, eAQ, eBQ, eCQ, eDQ, eEQ, eFQ, eGQ, eHQ, eIQ, eJQ, eKQ, eLQ, eMQ, eNQ, eOQ, ePQ, eQQ, eRQ, eSQ, eTQ, eUQ, eVQ, eWQ, eXQ, eYQ, eZQ, faQ, fbQ, fcQ, fdQ, feQ, ffQ, fgQ, fhQ, fiQ, fjQ, fkQ, flQ, fmQ, fnQ, foQ, fpQ, fqQ, frQ, fsQ, ftQ, fuQ, fvQ, fwQ, fxQ, fyQ, fzQ, fAQ, fBQ, fCQ, fDQ, fEQ, fFQ, fGQ, fHQ, fIQ, fJQ, fKQ, fLQ, fMQ, fNQ, fOQ, fPQ, fQQ, fRQ, fSQ, fTQ, fUQ, fVQ, fWQ, fXQ, fYQ, fZQ, gaQ, gbQ, gcQ, gdQ, geQ, gfQ, ggQ, ghQ, giQ, gjQ, gkQ, glQ, gmQ, gnQ, goQ, gpQ, gqQ, grQ, gsQ, gtQ, guQ, gvQ, gwQ, gxQ, gyQ, gzQ, gAQ, gBQ, gCQ, gDQ, gEQ, gFQ, gGQ, gHQ, gIQ, gJQ, gKQ, gLQ, gMQ, gNQ, gOQ, gPQ, gQQ, gRQ, gSQ, gTQ, gUQ, gVQ, gWQ, gXQ, gYQ, gZQ, haQ, hbQ, hcQ, hdQ, heQ, hfQ, hgQ, hhQ, hiQ, hjQ, hkQ, hlQ, hmQ, hnQ, hoQ, hpQ, hqQ, hrQ, hsQ, htQ, huQ, hvQ, hwQ, hxQ, hyQ, hzQ, hAQ, hBQ, hCQ, hDQ, hEQ, hFQ, hGQ, hHQ, hIQ, hJQ, hKQ, hLQ, hMQ, hNQ, hOQ, hPQ, hQQ, hRQ, hSQ, hTQ, hUQ, hVQ, hWQ, hXQ, hYQ, hZQ, iaQ, euQ, etQ, exQ, ibQ, icQ, List.map_id]
    · have e : ∀ L, gSub (.int 20) (.int 1) L = .ok (.int 19) L := fun _ => rfl
      rw [List.mem_singleton] at hx
      have e2 : id x = d := hx
      simp only [aaQ, abQ, acQ, adQ, aeQ, afQ, agQ, ahQ, aiQ, ajQ, akQ, alQ, amQ, anQ, aoQ, apQ, aqQ, arQ, asQ, atQ, auQ, avQ, awQ, axQ, ayQ, azQ, aAQ, aBQ, aCQ, aDQ, aEQ, aFQ, aGQ, aHQ, aIQ, aJQ, aKQ, aLQ, aMQ, aNQ, aOQ, aPQ, aQQ, aRQ, aSQ, aTQ, aUQ, aVQ, aWQ, aXQ, aYQ, aZQ, baQ, bbQ, bcQ, bdQ, beQ, bfQ, bgQ, bhQ, biQ, bjQ, bkQ, blQ, bmQ, bnQ, boQ, bpQ, bqQ, brQ, bsQ, btQ, buQ, bvQ, bwQ, bxQ, byQ, bzQ, bAQ, bBQ, bCQ, bDQ, bEQ, bFQ, bGQ, bHQ, bIQ, bJQ, bKQ, bLQ, bMQ, bNQ, bOQ, bPQ, bQQ, bRQ, bSQ, bTQ, bUQ, bVQ, bWQ, bXQ, bYQ, bZQ, caQ, cbQ, ccQ, cdQ, ceQ, cfQ, cgQ, chQ, ciQ, cjQ, ckQ, clQ, cmQ, cnQ, coQ, cpQ, cqQ, crQ, csQ, ctQ, cuQ, cvQ, cwQ, cxQ, cyQ, czQ, cAQ, cBQ, cCQ, cDQ, cEQ, cFQ, cGQ, cHQ, cIQ, cJQ, cKQ, cLQ, cMQ, cNQ, cOQ, cPQ, cQQ, cRQ, cSQ, cTQ, cUQ, cVQ, cWQ, cXQ, cYQ, cZQ, daQ, dbQ, dcQ, ddQ, deQ, dfQ, dgQ, dhQ, diQ, djQ, dkQ, dlQ, dmQ, dnQ, doQ, dpQ, dqQ, drQ, dsQ, dtQ, duQ, dvQ, dwQ, dxQ, dyQ, dzQ, dAQ, dBQ, dCQ, dDQ, dEQ, dFQ, dGQ, dHQ, dIQ, dJQ, dKQ, dLQ, dMQ, dNQ, dOQ, dPQ, dQQ, dRQ, dSQ, dTQ, dUQ, dVQ, dWQ, dXQ, dYQ, dZQ, eaQ, ebQ, ecQ, edQ, eeQ, efQ, egQ, ehQ, eiQ, ejQ, ekQ, elQ, emQ, enQ, eoQ, epQ, eqQ, erQ, esQ, etQ, euQ, evQ, ewQ, exQ, eyQ, ezQ, eAQ, eBQ, eCQ, eDQ, eEQ, eFQ, eGQ, eHQ, eIQ, eJQ, eKQ, eLQ, eMQ, eNQ, eOQ, ePQ, eQQ, eRQ, eSQ, eTQ, eUQ, eVQ, eWQ, eXQ, eYQ, eZQ, faQ, fbQ, fcQ, fdQ, feQ, ffQ, fgQ, fhQ, fiQ, fjQ, fkQ, flQ, fmQ, fnQ, foQ, fpQ, fqQ, frQ, fsQ, ftQ, fuQ, fvQ, fwQ, fxQ, fyQ, fzQ, fAQ, fBQ, fCQ, fDQ, fEQ, fFQ, fGQ, fHQ, fIQ, fJQ, fKQ, fLQ, fMQ, fNQ, fOQ, fPQ, fQQ, fRQ, fSQ, fTQ, fUQ, fVQ, fWQ, fXQ, fYQ, fZQ, gaQ, gbQ, gcQ, gdQ, geQ, gfQ, ggQ, ghQ, giQ, gjQ, gkQ, glQ, gmQ, gnQ, goQ, gpQ, gqQ, grQ, gsQ, gtQ, guQ, gvQ, gwQ, gxQ, gyQ, gzQ, gAQ, gBQ, gCQ, gDQ, gEQ, gFQ, gGQ, gHQ, gIQ, gJQ, gKQ, gLQ, gMQ, gNQ, gOQ, gPQ, gQQ, gRQ, gSQ, gTQ, gUQ, gVQ, gWQ, gXQ, gYQ, gZQ, haQ, hbQ, hcQ, hdQ, heQ, hfQ, hgQ, hhQ, hiQ, hjQ, hkQ, hlQ, hmQ, hnQ, hoQ, hpQ, hqQ, hrQ, hsQ, htQ, huQ, hvQ, hwQ, hxQ, hyQ, hzQ, hAQ, hBQ, hCQ, hDQ, hEQ, hFQ, hGQ, hHQ, hIQ, hJQ, hKQ, hLQ, hMQ, hNQ, hOQ, hPQ, hQQ, hRQ, hSQ, hTQ, hUQ, hVQ, hWQ, hXQ, hYQ, hZQ, iaQ, euQ, etQ, exQ, ibQ, icQ, e, e2, h1]
  have al : gAll [.lst ([d].map fun _ => D.bl false)] L = .ok (.bl false) L := gAll_map (L := L) [d] fun _ => false
  simp only [u_are_places, F_are_places, aaQ, abQ, acQ, adQ, aeQ, afQ, agQ, ahQ, aiQ, ajQ, akQ, alQ, amQ, anQ, aoQ, apQ, aqQ, arQ, asQ, atQ, auQ, avQ, awQ, axQ, ayQ, azQ, aAQ, aBQ, aCQ, aDQ, aEQ, aFQ, aGQ, aHQ, aIQ, aJQ, aKQ, aLQ, aMQ, aNQ, aOQ, aPQ, aQQ, aRQ, aSQ, aTQ, aUQ, aVQ, aWQ, aXQ, aYQ, aZQ, baQ, bbQ, bcQ, bdQ, beQ, bfQ, bgQ, bhQ, biQ, bjQ, bkQ, blQ, bmQ, bnQ, boQ, bpQ, bqQ, brQ, bsQ, btQ, buQ, bvQ, bwQ, bxQ, byQ, bzQ, bAQ, bBQ, bCQ, bDQ, bEQ, bFQ, bGQ, bHQ, bIQ, bJQ, bKQ, bLQ, bMQ, bNQ, bOQ, bPQ, bQQ, bRQ, bSQ, bTQ, bUQ, bVQ, bWQ, bXQ, bYQ, bZQ, caQ, cbQ, ccQ, cdQ, ceQ, cfQ, cgQ, chQ, ciQ, cjQ, ckQ, clQ, cmQ, cnQ, coQ, cpQ, cqQ, crQ, csQ, ctQ, cuQ, cvQ, cwQ, cxQ, cyQ, czQ, cAQ, cBQ, cCQ, cDQ, cEQ, cFQ, cGQ, cHQ, cIQ, cJQ, cKQ, cLQ, cMQ, cNQ, cOQ, cPQ, cQQ, cRQ, cSQ, cTQ, cUQ, cVQ, cWQ, cXQ, cYQ, cZQ, daQ, dbQ, dcQ, ddQ, deQ, dfQ, dgQ, dhQ, diQ, djQ, dkQ, dlQ, dmQ, dnQ, doQ, dpQ, dqQ, drQ, dsQ, dtQ, duQ, dvQ, dwQ, dxQ, dyQ, dzQ, dAQ, dBQ, dCQ, dDQ, dEQ, dFQ, dGQ, dHQ, dIQ, dJQ, dKQ, dLQ, dMQ, dNQ, dOQ, dPQ, dQQ, dRQ, dSQ, dTQ, dUQ, dVQ, dWQ, dXQ, dYQ, dZQ, eaQ, ebQ, ecQ, edQ, eeQ, efQ, egQ, ehQ, eiQ, ejQ, ekQ, elQ, emQ, enQ, eoQ, epQ, eqQ, erQ, esQ, etQ, euQ, evQ, ewQ, exQ, eyQ, ezQ, eAQ, eBQ, eCQ, eDQ, eEQ, eFQ, eGQ, eHQ, eIQ, eJQ, eKQ, eLQ, eMQ, eNQ, eOQ, ePQ, eQQ, eRQ, eSQ, eTQ, eUQ, eVQ, eWQ, eXQ, eYQ, eZQ, faQ, fbQ, fcQ, fdQ, feQ, ffQ, fgQ, fhQ, fiQ, fjQ, fkQ, flQ, fmQ, fnQ, foQ, fpQ, fqQ, frQ, fsQ, ftQ, fuQ, fvQ, fwQ, fxQ, fyQ, fzQ, fAQ, fBQ, fCQ, fDQ, fEQ, fFQ, fGQ, fHQ, fIQ, fJQ, fKQ, fLQ, fMQ, fNQ, fOQ, fPQ, fQQ, fRQ, fSQ, fTQ, fUQ, fVQ, fWQ, fXQ, fYQ, fZQ, gaQ, gbQ, gcQ, gdQ, geQ, gfQ, ggQ, ghQ, giQ, gjQ, gkQ, glQ, gmQ, gnQ, goQ, gpQ, gqQ, grQ, gsQ, gtQ, guQ, gvQ, gwQ, gxQ, gyQ, gzQ, gAQ, gBQ, gCQ, gDQ, gEQ, gFQ, gGQ, gHQ, gIQ, gJQ, gKQ, gLQ, gMQ, gNQ, gOQ, gPQ, gQQ, gRQ, gSQ, gTQ, gUQ, gVQ, gWQ, gXQ, gYQ, gZQ, haQ, hbQ, hcQ, hdQ, heQ, hfQ, hgQ, hhQ, hiQ, hjQ, hkQ, hlQ, hmQ, hnQ, hoQ, hpQ, hqQ, hrQ, hsQ, htQ, huQ, hvQ, hwQ, hxQ, hyQ, hzQ, hAQ, hBQ, hCQ, hDQ, hEQ, hFQ, hGQ, hHQ, hIQ, hJQ, hKQ, hLQ, hMQ, hNQ, hOQ, hPQ, hQQ, hRQ, hSQ, hTQ, hUQ, hVQ, hWQ, hXQ, hYQ, hZQ, iaQ, euQ, etQ, exQ, ibQ, icQ, c, al, Bool.not_true, Bool.not_false, Bool.false_eq_true, if_false, if_true]
theorem eqDL_ints' : ∀ r q : List Int, eqDL (r.map .int) (q.map .int) = decide (r = q)
  | [], [] => rfl
  | [], y :: q => rfl
  | x :: r, [] => rfl
  | x :: r, y :: q => by
    rw [List.map_cons, List.map_cons, eqDL, eqDL_ints' r q]
    have e : eqD (.int x) (.int y) = decide (x = y) := by rw [eqD]; rfl
    rw [e]
    by_cases h : x = y
    · subst h; simp
    · simp [h]
structure NotParts (d : D) : Prop where
  no : ∀ L, m_are_parts [d] L = .ok (.bl false) L
theorem nparts_k (h1 : ∀ L, gIsiK owns .tup d L = .ok (.bl false) L) : NotParts d := ⟨fun L => by
  simp only [u_are_parts, F_are_parts, aaQ, abQ, acQ, adQ, aeQ, afQ, agQ, ahQ, aiQ, ajQ, akQ, alQ, amQ, anQ, aoQ, apQ, aqQ, arQ, asQ, atQ, auQ, avQ, awQ, axQ, ayQ, azQ, aAQ, aBQ, aCQ, aDQ, aEQ, aFQ, aGQ, aHQ, aIQ, aJQ, aKQ, aLQ, aMQ, aNQ, aOQ, aPQ, aQQ, aRQ, aSQ, aTQ, aUQ, aVQ, aWQ, aXQ, aYQ, aZQ, baQ, bbQ, bcQ, bdQ, beQ, bfQ, bgQ, bhQ, biQ, bjQ, bkQ, blQ, bmQ, bnQ, boQ, bpQ, bqQ, brQ, bsQ, btQ, buQ, bvQ, bwQ, bxQ, byQ, bzQ, bAQ, bBQ, bCQ, bDQ, bEQ, bFQ, bGQ, bHQ, bIQ, bJQ, bKQ, bLQ, bMQ, bNQ, bOQ, bPQ, bQQ, bRQ, bSQ, bTQ, bUQ, bVQ, bWQ, bXQ, bYQ, bZQ, caQ, cbQ, ccQ, cdQ, ceQ, cfQ, cgQ, chQ, ciQ, cjQ, ckQ, clQ, cmQ, cnQ, coQ, cpQ, cqQ, crQ, csQ, ctQ, cuQ, cvQ, cwQ, cxQ, cyQ, czQ, cAQ, cBQ, cCQ, cDQ, cEQ, cFQ, cGQ, cHQ, cIQ, cJQ, cKQ, cLQ, cMQ, cNQ, cOQ, cPQ, cQQ, cRQ, cSQ, cTQ, cUQ, cVQ, cWQ, cXQ, cYQ, cZQ, daQ, dbQ, dcQ, ddQ, deQ, dfQ, dgQ, dhQ, diQ, djQ, dkQ, dlQ, dmQ, dnQ, doQ, dpQ, dqQ, drQ, dsQ, dtQ, duQ, dvQ, dwQ, dxQ, dyQ, dzQ, dAQ, dBQ, dCQ, dDQ, dEQ, dFQ, dGQ, dHQ, dIQ, dJQ, dKQ, dLQ, dMQ, dNQ, dOQ, dPQ, dQQ, dRQ, dSQ, dTQ, dUQ, dVQ, dWQ, dXQ, dYQ, dZQ, eaQ, ebQ, ecQ, edQ, eeQ, efQ, egQ, ehQ, eiQ, ejQ, ekQ, elQ, emQ, enQ, eoQ, epQ, eqQ, erQ, esQ, etQ, euQ, evQ, ewQ, exQ, eyQ, ezQ, eAQ, eBQ, eCQ, eDQ, eEQ, eFQ, eGQ, eHQ, eIQ, eJQ, eKQ, eLQ, eMQ, eNQ, eOQ, ePQ, eQQ, eRQ, eSQ, eTQ, eUQ, eVQ, eWQ, eXQ, eYQ, eZQ, faQ, fbQ, fcQ, fdQ, feQ, ffQ, fgQ, fhQ, fiQ, fjQ, fkQ, flQ, fmQ, fnQ, foQ, fpQ, fqQ, frQ, fsQ, ftQ, fuQ, fvQ, fwQ, fxQ, fyQ, fzQ, fAQ, fBQ, fCQ, fDQ, fEQ, fFQ, fGQ, fHQ, fIQ, fJQ, fKQ, fLQ, fMQ, fNQ, fOQ, fPQ, fQQ, fRQ, fSQ, fTQ, fUQ, fVQ, fWQ, fXQ, fYQ, fZQ, gaQ, gbQ, gcQ, gdQ, geQ, gfQ, ggQ, ghQ, giQ, gjQ, gkQ, glQ, gmQ, gnQ, goQ, gpQ, gqQ, grQ, gsQ, gtQ, guQ, gvQ, gwQ, gxQ, gyQ, gzQ, gAQ, gBQ, gCQ, gDQ, gEQ, gFQ, gGQ, gHQ, gIQ, gJQ, gKQ, gLQ, gMQ, gNQ, gOQ, gPQ, gQQ, gRQ, gSQ, gTQ, gUQ, gVQ, gWQ, gXQ, gYQ, gZQ, haQ, hbQ, hcQ, hdQ, heQ, hfQ, hgQ, hhQ, hiQ, hjQ, hkQ, hlQ, hmQ, hnQ, hoQ, hpQ, hqQ, hrQ, hsQ, htQ, huQ, hvQ, hwQ, hxQ, hyQ, hzQ, hAQ, hBQ, hCQ, hDQ, hEQ, hFQ, hGQ, hHQ, hIQ, hJQ, hKQ, hLQ, hMQ, hNQ, hOQ, hPQ, hQQ, hRQ, hSQ, hTQ, hUQ, hVQ, hWQ, hXQ, hYQ, hZQ, iaQ, euQ, etQ, exQ, ibQ, icQ, h1, Bool.not_false, if_true]⟩
theorem nparts_len (T : Tp d xs) (h : ¬ (1 ≤ xs.length ∧ xs.length ≤ 20)) : NotParts d := ⟨fun L => by
  have k : (decide ((1 : Int) ≤ (xs.length : Nat)) && decide (((xs.length : Nat) : Int) ≤ 20)) = false := by
    rw [← Bool.decide_and, decide_eq_false]
    omega
  simp only [u_are_parts, F_are_parts, aaQ, abQ, acQ, adQ, aeQ, afQ, agQ, ahQ, aiQ, ajQ, akQ, alQ, amQ, anQ, aoQ, apQ, aqQ, arQ, asQ, atQ, auQ, avQ, awQ, axQ, ayQ, azQ, aAQ, aBQ, aCQ, aDQ, aEQ, aFQ, aGQ, aHQ, aIQ, aJQ, aKQ, aLQ, aMQ, aNQ, aOQ, aPQ, aQQ, aRQ, aSQ, aTQ, aUQ, aVQ, aWQ, aXQ, aYQ, aZQ, baQ, bbQ, bcQ, bdQ, beQ, bfQ, bgQ, bhQ, biQ, bjQ, bkQ, blQ, bmQ, bnQ, boQ, bpQ, bqQ, brQ, bsQ, btQ, buQ, bvQ, bwQ, bxQ, byQ, bzQ, bAQ, bBQ, bCQ, bDQ, bEQ, bFQ, bGQ, bHQ, bIQ, bJQ, bKQ, bLQ, bMQ, bNQ, bOQ, bPQ, bQQ, bRQ, bSQ, bTQ, bUQ, bVQ, bWQ, bXQ, bYQ, bZQ, caQ, cbQ, ccQ, cdQ, ceQ, cfQ, cgQ, chQ, ciQ, cjQ, ckQ, clQ, cmQ, cnQ, coQ, cpQ, cqQ, crQ, csQ, ctQ, cuQ, cvQ, cwQ, cxQ, cyQ, czQ, cAQ, cBQ, cCQ, cDQ, cEQ, cFQ, cGQ, cHQ, cIQ, cJQ, cKQ, cLQ, cMQ, cNQ, cOQ, cPQ, cQQ, cRQ, cSQ, cTQ, cUQ, cVQ, cWQ, cXQ, cYQ, cZQ, daQ, dbQ, dcQ, ddQ, deQ, dfQ, dgQ, dhQ, diQ, djQ, dkQ, dlQ, dmQ, dnQ, doQ, dpQ, dqQ, drQ, dsQ, dtQ, duQ, dvQ, dwQ, dxQ, dyQ, dzQ, dAQ, dBQ, dCQ, dDQ, dEQ, dFQ, dGQ, dHQ, dIQ, dJQ, dKQ, dLQ, dMQ, dNQ, dOQ, dPQ, dQQ, dRQ, dSQ, dTQ, dUQ, dVQ, dWQ, dXQ, dYQ, dZQ, eaQ, ebQ, ecQ, edQ, eeQ, efQ, egQ, ehQ, eiQ, ejQ, ekQ, elQ, emQ, enQ, eoQ, epQ, eqQ, erQ, esQ, etQ, euQ, evQ, ewQ, exQ, eyQ, ezQ, eAQ, eBQ, eCQ, eDQ, eEQ, eFQ, eGQ, eHQ, eIQ, eJQ, eKQ, eLQ, eMQ, eNQ, eOQ, ePQ, eQQ, eRQ, eSQ, eTQ, eUQ, eVQ, eWQ, eXQ, eYQ, eZQ, faQ, fbQ, fcQ, fdQ, feQ, ffQ, fgQ, fhQ, fiQ, fjQ, fkQ, flQ, fmQ, fnQ, foQ, fpQ, fqQ, frQ, fsQ, ftQ, fuQ, fvQ, fwQ, fxQ, fyQ, fzQ, fAQ, fBQ, fCQ, fDQ, fEQ, fFQ, fGQ, fHQ, fIQ, fJQ, fKQ, fLQ, fMQ, fNQ, fOQ, fPQ, fQQ, fRQ, fSQ, fTQ, fUQ, fVQ, fWQ, fXQ, fYQ, fZQ, gaQ, gbQ, gcQ, gdQ, geQ, gfQ, ggQ, ghQ, giQ, gjQ, gkQ, glQ, gmQ, gnQ, goQ, gpQ, gqQ, grQ, gsQ, gtQ, guQ, gvQ, gwQ, gxQ, gyQ, gzQ, gAQ, gBQ, gCQ, gDQ, gEQ, gFQ, gGQ, gHQ, gIQ, gJQ, gKQ, gLQ, gMQ, gNQ, gOQ, gPQ, gQQ, gRQ, gSQ, gTQ, gUQ, gVQ, gWQ, gXQ, gYQ, gZQ, haQ, hbQ, hcQ, hdQ, heQ, hfQ, hgQ, hhQ, hiQ, hjQ, hkQ, hlQ, hmQ, hnQ, hoQ, hpQ, hqQ, hrQ, hsQ, htQ, huQ, hvQ, hwQ, hxQ, hyQ, hzQ, hAQ, hBQ, hCQ, hDQ, hEQ, hFQ, hGQ, hHQ, hIQ, hJQ, hKQ, hLQ, hMQ, hNQ, hOQ, hPQ, hQQ, hRQ, hSQ, hTQ, hUQ, hVQ, hWQ, hXQ, hYQ, hZQ, iaQ, euQ, etQ, exQ, ibQ, icQ, T.t, T.l, blQ, k, Bool.not_true, Bool.not_false, Bool.false_eq_true, if_false, if_true]⟩
theorem nparts_one (T : Tp d xs) (hx : ∀ x ∈ xs, ∀ L, m_are_places [x, .int 20] L = .ok (.bl (b x)) L) (hl : xs.length ≤ 1000) (hb : xs.all b = false) : NotParts d := ⟨fun L => by
  have c : C1_are_parts [some d, none, none, none] L = .ok (.lst (xs.map fun x => D.bl (b x))) L := by
    refine lc_map (box := false) xs id (fun x => D.bl (b x)) (src := []) (L1 := L) ?_ srcOk_nil (by omega) fun x hx' => ?_
    · simp only [aaQ, abQ, acQ, adQ, aeQ, afQ, agQ, ahQ, aiQ, ajQ, akQ, alQ, amQ, anQ, aoQ, apQ, aqQ, arQ, asQ, atQ, auQ, avQ, awQ, axQ, ayQ, azQ, aAQ, aBQ, aCQ, aDQ, aEQ, aFQ, aGQ, aHQ, aIQ, aJQ, aKQ, aLQ, aMQ, aNQ, aOQ, aPQ, aQQ, aRQ, aSQ, aTQ, aUQ, aVQ, aWQ, aXQ, aYQ, aZQ, baQ, bbQ, bcQ, bdQ, beQ, bfQ, bgQ, bhQ, biQ, bjQ, bkQ, blQ, bmQ, bnQ, boQ, bpQ, bqQ, brQ, bsQ, btQ, buQ, bvQ, bwQ, bxQ, byQ, bzQ, bAQ, bBQ, bCQ, bDQ, bEQ, bFQ, bGQ, bHQ, bIQ, bJQ, bKQ, bLQ, bMQ, bNQ, bOQ, bPQ, bQQ, bRQ, bSQ, bTQ, bUQ, bVQ, bWQ, bXQ, bYQ, bZQ, caQ, cbQ, ccQ, cdQ, ceQ, cfQ, cgQ, chQ, ciQ, cjQ, ckQ, clQ, cmQ, cnQ, coQ, cpQ, cqQ, crQ, csQ, ctQ, cuQ, cvQ, cwQ, cxQ, cyQ, czQ, cAQ, cBQ, cCQ, cDQ, cEQ, cFQ, cGQ, cHQ, cIQ, cJQ, cKQ, cLQ, cMQ, cNQ, cOQ, cPQ, cQQ, cRQ, cSQ, cTQ, cUQ, cVQ, cWQ, cXQ, cYQ, cZQ, daQ, dbQ, dcQ, ddQ, deQ, dfQ, dgQ, dhQ, diQ, djQ, dkQ, dlQ, dmQ, dnQ, doQ, dpQ, dqQ, drQ, dsQ, dtQ, duQ, dvQ, dwQ, dxQ, dyQ, dzQ, dAQ, dBQ, dCQ, dDQ, dEQ, dFQ, dGQ, dHQ, dIQ, dJQ, dKQ, dLQ, dMQ, dNQ, dOQ, dPQ, dQQ, dRQ, dSQ, dTQ, dUQ, dVQ, dWQ, dXQ, dYQ, dZQ, eaQ, ebQ, ecQ, edQ, eeQ, efQ, egQ, ehQ, eiQ, ejQ, ekQ, elQ, emQ, enQ, eoQ, epQ, eqQ, erQ, esQ, etQ, euQ, evQ, ewQ, exQ, eyQ, ezQ, eAQ, eBQ, eCQ, eDQ, eEQ, eFQ, eGQ, eHQ, eIQ, eJQ, eKQ, eLQ, eMQ, eNQ, eOQ, ePQ, eQQ, eRQ, eSQ, eTQ, eUQ, eVQ, eWQ, eXQ, eYQ, eZQ, faQ, fbQ, fcQ, fdQ, feQ, ffQ, fgQ, fhQ, fiQ, fjQ, fkQ, flQ, fmQ, fnQ, foQ, fpQ, fqQ, frQ, fsQ, ftQ, fuQ, fvQ, fwQ, fxQ, fyQ, fzQ, fAQ, fBQ, fCQ, fDQ, fEQ, fFQ, fGQ, fHQ, fIQ, fJQ, fKQ, fLQ, fMQ, fNQ, fOQ, fPQ, fQQ, fRQ, fSQ, fTQ, fUQ, fVQ, fWQ, fXQ, fYQ, fZQ, gaQ, gbQ, gcQ, gdQ, geQ, gfQ, ggQ, ghQ, giQ, gjQ, gkQ, glQ, gmQ, gnQ, goQ, gpQ, gqQ, grQ, gsQ, gtQ, guQ, gvQ, gwQ, gxQ, gyQ, gzQ, gAQ, gBQ, gCQ, gDQ, gEQ, gFQ, gGQ, gHQ, gIQ, gJQ, gKQ, gLQ, gMQ, gNQ, gOQ, gPQ, gQQ, gRQ, gSQ, gTQ, gUQ, gVQ, gWQ, gXQ, gYQ, gZQ, haQ, hbQ, hcQ, hdQ, heQ, hfQ, hgQ, hhQ, hiQ, hjQ, hkQ, hlQ, hmQ, hnQ, hoQ, hpQ, hqQ, hrQ, hsQ, htQ, huQ, hvQ, hwQ, hxQ, hyQ, hzQ, hAQ, hBQ, hCQ, hDQ, hEQ, hFQ, hGQ, hHQ, hIQ, hJQ, hKQ, hLQ, hMQ, hNQ, hOQ, hPQ, hQQ, hRQ, hSQ, hTQ, hUQ, hVQ, hWQ, hXQ, hYQ, hZQ, iaQ, euQ, etQ, exQ, ibQ, icQ, T.s, List.map_id]
    · have e : id x = x := rfl
      simp only [aaQ, abQ, acQ, adQ, aeQ, afQ, agQ, ahQ, aiQ, ajQ, akQ, alQ, amQ, anQ, aoQ, apQ, aqQ, arQ, asQ, atQ, auQ, avQ, awQ, axQ, ayQ, azQ, aAQ, aBQ, aCQ, aDQ, aEQ, aFQ, aGQ, aHQ, aIQ, aJQ, aKQ, aLQ, aMQ, aNQ, aOQ, aPQ, aQQ, aRQ, aSQ, aTQ, aUQ, aVQ, aWQ, aXQ, aYQ, aZQ, baQ, bbQ, bcQ, bdQ, beQ, bfQ, bgQ, bhQ, biQ, bjQ, bkQ, blQ, bmQ, bnQ, boQ, bpQ, bqQ, brQ, bsQ, btQ, buQ, bvQ, bwQ, bxQ, byQ, bzQ, bAQ, bBQ, bCQ, bDQ, bEQ, bFQ, bGQ, bHQ, bIQ, bJQ, bKQ, bLQ, bMQ, bNQ, bOQ, bPQ, bQQ, bRQ, bSQ, bTQ, bUQ, bVQ, bWQ, bXQ, bYQ, bZQ, caQ, cbQ, ccQ, cdQ, ceQ, cfQ, cgQ, chQ, ciQ, cjQ, ckQ, clQ, cmQ, cnQ, coQ, cpQ, cqQ, crQ, csQ, ctQ, cuQ, cvQ, cwQ, cxQ, cyQ, czQ, cAQ, cBQ, cCQ, cDQ, cEQ, cFQ, cGQ, cHQ, cIQ, cJQ, cKQ, cLQ, cMQ, cNQ, cOQ, cPQ, cQQ, cRQ, cSQ, cTQ, cUQ, cVQ, cWQ, cXQ, cYQ, cZQ, daQ, dbQ, dcQ, ddQ, deQ, dfQ, dgQ, dhQ, diQ, djQ, dkQ, dlQ, dmQ, dnQ, doQ, dpQ, dqQ, drQ, dsQ, dtQ, duQ, dvQ, dwQ, dxQ, dyQ, dzQ, dAQ, dBQ, dCQ, dDQ, dEQ, dFQ, dGQ, dHQ, dIQ, dJQ, dKQ, dLQ, dMQ, dNQ, dOQ, dPQ, dQQ, dRQ, dSQ, dTQ, dUQ, dVQ, dWQ, dXQ, dYQ, dZQ, eaQ, ebQ, ecQ, edQ, eeQ, efQ, egQ, ehQ, eiQ, ejQ, ekQ, elQ, emQ, enQ, eoQ, epQ, eqQ, erQ, esQ, etQ, euQ, evQ, ewQ, exQ, eyQ, ezQ, eAQ, eBQ, eCQ, eDQ, eEQ, eFQ, eGQ, eHQ, eIQ, eJQ, eKQ, eLQ, eMQ, eNQ, eOQ, ePQ, eQQ, eRQ, eSQ, eTQ, eUQ, eVQ, eWQ, eXQ, eYQ, eZQ, faQ, fbQ, fcQ, fdQ, feQ, ffQ, fgQ, fhQ, fiQ, fjQ, fkQ, flQ, fmQ, fnQ, foQ, fpQ, fqQ, frQ, fsQ, ftQ, fuQ, fvQ, fwQ, fxQ, fyQ, fzQ, fAQ, fBQ, fCQ, fDQ, fEQ, fFQ, fGQ, fHQ, fIQ, fJQ, fKQ, fLQ, fMQ, fNQ, fOQ, fPQ, fQQ, fRQ, fSQ, fTQ, fUQ, fVQ, fWQ, fXQ, fYQ, fZQ, gaQ, gbQ, gcQ, gdQ, geQ, gfQ, ggQ, ghQ, giQ, gjQ, gkQ, glQ, gmQ, gnQ, goQ, gpQ, gqQ, grQ, gsQ, gtQ, guQ, gvQ, gwQ, gxQ, gyQ, gzQ, gAQ, gBQ, gCQ, gDQ, gEQ, gFQ, gGQ, gHQ, gIQ, gJQ, gKQ, gLQ, gMQ, gNQ, gOQ, gPQ, gQQ, gRQ, gSQ, gTQ, gUQ, gVQ, gWQ, gXQ, gYQ, gZQ, haQ, hbQ, hcQ, hdQ, heQ, hfQ, hgQ, hhQ, hiQ, hjQ, hkQ, hlQ, hmQ, hnQ, hoQ, hpQ, hqQ, hrQ, hsQ, htQ, huQ, hvQ, hwQ, hxQ, hyQ, hzQ, hAQ, hBQ, hCQ, hDQ, hEQ, hFQ, hGQ, hHQ, hIQ, hJQ, hKQ, hLQ, hMQ, hNQ, hOQ, hPQ, hQQ, hRQ, hSQ, hTQ, hUQ, hVQ, hWQ, hXQ, hYQ, hZQ, iaQ, euQ, etQ, exQ, ibQ, icQ, e, hx x hx']
  cases k : (decide ((1 : Int) ≤ (xs.length : Nat)) && decide (((xs.length : Nat) : Int) ≤ 20)) with
  | false => simp only [u_are_parts, F_are_parts, aaQ, abQ, acQ, adQ, aeQ, afQ, agQ, ahQ, aiQ, ajQ, akQ, alQ, amQ, anQ, aoQ, apQ, aqQ, arQ, asQ, atQ, auQ, avQ, awQ, axQ, ayQ, azQ, aAQ, aBQ, aCQ, aDQ, aEQ, aFQ, aGQ, aHQ, aIQ, aJQ, aKQ, aLQ, aMQ, aNQ, aOQ, aPQ, aQQ, aRQ, aSQ, aTQ, aUQ, aVQ, aWQ, aXQ, aYQ, aZQ, baQ, bbQ, bcQ, bdQ, beQ, bfQ, bgQ, bhQ, biQ, bjQ, bkQ, blQ, bmQ, bnQ, boQ, bpQ, bqQ, brQ, bsQ, btQ, buQ, bvQ, bwQ, bxQ, byQ, bzQ, bAQ, bBQ, bCQ, bDQ, bEQ, bFQ, bGQ, bHQ, bIQ, bJQ, bKQ, bLQ, bMQ, bNQ, bOQ, bPQ, bQQ, bRQ, bSQ, bTQ, bUQ, bVQ, bWQ, bXQ, bYQ, bZQ, caQ, cbQ, ccQ, cdQ, ceQ, cfQ, cgQ, chQ, ciQ, cjQ, ckQ, clQ, cmQ, cnQ, coQ, cpQ, cqQ, crQ, csQ, ctQ, cuQ, cvQ, cwQ, cxQ, cyQ, czQ, cAQ, cBQ, cCQ, cDQ, cEQ, cFQ, cGQ, cHQ, cIQ, cJQ, cKQ, cLQ, cMQ, cNQ, cOQ, cPQ, cQQ, cRQ, cSQ, cTQ, cUQ, cVQ, cWQ, cXQ, cYQ, cZQ, daQ, dbQ, dcQ, ddQ, deQ, dfQ, dgQ, dhQ, diQ, djQ, dkQ, dlQ, dmQ, dnQ, doQ, dpQ, dqQ, drQ, dsQ, dtQ, duQ, dvQ, dwQ, dxQ, dyQ, dzQ, dAQ, dBQ, dCQ, dDQ, dEQ, dFQ, dGQ, dHQ, dIQ, dJQ, dKQ, dLQ, dMQ, dNQ, dOQ, dPQ, dQQ, dRQ, dSQ, dTQ, dUQ, dVQ, dWQ, dXQ, dYQ, dZQ, eaQ, ebQ, ecQ, edQ, eeQ, efQ, egQ, ehQ, eiQ, ejQ, ekQ, elQ, emQ, enQ, eoQ, epQ, eqQ, erQ, esQ, etQ, euQ, evQ, ewQ, exQ, eyQ, ezQ, eAQ, eBQ, eCQ, eDQ, eEQ, eFQ, eGQ, eHQ, eIQ, eJQ, eKQ, eLQ, eMQ, eNQ, eOQ, ePQ, eQQ, eRQ, eSQ, eTQ, eUQ, eVQ, eWQ, eXQ, eYQ, eZQ, faQ, fbQ, fcQ, fdQ, feQ, ffQ, fgQ, fhQ, fiQ, fjQ, fkQ, flQ, fmQ, fnQ, foQ, fpQ, fqQ, frQ, fsQ, ftQ, fuQ, fvQ, fwQ, fxQ, fyQ, fzQ, fAQ, fBQ, fCQ, fDQ, fEQ, fFQ, fGQ, fHQ, fIQ, fJQ, fKQ, fLQ, fMQ, fNQ, fOQ, fPQ, fQQ, fRQ, fSQ, fTQ, fUQ, fVQ, fWQ, fXQ, fYQ, fZQ, gaQ, gbQ, gcQ, gdQ, geQ, gfQ, ggQ, ghQ, giQ, gjQ, gkQ, glQ, gmQ, gnQ, goQ, gpQ, gqQ, grQ, gsQ, gtQ, guQ, gvQ, gwQ, gxQ, gyQ, gzQ, gAQ, gBQ, gCQ, gDQ, gEQ, gFQ, gGQ, gHQ, gIQ, gJQ, gKQ, gLQ, gMQ, gNQ, gOQ, gPQ, gQQ, gRQ, gSQ, gTQ, gUQ, gVQ, gWQ, gXQ, gYQ, gZQ, haQ, hbQ, hcQ, hdQ, heQ, hfQ, hgQ, hhQ, hiQ, hjQ, hkQ, hlQ, hmQ, hnQ, hoQ, hpQ, hqQ, hrQ, hsQ, htQ, huQ, hvQ, hwQ, hxQ, hyQ, hzQ, hAQ, hBQ, hCQ, hDQ, hEQ, hFQ, hGQ, hHQ, hIQ, hJQ, hKQ, hLQ, hMQ, hNQ, hOQ, hPQ, hQQ, hRQ, hSQ, hTQ, hUQ, hVQ, hWQ, hXQ, hYQ, hZQ, iaQ, euQ, etQ, exQ, ibQ, icQ, T.t, T.l, blQ, k, Bool.not_true, Bool.not_false, Bool.false_eq_true, if_false, if_true]
  | true => simp only [u_are_parts, F_are_parts, aaQ, abQ, acQ, adQ, aeQ, afQ, agQ, ahQ, aiQ, ajQ, akQ, alQ, amQ, anQ, aoQ, apQ, aqQ, arQ, asQ, atQ, auQ, avQ, awQ, axQ, ayQ, azQ, aAQ, aBQ, aCQ, aDQ, aEQ, aFQ, aGQ, aHQ, aIQ, aJQ, aKQ, aLQ, aMQ, aNQ, aOQ, aPQ, aQQ, aRQ, aSQ, aTQ, aUQ, aVQ, aWQ, aXQ, aYQ, aZQ, baQ, bbQ, bcQ, bdQ, beQ, bfQ, bgQ, bhQ, biQ, bjQ, bkQ, blQ, bmQ, bnQ, boQ, bpQ, bqQ, brQ, bsQ, btQ, buQ, bvQ, bwQ, bxQ, byQ, bzQ, bAQ, bBQ, bCQ, bDQ, bEQ, bFQ, bGQ, bHQ, bIQ, bJQ, bKQ, bLQ, bMQ, bNQ, bOQ, bPQ, bQQ, bRQ, bSQ, bTQ, bUQ, bVQ, bWQ, bXQ, bYQ, bZQ, caQ, cbQ, ccQ, cdQ, ceQ, cfQ, cgQ, chQ, ciQ, cjQ, ckQ, clQ, cmQ, cnQ, coQ, cpQ, cqQ, crQ, csQ, ctQ, cuQ, cvQ, cwQ, cxQ, cyQ, czQ, cAQ, cBQ, cCQ, cDQ, cEQ, cFQ, cGQ, cHQ, cIQ, cJQ, cKQ, cLQ, cMQ, cNQ, cOQ, cPQ, cQQ, cRQ, cSQ, cTQ, cUQ, cVQ, cWQ, cXQ, cYQ, cZQ, daQ, dbQ, dcQ, ddQ, deQ, dfQ, dgQ, dhQ, diQ, djQ, dkQ, dlQ, dmQ, dnQ, doQ, dpQ, dqQ, drQ, dsQ, dtQ, duQ, dvQ, dwQ, dxQ, dyQ, dzQ, dAQ, dBQ, dCQ, dDQ, dEQ, dFQ, dGQ, dHQ, dIQ, dJQ, dKQ, dLQ, dMQ, dNQ, dOQ, dPQ, dQQ, dRQ, dSQ, dTQ, dUQ, dVQ, dWQ, dXQ, dYQ, dZQ, eaQ, ebQ, ecQ, edQ, eeQ, efQ, egQ, ehQ, eiQ, ejQ, ekQ, elQ, emQ, enQ, eoQ, epQ, eqQ, erQ, esQ, etQ, euQ, evQ, ewQ, exQ, eyQ, ezQ, eAQ, eBQ, eCQ, eDQ, eEQ, eFQ, eGQ, eHQ, eIQ, eJQ, eKQ, eLQ, eMQ, eNQ, eOQ, ePQ, eQQ, eRQ, eSQ, eTQ, eUQ, eVQ, eWQ, eXQ, eYQ, eZQ, faQ, fbQ, fcQ, fdQ, feQ, ffQ, fgQ, fhQ, fiQ, fjQ, fkQ, flQ, fmQ, fnQ, foQ, fpQ, fqQ, frQ, fsQ, ftQ, fuQ, fvQ, fwQ, fxQ, fyQ, fzQ, fAQ, fBQ, fCQ, fDQ, fEQ, fFQ, fGQ, fHQ, fIQ, fJQ, fKQ, fLQ, fMQ, fNQ, fOQ, fPQ, fQQ, fRQ, fSQ, fTQ, fUQ, fVQ, fWQ, fXQ, fYQ, fZQ, gaQ, gbQ, gcQ, gdQ, geQ, gfQ, ggQ, ghQ, giQ, gjQ, gkQ, glQ, gmQ, gnQ, goQ, gpQ, gqQ, grQ, gsQ, gtQ, guQ, gvQ, gwQ, gxQ, gyQ, gzQ, gAQ, gBQ, gCQ, gDQ, gEQ, gFQ, gGQ, gHQ, gIQ, gJQ, gKQ, gLQ, gMQ, gNQ, gOQ, gPQ, gQQ, gRQ, gSQ, gTQ, gUQ, gVQ, gWQ, gXQ, gYQ, gZQ, haQ, hbQ, hcQ, hdQ, heQ, hfQ, hgQ, hhQ, hiQ, hjQ, hkQ, hlQ, hmQ, hnQ, hoQ, hpQ, hqQ, hrQ, hsQ, htQ, huQ, hvQ, hwQ, hxQ, hyQ, hzQ, hAQ, hBQ, hCQ, hDQ, hEQ, hFQ, hGQ, hHQ, hIQ, hJQ, hKQ, hLQ, hMQ, hNQ, hOQ, hPQ, hQQ, hRQ, hSQ, hTQ, hUQ, hVQ, hWQ, hXQ, hYQ, hZQ, iaQ, euQ, etQ, exQ, ibQ, icQ, T.t, T.l, blQ, k, Bool.not_true, Bool.not_false, Bool.false_eq_true, if_false, if_true, c, gAll_map, hb]⟩
theorem parts_ints {ps : List (List Int)} (T : Tp d (ps.map fun p => D.tup (p.map .int))) (h1 : 1 ≤ ps.length) (h2 : ps.length ≤ 20) (hl : ∀ p ∈ ps, p.length ≤ 20) (L : Sto) : m_are_parts [d] L = .ok (.bl (ps.all plB && (!decide (srtI ps.flatten = []) && decide (srtI ps.flatten = (List.range ps.flatten.length).map fun (i : Nat) => (i : Int))))) L := by
  have c : C1_are_parts [some d, none, none, none] L = .ok (.lst (ps.map fun p => D.bl (plB p))) L := by
    refine lc_map (box := false) ps (fun p => D.tup (p.map .int)) _ (src := []) (L1 := L) ?_ srcOk_nil (by omega) fun p hp' => ?_
    · simp only [aaQ, abQ, acQ, adQ, aeQ, afQ, agQ, ahQ, aiQ, ajQ, akQ, alQ, amQ, anQ, aoQ, apQ, aqQ, arQ, asQ, atQ, auQ, avQ, awQ, axQ, ayQ, azQ, aAQ, aBQ, aCQ, aDQ, aEQ, aFQ, aGQ, aHQ, aIQ, aJQ, aKQ, aLQ, aMQ, aNQ, aOQ, aPQ, aQQ, aRQ, aSQ, aTQ, aUQ, aVQ, aWQ, aXQ, aYQ, aZQ, baQ, bbQ, bcQ, bdQ, beQ, bfQ, bgQ, bhQ, biQ, bjQ, bkQ, blQ, bmQ, bnQ, boQ, bpQ, bqQ, brQ, bsQ, btQ, buQ, bvQ, bwQ, bxQ, byQ, bzQ, bAQ, bBQ, bCQ, bDQ, bEQ, bFQ, bGQ, bHQ, bIQ, bJQ, bKQ, bLQ, bMQ, bNQ, bOQ, bPQ, bQQ, bRQ, bSQ, bTQ, bUQ, bVQ, bWQ, bXQ, bYQ, bZQ, caQ, cbQ, ccQ, cdQ, ceQ, cfQ, cgQ, chQ, ciQ, cjQ, ckQ, clQ, cmQ, cnQ, coQ, cpQ, cqQ, crQ, csQ, ctQ, cuQ, cvQ, cwQ, cxQ, cyQ, czQ, cAQ, cBQ, cCQ, cDQ, cEQ, cFQ, cGQ, cHQ, cIQ, cJQ, cKQ, cLQ, cMQ, cNQ, cOQ, cPQ, cQQ, cRQ, cSQ, cTQ, cUQ, cVQ, cWQ, cXQ, cYQ, cZQ, daQ, dbQ, dcQ, ddQ, deQ, dfQ, dgQ, dhQ, diQ, djQ, dkQ, dlQ, dmQ, dnQ, doQ, dpQ, dqQ, drQ, dsQ, dtQ, duQ, dvQ, dwQ, dxQ, dyQ, dzQ, dAQ, dBQ, dCQ, dDQ, dEQ, dFQ, dGQ, dHQ, dIQ, dJQ, dKQ, dLQ, dMQ, dNQ, dOQ, dPQ, dQQ, dRQ, dSQ, dTQ, dUQ, dVQ, dWQ, dXQ, dYQ, dZQ, eaQ, ebQ, ecQ, edQ, eeQ, efQ, egQ, ehQ, eiQ, ejQ, ekQ, elQ, emQ, enQ, eoQ, epQ, eqQ, erQ, esQ, etQ, euQ, evQ, ewQ, exQ, eyQ, ezQ, eAQ, eBQ, eCQ, eDQ, eEQ, eFQ, eGQ, eHQ, eIQ, eJQ, eKQ, eLQ, eMQ, eNQ, eOQ, ePQ, eQQ, eRQ, eSQ, eTQ, eUQ, eVQ, eWQ, eXQ, eYQ, eZQ, faQ, fbQ, fcQ, fdQ, feQ, ffQ, fgQ, fhQ, fiQ, fjQ, fkQ, flQ, fmQ, fnQ, foQ, fpQ, fqQ, frQ, fsQ, ftQ, fuQ, fvQ, fwQ, fxQ, fyQ, fzQ, fAQ, fBQ, fCQ, fDQ, fEQ, fFQ, fGQ, fHQ, fIQ, fJQ, fKQ, fLQ, fMQ, fNQ, fOQ, fPQ, fQQ, fRQ, fSQ, fTQ, fUQ, fVQ, fWQ, fXQ, fYQ, fZQ, gaQ, gbQ, gcQ, gdQ, geQ, gfQ, ggQ, ghQ, giQ, gjQ, gkQ, glQ, gmQ, gnQ, goQ, gpQ, gqQ, grQ, gsQ, gtQ, guQ, gvQ, gwQ, gxQ, gyQ, gzQ, gAQ, gBQ, gCQ, gDQ, gEQ, gFQ, gGQ, gHQ, gIQ, gJQ, gKQ, gLQ, gMQ, gNQ, gOQ, gPQ, gQQ, gRQ, gSQ, gTQ, gUQ, gVQ, gWQ, gXQ, gYQ, gZQ, haQ, hbQ, hcQ, hdQ, heQ, hfQ, hgQ, hhQ, hiQ, hjQ, hkQ, hlQ, hmQ, hnQ, hoQ, hpQ, hqQ, hrQ, hsQ, htQ, huQ, hvQ, hwQ, hxQ, hyQ, hzQ, hAQ, hBQ, hCQ, hDQ, hEQ, hFQ, hGQ, hHQ, hIQ, hJQ, hKQ, hLQ, hMQ, hNQ, hOQ, hPQ, hQQ, hRQ, hSQ, hTQ, hUQ, hVQ, hWQ, hXQ, hYQ, hZQ, iaQ, euQ, etQ, exQ, ibQ, icQ, T.s]
    · simp only [aaQ, abQ, acQ, adQ, aeQ, afQ, agQ, ahQ, aiQ, ajQ, akQ, alQ, amQ, anQ, aoQ, apQ, aqQ, arQ, asQ, atQ, auQ, avQ, awQ, axQ, ayQ, azQ, aAQ, aBQ, aCQ, aDQ, aEQ, aFQ, aGQ, aHQ, aIQ, aJQ, aKQ, aLQ, aMQ, aNQ, aOQ, aPQ, aQQ, aRQ, aSQ, aTQ, aUQ, aVQ, aWQ, aXQ, aYQ, aZQ, baQ, bbQ, bcQ, bdQ, beQ, bfQ, bgQ, bhQ, biQ, bjQ, bkQ, blQ, bmQ, bnQ, boQ, bpQ, bqQ, brQ, bsQ, btQ, buQ, bvQ, bwQ, bxQ, byQ, bzQ, bAQ, bBQ, bCQ, bDQ, bEQ, bFQ, bGQ, bHQ, bIQ, bJQ, bKQ, bLQ, bMQ, bNQ, bOQ, bPQ, bQQ, bRQ, bSQ, bTQ, bUQ, bVQ, bWQ, bXQ, bYQ, bZQ, caQ, cbQ, ccQ, cdQ, ceQ, cfQ, cgQ, chQ, ciQ, cjQ, ckQ, clQ, cmQ, cnQ, coQ, cpQ, cqQ, crQ, csQ, ctQ, cuQ, cvQ, cwQ, cxQ, cyQ, czQ, cAQ, cBQ, cCQ, cDQ, cEQ, cFQ, cGQ, cHQ, cIQ, cJQ, cKQ, cLQ, cMQ, cNQ, cOQ, cPQ, cQQ, cRQ, cSQ, cTQ, cUQ, cVQ, cWQ, cXQ, cYQ, cZQ, daQ, dbQ, dcQ, ddQ, deQ, dfQ, dgQ, dhQ, diQ, djQ, dkQ, dlQ, dmQ, dnQ, doQ, dpQ, dqQ, drQ, dsQ, dtQ, duQ, dvQ, dwQ, dxQ, dyQ, dzQ, dAQ, dBQ, dCQ, dDQ, dEQ, dFQ, dGQ, dHQ, dIQ, dJQ, dKQ, dLQ, dMQ, dNQ, dOQ, dPQ, dQQ, dRQ, dSQ, dTQ, dUQ, dVQ, dWQ, dXQ, dYQ, dZQ, eaQ, ebQ, ecQ, edQ, eeQ, efQ, egQ, ehQ, eiQ, ejQ, ekQ, elQ, emQ, enQ, eoQ, epQ, eqQ, erQ, esQ, etQ, euQ, evQ, ewQ, exQ, eyQ, ezQ, eAQ, eBQ, eCQ, eDQ, eEQ, eFQ, eGQ, eHQ, eIQ, eJQ, eKQ, eLQ, eMQ, eNQ, eOQ, ePQ, eQQ, eRQ, eSQ, eTQ, eUQ, eVQ, eWQ, eXQ, eYQ, eZQ, faQ, fbQ, fcQ, fdQ, feQ, ffQ, fgQ, fhQ, fiQ, fjQ, fkQ, flQ, fmQ, fnQ, foQ, fpQ, fqQ, frQ, fsQ, ftQ, fuQ, fvQ, fwQ, fxQ, fyQ, fzQ, fAQ, fBQ, fCQ, fDQ, fEQ, fFQ, fGQ, fHQ, fIQ, fJQ, fKQ, fLQ, fMQ, fNQ, fOQ, fPQ, fQQ, fRQ, fSQ, fTQ, fUQ, fVQ, fWQ, fXQ, fYQ, fZQ, gaQ, gbQ, gcQ, gdQ, geQ, gfQ, ggQ, ghQ, giQ, gjQ, gkQ, glQ, gmQ, gnQ, goQ, gpQ, gqQ, grQ, gsQ, gtQ, guQ, gvQ, gwQ, gxQ, gyQ, gzQ, gAQ, gBQ, gCQ, gDQ, gEQ, gFQ, gGQ, gHQ, gIQ, gJQ, gKQ, gLQ, gMQ, gNQ, gOQ, gPQ, gQQ, gRQ, gSQ, gTQ, gUQ, gVQ, gWQ, gXQ, gYQ, gZQ, haQ, hbQ, hcQ, hdQ, heQ, hfQ, hgQ, hhQ, hiQ, hjQ, hkQ, hlQ, hmQ, hnQ, hoQ, hpQ, hqQ, hrQ, hsQ, htQ, huQ, hvQ, hwQ, hxQ, hyQ, hzQ, hAQ, hBQ, hCQ, hDQ, hEQ, hFQ, hGQ, hHQ, hIQ, hJQ, hKQ, hLQ, hMQ, hNQ, hOQ, hPQ, hQQ, hRQ, hSQ, hTQ, hUQ, hVQ, hWQ, hXQ, hYQ, hZQ, iaQ, euQ, etQ, exQ, ibQ, icQ, plac_tup (show p.length ≤ 1000 by have := hl p hp'; omega)]
  have fl : ps.flatten.length ≤ 400 := by
    rw [List.length_flatten]
    have : ∀ (qs : List (List Int)), (∀ p ∈ qs, p.length ≤ 20) → (qs.map List.length).sum ≤ 20 * qs.length := by
      intro qs
      induction qs with
      | nil => intro _; simp
      | cons q qs ih =>
        intro hq
        have a := hq q (List.mem_cons_self)
        have b := ih fun p hp => hq p (List.mem_cons_of_mem _ hp)
        rw [List.map_cons, List.sum_cons, List.length_cons]
        omega
    have := this ps hl
    omega
  have c2 : C2_are_parts [some d, none, none, none] L = .ok (.lst (ps.flatten.map .int)) L := by
    have e : (ps.flatMap fun p => p.map D.int) = ps.flatten.map D.int := by
      rw [List.map_flatten, List.flatMap_def]
    rw [← e]
    refine lc2 ps (fun p => D.tup (p.map .int)) id (fun _ x => D.int x) (fun _ x => D.int x) ?_ ?_ fun p hp' => ⟨_, rfl, ?_, fun x hx => ?_⟩
    · simp only [aaQ, abQ, acQ, adQ, aeQ, afQ, agQ, ahQ, aiQ, ajQ, akQ, alQ, amQ, anQ, aoQ, apQ, aqQ, arQ, asQ, atQ, auQ, avQ, awQ, axQ, ayQ, azQ, aAQ, aBQ, aCQ, aDQ, aEQ, aFQ, aGQ, aHQ, aIQ, aJQ, aKQ, aLQ, aMQ, aNQ, aOQ, aPQ, aQQ, aRQ, aSQ, aTQ, aUQ, aVQ, aWQ, aXQ, aYQ, aZQ, baQ, bbQ, bcQ, bdQ, beQ, bfQ, bgQ, bhQ, biQ, bjQ, bkQ, blQ, bmQ, bnQ, boQ, bpQ, bqQ, brQ, bsQ, btQ, buQ, bvQ, bwQ, bxQ, byQ, bzQ, bAQ, bBQ, bCQ, bDQ, bEQ, bFQ, bGQ, bHQ, bIQ, bJQ, bKQ, bLQ, bMQ, bNQ, bOQ, bPQ, bQQ, bRQ, bSQ, bTQ, bUQ, bVQ, bWQ, bXQ, bYQ, bZQ, caQ, cbQ, ccQ, cdQ, ceQ, cfQ, cgQ, chQ, ciQ, cjQ, ckQ, clQ, cmQ, cnQ, coQ, cpQ, cqQ, crQ, csQ, ctQ, cuQ, cvQ, cwQ, cxQ, cyQ, czQ, cAQ, cBQ, cCQ, cDQ, cEQ, cFQ, cGQ, cHQ, cIQ, cJQ, cKQ, cLQ, cMQ, cNQ, cOQ, cPQ, cQQ, cRQ, cSQ, cTQ, cUQ, cVQ, cWQ, cXQ, cYQ, cZQ, daQ, dbQ, dcQ, ddQ, deQ, dfQ, dgQ, dhQ, diQ, djQ, dkQ, dlQ, dmQ, dnQ, doQ, dpQ, dqQ, drQ, dsQ, dtQ, duQ, dvQ, dwQ, dxQ, dyQ, dzQ, dAQ, dBQ, dCQ, dDQ, dEQ, dFQ, dGQ, dHQ, dIQ, dJQ, dKQ, dLQ, dMQ, dNQ, dOQ, dPQ, dQQ, dRQ, dSQ, dTQ, dUQ, dVQ, dWQ, dXQ, dYQ, dZQ, eaQ, ebQ, ecQ, edQ, eeQ, efQ, egQ, ehQ, eiQ, ejQ, ekQ, elQ, emQ, enQ, eoQ, epQ, eqQ, erQ, esQ, etQ, euQ, evQ, ewQ, exQ, eyQ, ezQ, eAQ, eBQ, eCQ, eDQ, eEQ, eFQ, eGQ, eHQ, eIQ, eJQ, eKQ, eLQ, eMQ, eNQ, eOQ, ePQ, eQQ, eRQ, eSQ, eTQ, eUQ, eVQ, eWQ, eXQ, eYQ, eZQ, faQ, fbQ, fcQ, fdQ, feQ, ffQ, fgQ, fhQ, fiQ, fjQ, fkQ, flQ, fmQ, fnQ, foQ, fpQ, fqQ, frQ, fsQ, ftQ, fuQ, fvQ, fwQ, fxQ, fyQ, fzQ, fAQ, fBQ, fCQ, fDQ, fEQ, fFQ, fGQ, fHQ, fIQ, fJQ, fKQ, fLQ, fMQ, fNQ, fOQ, fPQ, fQQ, fRQ, fSQ, fTQ, fUQ, fVQ, fWQ, fXQ, fYQ, fZQ, gaQ, gbQ, gcQ, gdQ, geQ, gfQ, ggQ, ghQ, giQ, gjQ, gkQ, glQ, gmQ, gnQ, goQ, gpQ, gqQ, grQ, gsQ, gtQ, guQ, gvQ, gwQ, gxQ, gyQ, gzQ, gAQ, gBQ, gCQ, gDQ, gEQ, gFQ, gGQ, gHQ, gIQ, gJQ, gKQ, gLQ, gMQ, gNQ, gOQ, gPQ, gQQ, gRQ, gSQ, gTQ, gUQ, gVQ, gWQ, gXQ, gYQ, gZQ, haQ, hbQ, hcQ, hdQ, heQ, hfQ, hgQ, hhQ, hiQ, hjQ, hkQ, hlQ, hmQ, hnQ, hoQ, hpQ, hqQ, hrQ, hsQ, htQ, huQ, hvQ, hwQ, hxQ, hyQ, hzQ, hAQ, hBQ, hCQ, hDQ, hEQ, hFQ, hGQ, hHQ, hIQ, hJQ, hKQ, hLQ, hMQ, hNQ, hOQ, hPQ, hQQ, hRQ, hSQ, hTQ, hUQ, hVQ, hWQ, hXQ, hYQ, hZQ, iaQ, euQ, etQ, exQ, ibQ, icQ, T.s]
    · rw [List.flatMap_def, List.map_id]; omega
    · simp only [aaQ, abQ, acQ, adQ, aeQ, afQ, agQ, ahQ, aiQ, ajQ, akQ, alQ, amQ, anQ, aoQ, apQ, aqQ, arQ, asQ, atQ, auQ, avQ, awQ, axQ, ayQ, azQ, aAQ, aBQ, aCQ, aDQ, aEQ, aFQ, aGQ, aHQ, aIQ, aJQ, aKQ, aLQ, aMQ, aNQ, aOQ, aPQ, aQQ, aRQ, aSQ, aTQ, aUQ, aVQ, aWQ, aXQ, aYQ, aZQ, baQ, bbQ, bcQ, bdQ, beQ, bfQ, bgQ, bhQ, biQ, bjQ, bkQ, blQ, bmQ, bnQ, boQ, bpQ, bqQ, brQ, bsQ, btQ, buQ, bvQ, bwQ, bxQ, byQ, bzQ, bAQ, bBQ, bCQ, bDQ, bEQ, bFQ, bGQ, bHQ, bIQ, bJQ, bKQ, bLQ, bMQ, bNQ, bOQ, bPQ, bQQ, bRQ, bSQ, bTQ, bUQ, bVQ, bWQ, bXQ, bYQ, bZQ, caQ, cbQ, ccQ, cdQ, ceQ, cfQ, cgQ, chQ, ciQ, cjQ, ckQ, clQ, cmQ, cnQ, coQ, cpQ, cqQ, crQ, csQ, ctQ, cuQ, cvQ, cwQ, cxQ, cyQ, czQ, cAQ, cBQ, cCQ, cDQ, cEQ, cFQ, cGQ, cHQ, cIQ, cJQ, cKQ, cLQ, cMQ, cNQ, cOQ, cPQ, cQQ, cRQ, cSQ, cTQ, cUQ, cVQ, cWQ, cXQ, cYQ, cZQ, daQ, dbQ, dcQ, ddQ, deQ, dfQ, dgQ, dhQ, diQ, djQ, dkQ, dlQ, dmQ, dnQ, doQ, dpQ, dqQ, drQ, dsQ, dtQ, duQ, dvQ, dwQ, dxQ, dyQ, dzQ, dAQ, dBQ, dCQ, dDQ, dEQ, dFQ, dGQ, dHQ, dIQ, dJQ, dKQ, dLQ, dMQ, dNQ, dOQ, dPQ, dQQ, dRQ, dSQ, dTQ, dUQ, dVQ, dWQ, dXQ, dYQ, dZQ, eaQ, ebQ, ecQ, edQ, eeQ, efQ, egQ, ehQ, eiQ, ejQ, ekQ, elQ, emQ, enQ, eoQ, epQ, eqQ, erQ, esQ, etQ, euQ, evQ, ewQ, exQ, eyQ, ezQ, eAQ, eBQ, eCQ, eDQ, eEQ, eFQ, eGQ, eHQ, eIQ, eJQ, eKQ, eLQ, eMQ, eNQ, eOQ, ePQ, eQQ, eRQ, eSQ, eTQ, eUQ, eVQ, eWQ, eXQ, eYQ, eZQ, faQ, fbQ, fcQ, fdQ, feQ, ffQ, fgQ, fhQ, fiQ, fjQ, fkQ, flQ, fmQ, fnQ, foQ, fpQ, fqQ, frQ, fsQ, ftQ, fuQ, fvQ, fwQ, fxQ, fyQ, fzQ, fAQ, fBQ, fCQ, fDQ, fEQ, fFQ, fGQ, fHQ, fIQ, fJQ, fKQ, fLQ, fMQ, fNQ, fOQ, fPQ, fQQ, fRQ, fSQ, fTQ, fUQ, fVQ, fWQ, fXQ, fYQ, fZQ, gaQ, gbQ, gcQ, gdQ, geQ, gfQ, ggQ, ghQ, giQ, gjQ, gkQ, glQ, gmQ, gnQ, goQ, gpQ, gqQ, grQ, gsQ, gtQ, guQ, gvQ, gwQ, gxQ, gyQ, gzQ, gAQ, gBQ, gCQ, gDQ, gEQ, gFQ, gGQ, gHQ, gIQ, gJQ, gKQ, gLQ, gMQ, gNQ, gOQ, gPQ, gQQ, gRQ, gSQ, gTQ, gUQ, gVQ, gWQ, gXQ, gYQ, gZQ, haQ, hbQ, hcQ, hdQ, heQ, hfQ, hgQ, hhQ, hiQ, hjQ, hkQ, hlQ, hmQ, hnQ, hoQ, hpQ, hqQ, hrQ, hsQ, htQ, huQ, hvQ, hwQ, hxQ, hyQ, hzQ, hAQ, hBQ, hCQ, hDQ, hEQ, hFQ, hGQ, hHQ, hIQ, hJQ, hKQ, hLQ, hMQ, hNQ, hOQ, hPQ, hQQ, hRQ, hSQ, hTQ, hUQ, hVQ, hWQ, hXQ, hYQ, hZQ, iaQ, euQ, etQ, exQ, ibQ, icQ, id]
    · simp only [aaQ, abQ, acQ, adQ, aeQ, afQ, agQ, ahQ, aiQ, ajQ, akQ, alQ, amQ, anQ, aoQ, apQ, aqQ, arQ, asQ, atQ, auQ, avQ, awQ, axQ, ayQ, azQ, aAQ, aBQ, aCQ, aDQ, aEQ, aFQ, aGQ, aHQ, aIQ, aJQ, aKQ, aLQ, aMQ, aNQ, aOQ, aPQ, aQQ, aRQ, aSQ, aTQ, aUQ, aVQ, aWQ, aXQ, aYQ, aZQ, baQ, bbQ, bcQ, bdQ, beQ, bfQ, bgQ, bhQ, biQ, bjQ, bkQ, blQ, bmQ, bnQ, boQ, bpQ, bqQ, brQ, bsQ, btQ, buQ, bvQ, bwQ, bxQ, byQ, bzQ, bAQ, bBQ, bCQ, bDQ, bEQ, bFQ, bGQ, bHQ, bIQ, bJQ, bKQ, bLQ, bMQ, bNQ, bOQ, bPQ, bQQ, bRQ, bSQ, bTQ, bUQ, bVQ, bWQ, bXQ, bYQ, bZQ, caQ, cbQ, ccQ, cdQ, ceQ, cfQ, cgQ, chQ, ciQ, cjQ, ckQ, clQ, cmQ, cnQ, coQ, cpQ, cqQ, crQ, csQ, ctQ, cuQ, cvQ, cwQ, cxQ, cyQ, czQ, cAQ, cBQ, cCQ, cDQ, cEQ, cFQ, cGQ, cHQ, cIQ, cJQ, cKQ, cLQ, cMQ, cNQ, cOQ, cPQ, cQQ, cRQ, cSQ, cTQ, cUQ, cVQ, cWQ, cXQ, cYQ, cZQ, daQ, dbQ, dcQ, ddQ, deQ, dfQ, dgQ, dhQ, diQ, djQ, dkQ, dlQ, dmQ, dnQ, doQ, dpQ, dqQ, drQ, dsQ, dtQ, duQ, dvQ, dwQ, dxQ, dyQ, dzQ, dAQ, dBQ, dCQ, dDQ, dEQ, dFQ, dGQ, dHQ, dIQ, dJQ, dKQ, dLQ, dMQ, dNQ, dOQ, dPQ, dQQ, dRQ, dSQ, dTQ, dUQ, dVQ, dWQ, dXQ, dYQ, dZQ, eaQ, ebQ, ecQ, edQ, eeQ, efQ, egQ, ehQ, eiQ, ejQ, ekQ, elQ, emQ, enQ, eoQ, epQ, eqQ, erQ, esQ, etQ, euQ, evQ, ewQ, exQ, eyQ, ezQ, eAQ, eBQ, eCQ, eDQ, eEQ, eFQ, eGQ, eHQ, eIQ, eJQ, eKQ, eLQ, eMQ, eNQ, eOQ, ePQ, eQQ, eRQ, eSQ, eTQ, eUQ, eVQ, eWQ, eXQ, eYQ, eZQ, faQ, fbQ, fcQ, fdQ, feQ, ffQ, fgQ, fhQ, fiQ, fjQ, fkQ, flQ, fmQ, fnQ, foQ, fpQ, fqQ, frQ, fsQ, ftQ, fuQ, fvQ, fwQ, fxQ, fyQ, fzQ, fAQ, fBQ, fCQ, fDQ, fEQ, fFQ, fGQ, fHQ, fIQ, fJQ, fKQ, fLQ, fMQ, fNQ, fOQ, fPQ, fQQ, fRQ, fSQ, fTQ, fUQ, fVQ, fWQ, fXQ, fYQ, fZQ, gaQ, gbQ, gcQ, gdQ, geQ, gfQ, ggQ, ghQ, giQ, gjQ, gkQ, glQ, gmQ, gnQ, goQ, gpQ, gqQ, grQ, gsQ, gtQ, guQ, gvQ, gwQ, gxQ, gyQ, gzQ, gAQ, gBQ, gCQ, gDQ, gEQ, gFQ, gGQ, gHQ, gIQ, gJQ, gKQ, gLQ, gMQ, gNQ, gOQ, gPQ, gQQ, gRQ, gSQ, gTQ, gUQ, gVQ, gWQ, gXQ, gYQ, gZQ, haQ, hbQ, hcQ, hdQ, heQ, hfQ, hgQ, hhQ, hiQ, hjQ, hkQ, hlQ, hmQ, hnQ, hoQ, hpQ, hqQ, hrQ, hsQ, htQ, huQ, hvQ, hwQ, hxQ, hyQ, hzQ, hAQ, hBQ, hCQ, hDQ, hEQ, hFQ, hGQ, hHQ, hIQ, hJQ, hKQ, hLQ, hMQ, hNQ, hOQ, hPQ, hQQ, hRQ, hSQ, hTQ, hUQ, hVQ, hWQ, hXQ, hYQ, hZQ, iaQ, euQ, etQ, exQ, ibQ, icQ]
  have so : gSort false [.lst (ps.flatten.map .int)] L = .ok (.lst ((srtI ps.flatten).map .int)) L := gSort_lst
  have q1 : (decide ((1 : Int) ≤ (ps.length : Nat)) && decide (((ps.length : Nat) : Int) ≤ 20)) = true := by
    rw [decide_eq_true (by omega), decide_eq_true (by omega)]; rfl
  have ne0 : gNe (.lst ((srtI ps.flatten).map .int)) (.lst []) L = .ok (.bl (!decide (srtI ps.flatten = []))) L := by
    rw [gNe_ev (by rw [seen_lst]; exact okLst _) (by rw [seen_lst]; exact ok_nil), seen_lst, seen_lst, eqD, eqDL_nil]
    have : ((srtI ps.flatten).map D.int).isEmpty = decide (srtI ps.flatten = []) := by
      cases srtI ps.flatten <;> simp
    rw [this]
  have sl : (srtI ps.flatten).length = ps.flatten.length := (srtI_perm _).length_eq
  have eq0 : gEq (.lst ((srtI ps.flatten).map .int)) (.lst ((List.range ps.flatten.length).map natD)) L = .ok (.bl (decide (srtI ps.flatten = (List.range ps.flatten.length).map fun (i : Nat) => (i : Int)))) L := by
    have e : (List.range ps.flatten.length).map natD = ((List.range ps.flatten.length).map fun (i : Nat) => (i : Int)).map .int := by rw [List.map_map]; rfl
    rw [e, gEq_ev (by rw [seen_lst]; exact okLst _) (by rw [seen_lst]; exact okLst _), seen_lst, seen_lst, eqD, eqDL_ints']
  have lr : ∀ k : List D → Sto → Res D, krg1 k (.ok (.int (((srtI ps.flatten).map D.int).length : Nat)) L) = k ((List.range ps.flatten.length).map natD) L := fun k => by
    rw [List.length_map, sl, gRQ (by omega)]
  have lr' : ∀ k : List D → Sto → Res D, krg1 k (.ok (.int ((srtI ps.flatten).length : Nat)) L) = k ((List.range ps.flatten.length).map natD) L := fun k => by
    rw [sl, gRQ (by omega)]
  cases hp : ps.all plB with
  | false => simp only [u_are_parts, F_are_parts, aaQ, abQ, acQ, adQ, aeQ, afQ, agQ, ahQ, aiQ, ajQ, akQ, alQ, amQ, anQ, aoQ, apQ, aqQ, arQ, asQ, atQ, auQ, avQ, awQ, axQ, ayQ, azQ, aAQ, aBQ, aCQ, aDQ, aEQ, aFQ, aGQ, aHQ, aIQ, aJQ, aKQ, aLQ, aMQ, aNQ, aOQ, aPQ, aQQ, aRQ, aSQ, aTQ, aUQ, aVQ, aWQ, aXQ, aYQ, aZQ, baQ, bbQ, bcQ, bdQ, beQ, bfQ, bgQ, bhQ, biQ, bjQ, bkQ, blQ, bmQ, bnQ, boQ, bpQ, bqQ, brQ, bsQ, btQ, buQ, bvQ, bwQ, bxQ, byQ, bzQ, bAQ, bBQ, bCQ, bDQ, bEQ, bFQ, bGQ, bHQ, bIQ, bJQ, bKQ, bLQ, bMQ, bNQ, bOQ, bPQ, bQQ, bRQ, bSQ, bTQ, bUQ, bVQ, bWQ, bXQ, bYQ, bZQ, caQ, cbQ, ccQ, cdQ, ceQ, cfQ, cgQ, chQ, ciQ, cjQ, ckQ, clQ, cmQ, cnQ, coQ, cpQ, cqQ, crQ, csQ, ctQ, cuQ, cvQ, cwQ, cxQ, cyQ, czQ, cAQ, cBQ, cCQ, cDQ, cEQ, cFQ, cGQ, cHQ, cIQ, cJQ, cKQ, cLQ, cMQ, cNQ, cOQ, cPQ, cQQ, cRQ, cSQ, cTQ, cUQ, cVQ, cWQ, cXQ, cYQ, cZQ, daQ, dbQ, dcQ, ddQ, deQ, dfQ, dgQ, dhQ, diQ, djQ, dkQ, dlQ, dmQ, dnQ, doQ, dpQ, dqQ, drQ, dsQ, dtQ, duQ, dvQ, dwQ, dxQ, dyQ, dzQ, dAQ, dBQ, dCQ, dDQ, dEQ, dFQ, dGQ, dHQ, dIQ, dJQ, dKQ, dLQ, dMQ, dNQ, dOQ, dPQ, dQQ, dRQ, dSQ, dTQ, dUQ, dVQ, dWQ, dXQ, dYQ, dZQ, eaQ, ebQ, ecQ, edQ, eeQ, efQ, egQ, ehQ, eiQ, ejQ, ekQ, elQ, emQ, enQ, eoQ, epQ, eqQ, erQ, esQ, etQ, euQ, evQ, ewQ, exQ, eyQ, ezQ, eAQ, eBQ, eCQ, eDQ, eEQ, eFQ, eGQ, eHQ, eIQ, eJQ, eKQ, eLQ, eMQ, eNQ, eOQ, ePQ, eQQ, eRQ, eSQ, eTQ, eUQ, eVQ, eWQ, eXQ, eYQ, eZQ, faQ, fbQ, fcQ, fdQ, feQ, ffQ, fgQ, fhQ, fiQ, fjQ, fkQ, flQ, fmQ, fnQ, foQ, fpQ, fqQ, frQ, fsQ, ftQ, fuQ, fvQ, fwQ, fxQ, fyQ, fzQ, fAQ, fBQ, fCQ, fDQ, fEQ, fFQ, fGQ, fHQ, fIQ, fJQ, fKQ, fLQ, fMQ, fNQ, fOQ, fPQ, fQQ, fRQ, fSQ, fTQ, fUQ, fVQ, fWQ, fXQ, fYQ, fZQ, gaQ, gbQ, gcQ, gdQ, geQ, gfQ, ggQ, ghQ, giQ, gjQ, gkQ, glQ, gmQ, gnQ, goQ, gpQ, gqQ, grQ, gsQ, gtQ, guQ, gvQ, gwQ, gxQ, gyQ, gzQ, gAQ, gBQ, gCQ, gDQ, gEQ, gFQ, gGQ, gHQ, gIQ, gJQ, gKQ, gLQ, gMQ, gNQ, gOQ, gPQ, gQQ, gRQ, gSQ, gTQ, gUQ, gVQ, gWQ, gXQ, gYQ, gZQ, haQ, hbQ, hcQ, hdQ, heQ, hfQ, hgQ, hhQ, hiQ, hjQ, hkQ, hlQ, hmQ, hnQ, hoQ, hpQ, hqQ, hrQ, hsQ, htQ, huQ, hvQ, hwQ, hxQ, hyQ, hzQ, hAQ, hBQ, hCQ, hDQ, hEQ, hFQ, hGQ, hHQ, hIQ, hJQ, hKQ, hLQ, hMQ, hNQ, hOQ, hPQ, hQQ, hRQ, hSQ, hTQ, hUQ, hVQ, hWQ, hXQ, hYQ, hZQ, iaQ, euQ, etQ, exQ, ibQ, icQ, T.t, T.l, List.length_map, blQ, q1, Bool.not_true, Bool.not_false, Bool.false_eq_true, if_true, if_false, c, gAll_map, hp, Bool.false_and]
  | true => simp only [u_are_parts, F_are_parts, aaQ, abQ, acQ, adQ, aeQ, afQ, agQ, ahQ, aiQ, ajQ, akQ, alQ, amQ, anQ, aoQ, apQ, aqQ, arQ, asQ, atQ, auQ, avQ, awQ, axQ, ayQ, azQ, aAQ, aBQ, aCQ, aDQ, aEQ, aFQ, aGQ, aHQ, aIQ, aJQ, aKQ, aLQ, aMQ, aNQ, aOQ, aPQ, aQQ, aRQ, aSQ, aTQ, aUQ, aVQ, aWQ, aXQ, aYQ, aZQ, baQ, bbQ, bcQ, bdQ, beQ, bfQ, bgQ, bhQ, biQ, bjQ, bkQ, blQ, bmQ, bnQ, boQ, bpQ, bqQ, brQ, bsQ, btQ, buQ, bvQ, bwQ, bxQ, byQ, bzQ, bAQ, bBQ, bCQ, bDQ, bEQ, bFQ, bGQ, bHQ, bIQ, bJQ, bKQ, bLQ, bMQ, bNQ, bOQ, bPQ, bQQ, bRQ, bSQ, bTQ, bUQ, bVQ, bWQ, bXQ, bYQ, bZQ, caQ, cbQ, ccQ, cdQ, ceQ, cfQ, cgQ, chQ, ciQ, cjQ, ckQ, clQ, cmQ, cnQ, coQ, cpQ, cqQ, crQ, csQ, ctQ, cuQ, cvQ, cwQ, cxQ, cyQ, czQ, cAQ, cBQ, cCQ, cDQ, cEQ, cFQ, cGQ, cHQ, cIQ, cJQ, cKQ, cLQ, cMQ, cNQ, cOQ, cPQ, cQQ, cRQ, cSQ, cTQ, cUQ, cVQ, cWQ, cXQ, cYQ, cZQ, daQ, dbQ, dcQ, ddQ, deQ, dfQ, dgQ, dhQ, diQ, djQ, dkQ, dlQ, dmQ, dnQ, doQ, dpQ, dqQ, drQ, dsQ, dtQ, duQ, dvQ, dwQ, dxQ, dyQ, dzQ, dAQ, dBQ, dCQ, dDQ, dEQ, dFQ, dGQ, dHQ, dIQ, dJQ, dKQ, dLQ, dMQ, dNQ, dOQ, dPQ, dQQ, dRQ, dSQ, dTQ, dUQ, dVQ, dWQ, dXQ, dYQ, dZQ, eaQ, ebQ, ecQ, edQ, eeQ, efQ, egQ, ehQ, eiQ, ejQ, ekQ, elQ, emQ, enQ, eoQ, epQ, eqQ, erQ, esQ, etQ, euQ, evQ, ewQ, exQ, eyQ, ezQ, eAQ, eBQ, eCQ, eDQ, eEQ, eFQ, eGQ, eHQ, eIQ, eJQ, eKQ, eLQ, eMQ, eNQ, eOQ, ePQ, eQQ, eRQ, eSQ, eTQ, eUQ, eVQ, eWQ, eXQ, eYQ, eZQ, faQ, fbQ, fcQ, fdQ, feQ, ffQ, fgQ, fhQ, fiQ, fjQ, fkQ, flQ, fmQ, fnQ, foQ, fpQ, fqQ, frQ, fsQ, ftQ, fuQ, fvQ, fwQ, fxQ, fyQ, fzQ, fAQ, fBQ, fCQ, fDQ, fEQ, fFQ, fGQ, fHQ, fIQ, fJQ, fKQ, fLQ, fMQ, fNQ, fOQ, fPQ, fQQ, fRQ, fSQ, fTQ, fUQ, fVQ, fWQ, fXQ, fYQ, fZQ, gaQ, gbQ, gcQ, gdQ, geQ, gfQ, ggQ, ghQ, giQ, gjQ, gkQ, glQ, gmQ, gnQ, goQ, gpQ, gqQ, grQ, gsQ, gtQ, guQ, gvQ, gwQ, gxQ, gyQ, gzQ, gAQ, gBQ, gCQ, gDQ, gEQ, gFQ, gGQ, gHQ, gIQ, gJQ, gKQ, gLQ, gMQ, gNQ, gOQ, gPQ, gQQ, gRQ, gSQ, gTQ, gUQ, gVQ, gWQ, gXQ, gYQ, gZQ, haQ, hbQ, hcQ, hdQ, heQ, hfQ, hgQ, hhQ, hiQ, hjQ, hkQ, hlQ, hmQ, hnQ, hoQ, hpQ, hqQ, hrQ, hsQ, htQ, huQ, hvQ, hwQ, hxQ, hyQ, hzQ, hAQ, hBQ, hCQ, hDQ, hEQ, hFQ, hGQ, hHQ, hIQ, hJQ, hKQ, hLQ, hMQ, hNQ, hOQ, hPQ, hQQ, hRQ, hSQ, hTQ, hUQ, hVQ, hWQ, hXQ, hYQ, hZQ, iaQ, euQ, etQ, exQ, ibQ, icQ, T.t, T.l, List.length_map, blQ, q1, Bool.not_true, Bool.false_eq_true, if_false, c, gAll_map, hp, c2, so, ne0, lr', eq0, Bool.true_and]
def oddF (fl : List Int) : Bool := fl.isEmpty || (List.range fl.length).any fun (i : Nat) => fl.count (i : Int) != 1
theorem oddF_srt {fl : List Int} (h : oddF fl = true) : (!decide (srtI fl = []) && decide (srtI fl = (List.range fl.length).map fun (i : Nat) => (i : Int))) = false := by
  unfold oddF at h
  rcases Bool.or_eq_true_iff.mp h with h | h
  · have e : fl = [] := List.isEmpty_iff.mp h
    have : srtI fl = [] := by
      have z := (srtI_perm fl).length_eq
      rw [e] at z ⊢
      exact List.eq_nil_of_length_eq_zero z
    rw [decide_eq_true this]
    rfl
  · obtain ⟨i, hi, hc⟩ := List.any_eq_true.mp h
    have ne : ¬ srtI fl = (List.range fl.length).map fun (i : Nat) => (i : Int) := fun e => by
      have p : ((List.range fl.length).map fun (i : Nat) => (i : Int)).Perm fl := e ▸ srtI_perm fl
      have c := p.count_eq (i : Int)
      have nd : ((List.range fl.length).map fun (i : Nat) => (i : Int)).Nodup := nodup_map_on (fun a _ b _ e => Int.ofNat.inj e) List.nodup_range
      have m : (i : Int) ∈ (List.range fl.length).map fun (i : Nat) => (i : Int) := List.mem_map.mpr ⟨i, hi, rfl⟩
      have c1 : ((List.range fl.length).map fun (i : Nat) => (i : Int)).count (i : Int) = 1 := by
        have h1 := List.nodup_iff_count.mp nd (i : Int)
        have h2 := List.count_pos_iff.mpr m
        omega
      rw [c1] at c
      rw [← c] at hc
      exact absurd hc (by decide)
    rw [decide_eq_false ne, Bool.and_false]
theorem nparts_ints (ps : List (List Int)) (h1 : 1 ≤ ps.length) (h2 : ps.length ≤ 20) (hl : ∀ p ∈ ps, p.length ≤ 20) (hn : (!ps.all plB || oddF ps.flatten) = true) : NotParts (.tup (ps.map fun p => .tup (p.map .int))) :=
  ⟨fun L => by
    rw [parts_ints (tp_tup _) h1 h2 hl]
    rcases Bool.or_eq_true_iff.mp hn with k | k
    · rw [Bool.not_eq_true'] at k
      rw [k, Bool.false_and]
    · rw [oddF_srt k, Bool.and_false]⟩
end
def noParts : List D := [.tup [.tup [.int 0], .tup [.int 0]], .tup [.tup [.int 1]], .tup [.tup [], .tup []], .tup [], .tup [.tup [.int 0, .int 2]], .tup [.tup [.int 1, .int 0]], .tup [.tup [.int 0], .int 1], .tup [.tup [.int 0], .lst [.int 1]], .lst [.tup [.int 0]], .non, .str "0",
  .tup [.tup [.int 0], .tup [.non]], .tup [.tup [.int 0, .int 0]], .tup [.tup [.int (-1), .int 0]], .tg ((List.range 21).map fun i => .tup [natD i]), .dK [(.inl 0, .int 0)], .tup [.tup [.int 0, .int 1], .tup [.int 1, .int 2]], .tup [.tup [.bl true]]]
theorem places_b {d : D} {xs : List D} (T : Tp d xs) (hl : xs.length ≤ 1000) (h : ∃ x ∈ xs, ∀ L, m_are_places [x, .int 20] L = .ok (.bl false) L) (hx : ∀ x ∈ xs, ∃ b : Bool, ∀ L, m_are_places [x, .int 20] L = .ok (.bl b) L) : NotParts d := by
  have key : ∃ b : D → Bool, ∀ x ∈ xs, ∀ L, m_are_places [x, .int 20] L = .ok (.bl (b x)) L := by
    refine Classical.byContradiction fun z => z ?_
    exact ⟨fun x => @dite _ (∃ b : Bool, ∀ L, m_are_places [x, .int 20] L = .ok (.bl b) L) (Classical.propDecidable _) (fun h => h.choose) fun _ => false, fun x m L => by
      have k := hx x m
      dsimp only
      rw [dif_pos k]
      exact k.choose_spec L⟩
  obtain ⟨b, hb⟩ := key
  refine nparts_one (b := b) T hb hl ?_
  obtain ⟨x, m, hx0⟩ := h
  rw [List.all_eq_false]
  refine ⟨x, m, ?_⟩
  have e := (hb x m []).symm.trans (hx0 [])
  intro z
  rw [z] at e
  cases e
theorem pl0 : ∀ L, m_are_places [.tup [.int 0], .int 20] L = .ok (.bl true) L := fun L => (plac_tup (p := [0]) (by decide)).trans (by rfl)
theorem noParts_no {d : D} (m : d ∈ noParts) : NotParts d := by
  unfold noParts at m
  simp only [List.mem_cons, List.not_mem_nil, or_false] at m
  rcases m with rfl | rfl | rfl | rfl | rfl | rfl | rfl | rfl | rfl | rfl | rfl | rfl | rfl | rfl | rfl | rfl | rfl | rfl
  · exact nparts_ints [[0], [0]] (by decide) (by decide) (by decide) (by decide)
  · exact nparts_ints [[1]] (by decide) (by decide) (by decide) (by decide)
  · exact nparts_ints [[], []] (by decide) (by decide) (by decide) (by decide)
  · exact nparts_len (tp_tup []) (by decide)
  · exact nparts_ints [[0, 2]] (by decide) (by decide) (by decide) (by decide)
  · exact nparts_ints [[1, 0]] (by decide) (by decide) (by decide) (by decide)
  · exact places_b (tp_tup _) (show 2 ≤ 1000 by decide) ⟨_, List.mem_cons_of_mem _ (List.mem_cons_self), fun L => plac_k fun _ => rfl⟩ fun x hx => by
      simp only [List.mem_cons, List.not_mem_nil, or_false] at hx
      rcases hx with rfl | rfl
      · exact ⟨true, pl0⟩
      · exact ⟨false, fun L => plac_k fun _ => rfl⟩
  · exact places_b (tp_tup _) (show 2 ≤ 1000 by decide) ⟨_, List.mem_cons_of_mem _ (List.mem_cons_self), fun L => plac_k fun _ => rfl⟩ fun x hx => by
      simp only [List.mem_cons, List.not_mem_nil, or_false] at hx
      rcases hx with rfl | rfl
      · exact ⟨true, pl0⟩
      · exact ⟨false, fun L => plac_k fun _ => rfl⟩
  · exact nparts_k fun _ => rfl
  · exact nparts_k fun _ => rfl
  · exact nparts_k fun _ => rfl
  · exact places_b (tp_tup _) (show 2 ≤ 1000 by decide) ⟨_, List.mem_cons_of_mem _ (List.mem_cons_self), fun L => plac_one (notInt_k (lo := 0) (hi := 19) (fun _ => rfl) (fun _ => rfl)).no⟩ fun x hx => by
      simp only [List.mem_cons, List.not_mem_nil, or_false] at hx
      rcases hx with rfl | rfl
      · exact ⟨true, pl0⟩
      · exact ⟨false, fun L => plac_one (notInt_k (lo := 0) (hi := 19) (fun _ => rfl) (fun _ => rfl)).no⟩
  · exact nparts_ints [[0, 0]] (by decide) (by decide) (by decide) (by decide)
  · exact nparts_ints [[-1, 0]] (by decide) (by decide) (by decide) (by decide)
  · exact nparts_len (tp_tg _) (by rw [List.length_map, List.length_range]; decide)
  · exact nparts_k fun _ => rfl
  · exact nparts_ints [[0, 1], [1, 2]] (by decide) (by decide) (by decide) (by decide)
  · exact places_b (tp_tup _) (show 1 ≤ 1000 by decide) ⟨_, List.mem_cons_self, fun L => plac_one (notInt_bl (lo := 0) (hi := 19) true).no⟩ fun x hx => by
      rw [List.mem_singleton] at hx
      subst hx
      exact ⟨false, fun L => plac_one (notInt_bl (lo := 0) (hi := 19) true).no⟩
theorem rowOf_no {d : D} (k : NotParts d) {L : Sto} : m_row_of [d] L = .err "InvalidOperation" [] L := by
  simp only [u_row_of, F_row_of, aaQ, abQ, acQ, adQ, aeQ, afQ, agQ, ahQ, aiQ, ajQ, akQ, alQ, amQ, anQ, aoQ, apQ, aqQ, arQ, asQ, atQ, auQ, avQ, awQ, axQ, ayQ, azQ, aAQ, aBQ, aCQ, aDQ, aEQ, aFQ, aGQ, aHQ, aIQ, aJQ, aKQ, aLQ, aMQ, aNQ, aOQ, aPQ, aQQ, aRQ, aSQ, aTQ, aUQ, aVQ, aWQ, aXQ, aYQ, aZQ, baQ, bbQ, bcQ, bdQ, beQ, bfQ, bgQ, bhQ, biQ, bjQ, bkQ, blQ, bmQ, bnQ, boQ, bpQ, bqQ, brQ, bsQ, btQ, buQ, bvQ, bwQ, bxQ, byQ, bzQ, bAQ, bBQ, bCQ, bDQ, bEQ, bFQ, bGQ, bHQ, bIQ, bJQ, bKQ, bLQ, bMQ, bNQ, bOQ, bPQ, bQQ, bRQ, bSQ, bTQ, bUQ, bVQ, bWQ, bXQ, bYQ, bZQ, caQ, cbQ, ccQ, cdQ, ceQ, cfQ, cgQ, chQ, ciQ, cjQ, ckQ, clQ, cmQ, cnQ, coQ, cpQ, cqQ, crQ, csQ, ctQ, cuQ, cvQ, cwQ, cxQ, cyQ, czQ, cAQ, cBQ, cCQ, cDQ, cEQ, cFQ, cGQ, cHQ, cIQ, cJQ, cKQ, cLQ, cMQ, cNQ, cOQ, cPQ, cQQ, cRQ, cSQ, cTQ, cUQ, cVQ, cWQ, cXQ, cYQ, cZQ, daQ, dbQ, dcQ, ddQ, deQ, dfQ, dgQ, dhQ, diQ, djQ, dkQ, dlQ, dmQ, dnQ, doQ, dpQ, dqQ, drQ, dsQ, dtQ, duQ, dvQ, dwQ, dxQ, dyQ, dzQ, dAQ, dBQ, dCQ, dDQ, dEQ, dFQ, dGQ, dHQ, dIQ, dJQ, dKQ, dLQ, dMQ, dNQ, dOQ, dPQ, dQQ, dRQ, dSQ, dTQ, dUQ, dVQ, dWQ, dXQ, dYQ, dZQ, eaQ, ebQ, ecQ, edQ, eeQ, efQ, egQ, ehQ, eiQ, ejQ, ekQ, elQ, emQ, enQ, eoQ, epQ, eqQ, erQ, esQ, etQ, euQ, evQ, ewQ, exQ, eyQ, ezQ, eAQ, eBQ, eCQ, eDQ, eEQ, eFQ, eGQ, eHQ, eIQ, eJQ, eKQ, eLQ, eMQ, eNQ, eOQ, ePQ, eQQ, eRQ, eSQ, eTQ, eUQ, eVQ, eWQ, eXQ, eYQ, eZQ, faQ, fbQ, fcQ, fdQ, feQ, ffQ, fgQ, fhQ, fiQ, fjQ, fkQ, flQ, fmQ, fnQ, foQ, fpQ, fqQ, frQ, fsQ, ftQ, fuQ, fvQ, fwQ, fxQ, fyQ, fzQ, fAQ, fBQ, fCQ, fDQ, fEQ, fFQ, fGQ, fHQ, fIQ, fJQ, fKQ, fLQ, fMQ, fNQ, fOQ, fPQ, fQQ, fRQ, fSQ, fTQ, fUQ, fVQ, fWQ, fXQ, fYQ, fZQ, gaQ, gbQ, gcQ, gdQ, geQ, gfQ, ggQ, ghQ, giQ, gjQ, gkQ, glQ, gmQ, gnQ, goQ, gpQ, gqQ, grQ, gsQ, gtQ, guQ, gvQ, gwQ, gxQ, gyQ, gzQ, gAQ, gBQ, gCQ, gDQ, gEQ, gFQ, gGQ, gHQ, gIQ, gJQ, gKQ, gLQ, gMQ, gNQ, gOQ, gPQ, gQQ, gRQ, gSQ, gTQ, gUQ, gVQ, gWQ, gXQ, gYQ, gZQ, haQ, hbQ, hcQ, hdQ, heQ, hfQ, hgQ, hhQ, hiQ, hjQ, hkQ, hlQ, hmQ, hnQ, hoQ, hpQ, hqQ, hrQ, hsQ, htQ, huQ, hvQ, hwQ, hxQ, hyQ, hzQ, hAQ, hBQ, hCQ, hDQ, hEQ, hFQ, hGQ, hHQ, hIQ, hJQ, hKQ, hLQ, hMQ, hNQ, hOQ, hPQ, hQQ, hRQ, hSQ, hTQ, hUQ, hVQ, hWQ, hXQ, hYQ, hZQ, iaQ, euQ, etQ, exQ, ibQ, icQ, k.no, Bool.not_false, if_true]
theorem parts_right {n : Nat} {L : Sto} (hd : Dc n L) : ∃ L', m_l_parts_right [.loc n] L = .ok (.bl true) L' ∧ Nxt n L L' ∧ Dc n L' := by
  obtain ⟨d, L1, m, q, x, d1⟩ := one_of (xs := noParts) hd (by show 1 ≤ 18; decide) (by show 18 ≤ 1000; decide)
  have no := noParts_no m
  have ro := fun L => rowOf_no (L := L) no
  have c : ∀ (x0 x1 x2 x3 : Option D) (L : Sto), C1_l_parts_right [x0, x1, x2, x3] L = .ok (.lst ((List.range 21).map fun i => .tup [natD i])) L := fun x0 x1 x2 x3 L => by
    have e := gwQ (k := 21) (L := L) (by omega) (by omega)
    refine lc_map (box := false) (List.range 21) natD _ (src := []) (L1 := L) ?_ srcOk_nil (by rw [List.length_range]; decide) fun i hi => ?_
    · simp only [aaQ, abQ, acQ, adQ, aeQ, afQ, agQ, ahQ, aiQ, ajQ, akQ, alQ, amQ, anQ, aoQ, apQ, aqQ, arQ, asQ, atQ, auQ, avQ, awQ, axQ, ayQ, azQ, aAQ, aBQ, aCQ, aDQ, aEQ, aFQ, aGQ, aHQ, aIQ, aJQ, aKQ, aLQ, aMQ, aNQ, aOQ, aPQ, aQQ, aRQ, aSQ, aTQ, aUQ, aVQ, aWQ, aXQ, aYQ, aZQ, baQ, bbQ, bcQ, bdQ, beQ, bfQ, bgQ, bhQ, biQ, bjQ, bkQ, blQ, bmQ, bnQ, boQ, bpQ, bqQ, brQ, bsQ, btQ, buQ, bvQ, bwQ, bxQ, byQ, bzQ, bAQ, bBQ, bCQ, bDQ, bEQ, bFQ, bGQ, bHQ, bIQ, bJQ, bKQ, bLQ, bMQ, bNQ, bOQ, bPQ, bQQ, bRQ, bSQ, bTQ, bUQ, bVQ, bWQ, bXQ, bYQ, bZQ, caQ, cbQ, ccQ, cdQ, ceQ, cfQ, cgQ, chQ, ciQ, cjQ, ckQ, clQ, cmQ, cnQ, coQ, cpQ, cqQ, crQ, csQ, ctQ, cuQ, cvQ, cwQ, cxQ, cyQ, czQ, cAQ, cBQ, cCQ, cDQ, cEQ, cFQ, cGQ, cHQ, cIQ, cJQ, cKQ, cLQ, cMQ, cNQ, cOQ, cPQ, cQQ, cRQ, cSQ, cTQ, cUQ, cVQ, cWQ, cXQ, cYQ, cZQ, daQ, dbQ, dcQ, ddQ, deQ, dfQ, dgQ, dhQ, diQ, djQ, dkQ, dlQ, dmQ, dnQ, doQ, dpQ, dqQ, drQ, dsQ, dtQ, duQ, dvQ, dwQ, dxQ, dyQ, dzQ, dAQ, dBQ, dCQ, dDQ, dEQ, dFQ, dGQ, dHQ, dIQ, dJQ, dKQ, dLQ, dMQ, dNQ, dOQ, dPQ, dQQ, dRQ, dSQ, dTQ, dUQ, dVQ, dWQ, dXQ, dYQ, dZQ, eaQ, ebQ, ecQ, edQ, eeQ, efQ, egQ, ehQ, eiQ, ejQ, ekQ, elQ, emQ, enQ, eoQ, epQ, eqQ, erQ, esQ, etQ, euQ, evQ, ewQ, exQ, eyQ, ezQ, eAQ, eBQ, eCQ, eDQ, eEQ, eFQ, eGQ, eHQ, eIQ, eJQ, eKQ, eLQ, eMQ, eNQ, eOQ, ePQ, eQQ, eRQ, eSQ, eTQ, eUQ, eVQ, eWQ, eXQ, eYQ, eZQ, faQ, fbQ, fcQ, fdQ, feQ, ffQ, fgQ, fhQ, fiQ, fjQ, fkQ, flQ, fmQ, fnQ, foQ, fpQ, fqQ, frQ, fsQ, ftQ, fuQ, fvQ, fwQ, fxQ, fyQ, fzQ, fAQ, fBQ, fCQ, fDQ, fEQ, fFQ, fGQ, fHQ, fIQ, fJQ, fKQ, fLQ, fMQ, fNQ, fOQ, fPQ, fQQ, fRQ, fSQ, fTQ, fUQ, fVQ, fWQ, fXQ, fYQ, fZQ, gaQ, gbQ, gcQ, gdQ, geQ, gfQ, ggQ, ghQ, giQ, gjQ, gkQ, glQ, gmQ, gnQ, goQ, gpQ, gqQ, grQ, gsQ, gtQ, guQ, gvQ, gwQ, gxQ, gyQ, gzQ, gAQ, gBQ, gCQ, gDQ, gEQ, gFQ, gGQ, gHQ, gIQ, gJQ, gKQ, gLQ, gMQ, gNQ, gOQ, gPQ, gQQ, gRQ, gSQ, gTQ, gUQ, gVQ, gWQ, gXQ, gYQ, gZQ, haQ, hbQ, hcQ, hdQ, heQ, hfQ, hgQ, hhQ, hiQ, hjQ, hkQ, hlQ, hmQ, hnQ, hoQ, hpQ, hqQ, hrQ, hsQ, htQ, huQ, hvQ, hwQ, hxQ, hyQ, hzQ, hAQ, hBQ, hCQ, hDQ, hEQ, hFQ, hGQ, hHQ, hIQ, hJQ, hKQ, hLQ, hMQ, hNQ, hOQ, hPQ, hQQ, hRQ, hSQ, hTQ, hUQ, hVQ, hWQ, hXQ, hYQ, hZQ, iaQ, euQ, etQ, exQ, ibQ, icQ, e]
      rfl
    · simp only [aaQ, abQ, acQ, adQ, aeQ, afQ, agQ, ahQ, aiQ, ajQ, akQ, alQ, amQ, anQ, aoQ, apQ, aqQ, arQ, asQ, atQ, auQ, avQ, awQ, axQ, ayQ, azQ, aAQ, aBQ, aCQ, aDQ, aEQ, aFQ, aGQ, aHQ, aIQ, aJQ, aKQ, aLQ, aMQ, aNQ, aOQ, aPQ, aQQ, aRQ, aSQ, aTQ, aUQ, aVQ, aWQ, aXQ, aYQ, aZQ, baQ, bbQ, bcQ, bdQ, beQ, bfQ, bgQ, bhQ, biQ, bjQ, bkQ, blQ, bmQ, bnQ, boQ, bpQ, bqQ, brQ, bsQ, btQ, buQ, bvQ, bwQ, bxQ, byQ, bzQ, bAQ, bBQ, bCQ, bDQ, bEQ, bFQ, bGQ, bHQ, bIQ, bJQ, bKQ, bLQ, bMQ, bNQ, bOQ, bPQ, bQQ, bRQ, bSQ, bTQ, bUQ, bVQ, bWQ, bXQ, bYQ, bZQ, caQ, cbQ, ccQ, cdQ, ceQ, cfQ, cgQ, chQ, ciQ, cjQ, ckQ, clQ, cmQ, cnQ, coQ, cpQ, cqQ, crQ, csQ, ctQ, cuQ, cvQ, cwQ, cxQ, cyQ, czQ, cAQ, cBQ, cCQ, cDQ, cEQ, cFQ, cGQ, cHQ, cIQ, cJQ, cKQ, cLQ, cMQ, cNQ, cOQ, cPQ, cQQ, cRQ, cSQ, cTQ, cUQ, cVQ, cWQ, cXQ, cYQ, cZQ, daQ, dbQ, dcQ, ddQ, deQ, dfQ, dgQ, dhQ, diQ, djQ, dkQ, dlQ, dmQ, dnQ, doQ, dpQ, dqQ, drQ, dsQ, dtQ, duQ, dvQ, dwQ, dxQ, dyQ, dzQ, dAQ, dBQ, dCQ, dDQ, dEQ, dFQ, dGQ, dHQ, dIQ, dJQ, dKQ, dLQ, dMQ, dNQ, dOQ, dPQ, dQQ, dRQ, dSQ, dTQ, dUQ, dVQ, dWQ, dXQ, dYQ, dZQ, eaQ, ebQ, ecQ, edQ, eeQ, efQ, egQ, ehQ, eiQ, ejQ, ekQ, elQ, emQ, enQ, eoQ, epQ, eqQ, erQ, esQ, etQ, euQ, evQ, ewQ, exQ, eyQ, ezQ, eAQ, eBQ, eCQ, eDQ, eEQ, eFQ, eGQ, eHQ, eIQ, eJQ, eKQ, eLQ, eMQ, eNQ, eOQ, ePQ, eQQ, eRQ, eSQ, eTQ, eUQ, eVQ, eWQ, eXQ, eYQ, eZQ, faQ, fbQ, fcQ, fdQ, feQ, ffQ, fgQ, fhQ, fiQ, fjQ, fkQ, flQ, fmQ, fnQ, foQ, fpQ, fqQ, frQ, fsQ, ftQ, fuQ, fvQ, fwQ, fxQ, fyQ, fzQ, fAQ, fBQ, fCQ, fDQ, fEQ, fFQ, fGQ, fHQ, fIQ, fJQ, fKQ, fLQ, fMQ, fNQ, fOQ, fPQ, fQQ, fRQ, fSQ, fTQ, fUQ, fVQ, fWQ, fXQ, fYQ, fZQ, gaQ, gbQ, gcQ, gdQ, geQ, gfQ, ggQ, ghQ, giQ, gjQ, gkQ, glQ, gmQ, gnQ, goQ, gpQ, gqQ, grQ, gsQ, gtQ, guQ, gvQ, gwQ, gxQ, gyQ, gzQ, gAQ, gBQ, gCQ, gDQ, gEQ, gFQ, gGQ, gHQ, gIQ, gJQ, gKQ, gLQ, gMQ, gNQ, gOQ, gPQ, gQQ, gRQ, gSQ, gTQ, gUQ, gVQ, gWQ, gXQ, gYQ, gZQ, haQ, hbQ, hcQ, hdQ, heQ, hfQ, hgQ, hhQ, hiQ, hjQ, hkQ, hlQ, hmQ, hnQ, hoQ, hpQ, hqQ, hrQ, hsQ, htQ, huQ, hvQ, hwQ, hxQ, hyQ, hzQ, hAQ, hBQ, hCQ, hDQ, hEQ, hFQ, hGQ, hHQ, hIQ, hJQ, hKQ, hLQ, hMQ, hNQ, hOQ, hPQ, hQQ, hRQ, hSQ, hTQ, hUQ, hVQ, hWQ, hXQ, hYQ, hZQ, iaQ, euQ, etQ, exQ, ibQ, icQ]
  have gt : ∀ L, gTuple [.lst ((List.range 21).map fun i => .tup [natD i])] L = .ok (.tg ((List.range 21).map fun i => .tup [natD i])) L := fun L => gTuple_l (by rw [List.length_map, List.length_range]; decide)
  have mg : mergeD [] [((.inl 0 : Key), D.int 0)] = [(.inl 0, .int 0)] := rfl
  have op := fun L => gEq_str1 (s := "operation") (L := L) (by decide +kernel)
  unfold noParts at q
  refine ⟨L1, ?_, x, d1⟩
  simp only [u_l_parts_right, F_l_parts_right, aaQ, abQ, acQ, adQ, aeQ, afQ, agQ, ahQ, aiQ, ajQ, akQ, alQ, amQ, anQ, aoQ, apQ, aqQ, arQ, asQ, atQ, auQ, avQ, awQ, axQ, ayQ, azQ, aAQ, aBQ, aCQ, aDQ, aEQ, aFQ, aGQ, aHQ, aIQ, aJQ, aKQ, aLQ, aMQ, aNQ, aOQ, aPQ, aQQ, aRQ, aSQ, aTQ, aUQ, aVQ, aWQ, aXQ, aYQ, aZQ, baQ, bbQ, bcQ, bdQ, beQ, bfQ, bgQ, bhQ, biQ, bjQ, bkQ, blQ, bmQ, bnQ, boQ, bpQ, bqQ, brQ, bsQ, btQ, buQ, bvQ, bwQ, bxQ, byQ, bzQ, bAQ, bBQ, bCQ, bDQ, bEQ, bFQ, bGQ, bHQ, bIQ, bJQ, bKQ, bLQ, bMQ, bNQ, bOQ, bPQ, bQQ, bRQ, bSQ, bTQ, bUQ, bVQ, bWQ, bXQ, bYQ, bZQ, caQ, cbQ, ccQ, cdQ, ceQ, cfQ, cgQ, chQ, ciQ, cjQ, ckQ, clQ, cmQ, cnQ, coQ, cpQ, cqQ, crQ, csQ, ctQ, cuQ, cvQ, cwQ, cxQ, cyQ, czQ, cAQ, cBQ, cCQ, cDQ, cEQ, cFQ, cGQ, cHQ, cIQ, cJQ, cKQ, cLQ, cMQ, cNQ, cOQ, cPQ, cQQ, cRQ, cSQ, cTQ, cUQ, cVQ, cWQ, cXQ, cYQ, cZQ, daQ, dbQ, dcQ, ddQ, deQ, dfQ, dgQ, dhQ, diQ, djQ, dkQ, dlQ, dmQ, dnQ, doQ, dpQ, dqQ, drQ, dsQ, dtQ, duQ, dvQ, dwQ, dxQ, dyQ, dzQ, dAQ, dBQ, dCQ, dDQ, dEQ, dFQ, dGQ, dHQ, dIQ, dJQ, dKQ, dLQ, dMQ, dNQ, dOQ, dPQ, dQQ, dRQ, dSQ, dTQ, dUQ, dVQ, dWQ, dXQ, dYQ, dZQ, eaQ, ebQ, ecQ, edQ, eeQ, efQ, egQ, ehQ, eiQ, ejQ, ekQ, elQ, emQ, enQ, eoQ, epQ, eqQ, erQ, esQ, etQ, euQ, evQ, ewQ, exQ, eyQ, ezQ, eAQ, eBQ, eCQ, eDQ, eEQ, eFQ, eGQ, eHQ, eIQ, eJQ, eKQ, eLQ, eMQ, eNQ, eOQ, ePQ, eQQ, eRQ, eSQ, eTQ, eUQ, eVQ, eWQ, eXQ, eYQ, eZQ, faQ, fbQ, fcQ, fdQ, feQ, ffQ, fgQ, fhQ, fiQ, fjQ, fkQ, flQ, fmQ, fnQ, foQ, fpQ, fqQ, frQ, fsQ, ftQ, fuQ, fvQ, fwQ, fxQ, fyQ, fzQ, fAQ, fBQ, fCQ, fDQ, fEQ, fFQ, fGQ, fHQ, fIQ, fJQ, fKQ, fLQ, fMQ, fNQ, fOQ, fPQ, fQQ, fRQ, fSQ, fTQ, fUQ, fVQ, fWQ, fXQ, fYQ, fZQ, gaQ, gbQ, gcQ, gdQ, geQ, gfQ, ggQ, ghQ, giQ, gjQ, gkQ, glQ, gmQ, gnQ, goQ, gpQ, gqQ, grQ, gsQ, gtQ, guQ, gvQ, gwQ, gxQ, gyQ, gzQ, gAQ, gBQ, gCQ, gDQ, gEQ, gFQ, gGQ, gHQ, gIQ, gJQ, gKQ, gLQ, gMQ, gNQ, gOQ, gPQ, gQQ, gRQ, gSQ, gTQ, gUQ, gVQ, gWQ, gXQ, gYQ, gZQ, haQ, hbQ, hcQ, hdQ, heQ, hfQ, hgQ, hhQ, hiQ, hjQ, hkQ, hlQ, hmQ, hnQ, hoQ, hpQ, hqQ, hrQ, hsQ, htQ, huQ, hvQ, hwQ, hxQ, hyQ, hzQ, hAQ, hBQ, hCQ, hDQ, hEQ, hFQ, hGQ, hHQ, hIQ, hJQ, hKQ, hLQ, hMQ, hNQ, hOQ, hPQ, hQQ, hRQ, hSQ, hTQ, hUQ, hVQ, hWQ, hXQ, hYQ, hZQ, iaQ, euQ, etQ, exQ, ibQ, icQ, y_neg1, c, gt, mg, z_addl, List.length_cons, List.length_nil, List.cons_append, List.nil_append, Nat.zero_add, Nat.reduceAdd, Nat.reduceLT, Nat.reduceLeDiff, q, ro, met_opc, op]
def badRows (r : List Int) : List D := [.non, .int 0, .tg [], .lst [.int 0], .str "01", .dK [], .tg [.bl true], .tg [.int (-1)], .tg (List.replicate 21 (.int 0)), .tg [.tup [.int 0]], .lst (r.map .int)]
theorem badRows_no {r : List Int} {d : D} (m : d ∈ badRows r) : NotRow d := by
  unfold badRows at m
  simp only [List.mem_cons, List.not_mem_nil, or_false] at m
  have one : ∀ x : D, (∀ L, m_is_integer [x, .int 0, .non] L = .ok (.bl false) L) → NotRow (.tg [x]) := fun x h => ⟨fun L => by
    rw [isRow_T (b := fun _ => false) (tp_tg [x]) (fun y hy L => by rw [List.mem_singleton] at hy; rw [hy]; exact h L) (show 1 ≤ 1000 by decide)]
    rfl⟩
  rcases m with rfl | rfl | rfl | rfl | rfl | rfl | rfl | rfl | rfl | rfl | rfl
  · exact ⟨fun L => isRow_k fun _ => rfl⟩
  · exact ⟨fun L => isRow_k fun _ => rfl⟩
  · exact ⟨fun L => isRow_ints (r := []) (tp_tg _) (by decide)⟩
  · exact ⟨fun L => isRow_k fun _ => rfl⟩
  · exact ⟨fun L => isRow_k fun _ => rfl⟩
  · exact ⟨fun L => isRow_k fun _ => rfl⟩
  · exact one _ fun L => by simp only [u_is_integer, F_is_integer, aaQ, abQ, acQ, adQ, aeQ, afQ, agQ, ahQ, aiQ, ajQ, akQ, alQ, amQ, anQ, aoQ, apQ, aqQ, arQ, asQ, atQ, auQ, avQ, awQ, axQ, ayQ, azQ, aAQ, aBQ, aCQ, aDQ, aEQ, aFQ, aGQ, aHQ, aIQ, aJQ, aKQ, aLQ, aMQ, aNQ, aOQ, aPQ, aQQ, aRQ, aSQ, aTQ, aUQ, aVQ, aWQ, aXQ, aYQ, aZQ, baQ, bbQ, bcQ, bdQ, beQ, bfQ, bgQ, bhQ, biQ, bjQ, bkQ, blQ, bmQ, bnQ, boQ, bpQ, bqQ, brQ, bsQ, btQ, buQ, bvQ, bwQ, bxQ, byQ, bzQ, bAQ, bBQ, bCQ, bDQ, bEQ, bFQ, bGQ, bHQ, bIQ, bJQ, bKQ, bLQ, bMQ, bNQ, bOQ, bPQ, bQQ, bRQ, bSQ, bTQ, bUQ, bVQ, bWQ, bXQ, bYQ, bZQ, caQ, cbQ, ccQ, cdQ, ceQ, cfQ, cgQ, chQ, ciQ, cjQ, ckQ, clQ, cmQ, cnQ, coQ, cpQ, cqQ, crQ, csQ, ctQ, cuQ, cvQ, cwQ, cxQ, cyQ, czQ, cAQ, cBQ, cCQ, cDQ, cEQ, cFQ, cGQ, cHQ, cIQ, cJQ, cKQ, cLQ, cMQ, cNQ, cOQ, cPQ, cQQ, cRQ, cSQ, cTQ, cUQ, cVQ, cWQ, cXQ, cYQ, cZQ, daQ, dbQ, dcQ, ddQ, deQ, dfQ, dgQ, dhQ, diQ, djQ, dkQ, dlQ, dmQ, dnQ, doQ, dpQ, dqQ, drQ, dsQ, dtQ, duQ, dvQ, dwQ, dxQ, dyQ, dzQ, dAQ, dBQ, dCQ, dDQ, dEQ, dFQ, dGQ, dHQ, dIQ, dJQ, dKQ, dLQ, dMQ, dNQ, dOQ, dPQ, dQQ, dRQ, dSQ, dTQ, dUQ, dVQ, dWQ, dXQ, dYQ, dZQ, eaQ, ebQ, ecQ, edQ, eeQ, efQ, egQ, ehQ, eiQ, ejQ, ekQ, elQ, emQ, enQ, eoQ, epQ, eqQ, erQ, esQ, etQ, euQ, evQ, ewQ, exQ, eyQ, ezQ, eAQ, eBQ, eCQ, eDQ, eEQ, eFQ, eGQ, eHQ, eIQ, eJQ, eKQ, eLQ, eMQ, eNQ, eOQ, ePQ, eQQ, eRQ, eSQ, eTQ, eUQ, eVQ, eWQ, eXQ, eYQ, eZQ, faQ, fbQ, fcQ, fdQ, feQ, ffQ, fgQ, fhQ, fiQ, fjQ, fkQ, flQ, fmQ, fnQ, foQ, fpQ, fqQ, frQ, fsQ, ftQ, fuQ, fvQ, fwQ, fxQ, fyQ, fzQ, fAQ, fBQ, fCQ, fDQ, fEQ, fFQ, fGQ, fHQ, fIQ, fJQ, fKQ, fLQ, fMQ, fNQ, fOQ, fPQ, fQQ, fRQ, fSQ, fTQ, fUQ, fVQ, fWQ, fXQ, fYQ, fZQ, gaQ, gbQ, gcQ, gdQ, geQ, gfQ, ggQ, ghQ, giQ, gjQ, gkQ, glQ, gmQ, gnQ, goQ, gpQ, gqQ, grQ, gsQ, gtQ, guQ, gvQ, gwQ, gxQ, gyQ, gzQ, gAQ, gBQ, gCQ, gDQ, gEQ, gFQ, gGQ, gHQ, gIQ, gJQ, gKQ, gLQ, gMQ, gNQ, gOQ, gPQ, gQQ, gRQ, gSQ, gTQ, gUQ, gVQ, gWQ, gXQ, gYQ, gZQ, haQ, hbQ, hcQ, hdQ, heQ, hfQ, hgQ, hhQ, hiQ, hjQ, hkQ, hlQ, hmQ, hnQ, hoQ, hpQ, hqQ, hrQ, hsQ, htQ, huQ, hvQ, hwQ, hxQ, hyQ, hzQ, hAQ, hBQ, hCQ, hDQ, hEQ, hFQ, hGQ, hHQ, hIQ, hJQ, hKQ, hLQ, hMQ, hNQ, hOQ, hPQ, hQQ, hRQ, hSQ, hTQ, hUQ, hVQ, hWQ, hXQ, hYQ, hZQ, iaQ, euQ, etQ, exQ, ibQ, icQ, Bool.not_true, Bool.false_eq_true, if_false, if_true]
  · exact one _ fun L => sInt_in
  · refine ⟨fun L => (isRow_ints (r := List.replicate 21 0) (d := .tg (List.replicate 21 (.int 0))) ?_ (by rw [List.length_replicate]; decide)).trans (by rfl)⟩
    have := tp_tg ((List.replicate 21 (0 : Int)).map .int)
    rwa [List.map_replicate] at this
  · exact one _ fun L => by simp only [u_is_integer, F_is_integer, aaQ, abQ, acQ, adQ, aeQ, afQ, agQ, ahQ, aiQ, ajQ, akQ, alQ, amQ, anQ, aoQ, apQ, aqQ, arQ, asQ, atQ, auQ, avQ, awQ, axQ, ayQ, azQ, aAQ, aBQ, aCQ, aDQ, aEQ, aFQ, aGQ, aHQ, aIQ, aJQ, aKQ, aLQ, aMQ, aNQ, aOQ, aPQ, aQQ, aRQ, aSQ, aTQ, aUQ, aVQ, aWQ, aXQ, aYQ, aZQ, baQ, bbQ, bcQ, bdQ, beQ, bfQ, bgQ, bhQ, biQ, bjQ, bkQ, blQ, bmQ, bnQ, boQ, bpQ, bqQ, brQ, bsQ, btQ, buQ, bvQ, bwQ, bxQ, byQ, bzQ, bAQ, bBQ, bCQ, bDQ, bEQ, bFQ, bGQ, bHQ, bIQ, bJQ, bKQ, bLQ, bMQ, bNQ, bOQ, bPQ, bQQ, bRQ, bSQ, bTQ, bUQ, bVQ, bWQ, bXQ, bYQ, bZQ, caQ, cbQ, ccQ, cdQ, ceQ, cfQ, cgQ, chQ, ciQ, cjQ, ckQ, clQ, cmQ, cnQ, coQ, cpQ, cqQ, crQ, csQ, ctQ, cuQ, cvQ, cwQ, cxQ, cyQ, czQ, cAQ, cBQ, cCQ, cDQ, cEQ, cFQ, cGQ, cHQ, cIQ, cJQ, cKQ, cLQ, cMQ, cNQ, cOQ, cPQ, cQQ, cRQ, cSQ, cTQ, cUQ, cVQ, cWQ, cXQ, cYQ, cZQ, daQ, dbQ, dcQ, ddQ, deQ, dfQ, dgQ, dhQ, diQ, djQ, dkQ, dlQ, dmQ, dnQ, doQ, dpQ, dqQ, drQ, dsQ, dtQ, duQ, dvQ, dwQ, dxQ, dyQ, dzQ, dAQ, dBQ, dCQ, dDQ, dEQ, dFQ, dGQ, dHQ, dIQ, dJQ, dKQ, dLQ, dMQ, dNQ, dOQ, dPQ, dQQ, dRQ, dSQ, dTQ, dUQ, dVQ, dWQ, dXQ, dYQ, dZQ, eaQ, ebQ, ecQ, edQ, eeQ, efQ, egQ, ehQ, eiQ, ejQ, ekQ, elQ, emQ, enQ, eoQ, epQ, eqQ, erQ, esQ, etQ, euQ, evQ, ewQ, exQ, eyQ, ezQ, eAQ, eBQ, eCQ, eDQ, eEQ, eFQ, eGQ, eHQ, eIQ, eJQ, eKQ, eLQ, eMQ, eNQ, eOQ, ePQ, eQQ, eRQ, eSQ, eTQ, eUQ, eVQ, eWQ, eXQ, eYQ, eZQ, faQ, fbQ, fcQ, fdQ, feQ, ffQ, fgQ, fhQ, fiQ, fjQ, fkQ, flQ, fmQ, fnQ, foQ, fpQ, fqQ, frQ, fsQ, ftQ, fuQ, fvQ, fwQ, fxQ, fyQ, fzQ, fAQ, fBQ, fCQ, fDQ, fEQ, fFQ, fGQ, fHQ, fIQ, fJQ, fKQ, fLQ, fMQ, fNQ, fOQ, fPQ, fQQ, fRQ, fSQ, fTQ, fUQ, fVQ, fWQ, fXQ, fYQ, fZQ, gaQ, gbQ, gcQ, gdQ, geQ, gfQ, ggQ, ghQ, giQ, gjQ, gkQ, glQ, gmQ, gnQ, goQ, gpQ, gqQ, grQ, gsQ, gtQ, guQ, gvQ, gwQ, gxQ, gyQ, gzQ, gAQ, gBQ, gCQ, gDQ, gEQ, gFQ, gGQ, gHQ, gIQ, gJQ, gKQ, gLQ, gMQ, gNQ, gOQ, gPQ, gQQ, gRQ, gSQ, gTQ, gUQ, gVQ, gWQ, gXQ, gYQ, gZQ, haQ, hbQ, hcQ, hdQ, heQ, hfQ, hgQ, hhQ, hiQ, hjQ, hkQ, hlQ, hmQ, hnQ, hoQ, hpQ, hqQ, hrQ, hsQ, htQ, huQ, hvQ, hwQ, hxQ, hyQ, hzQ, hAQ, hBQ, hCQ, hDQ, hEQ, hFQ, hGQ, hHQ, hIQ, hJQ, hKQ, hLQ, hMQ, hNQ, hOQ, hPQ, hQQ, hRQ, hSQ, hTQ, hUQ, hVQ, hWQ, hXQ, hYQ, hZQ, iaQ, euQ, etQ, exQ, ibQ, icQ, Bool.not_false, if_true]
  · exact ⟨fun L => isRow_k fun _ => rfl⟩
def badNums : List D := [.int 0, .int 21, .int (-1), .non, .bl true, .str "2", .tg [], .int (10 ^ 39)]
theorem badNums_no {d : D} (m : d ∈ badNums) : NotInt 1 20 d ∧ ∃ s, Told "number " d s := by
  unfold badNums at m
  simp only [List.mem_cons, List.not_mem_nil, or_false] at m
  rcases m with rfl | rfl | rfl | rfl | rfl | rfl | rfl | rfl
  · exact ⟨notInt_ii (by decide), num_int (by decide) (by decide)⟩
  · exact ⟨notInt_ii (by decide), num_int (by decide) (by decide)⟩
  · exact ⟨notInt_ii (by decide), num_m1⟩
  · exact ⟨notInt_k (fun _ => rfl) (fun _ => rfl), num_non⟩
  · exact ⟨notInt_bl _, num_bl _⟩
  · exact ⟨notInt_k (fun _ => rfl) (fun _ => rfl), num_str _ (by decide +kernel)⟩
  · exact ⟨notInt_k (fun _ => rfl) (fun _ => rfl), num_tg⟩
  · exact ⟨notInt_ii (by decide +kernel), num_big⟩
def badHues (n : Int) : List D := [.int n, .int (-1), .non, .bl true, .str "0", .tg [], .int (10 ^ 39)]
theorem badHues_no {d : D} {n : Int} (n0 : 0 ≤ n) (n1 : n ≤ 30) (m : d ∈ badHues n) : NotInt 0 (n - 1) d ∧ ∃ s, Told "number " d s := by
  unfold badHues at m
  simp only [List.mem_cons, List.not_mem_nil, or_false] at m
  rcases m with rfl | rfl | rfl | rfl | rfl | rfl | rfl
  · exact ⟨notInt_ii (by omega), num_int n0 (by omega)⟩
  · exact ⟨notInt_ii (by omega), num_m1⟩
  · exact ⟨notInt_k (fun _ => rfl) (fun _ => rfl), num_non⟩
  · exact ⟨notInt_bl _, num_bl _⟩
  · exact ⟨notInt_k (fun _ => rfl) (fun _ => rfl), num_str _ (by decide +kernel)⟩
  · exact ⟨notInt_k (fun _ => rfl) (fun _ => rfl), num_tg⟩
  · exact ⟨notInt_ii (by have : (100 : Int) < 10 ^ 39 := by decide +kernel
                         omega), num_big⟩
noncomputable abbrev fns4 : List (Str × Nat × (List D → Sto → Res D)) := [("sizes", 2, m_sizes), ("spread", 2, m_spread), ("is_level", 2, m_is_level), ("classes", 2, m_classes)]
structure Bad (r : List Int) (h : Int) (bad num : D) (sN : Str) : Prop where
  hr : HRow r h
  hf : IsRow (r ++ [h])
  kb : NotRow bad
  kn : NotInt 1 20 num
  tN : Told "number " num sN
theorem far_not {r : List Int} {h : Int} : ¬ ∀ x ∈ r ++ [h], x < h := fun z => by
  have := z h (by simp)
  omega
def four (sN : Str) : List D := [.str "row", .str sN, .str "row", .str "fine"]
section
variable {r : List Int} {h : Int} {bad num : D} {sN : Str}
theorem body_ok (B : Bad r h bad num sN) {c : Str} (hc : c = "sizes" ∨ c = "spread" ∨ c = "is_level" ∨ c = "classes") (A : Sto) (x0 x7 x8 x9 x10 : Option D) :
    B1_l_right [x0, some (.int h), some (rowD r), some bad, some num, some (rowD (r ++ [h])), some (.fn c), x7, x8, x9, x10] A =
      .nx [x0, some (.int h), some (rowD r), some bad, some num, some (rowD (r ++ [h])), some (.fn c), x7, some (.loc A.length), x9, x10] (A ++ [.lst (four sN)]) := by
  obtain ⟨hr, hf, kb, kn, tN⟩ := B
  obtain ⟨m, hm, c1, c2, c3, d, c4⟩ : ∃ m, fns4.lookup c = some (2, m) ∧ (∀ L, m [bad, num] L = .err "InvalidRow" [] L) ∧ (∀ L, m [rowD (r ++ [h]), num] L = .err "InvalidNumber" [("value", num)] L) ∧
      (∀ L, m [rowD (r ++ [h]), .int h] L = .err "InvalidRow" [] L) ∧ ∃ d, ∀ L, m [rowD r, .int h] L = .ok d L := by
    rcases hc with rfl | rfl | rfl | rfl
    · refine ⟨m_sizes, rfl, fun L => ?_, fun L => ?_, fun L => ?_, sizes_fine hr⟩
      · simp only [u_sizes, F_sizes, aaQ, abQ, acQ, adQ, aeQ, afQ, agQ, ahQ, aiQ, ajQ, akQ, alQ, amQ, anQ, aoQ, apQ, aqQ, arQ, asQ, atQ, auQ, avQ, awQ, axQ, ayQ, azQ, aAQ, aBQ, aCQ, aDQ, aEQ, aFQ, aGQ, aHQ, aIQ, aJQ, aKQ, aLQ, aMQ, aNQ, aOQ, aPQ, aQQ, aRQ, aSQ, aTQ, aUQ, aVQ, aWQ, aXQ, aYQ, aZQ, baQ, bbQ, bcQ, bdQ, beQ, bfQ, bgQ, bhQ, biQ, bjQ, bkQ, blQ, bmQ, bnQ, boQ, bpQ, bqQ, brQ, bsQ, btQ, buQ, bvQ, bwQ, bxQ, byQ, bzQ, bAQ, bBQ, bCQ, bDQ, bEQ, bFQ, bGQ, bHQ, bIQ, bJQ, bKQ, bLQ, bMQ, bNQ, bOQ, bPQ, bQQ, bRQ, bSQ, bTQ, bUQ, bVQ, bWQ, bXQ, bYQ, bZQ, caQ, cbQ, ccQ, cdQ, ceQ, cfQ, cgQ, chQ, ciQ, cjQ, ckQ, clQ, cmQ, cnQ, coQ, cpQ, cqQ, crQ, csQ, ctQ, cuQ, cvQ, cwQ, cxQ, cyQ, czQ, cAQ, cBQ, cCQ, cDQ, cEQ, cFQ, cGQ, cHQ, cIQ, cJQ, cKQ, cLQ, cMQ, cNQ, cOQ, cPQ, cQQ, cRQ, cSQ, cTQ, cUQ, cVQ, cWQ, cXQ, cYQ, cZQ, daQ, dbQ, dcQ, ddQ, deQ, dfQ, dgQ, dhQ, diQ, djQ, dkQ, dlQ, dmQ, dnQ, doQ, dpQ, dqQ, drQ, dsQ, dtQ, duQ, dvQ, dwQ, dxQ, dyQ, dzQ, dAQ, dBQ, dCQ, dDQ, dEQ, dFQ, dGQ, dHQ, dIQ, dJQ, dKQ, dLQ, dMQ, dNQ, dOQ, dPQ, dQQ, dRQ, dSQ, dTQ, dUQ, dVQ, dWQ, dXQ, dYQ, dZQ, eaQ, ebQ, ecQ, edQ, eeQ, efQ, egQ, ehQ, eiQ, ejQ, ekQ, elQ, emQ, enQ, eoQ, epQ, eqQ, erQ, esQ, etQ, euQ, evQ, ewQ, exQ, eyQ, ezQ, eAQ, eBQ, eCQ, eDQ, eEQ, eFQ, eGQ, eHQ, eIQ, eJQ, eKQ, eLQ, eMQ, eNQ, eOQ, ePQ, eQQ, eRQ, eSQ, eTQ, eUQ, eVQ, eWQ, eXQ, eYQ, eZQ, faQ, fbQ, fcQ, fdQ, feQ, ffQ, fgQ, fhQ, fiQ, fjQ, fkQ, flQ, fmQ, fnQ, foQ, fpQ, fqQ, frQ, fsQ, ftQ, fuQ, fvQ, fwQ, fxQ, fyQ, fzQ, fAQ, fBQ, fCQ, fDQ, fEQ, fFQ, fGQ, fHQ, fIQ, fJQ, fKQ, fLQ, fMQ, fNQ, fOQ, fPQ, fQQ, fRQ, fSQ, fTQ, fUQ, fVQ, fWQ, fXQ, fYQ, fZQ, gaQ, gbQ, gcQ, gdQ, geQ, gfQ, ggQ, ghQ, giQ, gjQ, gkQ, glQ, gmQ, gnQ, goQ, gpQ, gqQ, grQ, gsQ, gtQ, guQ, gvQ, gwQ, gxQ, gyQ, gzQ, gAQ, gBQ, gCQ, gDQ, gEQ, gFQ, gGQ, gHQ, gIQ, gJQ, gKQ, gLQ, gMQ, gNQ, gOQ, gPQ, gQQ, gRQ, gSQ, gTQ, gUQ, gVQ, gWQ, gXQ, gYQ, gZQ, haQ, hbQ, hcQ, hdQ, heQ, hfQ, hgQ, hhQ, hiQ, hjQ, hkQ, hlQ, hmQ, hnQ, hoQ, hpQ, hqQ, hrQ, hsQ, htQ, huQ, hvQ, hwQ, hxQ, hyQ, hzQ, hAQ, hBQ, hCQ, hDQ, hEQ, hFQ, hGQ, hHQ, hIQ, hJQ, hKQ, hLQ, hMQ, hNQ, hOQ, hPQ, hQQ, hRQ, hSQ, hTQ, hUQ, hVQ, hWQ, hXQ, hYQ, hZQ, iaQ, euQ, etQ, exQ, ibQ, icQ, rBoth_row kb]
      · simp only [u_sizes, F_sizes, aaQ, abQ, acQ, adQ, aeQ, afQ, agQ, ahQ, aiQ, ajQ, akQ, alQ, amQ, anQ, aoQ, apQ, aqQ, arQ, asQ, atQ, auQ, avQ, awQ, axQ, ayQ, azQ, aAQ, aBQ, aCQ, aDQ, aEQ, aFQ, aGQ, aHQ, aIQ, aJQ, aKQ, aLQ, aMQ, aNQ, aOQ, aPQ, aQQ, aRQ, aSQ, aTQ, aUQ, aVQ, aWQ, aXQ, aYQ, aZQ, baQ, bbQ, bcQ, bdQ, beQ, bfQ, bgQ, bhQ, biQ, bjQ, bkQ, blQ, bmQ, bnQ, boQ, bpQ, bqQ, brQ, bsQ, btQ, buQ, bvQ, bwQ, bxQ, byQ, bzQ, bAQ, bBQ, bCQ, bDQ, bEQ, bFQ, bGQ, bHQ, bIQ, bJQ, bKQ, bLQ, bMQ, bNQ, bOQ, bPQ, bQQ, bRQ, bSQ, bTQ, bUQ, bVQ, bWQ, bXQ, bYQ, bZQ, caQ, cbQ, ccQ, cdQ, ceQ, cfQ, cgQ, chQ, ciQ, cjQ, ckQ, clQ, cmQ, cnQ, coQ, cpQ, cqQ, crQ, csQ, ctQ, cuQ, cvQ, cwQ, cxQ, cyQ, czQ, cAQ, cBQ, cCQ, cDQ, cEQ, cFQ, cGQ, cHQ, cIQ, cJQ, cKQ, cLQ, cMQ, cNQ, cOQ, cPQ, cQQ, cRQ, cSQ, cTQ, cUQ, cVQ, cWQ, cXQ, cYQ, cZQ, daQ, dbQ, dcQ, ddQ, deQ, dfQ, dgQ, dhQ, diQ, djQ, dkQ, dlQ, dmQ, dnQ, doQ, dpQ, dqQ, drQ, dsQ, dtQ, duQ, dvQ, dwQ, dxQ, dyQ, dzQ, dAQ, dBQ, dCQ, dDQ, dEQ, dFQ, dGQ, dHQ, dIQ, dJQ, dKQ, dLQ, dMQ, dNQ, dOQ, dPQ, dQQ, dRQ, dSQ, dTQ, dUQ, dVQ, dWQ, dXQ, dYQ, dZQ, eaQ, ebQ, ecQ, edQ, eeQ, efQ, egQ, ehQ, eiQ, ejQ, ekQ, elQ, emQ, enQ, eoQ, epQ, eqQ, erQ, esQ, etQ, euQ, evQ, ewQ, exQ, eyQ, ezQ, eAQ, eBQ, eCQ, eDQ, eEQ, eFQ, eGQ, eHQ, eIQ, eJQ, eKQ, eLQ, eMQ, eNQ, eOQ, ePQ, eQQ, eRQ, eSQ, eTQ, eUQ, eVQ, eWQ, eXQ, eYQ, eZQ, faQ, fbQ, fcQ, fdQ, feQ, ffQ, fgQ, fhQ, fiQ, fjQ, fkQ, flQ, fmQ, fnQ, foQ, fpQ, fqQ, frQ, fsQ, ftQ, fuQ, fvQ, fwQ, fxQ, fyQ, fzQ, fAQ, fBQ, fCQ, fDQ, fEQ, fFQ, fGQ, fHQ, fIQ, fJQ, fKQ, fLQ, fMQ, fNQ, fOQ, fPQ, fQQ, fRQ, fSQ, fTQ, fUQ, fVQ, fWQ, fXQ, fYQ, fZQ, gaQ, gbQ, gcQ, gdQ, geQ, gfQ, ggQ, ghQ, giQ, gjQ, gkQ, glQ, gmQ, gnQ, goQ, gpQ, gqQ, grQ, gsQ, gtQ, guQ, gvQ, gwQ, gxQ, gyQ, gzQ, gAQ, gBQ, gCQ, gDQ, gEQ, gFQ, gGQ, gHQ, gIQ, gJQ, gKQ, gLQ, gMQ, gNQ, gOQ, gPQ, gQQ, gRQ, gSQ, gTQ, gUQ, gVQ, gWQ, gXQ, gYQ, gZQ, haQ, hbQ, hcQ, hdQ, heQ, hfQ, hgQ, hhQ, hiQ, hjQ, hkQ, hlQ, hmQ, hnQ, hoQ, hpQ, hqQ, hrQ, hsQ, htQ, huQ, hvQ, hwQ, hxQ, hyQ, hzQ, hAQ, hBQ, hCQ, hDQ, hEQ, hFQ, hGQ, hHQ, hIQ, hJQ, hKQ, hLQ, hMQ, hNQ, hOQ, hPQ, hQQ, hRQ, hSQ, hTQ, hUQ, hVQ, hWQ, hXQ, hYQ, hZQ, iaQ, euQ, etQ, exQ, ibQ, icQ, rBoth_num hf kn]
      · simp only [u_sizes, F_sizes, aaQ, abQ, acQ, adQ, aeQ, afQ, agQ, ahQ, aiQ, ajQ, akQ, alQ, amQ, anQ, aoQ, apQ, aqQ, arQ, asQ, atQ, auQ, avQ, awQ, axQ, ayQ, azQ, aAQ, aBQ, aCQ, aDQ, aEQ, aFQ, aGQ, aHQ, aIQ, aJQ, aKQ, aLQ, aMQ, aNQ, aOQ, aPQ, aQQ, aRQ, aSQ, aTQ, aUQ, aVQ, aWQ, aXQ, aYQ, aZQ, baQ, bbQ, bcQ, bdQ, beQ, bfQ, bgQ, bhQ, biQ, bjQ, bkQ, blQ, bmQ, bnQ, boQ, bpQ, bqQ, brQ, bsQ, btQ, buQ, bvQ, bwQ, bxQ, byQ, bzQ, bAQ, bBQ, bCQ, bDQ, bEQ, bFQ, bGQ, bHQ, bIQ, bJQ, bKQ, bLQ, bMQ, bNQ, bOQ, bPQ, bQQ, bRQ, bSQ, bTQ, bUQ, bVQ, bWQ, bXQ, bYQ, bZQ, caQ, cbQ, ccQ, cdQ, ceQ, cfQ, cgQ, chQ, ciQ, cjQ, ckQ, clQ, cmQ, cnQ, coQ, cpQ, cqQ, crQ, csQ, ctQ, cuQ, cvQ, cwQ, cxQ, cyQ, czQ, cAQ, cBQ, cCQ, cDQ, cEQ, cFQ, cGQ, cHQ, cIQ, cJQ, cKQ, cLQ, cMQ, cNQ, cOQ, cPQ, cQQ, cRQ, cSQ, cTQ, cUQ, cVQ, cWQ, cXQ, cYQ, cZQ, daQ, dbQ, dcQ, ddQ, deQ, dfQ, dgQ, dhQ, diQ, djQ, dkQ, dlQ, dmQ, dnQ, doQ, dpQ, dqQ, drQ, dsQ, dtQ, duQ, dvQ, dwQ, dxQ, dyQ, dzQ, dAQ, dBQ, dCQ, dDQ, dEQ, dFQ, dGQ, dHQ, dIQ, dJQ, dKQ, dLQ, dMQ, dNQ, dOQ, dPQ, dQQ, dRQ, dSQ, dTQ, dUQ, dVQ, dWQ, dXQ, dYQ, dZQ, eaQ, ebQ, ecQ, edQ, eeQ, efQ, egQ, ehQ, eiQ, ejQ, ekQ, elQ, emQ, enQ, eoQ, epQ, eqQ, erQ, esQ, etQ, euQ, evQ, ewQ, exQ, eyQ, ezQ, eAQ, eBQ, eCQ, eDQ, eEQ, eFQ, eGQ, eHQ, eIQ, eJQ, eKQ, eLQ, eMQ, eNQ, eOQ, ePQ, eQQ, eRQ, eSQ, eTQ, eUQ, eVQ, eWQ, eXQ, eYQ, eZQ, faQ, fbQ, fcQ, fdQ, feQ, ffQ, fgQ, fhQ, fiQ, fjQ, fkQ, flQ, fmQ, fnQ, foQ, fpQ, fqQ, frQ, fsQ, ftQ, fuQ, fvQ, fwQ, fxQ, fyQ, fzQ, fAQ, fBQ, fCQ, fDQ, fEQ, fFQ, fGQ, fHQ, fIQ, fJQ, fKQ, fLQ, fMQ, fNQ, fOQ, fPQ, fQQ, fRQ, fSQ, fTQ, fUQ, fVQ, fWQ, fXQ, fYQ, fZQ, gaQ, gbQ, gcQ, gdQ, geQ, gfQ, ggQ, ghQ, giQ, gjQ, gkQ, glQ, gmQ, gnQ, goQ, gpQ, gqQ, grQ, gsQ, gtQ, guQ, gvQ, gwQ, gxQ, gyQ, gzQ, gAQ, gBQ, gCQ, gDQ, gEQ, gFQ, gGQ, gHQ, gIQ, gJQ, gKQ, gLQ, gMQ, gNQ, gOQ, gPQ, gQQ, gRQ, gSQ, gTQ, gUQ, gVQ, gWQ, gXQ, gYQ, gZQ, haQ, hbQ, hcQ, hdQ, heQ, hfQ, hgQ, hhQ, hiQ, hjQ, hkQ, hlQ, hmQ, hnQ, hoQ, hpQ, hqQ, hrQ, hsQ, htQ, huQ, hvQ, hwQ, hxQ, hyQ, hzQ, hAQ, hBQ, hCQ, hDQ, hEQ, hFQ, hGQ, hHQ, hIQ, hJQ, hKQ, hLQ, hMQ, hNQ, hOQ, hPQ, hQQ, hRQ, hSQ, hTQ, hUQ, hVQ, hWQ, hXQ, hYQ, hZQ, iaQ, euQ, etQ, exQ, ibQ, icQ, rBoth_far hf hr.h1 hr.h2 far_not]
    · refine ⟨m_spread, rfl, fun L => ?_, fun L => ?_, fun L => ?_, spread_fine hr⟩
      · simp only [u_spread, F_spread, aaQ, abQ, acQ, adQ, aeQ, afQ, agQ, ahQ, aiQ, ajQ, akQ, alQ, amQ, anQ, aoQ, apQ, aqQ, arQ, asQ, atQ, auQ, avQ, awQ, axQ, ayQ, azQ, aAQ, aBQ, aCQ, aDQ, aEQ, aFQ, aGQ, aHQ, aIQ, aJQ, aKQ, aLQ, aMQ, aNQ, aOQ, aPQ, aQQ, aRQ, aSQ, aTQ, aUQ, aVQ, aWQ, aXQ, aYQ, aZQ, baQ, bbQ, bcQ, bdQ, beQ, bfQ, bgQ, bhQ, biQ, bjQ, bkQ, blQ, bmQ, bnQ, boQ, bpQ, bqQ, brQ, bsQ, btQ, buQ, bvQ, bwQ, bxQ, byQ, bzQ, bAQ, bBQ, bCQ, bDQ, bEQ, bFQ, bGQ, bHQ, bIQ, bJQ, bKQ, bLQ, bMQ, bNQ, bOQ, bPQ, bQQ, bRQ, bSQ, bTQ, bUQ, bVQ, bWQ, bXQ, bYQ, bZQ, caQ, cbQ, ccQ, cdQ, ceQ, cfQ, cgQ, chQ, ciQ, cjQ, ckQ, clQ, cmQ, cnQ, coQ, cpQ, cqQ, crQ, csQ, ctQ, cuQ, cvQ, cwQ, cxQ, cyQ, czQ, cAQ, cBQ, cCQ, cDQ, cEQ, cFQ, cGQ, cHQ, cIQ, cJQ, cKQ, cLQ, cMQ, cNQ, cOQ, cPQ, cQQ, cRQ, cSQ, cTQ, cUQ, cVQ, cWQ, cXQ, cYQ, cZQ, daQ, dbQ, dcQ, ddQ, deQ, dfQ, dgQ, dhQ, diQ, djQ, dkQ, dlQ, dmQ, dnQ, doQ, dpQ, dqQ, drQ, dsQ, dtQ, duQ, dvQ, dwQ, dxQ, dyQ, dzQ, dAQ, dBQ, dCQ, dDQ, dEQ, dFQ, dGQ, dHQ, dIQ, dJQ, dKQ, dLQ, dMQ, dNQ, dOQ, dPQ, dQQ, dRQ, dSQ, dTQ, dUQ, dVQ, dWQ, dXQ, dYQ, dZQ, eaQ, ebQ, ecQ, edQ, eeQ, efQ, egQ, ehQ, eiQ, ejQ, ekQ, elQ, emQ, enQ, eoQ, epQ, eqQ, erQ, esQ, etQ, euQ, evQ, ewQ, exQ, eyQ, ezQ, eAQ, eBQ, eCQ, eDQ, eEQ, eFQ, eGQ, eHQ, eIQ, eJQ, eKQ, eLQ, eMQ, eNQ, eOQ, ePQ, eQQ, eRQ, eSQ, eTQ, eUQ, eVQ, eWQ, eXQ, eYQ, eZQ, faQ, fbQ, fcQ, fdQ, feQ, ffQ, fgQ, fhQ, fiQ, fjQ, fkQ, flQ, fmQ, fnQ, foQ, fpQ, fqQ, frQ, fsQ, ftQ, fuQ, fvQ, fwQ, fxQ, fyQ, fzQ, fAQ, fBQ, fCQ, fDQ, fEQ, fFQ, fGQ, fHQ, fIQ, fJQ, fKQ, fLQ, fMQ, fNQ, fOQ, fPQ, fQQ, fRQ, fSQ, fTQ, fUQ, fVQ, fWQ, fXQ, fYQ, fZQ, gaQ, gbQ, gcQ, gdQ, geQ, gfQ, ggQ, ghQ, giQ, gjQ, gkQ, glQ, gmQ, gnQ, goQ, gpQ, gqQ, grQ, gsQ, gtQ, guQ, gvQ, gwQ, gxQ, gyQ, gzQ, gAQ, gBQ, gCQ, gDQ, gEQ, gFQ, gGQ, gHQ, gIQ, gJQ, gKQ, gLQ, gMQ, gNQ, gOQ, gPQ, gQQ, gRQ, gSQ, gTQ, gUQ, gVQ, gWQ, gXQ, gYQ, gZQ, haQ, hbQ, hcQ, hdQ, heQ, hfQ, hgQ, hhQ, hiQ, hjQ, hkQ, hlQ, hmQ, hnQ, hoQ, hpQ, hqQ, hrQ, hsQ, htQ, huQ, hvQ, hwQ, hxQ, hyQ, hzQ, hAQ, hBQ, hCQ, hDQ, hEQ, hFQ, hGQ, hHQ, hIQ, hJQ, hKQ, hLQ, hMQ, hNQ, hOQ, hPQ, hQQ, hRQ, hSQ, hTQ, hUQ, hVQ, hWQ, hXQ, hYQ, hZQ, iaQ, euQ, etQ, exQ, ibQ, icQ, rBoth_row kb]
      · simp only [u_spread, F_spread, aaQ, abQ, acQ, adQ, aeQ, afQ, agQ, ahQ, aiQ, ajQ, akQ, alQ, amQ, anQ, aoQ, apQ, aqQ, arQ, asQ, atQ, auQ, avQ, awQ, axQ, ayQ, azQ, aAQ, aBQ, aCQ, aDQ, aEQ, aFQ, aGQ, aHQ, aIQ, aJQ, aKQ, aLQ, aMQ, aNQ, aOQ, aPQ, aQQ, aRQ, aSQ, aTQ, aUQ, aVQ, aWQ, aXQ, aYQ, aZQ, baQ, bbQ, bcQ, bdQ, beQ, bfQ, bgQ, bhQ, biQ, bjQ, bkQ, blQ, bmQ, bnQ, boQ, bpQ, bqQ, brQ, bsQ, btQ, buQ, bvQ, bwQ, bxQ, byQ, bzQ, bAQ, bBQ, bCQ, bDQ, bEQ, bFQ, bGQ, bHQ, bIQ, bJQ, bKQ, bLQ, bMQ, bNQ, bOQ, bPQ, bQQ, bRQ, bSQ, bTQ, bUQ, bVQ, bWQ, bXQ, bYQ, bZQ, caQ, cbQ, ccQ, cdQ, ceQ, cfQ, cgQ, chQ, ciQ, cjQ, ckQ, clQ, cmQ, cnQ, coQ, cpQ, cqQ, crQ, csQ, ctQ, cuQ, cvQ, cwQ, cxQ, cyQ, czQ, cAQ, cBQ, cCQ, cDQ, cEQ, cFQ, cGQ, cHQ, cIQ, cJQ, cKQ, cLQ, cMQ, cNQ, cOQ, cPQ, cQQ, cRQ, cSQ, cTQ, cUQ, cVQ, cWQ, cXQ, cYQ, cZQ, daQ, dbQ, dcQ, ddQ, deQ, dfQ, dgQ, dhQ, diQ, djQ, dkQ, dlQ, dmQ, dnQ, doQ, dpQ, dqQ, drQ, dsQ, dtQ, duQ, dvQ, dwQ, dxQ, dyQ, dzQ, dAQ, dBQ, dCQ, dDQ, dEQ, dFQ, dGQ, dHQ, dIQ, dJQ, dKQ, dLQ, dMQ, dNQ, dOQ, dPQ, dQQ, dRQ, dSQ, dTQ, dUQ, dVQ, dWQ, dXQ, dYQ, dZQ, eaQ, ebQ, ecQ, edQ, eeQ, efQ, egQ, ehQ, eiQ, ejQ, ekQ, elQ, emQ, enQ, eoQ, epQ, eqQ, erQ, esQ, etQ, euQ, evQ, ewQ, exQ, eyQ, ezQ, eAQ, eBQ, eCQ, eDQ, eEQ, eFQ, eGQ, eHQ, eIQ, eJQ, eKQ, eLQ, eMQ, eNQ, eOQ, ePQ, eQQ, eRQ, eSQ, eTQ, eUQ, eVQ, eWQ, eXQ, eYQ, eZQ, faQ, fbQ, fcQ, fdQ, feQ, ffQ, fgQ, fhQ, fiQ, fjQ, fkQ, flQ, fmQ, fnQ, foQ, fpQ, fqQ, frQ, fsQ, ftQ, fuQ, fvQ, fwQ, fxQ, fyQ, fzQ, fAQ, fBQ, fCQ, fDQ, fEQ, fFQ, fGQ, fHQ, fIQ, fJQ, fKQ, fLQ, fMQ, fNQ, fOQ, fPQ, fQQ, fRQ, fSQ, fTQ, fUQ, fVQ, fWQ, fXQ, fYQ, fZQ, gaQ, gbQ, gcQ, gdQ, geQ, gfQ, ggQ, ghQ, giQ, gjQ, gkQ, glQ, gmQ, gnQ, goQ, gpQ, gqQ, grQ, gsQ, gtQ, guQ, gvQ, gwQ, gxQ, gyQ, gzQ, gAQ, gBQ, gCQ, gDQ, gEQ, gFQ, gGQ, gHQ, gIQ, gJQ, gKQ, gLQ, gMQ, gNQ, gOQ, gPQ, gQQ, gRQ, gSQ, gTQ, gUQ, gVQ, gWQ, gXQ, gYQ, gZQ, haQ, hbQ, hcQ, hdQ, heQ, hfQ, hgQ, hhQ, hiQ, hjQ, hkQ, hlQ, hmQ, hnQ, hoQ, hpQ, hqQ, hrQ, hsQ, htQ, huQ, hvQ, hwQ, hxQ, hyQ, hzQ, hAQ, hBQ, hCQ, hDQ, hEQ, hFQ, hGQ, hHQ, hIQ, hJQ, hKQ, hLQ, hMQ, hNQ, hOQ, hPQ, hQQ, hRQ, hSQ, hTQ, hUQ, hVQ, hWQ, hXQ, hYQ, hZQ, iaQ, euQ, etQ, exQ, ibQ, icQ, rBoth_num hf kn]
      · simp only [u_spread, F_spread, aaQ, abQ, acQ, adQ, aeQ, afQ, agQ, ahQ, aiQ, ajQ, akQ, alQ, amQ, anQ, aoQ, apQ, aqQ, arQ, asQ, atQ, auQ, avQ, awQ, axQ, ayQ, azQ, aAQ, aBQ, aCQ, aDQ, aEQ, aFQ, aGQ, aHQ, aIQ, aJQ, aKQ, aLQ, aMQ, aNQ, aOQ, aPQ, aQQ, aRQ, aSQ, aTQ, aUQ, aVQ, aWQ, aXQ, aYQ, aZQ, baQ, bbQ, bcQ, bdQ, beQ, bfQ, bgQ, bhQ, biQ, bjQ, bkQ, blQ, bmQ, bnQ, boQ, bpQ, bqQ, brQ, bsQ, btQ, buQ, bvQ, bwQ, bxQ, byQ, bzQ, bAQ, bBQ, bCQ, bDQ, bEQ, bFQ, bGQ, bHQ, bIQ, bJQ, bKQ, bLQ, bMQ, bNQ, bOQ, bPQ, bQQ, bRQ, bSQ, bTQ, bUQ, bVQ, bWQ, bXQ, bYQ, bZQ, caQ, cbQ, ccQ, cdQ, ceQ, cfQ, cgQ, chQ, ciQ, cjQ, ckQ, clQ, cmQ, cnQ, coQ, cpQ, cqQ, crQ, csQ, ctQ, cuQ, cvQ, cwQ, cxQ, cyQ, czQ, cAQ, cBQ, cCQ, cDQ, cEQ, cFQ, cGQ, cHQ, cIQ, cJQ, cKQ, cLQ, cMQ, cNQ, cOQ, cPQ, cQQ, cRQ, cSQ, cTQ, cUQ, cVQ, cWQ, cXQ, cYQ, cZQ, daQ, dbQ, dcQ, ddQ, deQ, dfQ, dgQ, dhQ, diQ, djQ, dkQ, dlQ, dmQ, dnQ, doQ, dpQ, dqQ, drQ, dsQ, dtQ, duQ, dvQ, dwQ, dxQ, dyQ, dzQ, dAQ, dBQ, dCQ, dDQ, dEQ, dFQ, dGQ, dHQ, dIQ, dJQ, dKQ, dLQ, dMQ, dNQ, dOQ, dPQ, dQQ, dRQ, dSQ, dTQ, dUQ, dVQ, dWQ, dXQ, dYQ, dZQ, eaQ, ebQ, ecQ, edQ, eeQ, efQ, egQ, ehQ, eiQ, ejQ, ekQ, elQ, emQ, enQ, eoQ, epQ, eqQ, erQ, esQ, etQ, euQ, evQ, ewQ, exQ, eyQ, ezQ, eAQ, eBQ, eCQ, eDQ, eEQ, eFQ, eGQ, eHQ, eIQ, eJQ, eKQ, eLQ, eMQ, eNQ, eOQ, ePQ, eQQ, eRQ, eSQ, eTQ, eUQ, eVQ, eWQ, eXQ, eYQ, eZQ, faQ, fbQ, fcQ, fdQ, feQ, ffQ, fgQ, fhQ, fiQ, fjQ, fkQ, flQ, fmQ, fnQ, foQ, fpQ, fqQ, frQ, fsQ, ftQ, fuQ, fvQ, fwQ, fxQ, fyQ, fzQ, fAQ, fBQ, fCQ, fDQ, fEQ, fFQ, fGQ, fHQ, fIQ, fJQ, fKQ, fLQ, fMQ, fNQ, fOQ, fPQ, fQQ, fRQ, fSQ, fTQ, fUQ, fVQ, fWQ, fXQ, fYQ, fZQ, gaQ, gbQ, gcQ, gdQ, geQ, gfQ, ggQ, ghQ, giQ, gjQ, gkQ, glQ, gmQ, gnQ, goQ, gpQ, gqQ, grQ, gsQ, gtQ, guQ, gvQ, gwQ, gxQ, gyQ, gzQ, gAQ, gBQ, gCQ, gDQ, gEQ, gFQ, gGQ, gHQ, gIQ, gJQ, gKQ, gLQ, gMQ, gNQ, gOQ, gPQ, gQQ, gRQ, gSQ, gTQ, gUQ, gVQ, gWQ, gXQ, gYQ, gZQ, haQ, hbQ, hcQ, hdQ, heQ, hfQ, hgQ, hhQ, hiQ, hjQ, hkQ, hlQ, hmQ, hnQ, hoQ, hpQ, hqQ, hrQ, hsQ, htQ, huQ, hvQ, hwQ, hxQ, hyQ, hzQ, hAQ, hBQ, hCQ, hDQ, hEQ, hFQ, hGQ, hHQ, hIQ, hJQ, hKQ, hLQ, hMQ, hNQ, hOQ, hPQ, hQQ, hRQ, hSQ, hTQ, hUQ, hVQ, hWQ, hXQ, hYQ, hZQ, iaQ, euQ, etQ, exQ, ibQ, icQ, rBoth_far hf hr.h1 hr.h2 far_not]
    · refine ⟨m_is_level, rfl, fun L => ?_, fun L => ?_, fun L => ?_, level_fine hr⟩
      · simp only [u_is_level, F_is_level, aaQ, abQ, acQ, adQ, aeQ, afQ, agQ, ahQ, aiQ, ajQ, akQ, alQ, amQ, anQ, aoQ, apQ, aqQ, arQ, asQ, atQ, auQ, avQ, awQ, axQ, ayQ, azQ, aAQ, aBQ, aCQ, aDQ, aEQ, aFQ, aGQ, aHQ, aIQ, aJQ, aKQ, aLQ, aMQ, aNQ, aOQ, aPQ, aQQ, aRQ, aSQ, aTQ, aUQ, aVQ, aWQ, aXQ, aYQ, aZQ, baQ, bbQ, bcQ, bdQ, beQ, bfQ, bgQ, bhQ, biQ, bjQ, bkQ, blQ, bmQ, bnQ, boQ, bpQ, bqQ, brQ, bsQ, btQ, buQ, bvQ, bwQ, bxQ, byQ, bzQ, bAQ, bBQ, bCQ, bDQ, bEQ, bFQ, bGQ, bHQ, bIQ, bJQ, bKQ, bLQ, bMQ, bNQ, bOQ, bPQ, bQQ, bRQ, bSQ, bTQ, bUQ, bVQ, bWQ, bXQ, bYQ, bZQ, caQ, cbQ, ccQ, cdQ, ceQ, cfQ, cgQ, chQ, ciQ, cjQ, ckQ, clQ, cmQ, cnQ, coQ, cpQ, cqQ, crQ, csQ, ctQ, cuQ, cvQ, cwQ, cxQ, cyQ, czQ, cAQ, cBQ, cCQ, cDQ, cEQ, cFQ, cGQ, cHQ, cIQ, cJQ, cKQ, cLQ, cMQ, cNQ, cOQ, cPQ, cQQ, cRQ, cSQ, cTQ, cUQ, cVQ, cWQ, cXQ, cYQ, cZQ, daQ, dbQ, dcQ, ddQ, deQ, dfQ, dgQ, dhQ, diQ, djQ, dkQ, dlQ, dmQ, dnQ, doQ, dpQ, dqQ, drQ, dsQ, dtQ, duQ, dvQ, dwQ, dxQ, dyQ, dzQ, dAQ, dBQ, dCQ, dDQ, dEQ, dFQ, dGQ, dHQ, dIQ, dJQ, dKQ, dLQ, dMQ, dNQ, dOQ, dPQ, dQQ, dRQ, dSQ, dTQ, dUQ, dVQ, dWQ, dXQ, dYQ, dZQ, eaQ, ebQ, ecQ, edQ, eeQ, efQ, egQ, ehQ, eiQ, ejQ, ekQ, elQ, emQ, enQ, eoQ, epQ, eqQ, erQ, esQ, etQ, euQ, evQ, ewQ, exQ, eyQ, ezQ, eAQ, eBQ, eCQ, eDQ, eEQ, eFQ, eGQ, eHQ, eIQ, eJQ, eKQ, eLQ, eMQ, eNQ, eOQ, ePQ, eQQ, eRQ, eSQ, eTQ, eUQ, eVQ, eWQ, eXQ, eYQ, eZQ, faQ, fbQ, fcQ, fdQ, feQ, ffQ, fgQ, fhQ, fiQ, fjQ, fkQ, flQ, fmQ, fnQ, foQ, fpQ, fqQ, frQ, fsQ, ftQ, fuQ, fvQ, fwQ, fxQ, fyQ, fzQ, fAQ, fBQ, fCQ, fDQ, fEQ, fFQ, fGQ, fHQ, fIQ, fJQ, fKQ, fLQ, fMQ, fNQ, fOQ, fPQ, fQQ, fRQ, fSQ, fTQ, fUQ, fVQ, fWQ, fXQ, fYQ, fZQ, gaQ, gbQ, gcQ, gdQ, geQ, gfQ, ggQ, ghQ, giQ, gjQ, gkQ, glQ, gmQ, gnQ, goQ, gpQ, gqQ, grQ, gsQ, gtQ, guQ, gvQ, gwQ, gxQ, gyQ, gzQ, gAQ, gBQ, gCQ, gDQ, gEQ, gFQ, gGQ, gHQ, gIQ, gJQ, gKQ, gLQ, gMQ, gNQ, gOQ, gPQ, gQQ, gRQ, gSQ, gTQ, gUQ, gVQ, gWQ, gXQ, gYQ, gZQ, haQ, hbQ, hcQ, hdQ, heQ, hfQ, hgQ, hhQ, hiQ, hjQ, hkQ, hlQ, hmQ, hnQ, hoQ, hpQ, hqQ, hrQ, hsQ, htQ, huQ, hvQ, hwQ, hxQ, hyQ, hzQ, hAQ, hBQ, hCQ, hDQ, hEQ, hFQ, hGQ, hHQ, hIQ, hJQ, hKQ, hLQ, hMQ, hNQ, hOQ, hPQ, hQQ, hRQ, hSQ, hTQ, hUQ, hVQ, hWQ, hXQ, hYQ, hZQ, iaQ, euQ, etQ, exQ, ibQ, icQ, rBoth_row kb]
      · simp only [u_is_level, F_is_level, aaQ, abQ, acQ, adQ, aeQ, afQ, agQ, ahQ, aiQ, ajQ, akQ, alQ, amQ, anQ, aoQ, apQ, aqQ, arQ, asQ, atQ, auQ, avQ, awQ, axQ, ayQ, azQ, aAQ, aBQ, aCQ, aDQ, aEQ, aFQ, aGQ, aHQ, aIQ, aJQ, aKQ, aLQ, aMQ, aNQ, aOQ, aPQ, aQQ, aRQ, aSQ, aTQ, aUQ, aVQ, aWQ, aXQ, aYQ, aZQ, baQ, bbQ, bcQ, bdQ, beQ, bfQ, bgQ, bhQ, biQ, bjQ, bkQ, blQ, bmQ, bnQ, boQ, bpQ, bqQ, brQ, bsQ, btQ, buQ, bvQ, bwQ, bxQ, byQ, bzQ, bAQ, bBQ, bCQ, bDQ, bEQ, bFQ, bGQ, bHQ, bIQ, bJQ, bKQ, bLQ, bMQ, bNQ, bOQ, bPQ, bQQ, bRQ, bSQ, bTQ, bUQ, bVQ, bWQ, bXQ, bYQ, bZQ, caQ, cbQ, ccQ, cdQ, ceQ, cfQ, cgQ, chQ, ciQ, cjQ, ckQ, clQ, cmQ, cnQ, coQ, cpQ, cqQ, crQ, csQ, ctQ, cuQ, cvQ, cwQ, cxQ, cyQ, czQ, cAQ, cBQ, cCQ, cDQ, cEQ, cFQ, cGQ, cHQ, cIQ, cJQ, cKQ, cLQ, cMQ, cNQ, cOQ, cPQ, cQQ, cRQ, cSQ, cTQ, cUQ, cVQ, cWQ, cXQ, cYQ, cZQ, daQ, dbQ, dcQ, ddQ, deQ, dfQ, dgQ, dhQ, diQ, djQ, dkQ, dlQ, dmQ, dnQ, doQ, dpQ, dqQ, drQ, dsQ, dtQ, duQ, dvQ, dwQ, dxQ, dyQ, dzQ, dAQ, dBQ, dCQ, dDQ, dEQ, dFQ, dGQ, dHQ, dIQ, dJQ, dKQ, dLQ, dMQ, dNQ, dOQ, dPQ, dQQ, dRQ, dSQ, dTQ, dUQ, dVQ, dWQ, dXQ, dYQ, dZQ, eaQ, ebQ, ecQ, edQ, eeQ, efQ, egQ, ehQ, eiQ, ejQ, ekQ, elQ, emQ, enQ, eoQ, epQ, eqQ, erQ, esQ, etQ, euQ, evQ, ewQ, exQ, eyQ, ezQ, eAQ, eBQ, eCQ, eDQ, eEQ, eFQ, eGQ, eHQ, eIQ, eJQ, eKQ, eLQ, eMQ, eNQ, eOQ, ePQ, eQQ, eRQ, eSQ, eTQ, eUQ, eVQ, eWQ, eXQ, eYQ, eZQ, faQ, fbQ, fcQ, fdQ, feQ, ffQ, fgQ, fhQ, fiQ, fjQ, fkQ, flQ, fmQ, fnQ, foQ, fpQ, fqQ, frQ, fsQ, ftQ, fuQ, fvQ, fwQ, fxQ, fyQ, fzQ, fAQ, fBQ, fCQ, fDQ, fEQ, fFQ, fGQ, fHQ, fIQ, fJQ, fKQ, fLQ, fMQ, fNQ, fOQ, fPQ, fQQ, fRQ, fSQ, fTQ, fUQ, fVQ, fWQ, fXQ, fYQ, fZQ, gaQ, gbQ, gcQ, gdQ, geQ, gfQ, ggQ, ghQ, giQ, gjQ, gkQ, glQ, gmQ, gnQ, goQ, gpQ, gqQ, grQ, gsQ, gtQ, guQ, gvQ, gwQ, gxQ, gyQ, gzQ, gAQ, gBQ, gCQ, gDQ, gEQ, gFQ, gGQ, gHQ, gIQ, gJQ, gKQ, gLQ, gMQ, gNQ, gOQ, gPQ, gQQ, gRQ, gSQ, gTQ, gUQ, gVQ, gWQ, gXQ, gYQ, gZQ, haQ, hbQ, hcQ, hdQ, heQ, hfQ, hgQ, hhQ, hiQ, hjQ, hkQ, hlQ, hmQ, hnQ, hoQ, hpQ, hqQ, hrQ, hsQ, htQ, huQ, hvQ, hwQ, hxQ, hyQ, hzQ, hAQ, hBQ, hCQ, hDQ, hEQ, hFQ, hGQ, hHQ, hIQ, hJQ, hKQ, hLQ, hMQ, hNQ, hOQ, hPQ, hQQ, hRQ, hSQ, hTQ, hUQ, hVQ, hWQ, hXQ, hYQ, hZQ, iaQ, euQ, etQ, exQ, ibQ, icQ, rBoth_num hf kn]
      · simp only [u_is_level, F_is_level, aaQ, abQ, acQ, adQ, aeQ, afQ, agQ, ahQ, aiQ, ajQ, akQ, alQ, amQ, anQ, aoQ, apQ, aqQ, arQ, asQ, atQ, auQ, avQ, awQ, axQ, ayQ, azQ, aAQ, aBQ, aCQ, aDQ, aEQ, aFQ, aGQ, aHQ, aIQ, aJQ, aKQ, aLQ, aMQ, aNQ, aOQ, aPQ, aQQ, aRQ, aSQ, aTQ, aUQ, aVQ, aWQ, aXQ, aYQ, aZQ, baQ, bbQ, bcQ, bdQ, beQ, bfQ, bgQ, bhQ, biQ, bjQ, bkQ, blQ, bmQ, bnQ, boQ, bpQ, bqQ, brQ, bsQ, btQ, buQ, bvQ, bwQ, bxQ, byQ, bzQ, bAQ, bBQ, bCQ, bDQ, bEQ, bFQ, bGQ, bHQ, bIQ, bJQ, bKQ, bLQ, bMQ, bNQ, bOQ, bPQ, bQQ, bRQ, bSQ, bTQ, bUQ, bVQ, bWQ, bXQ, bYQ, bZQ, caQ, cbQ, ccQ, cdQ, ceQ, cfQ, cgQ, chQ, ciQ, cjQ, ckQ, clQ, cmQ, cnQ, coQ, cpQ, cqQ, crQ, csQ, ctQ, cuQ, cvQ, cwQ, cxQ, cyQ, czQ, cAQ, cBQ, cCQ, cDQ, cEQ, cFQ, cGQ, cHQ, cIQ, cJQ, cKQ, cLQ, cMQ, cNQ, cOQ, cPQ, cQQ, cRQ, cSQ, cTQ, cUQ, cVQ, cWQ, cXQ, cYQ, cZQ, daQ, dbQ, dcQ, ddQ, deQ, dfQ, dgQ, dhQ, diQ, djQ, dkQ, dlQ, dmQ, dnQ, doQ, dpQ, dqQ, drQ, dsQ, dtQ, duQ, dvQ, dwQ, dxQ, dyQ, dzQ, dAQ, dBQ, dCQ, dDQ, dEQ, dFQ, dGQ, dHQ, dIQ, dJQ, dKQ, dLQ, dMQ, dNQ, dOQ, dPQ, dQQ, dRQ, dSQ, dTQ, dUQ, dVQ, dWQ, dXQ, dYQ, dZQ, eaQ, ebQ, ecQ, edQ, eeQ, efQ, egQ, ehQ, eiQ, ejQ, ekQ, elQ, emQ, enQ, eoQ, epQ, eqQ, erQ, esQ, etQ, euQ, evQ, ewQ, exQ, eyQ, ezQ, eAQ, eBQ, eCQ, eDQ, eEQ, eFQ, eGQ, eHQ, eIQ, eJQ, eKQ, eLQ, eMQ, eNQ, eOQ, ePQ, eQQ, eRQ, eSQ, eTQ, eUQ, eVQ, eWQ, eXQ, eYQ, eZQ, faQ, fbQ, fcQ, fdQ, feQ, ffQ, fgQ, fhQ, fiQ, fjQ, fkQ, flQ, fmQ, fnQ, foQ, fpQ, fqQ, frQ, fsQ, ftQ, fuQ, fvQ, fwQ, fxQ, fyQ, fzQ, fAQ, fBQ, fCQ, fDQ, fEQ, fFQ, fGQ, fHQ, fIQ, fJQ, fKQ, fLQ, fMQ, fNQ, fOQ, fPQ, fQQ, fRQ, fSQ, fTQ, fUQ, fVQ, fWQ, fXQ, fYQ, fZQ, gaQ, gbQ, gcQ, gdQ, geQ, gfQ, ggQ, ghQ, giQ, gjQ, gkQ, glQ, gmQ, gnQ, goQ, gpQ, gqQ, grQ, gsQ, gtQ, guQ, gvQ, gwQ, gxQ, gyQ, gzQ, gAQ, gBQ, gCQ, gDQ, gEQ, gFQ, gGQ, gHQ, gIQ, gJQ, gKQ, gLQ, gMQ, gNQ, gOQ, gPQ, gQQ, gRQ, gSQ, gTQ, gUQ, gVQ, gWQ, gXQ, gYQ, gZQ, haQ, hbQ, hcQ, hdQ, heQ, hfQ, hgQ, hhQ, hiQ, hjQ, hkQ, hlQ, hmQ, hnQ, hoQ, hpQ, hqQ, hrQ, hsQ, htQ, huQ, hvQ, hwQ, hxQ, hyQ, hzQ, hAQ, hBQ, hCQ, hDQ, hEQ, hFQ, hGQ, hHQ, hIQ, hJQ, hKQ, hLQ, hMQ, hNQ, hOQ, hPQ, hQQ, hRQ, hSQ, hTQ, hUQ, hVQ, hWQ, hXQ, hYQ, hZQ, iaQ, euQ, etQ, exQ, ibQ, icQ, rBoth_far hf hr.h1 hr.h2 far_not]
    · refine ⟨m_classes, rfl, fun L => ?_, fun L => ?_, fun L => ?_, classes_fine hr⟩
      · simp only [u_classes, F_classes, aaQ, abQ, acQ, adQ, aeQ, afQ, agQ, ahQ, aiQ, ajQ, akQ, alQ, amQ, anQ, aoQ, apQ, aqQ, arQ, asQ, atQ, auQ, avQ, awQ, axQ, ayQ, azQ, aAQ, aBQ, aCQ, aDQ, aEQ, aFQ, aGQ, aHQ, aIQ, aJQ, aKQ, aLQ, aMQ, aNQ, aOQ, aPQ, aQQ, aRQ, aSQ, aTQ, aUQ, aVQ, aWQ, aXQ, aYQ, aZQ, baQ, bbQ, bcQ, bdQ, beQ, bfQ, bgQ, bhQ, biQ, bjQ, bkQ, blQ, bmQ, bnQ, boQ, bpQ, bqQ, brQ, bsQ, btQ, buQ, bvQ, bwQ, bxQ, byQ, bzQ, bAQ, bBQ, bCQ, bDQ, bEQ, bFQ, bGQ, bHQ, bIQ, bJQ, bKQ, bLQ, bMQ, bNQ, bOQ, bPQ, bQQ, bRQ, bSQ, bTQ, bUQ, bVQ, bWQ, bXQ, bYQ, bZQ, caQ, cbQ, ccQ, cdQ, ceQ, cfQ, cgQ, chQ, ciQ, cjQ, ckQ, clQ, cmQ, cnQ, coQ, cpQ, cqQ, crQ, csQ, ctQ, cuQ, cvQ, cwQ, cxQ, cyQ, czQ, cAQ, cBQ, cCQ, cDQ, cEQ, cFQ, cGQ, cHQ, cIQ, cJQ, cKQ, cLQ, cMQ, cNQ, cOQ, cPQ, cQQ, cRQ, cSQ, cTQ, cUQ, cVQ, cWQ, cXQ, cYQ, cZQ, daQ, dbQ, dcQ, ddQ, deQ, dfQ, dgQ, dhQ, diQ, djQ, dkQ, dlQ, dmQ, dnQ, doQ, dpQ, dqQ, drQ, dsQ, dtQ, duQ, dvQ, dwQ, dxQ, dyQ, dzQ, dAQ, dBQ, dCQ, dDQ, dEQ, dFQ, dGQ, dHQ, dIQ, dJQ, dKQ, dLQ, dMQ, dNQ, dOQ, dPQ, dQQ, dRQ, dSQ, dTQ, dUQ, dVQ, dWQ, dXQ, dYQ, dZQ, eaQ, ebQ, ecQ, edQ, eeQ, efQ, egQ, ehQ, eiQ, ejQ, ekQ, elQ, emQ, enQ, eoQ, epQ, eqQ, erQ, esQ, etQ, euQ, evQ, ewQ, exQ, eyQ, ezQ, eAQ, eBQ, eCQ, eDQ, eEQ, eFQ, eGQ, eHQ, eIQ, eJQ, eKQ, eLQ, eMQ, eNQ, eOQ, ePQ, eQQ, eRQ, eSQ, eTQ, eUQ, eVQ, eWQ, eXQ, eYQ, eZQ, faQ, fbQ, fcQ, fdQ, feQ, ffQ, fgQ, fhQ, fiQ, fjQ, fkQ, flQ, fmQ, fnQ, foQ, fpQ, fqQ, frQ, fsQ, ftQ, fuQ, fvQ, fwQ, fxQ, fyQ, fzQ, fAQ, fBQ, fCQ, fDQ, fEQ, fFQ, fGQ, fHQ, fIQ, fJQ, fKQ, fLQ, fMQ, fNQ, fOQ, fPQ, fQQ, fRQ, fSQ, fTQ, fUQ, fVQ, fWQ, fXQ, fYQ, fZQ, gaQ, gbQ, gcQ, gdQ, geQ, gfQ, ggQ, ghQ, giQ, gjQ, gkQ, glQ, gmQ, gnQ, goQ, gpQ, gqQ, grQ, gsQ, gtQ, guQ, gvQ, gwQ, gxQ, gyQ, gzQ, gAQ, gBQ, gCQ, gDQ, gEQ, gFQ, gGQ, gHQ, gIQ, gJQ, gKQ, gLQ, gMQ, gNQ, gOQ, gPQ, gQQ, gRQ, gSQ, gTQ, gUQ, gVQ, gWQ, gXQ, gYQ, gZQ, haQ, hbQ, hcQ, hdQ, heQ, hfQ, hgQ, hhQ, hiQ, hjQ, hkQ, hlQ, hmQ, hnQ, hoQ, hpQ, hqQ, hrQ, hsQ, htQ, huQ, hvQ, hwQ, hxQ, hyQ, hzQ, hAQ, hBQ, hCQ, hDQ, hEQ, hFQ, hGQ, hHQ, hIQ, hJQ, hKQ, hLQ, hMQ, hNQ, hOQ, hPQ, hQQ, hRQ, hSQ, hTQ, hUQ, hVQ, hWQ, hXQ, hYQ, hZQ, iaQ, euQ, etQ, exQ, ibQ, icQ, rBoth_row kb]
      · simp only [u_classes, F_classes, aaQ, abQ, acQ, adQ, aeQ, afQ, agQ, ahQ, aiQ, ajQ, akQ, alQ, amQ, anQ, aoQ, apQ, aqQ, arQ, asQ, atQ, auQ, avQ, awQ, axQ, ayQ, azQ, aAQ, aBQ, aCQ, aDQ, aEQ, aFQ, aGQ, aHQ, aIQ, aJQ, aKQ, aLQ, aMQ, aNQ, aOQ, aPQ, aQQ, aRQ, aSQ, aTQ, aUQ, aVQ, aWQ, aXQ, aYQ, aZQ, baQ, bbQ, bcQ, bdQ, beQ, bfQ, bgQ, bhQ, biQ, bjQ, bkQ, blQ, bmQ, bnQ, boQ, bpQ, bqQ, brQ, bsQ, btQ, buQ, bvQ, bwQ, bxQ, byQ, bzQ, bAQ, bBQ, bCQ, bDQ, bEQ, bFQ, bGQ, bHQ, bIQ, bJQ, bKQ, bLQ, bMQ, bNQ, bOQ, bPQ, bQQ, bRQ, bSQ, bTQ, bUQ, bVQ, bWQ, bXQ, bYQ, bZQ, caQ, cbQ, ccQ, cdQ, ceQ, cfQ, cgQ, chQ, ciQ, cjQ, ckQ, clQ, cmQ, cnQ, coQ, cpQ, cqQ, crQ, csQ, ctQ, cuQ, cvQ, cwQ, cxQ, cyQ, czQ, cAQ, cBQ, cCQ, cDQ, cEQ, cFQ, cGQ, cHQ, cIQ, cJQ, cKQ, cLQ, cMQ, cNQ, cOQ, cPQ, cQQ, cRQ, cSQ, cTQ, cUQ, cVQ, cWQ, cXQ, cYQ, cZQ, daQ, dbQ, dcQ, ddQ, deQ, dfQ, dgQ, dhQ, diQ, djQ, dkQ, dlQ, dmQ, dnQ, doQ, dpQ, dqQ, drQ, dsQ, dtQ, duQ, dvQ, dwQ, dxQ, dyQ, dzQ, dAQ, dBQ, dCQ, dDQ, dEQ, dFQ, dGQ, dHQ, dIQ, dJQ, dKQ, dLQ, dMQ, dNQ, dOQ, dPQ, dQQ, dRQ, dSQ, dTQ, dUQ, dVQ, dWQ, dXQ, dYQ, dZQ, eaQ, ebQ, ecQ, edQ, eeQ, efQ, egQ, ehQ, eiQ, ejQ, ekQ, elQ, emQ, enQ, eoQ, epQ, eqQ, erQ, esQ, etQ, euQ, evQ, ewQ, exQ, eyQ, ezQ, eAQ, eBQ, eCQ, eDQ, eEQ, eFQ, eGQ, eHQ, eIQ, eJQ, eKQ, eLQ, eMQ, eNQ, eOQ, ePQ, eQQ, eRQ, eSQ, eTQ, eUQ, eVQ, eWQ, eXQ, eYQ, eZQ, faQ, fbQ, fcQ, fdQ, feQ, ffQ, fgQ, fhQ, fiQ, fjQ, fkQ, flQ, fmQ, fnQ, foQ, fpQ, fqQ, frQ, fsQ, ftQ, fuQ, fvQ, fwQ, fxQ, fyQ, fzQ, fAQ, fBQ, fCQ, fDQ, fEQ, fFQ, fGQ, fHQ, fIQ, fJQ, fKQ, fLQ, fMQ, fNQ, fOQ, fPQ, fQQ, fRQ, fSQ, fTQ, fUQ, fVQ, fWQ, fXQ, fYQ, fZQ, gaQ, gbQ, gcQ, gdQ, geQ, gfQ, ggQ, ghQ, giQ, gjQ, gkQ, glQ, gmQ, gnQ, goQ, gpQ, gqQ, grQ, gsQ, gtQ, guQ, gvQ, gwQ, gxQ, gyQ, gzQ, gAQ, gBQ, gCQ, gDQ, gEQ, gFQ, gGQ, gHQ, gIQ, gJQ, gKQ, gLQ, gMQ, gNQ, gOQ, gPQ, gQQ, gRQ, gSQ, gTQ, gUQ, gVQ, gWQ, gXQ, gYQ, gZQ, haQ, hbQ, hcQ, hdQ, heQ, hfQ, hgQ, hhQ, hiQ, hjQ, hkQ, hlQ, hmQ, hnQ, hoQ, hpQ, hqQ, hrQ, hsQ, htQ, huQ, hvQ, hwQ, hxQ, hyQ, hzQ, hAQ, hBQ, hCQ, hDQ, hEQ, hFQ, hGQ, hHQ, hIQ, hJQ, hKQ, hLQ, hMQ, hNQ, hOQ, hPQ, hQQ, hRQ, hSQ, hTQ, hUQ, hVQ, hWQ, hXQ, hYQ, hZQ, iaQ, euQ, etQ, exQ, ibQ, icQ, rBoth_num hf kn]
      · simp only [u_classes, F_classes, aaQ, abQ, acQ, adQ, aeQ, afQ, agQ, ahQ, aiQ, ajQ, akQ, alQ, amQ, anQ, aoQ, apQ, aqQ, arQ, asQ, atQ, auQ, avQ, awQ, axQ, ayQ, azQ, aAQ, aBQ, aCQ, aDQ, aEQ, aFQ, aGQ, aHQ, aIQ, aJQ, aKQ, aLQ, aMQ, aNQ, aOQ, aPQ, aQQ, aRQ, aSQ, aTQ, aUQ, aVQ, aWQ, aXQ, aYQ, aZQ, baQ, bbQ, bcQ, bdQ, beQ, bfQ, bgQ, bhQ, biQ, bjQ, bkQ, blQ, bmQ, bnQ, boQ, bpQ, bqQ, brQ, bsQ, btQ, buQ, bvQ, bwQ, bxQ, byQ, bzQ, bAQ, bBQ, bCQ, bDQ, bEQ, bFQ, bGQ, bHQ, bIQ, bJQ, bKQ, bLQ, bMQ, bNQ, bOQ, bPQ, bQQ, bRQ, bSQ, bTQ, bUQ, bVQ, bWQ, bXQ, bYQ, bZQ, caQ, cbQ, ccQ, cdQ, ceQ, cfQ, cgQ, chQ, ciQ, cjQ, ckQ, clQ, cmQ, cnQ, coQ, cpQ, cqQ, crQ, csQ, ctQ, cuQ, cvQ, cwQ, cxQ, cyQ, czQ, cAQ, cBQ, cCQ, cDQ, cEQ, cFQ, cGQ, cHQ, cIQ, cJQ, cKQ, cLQ, cMQ, cNQ, cOQ, cPQ, cQQ, cRQ, cSQ, cTQ, cUQ, cVQ, cWQ, cXQ, cYQ, cZQ, daQ, dbQ, dcQ, ddQ, deQ, dfQ, dgQ, dhQ, diQ, djQ, dkQ, dlQ, dmQ, dnQ, doQ, dpQ, dqQ, drQ, dsQ, dtQ, duQ, dvQ, dwQ, dxQ, dyQ, dzQ, dAQ, dBQ, dCQ, dDQ, dEQ, dFQ, dGQ, dHQ, dIQ, dJQ, dKQ, dLQ, dMQ, dNQ, dOQ, dPQ, dQQ, dRQ, dSQ, dTQ, dUQ, dVQ, dWQ, dXQ, dYQ, dZQ, eaQ, ebQ, ecQ, edQ, eeQ, efQ, egQ, ehQ, eiQ, ejQ, ekQ, elQ, emQ, enQ, eoQ, epQ, eqQ, erQ, esQ, etQ, euQ, evQ, ewQ, exQ, eyQ, ezQ, eAQ, eBQ, eCQ, eDQ, eEQ, eFQ, eGQ, eHQ, eIQ, eJQ, eKQ, eLQ, eMQ, eNQ, eOQ, ePQ, eQQ, eRQ, eSQ, eTQ, eUQ, eVQ, eWQ, eXQ, eYQ, eZQ, faQ, fbQ, fcQ, fdQ, feQ, ffQ, fgQ, fhQ, fiQ, fjQ, fkQ, flQ, fmQ, fnQ, foQ, fpQ, fqQ, frQ, fsQ, ftQ, fuQ, fvQ, fwQ, fxQ, fyQ, fzQ, fAQ, fBQ, fCQ, fDQ, fEQ, fFQ, fGQ, fHQ, fIQ, fJQ, fKQ, fLQ, fMQ, fNQ, fOQ, fPQ, fQQ, fRQ, fSQ, fTQ, fUQ, fVQ, fWQ, fXQ, fYQ, fZQ, gaQ, gbQ, gcQ, gdQ, geQ, gfQ, ggQ, ghQ, giQ, gjQ, gkQ, glQ, gmQ, gnQ, goQ, gpQ, gqQ, grQ, gsQ, gtQ, guQ, gvQ, gwQ, gxQ, gyQ, gzQ, gAQ, gBQ, gCQ, gDQ, gEQ, gFQ, gGQ, gHQ, gIQ, gJQ, gKQ, gLQ, gMQ, gNQ, gOQ, gPQ, gQQ, gRQ, gSQ, gTQ, gUQ, gVQ, gWQ, gXQ, gYQ, gZQ, haQ, hbQ, hcQ, hdQ, heQ, hfQ, hgQ, hhQ, hiQ, hjQ, hkQ, hlQ, hmQ, hnQ, hoQ, hpQ, hqQ, hrQ, hsQ, htQ, huQ, hvQ, hwQ, hxQ, hyQ, hzQ, hAQ, hBQ, hCQ, hDQ, hEQ, hFQ, hGQ, hHQ, hIQ, hJQ, hKQ, hLQ, hMQ, hNQ, hOQ, hPQ, hQQ, hRQ, hSQ, hTQ, hUQ, hVQ, hWQ, hXQ, hYQ, hZQ, iaQ, euQ, etQ, exQ, ibQ, icQ, rBoth_far hf hr.h1 hr.h2 far_not]
  have cv : ∀ (y8 : Option D) fl L, eCallV 6 fns4 fl [x0, some (.int h), some (rowD r), some bad, some num, some (rowD (r ++ [h])), some (.fn c), x7, y8, x9, x10] L = kc 2 m [] (fl [x0, some (.int h), some (rowD r), some bad, some num, some (rowD (r ++ [h])), some (.fn c), x7, y8, x9, x10] L) := fun y8 fl L => callV_at rfl hm
  have mN := @met_numc num sN tN
  obtain ⟨oN, wN, rN, aN⟩ := tN
  have ne := gNe_strs (L := A ++ [.lst (([("row" : Str), sN, "row", "fine"]).map .str)]) (m := A.length) z_get fun s hs => by
    simp only [List.mem_cons, List.not_mem_nil, or_false] at hs
    have w1 : PyData.strOk ("row" : Str) = true := by decide +kernel
    have w2 : PyData.strOk ("fine" : Str) = true := by decide +kernel
    rcases hs with rfl | rfl | rfl | rfl <;> assumption
  simp only [List.map_cons, List.map_nil] at ne
  unfold B1_l_right four
  simp only [aaQ, abQ, acQ, adQ, aeQ, afQ, agQ, ahQ, aiQ, ajQ, akQ, alQ, amQ, anQ, aoQ, apQ, aqQ, arQ, asQ, atQ, auQ, avQ, awQ, axQ, ayQ, azQ, aAQ, aBQ, aCQ, aDQ, aEQ, aFQ, aGQ, aHQ, aIQ, aJQ, aKQ, aLQ, aMQ, aNQ, aOQ, aPQ, aQQ, aRQ, aSQ, aTQ, aUQ, aVQ, aWQ, aXQ, aYQ, aZQ, baQ, bbQ, bcQ, bdQ, beQ, bfQ, bgQ, bhQ, biQ, bjQ, bkQ, blQ, bmQ, bnQ, boQ, bpQ, bqQ, brQ, bsQ, btQ, buQ, bvQ, bwQ, bxQ, byQ, bzQ, bAQ, bBQ, bCQ, bDQ, bEQ, bFQ, bGQ, bHQ, bIQ, bJQ, bKQ, bLQ, bMQ, bNQ, bOQ, bPQ, bQQ, bRQ, bSQ, bTQ, bUQ, bVQ, bWQ, bXQ, bYQ, bZQ, caQ, cbQ, ccQ, cdQ, ceQ, cfQ, cgQ, chQ, ciQ, cjQ, ckQ, clQ, cmQ, cnQ, coQ, cpQ, cqQ, crQ, csQ, ctQ, cuQ, cvQ, cwQ, cxQ, cyQ, czQ, cAQ, cBQ, cCQ, cDQ, cEQ, cFQ, cGQ, cHQ, cIQ, cJQ, cKQ, cLQ, cMQ, cNQ, cOQ, cPQ, cQQ, cRQ, cSQ, cTQ, cUQ, cVQ, cWQ, cXQ, cYQ, cZQ, daQ, dbQ, dcQ, ddQ, deQ, dfQ, dgQ, dhQ, diQ, djQ, dkQ, dlQ, dmQ, dnQ, doQ, dpQ, dqQ, drQ, dsQ, dtQ, duQ, dvQ, dwQ, dxQ, dyQ, dzQ, dAQ, dBQ, dCQ, dDQ, dEQ, dFQ, dGQ, dHQ, dIQ, dJQ, dKQ, dLQ, dMQ, dNQ, dOQ, dPQ, dQQ, dRQ, dSQ, dTQ, dUQ, dVQ, dWQ, dXQ, dYQ, dZQ, eaQ, ebQ, ecQ, edQ, eeQ, efQ, egQ, ehQ, eiQ, ejQ, ekQ, elQ, emQ, enQ, eoQ, epQ, eqQ, erQ, esQ, etQ, euQ, evQ, ewQ, exQ, eyQ, ezQ, eAQ, eBQ, eCQ, eDQ, eEQ, eFQ, eGQ, eHQ, eIQ, eJQ, eKQ, eLQ, eMQ, eNQ, eOQ, ePQ, eQQ, eRQ, eSQ, eTQ, eUQ, eVQ, eWQ, eXQ, eYQ, eZQ, faQ, fbQ, fcQ, fdQ, feQ, ffQ, fgQ, fhQ, fiQ, fjQ, fkQ, flQ, fmQ, fnQ, foQ, fpQ, fqQ, frQ, fsQ, ftQ, fuQ, fvQ, fwQ, fxQ, fyQ, fzQ, fAQ, fBQ, fCQ, fDQ, fEQ, fFQ, fGQ, fHQ, fIQ, fJQ, fKQ, fLQ, fMQ, fNQ, fOQ, fPQ, fQQ, fRQ, fSQ, fTQ, fUQ, fVQ, fWQ, fXQ, fYQ, fZQ, gaQ, gbQ, gcQ, gdQ, geQ, gfQ, ggQ, ghQ, giQ, gjQ, gkQ, glQ, gmQ, gnQ, goQ, gpQ, gqQ, grQ, gsQ, gtQ, guQ, gvQ, gwQ, gxQ, gyQ, gzQ, gAQ, gBQ, gCQ, gDQ, gEQ, gFQ, gGQ, gHQ, gIQ, gJQ, gKQ, gLQ, gMQ, gNQ, gOQ, gPQ, gQQ, gRQ, gSQ, gTQ, gUQ, gVQ, gWQ, gXQ, gYQ, gZQ, haQ, hbQ, hcQ, hdQ, heQ, hfQ, hgQ, hhQ, hiQ, hjQ, hkQ, hlQ, hmQ, hnQ, hoQ, hpQ, hqQ, hrQ, hsQ, htQ, huQ, hvQ, hwQ, hxQ, hyQ, hzQ, hAQ, hBQ, hCQ, hDQ, hEQ, hFQ, hGQ, hHQ, hIQ, hJQ, hKQ, hLQ, hMQ, hNQ, hOQ, hPQ, hQQ, hRQ, hSQ, hTQ, hUQ, hVQ, hWQ, hXQ, hYQ, hZQ, iaQ, euQ, etQ, exQ, ibQ, icQ, cv, c1, c2, c3, c4, met_rowc, mN, met_okc, z_isL, z_app, List.length_cons, List.length_nil, List.cons_append, List.nil_append, Nat.zero_add, Nat.reduceAdd, Nat.reduceLT, Nat.reduceLeDiff, rN, aN, ne, Bool.false_eq_true, if_false]
theorem seq_fns {ρ : Env'} {L : Sto} : I1_l_right ρ L = .ok ⟨[.fn "sizes", .fn "spread", .fn "is_level", .fn "classes"], []⟩ L := by
  unfold I1_l_right
  simp only [aaQ, abQ, acQ, adQ, aeQ, afQ, agQ, ahQ, aiQ, ajQ, akQ, alQ, amQ, anQ, aoQ, apQ, aqQ, arQ, asQ, atQ, auQ, avQ, awQ, axQ, ayQ, azQ, aAQ, aBQ, aCQ, aDQ, aEQ, aFQ, aGQ, aHQ, aIQ, aJQ, aKQ, aLQ, aMQ, aNQ, aOQ, aPQ, aQQ, aRQ, aSQ, aTQ, aUQ, aVQ, aWQ, aXQ, aYQ, aZQ, baQ, bbQ, bcQ, bdQ, beQ, bfQ, bgQ, bhQ, biQ, bjQ, bkQ, blQ, bmQ, bnQ, boQ, bpQ, bqQ, brQ, bsQ, btQ, buQ, bvQ, bwQ, bxQ, byQ, bzQ, bAQ, bBQ, bCQ, bDQ, bEQ, bFQ, bGQ, bHQ, bIQ, bJQ, bKQ, bLQ, bMQ, bNQ, bOQ, bPQ, bQQ, bRQ, bSQ, bTQ, bUQ, bVQ, bWQ, bXQ, bYQ, bZQ, caQ, cbQ, ccQ, cdQ, ceQ, cfQ, cgQ, chQ, ciQ, cjQ, ckQ, clQ, cmQ, cnQ, coQ, cpQ, cqQ, crQ, csQ, ctQ, cuQ, cvQ, cwQ, cxQ, cyQ, czQ, cAQ, cBQ, cCQ, cDQ, cEQ, cFQ, cGQ, cHQ, cIQ, cJQ, cKQ, cLQ, cMQ, cNQ, cOQ, cPQ, cQQ, cRQ, cSQ, cTQ, cUQ, cVQ, cWQ, cXQ, cYQ, cZQ, daQ, dbQ, dcQ, ddQ, deQ, dfQ, dgQ, dhQ, diQ, djQ, dkQ, dlQ, dmQ, dnQ, doQ, dpQ, dqQ, drQ, dsQ, dtQ, duQ, dvQ, dwQ, dxQ, dyQ, dzQ, dAQ, dBQ, dCQ, dDQ, dEQ, dFQ, dGQ, dHQ, dIQ, dJQ, dKQ, dLQ, dMQ, dNQ, dOQ, dPQ, dQQ, dRQ, dSQ, dTQ, dUQ, dVQ, dWQ, dXQ, dYQ, dZQ, eaQ, ebQ, ecQ, edQ, eeQ, efQ, egQ, ehQ, eiQ, ejQ, ekQ, elQ, emQ, enQ, eoQ, epQ, eqQ, erQ, esQ, etQ, euQ, evQ, ewQ, exQ, eyQ, ezQ, eAQ, eBQ, eCQ, eDQ, eEQ, eFQ, eGQ, eHQ, eIQ, eJQ, eKQ, eLQ, eMQ, eNQ, eOQ, ePQ, eQQ, eRQ, eSQ, eTQ, eUQ, eVQ, eWQ, eXQ, eYQ, eZQ, faQ, fbQ, fcQ, fdQ, feQ, ffQ, fgQ, fhQ, fiQ, fjQ, fkQ, flQ, fmQ, fnQ, foQ, fpQ, fqQ, frQ, fsQ, ftQ, fuQ, fvQ, fwQ, fxQ, fyQ, fzQ, fAQ, fBQ, fCQ, fDQ, fEQ, fFQ, fGQ, fHQ, fIQ, fJQ, fKQ, fLQ, fMQ, fNQ, fOQ, fPQ, fQQ, fRQ, fSQ, fTQ, fUQ, fVQ, fWQ, fXQ, fYQ, fZQ, gaQ, gbQ, gcQ, gdQ, geQ, gfQ, ggQ, ghQ, giQ, gjQ, gkQ, glQ, gmQ, gnQ, goQ, gpQ, gqQ, grQ, gsQ, gtQ, guQ, gvQ, gwQ, gxQ, gyQ, gzQ, gAQ, gBQ, gCQ, gDQ, gEQ, gFQ, gGQ, gHQ, gIQ, gJQ, gKQ, gLQ, gMQ, gNQ, gOQ, gPQ, gQQ, gRQ, gSQ, gTQ, gUQ, gVQ, gWQ, gXQ, gYQ, gZQ, haQ, hbQ, hcQ, hdQ, heQ, hfQ, hgQ, hhQ, hiQ, hjQ, hkQ, hlQ, hmQ, hnQ, hoQ, hpQ, hqQ, hrQ, hsQ, htQ, huQ, hvQ, hwQ, hxQ, hyQ, hzQ, hAQ, hBQ, hCQ, hDQ, hEQ, hFQ, hGQ, hHQ, hIQ, hJQ, hKQ, hLQ, hMQ, hNQ, hOQ, hPQ, hQQ, hRQ, hSQ, hTQ, hUQ, hVQ, hWQ, hXQ, hYQ, hZQ, iaQ, euQ, etQ, exQ, ibQ, icQ]
theorem four_ok (B : Bad r h bad num sN) {A : Sto} (x0 x6 x7 x8 x9 x10 : Option D) :
    L1_l_right [x0, some (.int h), some (rowD r), some bad, some num, some (rowD (r ++ [h])), x6, x7, x8, x9, x10] A =
      .nx [x0, some (.int h), some (rowD r), some bad, some num, some (rowD (r ++ [h])), some (.fn "classes"), x7, some (.loc (((A ++ [D.lst (four sN)]) ++ [D.lst (four sN)]) ++ [D.lst (four sN)]).length), x9, x10] ((((A ++ [.lst (four sN)]) ++ [.lst (four sN)]) ++ [.lst (four sN)]) ++ [.lst (four sN)]) := by
  unfold L1_l_right
  rw [for_at seq_fns]
  rw [for_one (by rfl) (body_ok B (.inl rfl) A x0 x7 x8 x9 x10)]
  rw [for_one (by rfl) (body_ok B (.inr (.inl rfl)) _ x0 x7 _ x9 x10)]
  rw [for_one (by rfl) (body_ok B (.inr (.inr (.inl rfl))) _ x0 x7 _ x9 x10)]
  rw [for_one (by rfl) (body_ok B (.inr (.inr (.inr rfl))) _ x0 x7 _ x9 x10)]
  rw [for_nil]
end
theorem right_ok {n : Nat} {L : Sto} (hd : Dc n L) : ∃ L', m_l_right [.loc n] L = .ok (.bl true) L' ∧ Nxt n L L' ∧ Dc n L' := by
  obtain ⟨c, L1, c0, c1, q1, x1, d1⟩ := roll (t := 6) hd (by omega) (by omega)
  obtain ⟨h, hh⟩ : ∃ h : Int, 1 + c = h := ⟨_, rfl⟩
  obtain ⟨k, L2, k0, k1, q2, x2, d2⟩ := roll (t := 8) d1 (by omega) (by omega)
  obtain ⟨r, L3, q3, x3, d3, rl, rh⟩ := rollsN (n := n) (L1 := L2) (L := L1) (k := (1 + k).toNat) (t := h) (it := iRange1 (aCons (DS.e2 gAdd (eC (.int 1)) (eCall 2 m_l_roll [] (aCons (eVar 0) (aCons (eC (.int 8)) aNil)))) aNil)) (f := eCall 2 m_l_roll [] (aCons (eVar 0) (aCons (eVar 1) aNil))) (own := [10]) (tg := gSet 10)
    (ρ := [some (.loc n), some (.int h), none, none, none, none, none, none, none, none, none]) d2 (by omega)
    (by simp only [aaQ, abQ, acQ, adQ, aeQ, afQ, agQ, ahQ, aiQ, ajQ, akQ, alQ, amQ, anQ, aoQ, apQ, aqQ, arQ, asQ, atQ, auQ, avQ, awQ, axQ, ayQ, azQ, aAQ, aBQ, aCQ, aDQ, aEQ, aFQ, aGQ, aHQ, aIQ, aJQ, aKQ, aLQ, aMQ, aNQ, aOQ, aPQ, aQQ, aRQ, aSQ, aTQ, aUQ, aVQ, aWQ, aXQ, aYQ, aZQ, baQ, bbQ, bcQ, bdQ, beQ, bfQ, bgQ, bhQ, biQ, bjQ, bkQ, blQ, bmQ, bnQ, boQ, bpQ, bqQ, brQ, bsQ, btQ, buQ, bvQ, bwQ, bxQ, byQ, bzQ, bAQ, bBQ, bCQ, bDQ, bEQ, bFQ, bGQ, bHQ, bIQ, bJQ, bKQ, bLQ, bMQ, bNQ, bOQ, bPQ, bQQ, bRQ, bSQ, bTQ, bUQ, bVQ, bWQ, bXQ, bYQ, bZQ, caQ, cbQ, ccQ, cdQ, ceQ, cfQ, cgQ, chQ, ciQ, cjQ, ckQ, clQ, cmQ, cnQ, coQ, cpQ, cqQ, crQ, csQ, ctQ, cuQ, cvQ, cwQ, cxQ, cyQ, czQ, cAQ, cBQ, cCQ, cDQ, cEQ, cFQ, cGQ, cHQ, cIQ, cJQ, cKQ, cLQ, cMQ, cNQ, cOQ, cPQ, cQQ, cRQ, cSQ, cTQ, cUQ, cVQ, cWQ, cXQ, cYQ, cZQ, daQ, dbQ, dcQ, ddQ, deQ, dfQ, dgQ, dhQ, diQ, djQ, dkQ, dlQ, dmQ, dnQ, doQ, dpQ, dqQ, drQ, dsQ, dtQ, duQ, dvQ, dwQ, dxQ, dyQ, dzQ, dAQ, dBQ, dCQ, dDQ, dEQ, dFQ, dGQ, dHQ, dIQ, dJQ, dKQ, dLQ, dMQ, dNQ, dOQ, dPQ, dQQ, dRQ, dSQ, dTQ, dUQ, dVQ, dWQ, dXQ, dYQ, dZQ, eaQ, ebQ, ecQ, edQ, eeQ, efQ, egQ, ehQ, eiQ, ejQ, ekQ, elQ, emQ, enQ, eoQ, epQ, eqQ, erQ, esQ, etQ, euQ, evQ, ewQ, exQ, eyQ, ezQ, eAQ, eBQ, eCQ, eDQ, eEQ, eFQ, eGQ, eHQ, eIQ, eJQ, eKQ, eLQ, eMQ, eNQ, eOQ, ePQ, eQQ, eRQ, eSQ, eTQ, eUQ, eVQ, eWQ, eXQ, eYQ, eZQ, faQ, fbQ, fcQ, fdQ, feQ, ffQ, fgQ, fhQ, fiQ, fjQ, fkQ, flQ, fmQ, fnQ, foQ, fpQ, fqQ, frQ, fsQ, ftQ, fuQ, fvQ, fwQ, fxQ, fyQ, fzQ, fAQ, fBQ, fCQ, fDQ, fEQ, fFQ, fGQ, fHQ, fIQ, fJQ, fKQ, fLQ, fMQ, fNQ, fOQ, fPQ, fQQ, fRQ, fSQ, fTQ, fUQ, fVQ, fWQ, fXQ, fYQ, fZQ, gaQ, gbQ, gcQ, gdQ, geQ, gfQ, ggQ, ghQ, giQ, gjQ, gkQ, glQ, gmQ, gnQ, goQ, gpQ, gqQ, grQ, gsQ, gtQ, guQ, gvQ, gwQ, gxQ, gyQ, gzQ, gAQ, gBQ, gCQ, gDQ, gEQ, gFQ, gGQ, gHQ, gIQ, gJQ, gKQ, gLQ, gMQ, gNQ, gOQ, gPQ, gQQ, gRQ, gSQ, gTQ, gUQ, gVQ, gWQ, gXQ, gYQ, gZQ, haQ, hbQ, hcQ, hdQ, heQ, hfQ, hgQ, hhQ, hiQ, hjQ, hkQ, hlQ, hmQ, hnQ, hoQ, hpQ, hqQ, hrQ, hsQ, htQ, huQ, hvQ, hwQ, hxQ, hyQ, hzQ, hAQ, hBQ, hCQ, hDQ, hEQ, hFQ, hGQ, hHQ, hIQ, hJQ, hKQ, hLQ, hMQ, hNQ, hOQ, hPQ, hQQ, hRQ, hSQ, hTQ, hUQ, hVQ, hWQ, hXQ, hYQ, hZQ, iaQ, euQ, etQ, exQ, ibQ, icQ, q2, eqQ, gwQ (show 0 ≤ 1 + k by omega) (show 1 + k ≤ 1000000 by omega)])
    (fun a L _ hd => by
      obtain ⟨x, L', a1, a2, a3, a4, _⟩ := roll (t := h) hd (by omega) (by omega)
      refine ⟨x, L', ?_, a4, a1, a2⟩
      simp only [aaQ, abQ, acQ, adQ, aeQ, afQ, agQ, ahQ, aiQ, ajQ, akQ, alQ, amQ, anQ, aoQ, apQ, aqQ, arQ, asQ, atQ, auQ, avQ, awQ, axQ, ayQ, azQ, aAQ, aBQ, aCQ, aDQ, aEQ, aFQ, aGQ, aHQ, aIQ, aJQ, aKQ, aLQ, aMQ, aNQ, aOQ, aPQ, aQQ, aRQ, aSQ, aTQ, aUQ, aVQ, aWQ, aXQ, aYQ, aZQ, baQ, bbQ, bcQ, bdQ, beQ, bfQ, bgQ, bhQ, biQ, bjQ, bkQ, blQ, bmQ, bnQ, boQ, bpQ, bqQ, brQ, bsQ, btQ, buQ, bvQ, bwQ, bxQ, byQ, bzQ, bAQ, bBQ, bCQ, bDQ, bEQ, bFQ, bGQ, bHQ, bIQ, bJQ, bKQ, bLQ, bMQ, bNQ, bOQ, bPQ, bQQ, bRQ, bSQ, bTQ, bUQ, bVQ, bWQ, bXQ, bYQ, bZQ, caQ, cbQ, ccQ, cdQ, ceQ, cfQ, cgQ, chQ, ciQ, cjQ, ckQ, clQ, cmQ, cnQ, coQ, cpQ, cqQ, crQ, csQ, ctQ, cuQ, cvQ, cwQ, cxQ, cyQ, czQ, cAQ, cBQ, cCQ, cDQ, cEQ, cFQ, cGQ, cHQ, cIQ, cJQ, cKQ, cLQ, cMQ, cNQ, cOQ, cPQ, cQQ, cRQ, cSQ, cTQ, cUQ, cVQ, cWQ, cXQ, cYQ, cZQ, daQ, dbQ, dcQ, ddQ, deQ, dfQ, dgQ, dhQ, diQ, djQ, dkQ, dlQ, dmQ, dnQ, doQ, dpQ, dqQ, drQ, dsQ, dtQ, duQ, dvQ, dwQ, dxQ, dyQ, dzQ, dAQ, dBQ, dCQ, dDQ, dEQ, dFQ, dGQ, dHQ, dIQ, dJQ, dKQ, dLQ, dMQ, dNQ, dOQ, dPQ, dQQ, dRQ, dSQ, dTQ, dUQ, dVQ, dWQ, dXQ, dYQ, dZQ, eaQ, ebQ, ecQ, edQ, eeQ, efQ, egQ, ehQ, eiQ, ejQ, ekQ, elQ, emQ, enQ, eoQ, epQ, eqQ, erQ, esQ, etQ, euQ, evQ, ewQ, exQ, eyQ, ezQ, eAQ, eBQ, eCQ, eDQ, eEQ, eFQ, eGQ, eHQ, eIQ, eJQ, eKQ, eLQ, eMQ, eNQ, eOQ, ePQ, eQQ, eRQ, eSQ, eTQ, eUQ, eVQ, eWQ, eXQ, eYQ, eZQ, faQ, fbQ, fcQ, fdQ, feQ, ffQ, fgQ, fhQ, fiQ, fjQ, fkQ, flQ, fmQ, fnQ, foQ, fpQ, fqQ, frQ, fsQ, ftQ, fuQ, fvQ, fwQ, fxQ, fyQ, fzQ, fAQ, fBQ, fCQ, fDQ, fEQ, fFQ, fGQ, fHQ, fIQ, fJQ, fKQ, fLQ, fMQ, fNQ, fOQ, fPQ, fQQ, fRQ, fSQ, fTQ, fUQ, fVQ, fWQ, fXQ, fYQ, fZQ, gaQ, gbQ, gcQ, gdQ, geQ, gfQ, ggQ, ghQ, giQ, gjQ, gkQ, glQ, gmQ, gnQ, goQ, gpQ, gqQ, grQ, gsQ, gtQ, guQ, gvQ, gwQ, gxQ, gyQ, gzQ, gAQ, gBQ, gCQ, gDQ, gEQ, gFQ, gGQ, gHQ, gIQ, gJQ, gKQ, gLQ, gMQ, gNQ, gOQ, gPQ, gQQ, gRQ, gSQ, gTQ, gUQ, gVQ, gWQ, gXQ, gYQ, gZQ, haQ, hbQ, hcQ, hdQ, heQ, hfQ, hgQ, hhQ, hiQ, hjQ, hkQ, hlQ, hmQ, hnQ, hoQ, hpQ, hqQ, hrQ, hsQ, htQ, huQ, hvQ, hwQ, hxQ, hyQ, hzQ, hAQ, hBQ, hCQ, hDQ, hEQ, hFQ, hGQ, hHQ, hIQ, hJQ, hKQ, hLQ, hMQ, hNQ, hOQ, hPQ, hQQ, hRQ, hSQ, hTQ, hUQ, hVQ, hWQ, hXQ, hYQ, hZQ, iaQ, euQ, etQ, exQ, ibQ, icQ, a3])
  have q3' : C1_l_right [some (.loc n), some (.int h), none, none, none, none, none, none, none, none, none] L1 = .ok (.lst (r.map .int)) L3 := q3
  have gt : gTuple [.lst (r.map .int)] L3 = .ok (rowD r) L3 := gTuple_l (by rw [List.length_map]; omega)
  have hr : HRow r h := ⟨⟨by omega, by omega, fun x hx => (rh x hx).1⟩, by omega, by omega, fun x hx => (rh x hx).2⟩
  have hf : IsRow (r ++ [h]) := ⟨by rw [List.length_append, List.length_singleton]; omega, by rw [List.length_append, List.length_singleton]; omega, fun x hx => by
    rcases List.mem_append.mp hx with k | k
    · exact (rh x k).1
    · rw [List.mem_singleton] at k; omega⟩
  obtain ⟨bad, L4, b4, q4, x4, d4⟩ := one_of (xs := badRows r) d3 (by show 1 ≤ 11; decide) (by show 11 ≤ 1000; decide)
  obtain ⟨num, L5, b5, q5, x5, d5⟩ := one_of (xs := badNums) d4 (by show 1 ≤ 8; decide) (by show 8 ≤ 1000; decide)
  have kb := badRows_no b4
  obtain ⟨kn, sN, tN⟩ := badNums_no b5
  have BB : Bad r h bad num sN := ⟨hr, hf, kb, kn, tN⟩
  have zm : ∀ L, gMulG (.tg [.int 0]) (.int 21) L = .ok (.tg (List.replicate 21 (.int 0))) L := fun L => gMulG_rep (n := 21) (by decide) (by decide)
  have ad0 : ∀ L, gAddG (rowD r) (.tg [.int h]) L = .ok (rowD (r ++ [h])) L := fun L => by
    rw [g_addG (L := L) (xs := r.map D.int) (ys := [.int h]) (by rw [List.length_map, List.length_singleton]; omega)]
    unfold rowD
    rw [List.map_append]
    rfl
  have lp := @four_ok r h bad num sN BB
  have d6 : Dc n (((L5 ++ [D.lst (four sN)]) ++ [D.lst (four sN)]) ++ [D.lst (four sN)]) := dc_app (dc_app (dc_app d5 _) _) _
  obtain ⟨hue, B', b6, q6, x6, d6'⟩ := one_last (t := .lst (four sN)) (xs := badHues h) d6 (by show 1 ≤ 7; decide) (by show 7 ≤ 1000; decide)
  obtain ⟨kh, sH, tH⟩ := badHues_no (n := h) (by omega) (by omega) b6
  unfold badHues at q6
  unfold badRows at q4
  unfold badNums at q5
  have mN := @met_numc num sN tN
  have mH := @met_numc hue sH tH
  obtain ⟨oN, wN, rN, aN⟩ := tN
  obtain ⟨oH, wH, rH, aH⟩ := tH
  have f1 := fun L => exch_row (L := L) kb (e := num) (f := hue) (g := hue)
  have f2 := fun L => exch_num (L := L) hf kn (f := hue) (g := hue)
  have f3 := fun L => exch_one (L := L) hf hr.h1 hr.h2 kh (g := .non)
  have f4 := fun L => exch_two (L := L) hf hr.h1 hr.h2 kh
  have f5 := fun L => exch_far (L := L) hf hr.h1 hr.h2 (by
    rw [List.all_append, List.all_cons, decide_eq_false (show ¬ h < h by omega)]
    simp)
  have f6 := fun L => ren_no (L := L) kb
  have f7 := fun e L => alike_one (L := L) kb (e := e)
  have f8 := fun L => alike_two (L := L) hr.toIsRow kb
  have f9 := fun L => alike_len (L := L) hr.toIsRow hf (by rw [List.length_append, List.length_singleton]; omega)
  have f10 := fun L => lev_one (L := L) kn (e := .non)
  have f11 := fun L => lev_two (L := L) kn
  have a2 : ∀ L, gAdd (rowD r) (rowD r) L = .ok (.tup (r.map D.int ++ r.map D.int)) L := fun L => (show gAdd (rowD r) (rowD r) L = newT _ L from rfl).trans (z_newT (by rw [List.length_append, List.length_map]; omega))
  have a3 : ∀ L, gAdd (.tup (r.map D.int ++ r.map D.int)) (rowD r) L = .ok (.tup ((r.map D.int ++ r.map D.int) ++ r.map D.int)) L := fun L => (show gAdd (.tup (r.map D.int ++ r.map D.int)) (rowD r) L = newT _ L from rfl).trans (z_newT (by rw [List.length_append, List.length_append, List.length_map]; omega))
  obtain ⟨C, hC⟩ : ∃ C, B' ++ [D.lst (four sN)] = C := ⟨_, rfl⟩
  have dC : Dc n C := by rw [← hC]; exact dc_app d6' _
  let ss : List Str := ["row", sN, sH, sH, "row", "row", "row", "row", "operation", sN, sN]
  obtain ⟨L7, q7, x7, d7⟩ := parts_right (n := n) (L := C ++ [.lst (ss.map .str)]) (dc_app dC _)
  have hs : ∀ s ∈ ss, PyData.strOk s = true := fun s hs => by
    simp only [ss, List.mem_cons, List.not_mem_nil, or_false] at hs
    have w1 : PyData.strOk ("row" : Str) = true := by decide +kernel
    have w2 : PyData.strOk ("operation" : Str) = true := by decide +kernel
    rcases hs with rfl | rfl | rfl | rfl | rfl | rfl | rfl | rfl | rfl | rfl | rfl <;> assumption
  have fe := gEq_strs (L := C ++ [.lst (ss.map .str)]) (m := C.length) z_get hs
  have ex : Ext n L L7 := by
    refine Ext.nxt hd ?_ x7
    rw [← hC]
    exact ((Ext.nxt hd (((Ext.of ((((x1.trans x2).trans x3).trans x4).trans x5)).app _ |>.app _ |>.app _)) x6).app _).app _
  obtain ⟨L', dr, xn, dn⟩ := ex.drop hd true
  dsimp only [ss] at fe q7
  simp only [List.map_cons, List.map_nil] at fe q7
  refine ⟨L', ?_, xn, dn⟩
  simp only [u_l_right, F_l_right, aaQ, abQ, acQ, adQ, aeQ, afQ, agQ, ahQ, aiQ, ajQ, akQ, alQ, amQ, anQ, aoQ, apQ, aqQ, arQ, asQ, atQ, auQ, avQ, awQ, axQ, ayQ, azQ, aAQ, aBQ, aCQ, aDQ, aEQ, aFQ, aGQ, aHQ, aIQ, aJQ, aKQ, aLQ, aMQ, aNQ, aOQ, aPQ, aQQ, aRQ, aSQ, aTQ, aUQ, aVQ, aWQ, aXQ, aYQ, aZQ, baQ, bbQ, bcQ, bdQ, beQ, bfQ, bgQ, bhQ, biQ, bjQ, bkQ, blQ, bmQ, bnQ, boQ, bpQ, bqQ, brQ, bsQ, btQ, buQ, bvQ, bwQ, bxQ, byQ, bzQ, bAQ, bBQ, bCQ, bDQ, bEQ, bFQ, bGQ, bHQ, bIQ, bJQ, bKQ, bLQ, bMQ, bNQ, bOQ, bPQ, bQQ, bRQ, bSQ, bTQ, bUQ, bVQ, bWQ, bXQ, bYQ, bZQ, caQ, cbQ, ccQ, cdQ, ceQ, cfQ, cgQ, chQ, ciQ, cjQ, ckQ, clQ, cmQ, cnQ, coQ, cpQ, cqQ, crQ, csQ, ctQ, cuQ, cvQ, cwQ, cxQ, cyQ, czQ, cAQ, cBQ, cCQ, cDQ, cEQ, cFQ, cGQ, cHQ, cIQ, cJQ, cKQ, cLQ, cMQ, cNQ, cOQ, cPQ, cQQ, cRQ, cSQ, cTQ, cUQ, cVQ, cWQ, cXQ, cYQ, cZQ, daQ, dbQ, dcQ, ddQ, deQ, dfQ, dgQ, dhQ, diQ, djQ, dkQ, dlQ, dmQ, dnQ, doQ, dpQ, dqQ, drQ, dsQ, dtQ, duQ, dvQ, dwQ, dxQ, dyQ, dzQ, dAQ, dBQ, dCQ, dDQ, dEQ, dFQ, dGQ, dHQ, dIQ, dJQ, dKQ, dLQ, dMQ, dNQ, dOQ, dPQ, dQQ, dRQ, dSQ, dTQ, dUQ, dVQ, dWQ, dXQ, dYQ, dZQ, eaQ, ebQ, ecQ, edQ, eeQ, efQ, egQ, ehQ, eiQ, ejQ, ekQ, elQ, emQ, enQ, eoQ, epQ, eqQ, erQ, esQ, etQ, euQ, evQ, ewQ, exQ, eyQ, ezQ, eAQ, eBQ, eCQ, eDQ, eEQ, eFQ, eGQ, eHQ, eIQ, eJQ, eKQ, eLQ, eMQ, eNQ, eOQ, ePQ, eQQ, eRQ, eSQ, eTQ, eUQ, eVQ, eWQ, eXQ, eYQ, eZQ, faQ, fbQ, fcQ, fdQ, feQ, ffQ, fgQ, fhQ, fiQ, fjQ, fkQ, flQ, fmQ, fnQ, foQ, fpQ, fqQ, frQ, fsQ, ftQ, fuQ, fvQ, fwQ, fxQ, fyQ, fzQ, fAQ, fBQ, fCQ, fDQ, fEQ, fFQ, fGQ, fHQ, fIQ, fJQ, fKQ, fLQ, fMQ, fNQ, fOQ, fPQ, fQQ, fRQ, fSQ, fTQ, fUQ, fVQ, fWQ, fXQ, fYQ, fZQ, gaQ, gbQ, gcQ, gdQ, geQ, gfQ, ggQ, ghQ, giQ, gjQ, gkQ, glQ, gmQ, gnQ, goQ, gpQ, gqQ, grQ, gsQ, gtQ, guQ, gvQ, gwQ, gxQ, gyQ, gzQ, gAQ, gBQ, gCQ, gDQ, gEQ, gFQ, gGQ, gHQ, gIQ, gJQ, gKQ, gLQ, gMQ, gNQ, gOQ, gPQ, gQQ, gRQ, gSQ, gTQ, gUQ, gVQ, gWQ, gXQ, gYQ, gZQ, haQ, hbQ, hcQ, hdQ, heQ, hfQ, hgQ, hhQ, hiQ, hjQ, hkQ, hlQ, hmQ, hnQ, hoQ, hpQ, hqQ, hrQ, hsQ, htQ, huQ, hvQ, hwQ, hxQ, hyQ, hzQ, hAQ, hBQ, hCQ, hDQ, hEQ, hFQ, hGQ, hHQ, hIQ, hJQ, hKQ, hLQ, hMQ, hNQ, hOQ, hPQ, hQQ, hRQ, hSQ, hTQ, hUQ, hVQ, hWQ, hXQ, hYQ, hZQ, iaQ, euQ, etQ, exQ, ibQ, icQ, q1, eqQ, hh, q3', gt, y_neg1, y_dict0, zm, y_listF, q4, y_big, q5, ad0, lp, q6]
  simp only [aaQ, abQ, acQ, adQ, aeQ, afQ, agQ, ahQ, aiQ, ajQ, akQ, alQ, amQ, anQ, aoQ, apQ, aqQ, arQ, asQ, atQ, auQ, avQ, awQ, axQ, ayQ, azQ, aAQ, aBQ, aCQ, aDQ, aEQ, aFQ, aGQ, aHQ, aIQ, aJQ, aKQ, aLQ, aMQ, aNQ, aOQ, aPQ, aQQ, aRQ, aSQ, aTQ, aUQ, aVQ, aWQ, aXQ, aYQ, aZQ, baQ, bbQ, bcQ, bdQ, beQ, bfQ, bgQ, bhQ, biQ, bjQ, bkQ, blQ, bmQ, bnQ, boQ, bpQ, bqQ, brQ, bsQ, btQ, buQ, bvQ, bwQ, bxQ, byQ, bzQ, bAQ, bBQ, bCQ, bDQ, bEQ, bFQ, bGQ, bHQ, bIQ, bJQ, bKQ, bLQ, bMQ, bNQ, bOQ, bPQ, bQQ, bRQ, bSQ, bTQ, bUQ, bVQ, bWQ, bXQ, bYQ, bZQ, caQ, cbQ, ccQ, cdQ, ceQ, cfQ, cgQ, chQ, ciQ, cjQ, ckQ, clQ, cmQ, cnQ, coQ, cpQ, cqQ, crQ, csQ, ctQ, cuQ, cvQ, cwQ, cxQ, cyQ, czQ, cAQ, cBQ, cCQ, cDQ, cEQ, cFQ, cGQ, cHQ, cIQ, cJQ, cKQ, cLQ, cMQ, cNQ, cOQ, cPQ, cQQ, cRQ, cSQ, cTQ, cUQ, cVQ, cWQ, cXQ, cYQ, cZQ, daQ, dbQ, dcQ, ddQ, deQ, dfQ, dgQ, dhQ, diQ, djQ, dkQ, dlQ, dmQ, dnQ, doQ, dpQ, dqQ, drQ, dsQ, dtQ, duQ, dvQ, dwQ, dxQ, dyQ, dzQ, dAQ, dBQ, dCQ, dDQ, dEQ, dFQ, dGQ, dHQ, dIQ, dJQ, dKQ, dLQ, dMQ, dNQ, dOQ, dPQ, dQQ, dRQ, dSQ, dTQ, dUQ, dVQ, dWQ, dXQ, dYQ, dZQ, eaQ, ebQ, ecQ, edQ, eeQ, efQ, egQ, ehQ, eiQ, ejQ, ekQ, elQ, emQ, enQ, eoQ, epQ, eqQ, erQ, esQ, etQ, euQ, evQ, ewQ, exQ, eyQ, ezQ, eAQ, eBQ, eCQ, eDQ, eEQ, eFQ, eGQ, eHQ, eIQ, eJQ, eKQ, eLQ, eMQ, eNQ, eOQ, ePQ, eQQ, eRQ, eSQ, eTQ, eUQ, eVQ, eWQ, eXQ, eYQ, eZQ, faQ, fbQ, fcQ, fdQ, feQ, ffQ, fgQ, fhQ, fiQ, fjQ, fkQ, flQ, fmQ, fnQ, foQ, fpQ, fqQ, frQ, fsQ, ftQ, fuQ, fvQ, fwQ, fxQ, fyQ, fzQ, fAQ, fBQ, fCQ, fDQ, fEQ, fFQ, fGQ, fHQ, fIQ, fJQ, fKQ, fLQ, fMQ, fNQ, fOQ, fPQ, fQQ, fRQ, fSQ, fTQ, fUQ, fVQ, fWQ, fXQ, fYQ, fZQ, gaQ, gbQ, gcQ, gdQ, geQ, gfQ, ggQ, ghQ, giQ, gjQ, gkQ, glQ, gmQ, gnQ, goQ, gpQ, gqQ, grQ, gsQ, gtQ, guQ, gvQ, gwQ, gxQ, gyQ, gzQ, gAQ, gBQ, gCQ, gDQ, gEQ, gFQ, gGQ, gHQ, gIQ, gJQ, gKQ, gLQ, gMQ, gNQ, gOQ, gPQ, gQQ, gRQ, gSQ, gTQ, gUQ, gVQ, gWQ, gXQ, gYQ, gZQ, haQ, hbQ, hcQ, hdQ, heQ, hfQ, hgQ, hhQ, hiQ, hjQ, hkQ, hlQ, hmQ, hnQ, hoQ, hpQ, hqQ, hrQ, hsQ, htQ, huQ, hvQ, hwQ, hxQ, hyQ, hzQ, hAQ, hBQ, hCQ, hDQ, hEQ, hFQ, hGQ, hHQ, hIQ, hJQ, hKQ, hLQ, hMQ, hNQ, hOQ, hPQ, hQQ, hRQ, hSQ, hTQ, hUQ, hVQ, hWQ, hXQ, hYQ, hZQ, iaQ, euQ, etQ, exQ, ibQ, icQ, hC, f1, f2, f3, f4, f5, f6, f7, f8, f9, f10, f11, a2, a3, z_mulL2, z_mulL3, met_rowc, met_opc, mN, mH, z_isL, z_app, z_addl, List.length_cons, List.length_nil, List.cons_append, List.nil_append, Nat.zero_add, Nat.reduceAdd, Nat.reduceLT, Nat.reduceLeDiff, rN, aN, rH, aH, fe, q7, if_true, dr]
theorem inner_loop {n : Nat} {L : Sto} (hd : Dc n L) (s x1 x2 x4 : Option D) : ∃ y4 L', L1_law [s, x1, x2, some (.loc n), x4] L = .nx [s, x1, x2, some (.loc n), y4] L' := by
  obtain ⟨ρ', L', q, ⟨y4, rfl⟩, _⟩ := for_list (fi := I1_law) (tg := T1_law) (body := B1_law) (ρ := [s, x1, x2, some (.loc n), x4]) (L := L) (L1 := L) (src := []) (List.range 3) natD
    (by
      have e := gwQ (k := 3) (L := L) (by omega) (by omega)
      simp only [I1_law, aaQ, abQ, acQ, adQ, aeQ, afQ, agQ, ahQ, aiQ, ajQ, akQ, alQ, amQ, anQ, aoQ, apQ, aqQ, arQ, asQ, atQ, auQ, avQ, awQ, axQ, ayQ, azQ, aAQ, aBQ, aCQ, aDQ, aEQ, aFQ, aGQ, aHQ, aIQ, aJQ, aKQ, aLQ, aMQ, aNQ, aOQ, aPQ, aQQ, aRQ, aSQ, aTQ, aUQ, aVQ, aWQ, aXQ, aYQ, aZQ, baQ, bbQ, bcQ, bdQ, beQ, bfQ, bgQ, bhQ, biQ, bjQ, bkQ, blQ, bmQ, bnQ, boQ, bpQ, bqQ, brQ, bsQ, btQ, buQ, bvQ, bwQ, bxQ, byQ, bzQ, bAQ, bBQ, bCQ, bDQ, bEQ, bFQ, bGQ, bHQ, bIQ, bJQ, bKQ, bLQ, bMQ, bNQ, bOQ, bPQ, bQQ, bRQ, bSQ, bTQ, bUQ, bVQ, bWQ, bXQ, bYQ, bZQ, caQ, cbQ, ccQ, cdQ, ceQ, cfQ, cgQ, chQ, ciQ, cjQ, ckQ, clQ, cmQ, cnQ, coQ, cpQ, cqQ, crQ, csQ, ctQ, cuQ, cvQ, cwQ, cxQ, cyQ, czQ, cAQ, cBQ, cCQ, cDQ, cEQ, cFQ, cGQ, cHQ, cIQ, cJQ, cKQ, cLQ, cMQ, cNQ, cOQ, cPQ, cQQ, cRQ, cSQ, cTQ, cUQ, cVQ, cWQ, cXQ, cYQ, cZQ, daQ, dbQ, dcQ, ddQ, deQ, dfQ, dgQ, dhQ, diQ, djQ, dkQ, dlQ, dmQ, dnQ, doQ, dpQ, dqQ, drQ, dsQ, dtQ, duQ, dvQ, dwQ, dxQ, dyQ, dzQ, dAQ, dBQ, dCQ, dDQ, dEQ, dFQ, dGQ, dHQ, dIQ, dJQ, dKQ, dLQ, dMQ, dNQ, dOQ, dPQ, dQQ, dRQ, dSQ, dTQ, dUQ, dVQ, dWQ, dXQ, dYQ, dZQ, eaQ, ebQ, ecQ, edQ, eeQ, efQ, egQ, ehQ, eiQ, ejQ, ekQ, elQ, emQ, enQ, eoQ, epQ, eqQ, erQ, esQ, etQ, euQ, evQ, ewQ, exQ, eyQ, ezQ, eAQ, eBQ, eCQ, eDQ, eEQ, eFQ, eGQ, eHQ, eIQ, eJQ, eKQ, eLQ, eMQ, eNQ, eOQ, ePQ, eQQ, eRQ, eSQ, eTQ, eUQ, eVQ, eWQ, eXQ, eYQ, eZQ, faQ, fbQ, fcQ, fdQ, feQ, ffQ, fgQ, fhQ, fiQ, fjQ, fkQ, flQ, fmQ, fnQ, foQ, fpQ, fqQ, frQ, fsQ, ftQ, fuQ, fvQ, fwQ, fxQ, fyQ, fzQ, fAQ, fBQ, fCQ, fDQ, fEQ, fFQ, fGQ, fHQ, fIQ, fJQ, fKQ, fLQ, fMQ, fNQ, fOQ, fPQ, fQQ, fRQ, fSQ, fTQ, fUQ, fVQ, fWQ, fXQ, fYQ, fZQ, gaQ, gbQ, gcQ, gdQ, geQ, gfQ, ggQ, ghQ, giQ, gjQ, gkQ, glQ, gmQ, gnQ, goQ, gpQ, gqQ, grQ, gsQ, gtQ, guQ, gvQ, gwQ, gxQ, gyQ, gzQ, gAQ, gBQ, gCQ, gDQ, gEQ, gFQ, gGQ, gHQ, gIQ, gJQ, gKQ, gLQ, gMQ, gNQ, gOQ, gPQ, gQQ, gRQ, gSQ, gTQ, gUQ, gVQ, gWQ, gXQ, gYQ, gZQ, haQ, hbQ, hcQ, hdQ, heQ, hfQ, hgQ, hhQ, hiQ, hjQ, hkQ, hlQ, hmQ, hnQ, hoQ, hpQ, hqQ, hrQ, hsQ, htQ, huQ, hvQ, hwQ, hxQ, hyQ, hzQ, hAQ, hBQ, hCQ, hDQ, hEQ, hFQ, hGQ, hHQ, hIQ, hJQ, hKQ, hLQ, hMQ, hNQ, hOQ, hPQ, hQQ, hRQ, hSQ, hTQ, hUQ, hVQ, hWQ, hXQ, hYQ, hZQ, iaQ, euQ, etQ, exQ, ibQ, icQ, e]
      rfl)
    (fun pre ρ Lc => (∃ y4, ρ = [s, x1, x2, some (.loc n), y4]) ∧ Dc n Lc) ⟨⟨x4, rfl⟩, hd⟩ (by
    rintro pre i post ρ Lc ep ⟨⟨y4, rfl⟩, hd⟩
    obtain ⟨L2, q, _, hd2⟩ := right_ok hd
    refine ⟨_, [s, x1, x2, some (.loc n), some (natD i)], L2, rfl, ?_, srcOk_nil, ⟨_, rfl⟩, hd2⟩
    simp only [B1_law, aaQ, abQ, acQ, adQ, aeQ, afQ, agQ, ahQ, aiQ, ajQ, akQ, alQ, amQ, anQ, aoQ, apQ, aqQ, arQ, asQ, atQ, auQ, avQ, awQ, axQ, ayQ, azQ, aAQ, aBQ, aCQ, aDQ, aEQ, aFQ, aGQ, aHQ, aIQ, aJQ, aKQ, aLQ, aMQ, aNQ, aOQ, aPQ, aQQ, aRQ, aSQ, aTQ, aUQ, aVQ, aWQ, aXQ, aYQ, aZQ, baQ, bbQ, bcQ, bdQ, beQ, bfQ, bgQ, bhQ, biQ, bjQ, bkQ, blQ, bmQ, bnQ, boQ, bpQ, bqQ, brQ, bsQ, btQ, buQ, bvQ, bwQ, bxQ, byQ, bzQ, bAQ, bBQ, bCQ, bDQ, bEQ, bFQ, bGQ, bHQ, bIQ, bJQ, bKQ, bLQ, bMQ, bNQ, bOQ, bPQ, bQQ, bRQ, bSQ, bTQ, bUQ, bVQ, bWQ, bXQ, bYQ, bZQ, caQ, cbQ, ccQ, cdQ, ceQ, cfQ, cgQ, chQ, ciQ, cjQ, ckQ, clQ, cmQ, cnQ, coQ, cpQ, cqQ, crQ, csQ, ctQ, cuQ, cvQ, cwQ, cxQ, cyQ, czQ, cAQ, cBQ, cCQ, cDQ, cEQ, cFQ, cGQ, cHQ, cIQ, cJQ, cKQ, cLQ, cMQ, cNQ, cOQ, cPQ, cQQ, cRQ, cSQ, cTQ, cUQ, cVQ, cWQ, cXQ, cYQ, cZQ, daQ, dbQ, dcQ, ddQ, deQ, dfQ, dgQ, dhQ, diQ, djQ, dkQ, dlQ, dmQ, dnQ, doQ, dpQ, dqQ, drQ, dsQ, dtQ, duQ, dvQ, dwQ, dxQ, dyQ, dzQ, dAQ, dBQ, dCQ, dDQ, dEQ, dFQ, dGQ, dHQ, dIQ, dJQ, dKQ, dLQ, dMQ, dNQ, dOQ, dPQ, dQQ, dRQ, dSQ, dTQ, dUQ, dVQ, dWQ, dXQ, dYQ, dZQ, eaQ, ebQ, ecQ, edQ, eeQ, efQ, egQ, ehQ, eiQ, ejQ, ekQ, elQ, emQ, enQ, eoQ, epQ, eqQ, erQ, esQ, etQ, euQ, evQ, ewQ, exQ, eyQ, ezQ, eAQ, eBQ, eCQ, eDQ, eEQ, eFQ, eGQ, eHQ, eIQ, eJQ, eKQ, eLQ, eMQ, eNQ, eOQ, ePQ, eQQ, eRQ, eSQ, eTQ, eUQ, eVQ, eWQ, eXQ, eYQ, eZQ, faQ, fbQ, fcQ, fdQ, feQ, ffQ, fgQ, fhQ, fiQ, fjQ, fkQ, flQ, fmQ, fnQ, foQ, fpQ, fqQ, frQ, fsQ, ftQ, fuQ, fvQ, fwQ, fxQ, fyQ, fzQ, fAQ, fBQ, fCQ, fDQ, fEQ, fFQ, fGQ, fHQ, fIQ, fJQ, fKQ, fLQ, fMQ, fNQ, fOQ, fPQ, fQQ, fRQ, fSQ, fTQ, fUQ, fVQ, fWQ, fXQ, fYQ, fZQ, gaQ, gbQ, gcQ, gdQ, geQ, gfQ, ggQ, ghQ, giQ, gjQ, gkQ, glQ, gmQ, gnQ, goQ, gpQ, gqQ, grQ, gsQ, gtQ, guQ, gvQ, gwQ, gxQ, gyQ, gzQ, gAQ, gBQ, gCQ, gDQ, gEQ, gFQ, gGQ, gHQ, gIQ, gJQ, gKQ, gLQ, gMQ, gNQ, gOQ, gPQ, gQQ, gRQ, gSQ, gTQ, gUQ, gVQ, gWQ, gXQ, gYQ, gZQ, haQ, hbQ, hcQ, hdQ, heQ, hfQ, hgQ, hhQ, hiQ, hjQ, hkQ, hlQ, hmQ, hnQ, hoQ, hpQ, hqQ, hrQ, hsQ, htQ, huQ, hvQ, hwQ, hxQ, hyQ, hzQ, hAQ, hBQ, hCQ, hDQ, hEQ, hFQ, hGQ, hHQ, hIQ, hJQ, hKQ, hLQ, hMQ, hNQ, hOQ, hPQ, hQQ, hRQ, hSQ, hTQ, hUQ, hVQ, hWQ, hXQ, hYQ, hZQ, iaQ, euQ, etQ, exQ, ibQ, icQ, q, Bool.not_true, Bool.false_eq_true, if_false])
  exact ⟨y4, L', q⟩
theorem outer_loop (ns : List Int) (L : Sto) : ∃ y1 y3 y4 L', L2_law [some (.ro (ns.map .int)), none, none, none, none] L = .nx [some (.ro (ns.map .int)), y1, none, y3, y4] L' := by
  obtain ⟨ρ', L', q, y1, y3, y4, rfl⟩ := for_list (fi := I2_law) (tg := T2_law) (body := B2_law) (ρ := [some (.ro (ns.map .int)), none, none, none, none]) (L := L) (L1 := L) (src := []) (List.range (max 1 (min 8 (ns.length : Int))).toNat) natD
    (by
      have e := gwQ (k := max 1 (min 8 (ns.length : Int))) (L := L) (by omega) (by omega)
      simp only [I2_law, aaQ, abQ, acQ, adQ, aeQ, afQ, agQ, ahQ, aiQ, ajQ, akQ, alQ, amQ, anQ, aoQ, apQ, aqQ, arQ, asQ, atQ, auQ, avQ, awQ, axQ, ayQ, azQ, aAQ, aBQ, aCQ, aDQ, aEQ, aFQ, aGQ, aHQ, aIQ, aJQ, aKQ, aLQ, aMQ, aNQ, aOQ, aPQ, aQQ, aRQ, aSQ, aTQ, aUQ, aVQ, aWQ, aXQ, aYQ, aZQ, baQ, bbQ, bcQ, bdQ, beQ, bfQ, bgQ, bhQ, biQ, bjQ, bkQ, blQ, bmQ, bnQ, boQ, bpQ, bqQ, brQ, bsQ, btQ, buQ, bvQ, bwQ, bxQ, byQ, bzQ, bAQ, bBQ, bCQ, bDQ, bEQ, bFQ, bGQ, bHQ, bIQ, bJQ, bKQ, bLQ, bMQ, bNQ, bOQ, bPQ, bQQ, bRQ, bSQ, bTQ, bUQ, bVQ, bWQ, bXQ, bYQ, bZQ, caQ, cbQ, ccQ, cdQ, ceQ, cfQ, cgQ, chQ, ciQ, cjQ, ckQ, clQ, cmQ, cnQ, coQ, cpQ, cqQ, crQ, csQ, ctQ, cuQ, cvQ, cwQ, cxQ, cyQ, czQ, cAQ, cBQ, cCQ, cDQ, cEQ, cFQ, cGQ, cHQ, cIQ, cJQ, cKQ, cLQ, cMQ, cNQ, cOQ, cPQ, cQQ, cRQ, cSQ, cTQ, cUQ, cVQ, cWQ, cXQ, cYQ, cZQ, daQ, dbQ, dcQ, ddQ, deQ, dfQ, dgQ, dhQ, diQ, djQ, dkQ, dlQ, dmQ, dnQ, doQ, dpQ, dqQ, drQ, dsQ, dtQ, duQ, dvQ, dwQ, dxQ, dyQ, dzQ, dAQ, dBQ, dCQ, dDQ, dEQ, dFQ, dGQ, dHQ, dIQ, dJQ, dKQ, dLQ, dMQ, dNQ, dOQ, dPQ, dQQ, dRQ, dSQ, dTQ, dUQ, dVQ, dWQ, dXQ, dYQ, dZQ, eaQ, ebQ, ecQ, edQ, eeQ, efQ, egQ, ehQ, eiQ, ejQ, ekQ, elQ, emQ, enQ, eoQ, epQ, eqQ, erQ, esQ, etQ, euQ, evQ, ewQ, exQ, eyQ, ezQ, eAQ, eBQ, eCQ, eDQ, eEQ, eFQ, eGQ, eHQ, eIQ, eJQ, eKQ, eLQ, eMQ, eNQ, eOQ, ePQ, eQQ, eRQ, eSQ, eTQ, eUQ, eVQ, eWQ, eXQ, eYQ, eZQ, faQ, fbQ, fcQ, fdQ, feQ, ffQ, fgQ, fhQ, fiQ, fjQ, fkQ, flQ, fmQ, fnQ, foQ, fpQ, fqQ, frQ, fsQ, ftQ, fuQ, fvQ, fwQ, fxQ, fyQ, fzQ, fAQ, fBQ, fCQ, fDQ, fEQ, fFQ, fGQ, fHQ, fIQ, fJQ, fKQ, fLQ, fMQ, fNQ, fOQ, fPQ, fQQ, fRQ, fSQ, fTQ, fUQ, fVQ, fWQ, fXQ, fYQ, fZQ, gaQ, gbQ, gcQ, gdQ, geQ, gfQ, ggQ, ghQ, giQ, gjQ, gkQ, glQ, gmQ, gnQ, goQ, gpQ, gqQ, grQ, gsQ, gtQ, guQ, gvQ, gwQ, gxQ, gyQ, gzQ, gAQ, gBQ, gCQ, gDQ, gEQ, gFQ, gGQ, gHQ, gIQ, gJQ, gKQ, gLQ, gMQ, gNQ, gOQ, gPQ, gQQ, gRQ, gSQ, gTQ, gUQ, gVQ, gWQ, gXQ, gYQ, gZQ, haQ, hbQ, hcQ, hdQ, heQ, hfQ, hgQ, hhQ, hiQ, hjQ, hkQ, hlQ, hmQ, hnQ, hoQ, hpQ, hqQ, hrQ, hsQ, htQ, huQ, hvQ, hwQ, hxQ, hyQ, hzQ, hAQ, hBQ, hCQ, hDQ, hEQ, hFQ, hGQ, hHQ, hIQ, hJQ, hKQ, hLQ, hMQ, hNQ, hOQ, hPQ, hQQ, hRQ, hSQ, hTQ, hUQ, hVQ, hWQ, hXQ, hYQ, hZQ, iaQ, euQ, etQ, exQ, ibQ, icQ, eBQ, List.length_map, eGQ, eFQ, e])
    (fun pre ρ Lc => ∃ y1 y3 y4, ρ = [some (.ro (ns.map .int)), y1, none, y3, y4]) ⟨_, _, _, rfl⟩ (by
    rintro pre i post ρ Lc ep ⟨y1, y3, y4, rfl⟩
    obtain ⟨a, b, q⟩ := dice_ok ns i Lc
    obtain ⟨z4, L2, q2⟩ := inner_loop (n := Lc.length) (L := Lc ++ [dice a b 0]) ⟨a, b, 0, by simp⟩ (some (.ro (ns.map .int))) (some (natD i)) none y4
    refine ⟨_, [some (.ro (ns.map .int)), some (natD i), none, some (.loc Lc.length), z4], L2, rfl, ?_, srcOk_nil, _, _, _, rfl⟩
    have q' : m_l_dice [.ro (ns.map .int), natD i] Lc = _ := q
    simp only [B2_law, aaQ, abQ, acQ, adQ, aeQ, afQ, agQ, ahQ, aiQ, ajQ, akQ, alQ, amQ, anQ, aoQ, apQ, aqQ, arQ, asQ, atQ, auQ, avQ, awQ, axQ, ayQ, azQ, aAQ, aBQ, aCQ, aDQ, aEQ, aFQ, aGQ, aHQ, aIQ, aJQ, aKQ, aLQ, aMQ, aNQ, aOQ, aPQ, aQQ, aRQ, aSQ, aTQ, aUQ, aVQ, aWQ, aXQ, aYQ, aZQ, baQ, bbQ, bcQ, bdQ, beQ, bfQ, bgQ, bhQ, biQ, bjQ, bkQ, blQ, bmQ, bnQ, boQ, bpQ, bqQ, brQ, bsQ, btQ, buQ, bvQ, bwQ, bxQ, byQ, bzQ, bAQ, bBQ, bCQ, bDQ, bEQ, bFQ, bGQ, bHQ, bIQ, bJQ, bKQ, bLQ, bMQ, bNQ, bOQ, bPQ, bQQ, bRQ, bSQ, bTQ, bUQ, bVQ, bWQ, bXQ, bYQ, bZQ, caQ, cbQ, ccQ, cdQ, ceQ, cfQ, cgQ, chQ, ciQ, cjQ, ckQ, clQ, cmQ, cnQ, coQ, cpQ, cqQ, crQ, csQ, ctQ, cuQ, cvQ, cwQ, cxQ, cyQ, czQ, cAQ, cBQ, cCQ, cDQ, cEQ, cFQ, cGQ, cHQ, cIQ, cJQ, cKQ, cLQ, cMQ, cNQ, cOQ, cPQ, cQQ, cRQ, cSQ, cTQ, cUQ, cVQ, cWQ, cXQ, cYQ, cZQ, daQ, dbQ, dcQ, ddQ, deQ, dfQ, dgQ, dhQ, diQ, djQ, dkQ, dlQ, dmQ, dnQ, doQ, dpQ, dqQ, drQ, dsQ, dtQ, duQ, dvQ, dwQ, dxQ, dyQ, dzQ, dAQ, dBQ, dCQ, dDQ, dEQ, dFQ, dGQ, dHQ, dIQ, dJQ, dKQ, dLQ, dMQ, dNQ, dOQ, dPQ, dQQ, dRQ, dSQ, dTQ, dUQ, dVQ, dWQ, dXQ, dYQ, dZQ, eaQ, ebQ, ecQ, edQ, eeQ, efQ, egQ, ehQ, eiQ, ejQ, ekQ, elQ, emQ, enQ, eoQ, epQ, eqQ, erQ, esQ, etQ, euQ, evQ, ewQ, exQ, eyQ, ezQ, eAQ, eBQ, eCQ, eDQ, eEQ, eFQ, eGQ, eHQ, eIQ, eJQ, eKQ, eLQ, eMQ, eNQ, eOQ, ePQ, eQQ, eRQ, eSQ, eTQ, eUQ, eVQ, eWQ, eXQ, eYQ, eZQ, faQ, fbQ, fcQ, fdQ, feQ, ffQ, fgQ, fhQ, fiQ, fjQ, fkQ, flQ, fmQ, fnQ, foQ, fpQ, fqQ, frQ, fsQ, ftQ, fuQ, fvQ, fwQ, fxQ, fyQ, fzQ, fAQ, fBQ, fCQ, fDQ, fEQ, fFQ, fGQ, fHQ, fIQ, fJQ, fKQ, fLQ, fMQ, fNQ, fOQ, fPQ, fQQ, fRQ, fSQ, fTQ, fUQ, fVQ, fWQ, fXQ, fYQ, fZQ, gaQ, gbQ, gcQ, gdQ, geQ, gfQ, ggQ, ghQ, giQ, gjQ, gkQ, glQ, gmQ, gnQ, goQ, gpQ, gqQ, grQ, gsQ, gtQ, guQ, gvQ, gwQ, gxQ, gyQ, gzQ, gAQ, gBQ, gCQ, gDQ, gEQ, gFQ, gGQ, gHQ, gIQ, gJQ, gKQ, gLQ, gMQ, gNQ, gOQ, gPQ, gQQ, gRQ, gSQ, gTQ, gUQ, gVQ, gWQ, gXQ, gYQ, gZQ, haQ, hbQ, hcQ, hdQ, heQ, hfQ, hgQ, hhQ, hiQ, hjQ, hkQ, hlQ, hmQ, hnQ, hoQ, hpQ, hqQ, hrQ, hsQ, htQ, huQ, hvQ, hwQ, hxQ, hyQ, hzQ, hAQ, hBQ, hCQ, hDQ, hEQ, hFQ, hGQ, hHQ, hIQ, hJQ, hKQ, hLQ, hMQ, hNQ, hOQ, hPQ, hQQ, hRQ, hSQ, hTQ, hUQ, hVQ, hWQ, hXQ, hYQ, hZQ, iaQ, euQ, etQ, exQ, ibQ, icQ, q', q2])
  exact ⟨y1, y3, y4, L', q⟩
theorem rowOf_one : ∃ d, ∀ L, m_row_of [.tg [.tup [], .tup [.int 0], .tup []]] L = .ok d L := by
  have T : Tp (.tg [.tup [], .tup [.int 0], .tup []]) (([[], [0], []] : List (List Int)).map fun p => D.tup (p.map .int)) := tp_tg _
  have s1 : srtI [0] = [0] := by
    have p := srtI_perm [0]
    exact List.perm_singleton.mp p
  have fl : ([[], [0], []] : List (List Int)).flatten = [0] := rfl
  have pk : (([[], [0], []] : List (List Int)).all plB) = true := by decide
  have a : ∀ L, m_are_parts [.tg [.tup [], .tup [.int 0], .tup []]] L = .ok (.bl true) L := fun L => by
    rw [parts_ints T (by decide) (by decide) (by decide), fl, s1, pk]
    rfl
  refine ⟨.tg [.int 1], fun L => ?_⟩
  have c1 : C1_row_of [some (.tg [.tup [], .tup [.int 0], .tup []]), none, none, none, none] L = .ok (.dK [(.inl 0, .int 1)]) L := by
    have q := cGo_dict (src := []) (tg := gTupF 2 (gsCons (gSet 3) (gsCons (gSet 4) gsNil))) (step := stepN (iSeq (eVar 4)) [2] (gSet 2) tTrue (stepD (eVar 2) (eVar 3))) (ρ := [some (.tg [.tup [], .tup [.int 0], .tup []]), none, none, none, none]) (L := L)
      (fun (p : Nat × List Int) => D.tup [natD p.1, .tup (p.2.map .int)]) (fun (p : Nat × List Int) => p.2.map fun x => ((.inl x : Key), natD p.1)) srcOk_nil [(0, []), (1, [0]), (2, [])] [] (by decide) fun p hp kvs ha => ⟨_, rfl, by
        refine stepN_at (its := ⟨p.2.map .int, []⟩) rfl ?_
        have q2 := cGo_dict (src := []) (tg := gSet 2) (step := stepD (eVar 2) (eVar 3)) (ρ := [some (.tg [.tup [], .tup [.int 0], .tup []]), none, none, some (natD p.1), some (.tup (p.2.map .int))]) (L := L) D.int (fun x => [((.inl x : Key), natD p.1)]) srcOk_nil p.2 kvs
          (by rw [flatMap_pair]; exact ha) fun j _ kvs2 ha2 => ⟨_, rfl, stepD_at rfl rfl rfl ha2⟩
        rw [flatMap_pair] at q2
        exact q2⟩
    exact (eComp_at (its := ⟨[.tup [natD 0, .tup []], .tup [natD 1, .tup [.int 0]], .tup [natD 2, .tup []]], []⟩) rfl q).trans rfl
  have c2 : C2_row_of [some (.tg [.tup [], .tup [.int 0], .tup []]), some (.dK [(.inl 0, .int 1)]), none, none, none] L = .ok (.lst [.int 1]) L := by
    refine (lc_map (box := false) (List.range 1) natD (fun _ => D.int 1) (src := []) (L1 := L) ?_ srcOk_nil (by rw [List.length_range]; decide) fun i hi => ?_).trans rfl
    · have e := gxQ (n := 1) (L := L) (by decide)
      simp only [aaQ, abQ, acQ, adQ, aeQ, afQ, agQ, ahQ, aiQ, ajQ, akQ, alQ, amQ, anQ, aoQ, apQ, aqQ, arQ, asQ, atQ, auQ, avQ, awQ, axQ, ayQ, azQ, aAQ, aBQ, aCQ, aDQ, aEQ, aFQ, aGQ, aHQ, aIQ, aJQ, aKQ, aLQ, aMQ, aNQ, aOQ, aPQ, aQQ, aRQ, aSQ, aTQ, aUQ, aVQ, aWQ, aXQ, aYQ, aZQ, baQ, bbQ, bcQ, bdQ, beQ, bfQ, bgQ, bhQ, biQ, bjQ, bkQ, blQ, bmQ, bnQ, boQ, bpQ, bqQ, brQ, bsQ, btQ, buQ, bvQ, bwQ, bxQ, byQ, bzQ, bAQ, bBQ, bCQ, bDQ, bEQ, bFQ, bGQ, bHQ, bIQ, bJQ, bKQ, bLQ, bMQ, bNQ, bOQ, bPQ, bQQ, bRQ, bSQ, bTQ, bUQ, bVQ, bWQ, bXQ, bYQ, bZQ, caQ, cbQ, ccQ, cdQ, ceQ, cfQ, cgQ, chQ, ciQ, cjQ, ckQ, clQ, cmQ, cnQ, coQ, cpQ, cqQ, crQ, csQ, ctQ, cuQ, cvQ, cwQ, cxQ, cyQ, czQ, cAQ, cBQ, cCQ, cDQ, cEQ, cFQ, cGQ, cHQ, cIQ, cJQ, cKQ, cLQ, cMQ, cNQ, cOQ, cPQ, cQQ, cRQ, cSQ, cTQ, cUQ, cVQ, cWQ, cXQ, cYQ, cZQ, daQ, dbQ, dcQ, ddQ, deQ, dfQ, dgQ, dhQ, diQ, djQ, dkQ, dlQ, dmQ, dnQ, doQ, dpQ, dqQ, drQ, dsQ, dtQ, duQ, dvQ, dwQ, dxQ, dyQ, dzQ, dAQ, dBQ, dCQ, dDQ, dEQ, dFQ, dGQ, dHQ, dIQ, dJQ, dKQ, dLQ, dMQ, dNQ, dOQ, dPQ, dQQ, dRQ, dSQ, dTQ, dUQ, dVQ, dWQ, dXQ, dYQ, dZQ, eaQ, ebQ, ecQ, edQ, eeQ, efQ, egQ, ehQ, eiQ, ejQ, ekQ, elQ, emQ, enQ, eoQ, epQ, eqQ, erQ, esQ, etQ, euQ, evQ, ewQ, exQ, eyQ, ezQ, eAQ, eBQ, eCQ, eDQ, eEQ, eFQ, eGQ, eHQ, eIQ, eJQ, eKQ, eLQ, eMQ, eNQ, eOQ, ePQ, eQQ, eRQ, eSQ, eTQ, eUQ, eVQ, eWQ, eXQ, eYQ, eZQ, faQ, fbQ, fcQ, fdQ, feQ, ffQ, fgQ, fhQ, fiQ, fjQ, fkQ, flQ, fmQ, fnQ, foQ, fpQ, fqQ, frQ, fsQ, ftQ, fuQ, fvQ, fwQ, fxQ, fyQ, fzQ, fAQ, fBQ, fCQ, fDQ, fEQ, fFQ, fGQ, fHQ, fIQ, fJQ, fKQ, fLQ, fMQ, fNQ, fOQ, fPQ, fQQ, fRQ, fSQ, fTQ, fUQ, fVQ, fWQ, fXQ, fYQ, fZQ, gaQ, gbQ, gcQ, gdQ, geQ, gfQ, ggQ, ghQ, giQ, gjQ, gkQ, glQ, gmQ, gnQ, goQ, gpQ, gqQ, grQ, gsQ, gtQ, guQ, gvQ, gwQ, gxQ, gyQ, gzQ, gAQ, gBQ, gCQ, gDQ, gEQ, gFQ, gGQ, gHQ, gIQ, gJQ, gKQ, gLQ, gMQ, gNQ, gOQ, gPQ, gQQ, gRQ, gSQ, gTQ, gUQ, gVQ, gWQ, gXQ, gYQ, gZQ, haQ, hbQ, hcQ, hdQ, heQ, hfQ, hgQ, hhQ, hiQ, hjQ, hkQ, hlQ, hmQ, hnQ, hoQ, hpQ, hqQ, hrQ, hsQ, htQ, huQ, hvQ, hwQ, hxQ, hyQ, hzQ, hAQ, hBQ, hCQ, hDQ, hEQ, hFQ, hGQ, hHQ, hIQ, hJQ, hKQ, hLQ, hMQ, hNQ, hOQ, hPQ, hQQ, hRQ, hSQ, hTQ, hUQ, hVQ, hWQ, hXQ, hYQ, hZQ, iaQ, euQ, etQ, exQ, ibQ, icQ, eCQ, List.length_cons, List.length_nil, e]
    · have : i = 0 := by
        have := List.mem_range.mp hi
        omega
      subst this
      have gx : gIx (.dK [((.inl 0 : Key), D.int 1)]) (.int ((0 : Nat) : Int)) L = .ok (.int 1) L := rfl
      simp only [aaQ, abQ, acQ, adQ, aeQ, afQ, agQ, ahQ, aiQ, ajQ, akQ, alQ, amQ, anQ, aoQ, apQ, aqQ, arQ, asQ, atQ, auQ, avQ, awQ, axQ, ayQ, azQ, aAQ, aBQ, aCQ, aDQ, aEQ, aFQ, aGQ, aHQ, aIQ, aJQ, aKQ, aLQ, aMQ, aNQ, aOQ, aPQ, aQQ, aRQ, aSQ, aTQ, aUQ, aVQ, aWQ, aXQ, aYQ, aZQ, baQ, bbQ, bcQ, bdQ, beQ, bfQ, bgQ, bhQ, biQ, bjQ, bkQ, blQ, bmQ, bnQ, boQ, bpQ, bqQ, brQ, bsQ, btQ, buQ, bvQ, bwQ, bxQ, byQ, bzQ, bAQ, bBQ, bCQ, bDQ, bEQ, bFQ, bGQ, bHQ, bIQ, bJQ, bKQ, bLQ, bMQ, bNQ, bOQ, bPQ, bQQ, bRQ, bSQ, bTQ, bUQ, bVQ, bWQ, bXQ, bYQ, bZQ, caQ, cbQ, ccQ, cdQ, ceQ, cfQ, cgQ, chQ, ciQ, cjQ, ckQ, clQ, cmQ, cnQ, coQ, cpQ, cqQ, crQ, csQ, ctQ, cuQ, cvQ, cwQ, cxQ, cyQ, czQ, cAQ, cBQ, cCQ, cDQ, cEQ, cFQ, cGQ, cHQ, cIQ, cJQ, cKQ, cLQ, cMQ, cNQ, cOQ, cPQ, cQQ, cRQ, cSQ, cTQ, cUQ, cVQ, cWQ, cXQ, cYQ, cZQ, daQ, dbQ, dcQ, ddQ, deQ, dfQ, dgQ, dhQ, diQ, djQ, dkQ, dlQ, dmQ, dnQ, doQ, dpQ, dqQ, drQ, dsQ, dtQ, duQ, dvQ, dwQ, dxQ, dyQ, dzQ, dAQ, dBQ, dCQ, dDQ, dEQ, dFQ, dGQ, dHQ, dIQ, dJQ, dKQ, dLQ, dMQ, dNQ, dOQ, dPQ, dQQ, dRQ, dSQ, dTQ, dUQ, dVQ, dWQ, dXQ, dYQ, dZQ, eaQ, ebQ, ecQ, edQ, eeQ, efQ, egQ, ehQ, eiQ, ejQ, ekQ, elQ, emQ, enQ, eoQ, epQ, eqQ, erQ, esQ, etQ, euQ, evQ, ewQ, exQ, eyQ, ezQ, eAQ, eBQ, eCQ, eDQ, eEQ, eFQ, eGQ, eHQ, eIQ, eJQ, eKQ, eLQ, eMQ, eNQ, eOQ, ePQ, eQQ, eRQ, eSQ, eTQ, eUQ, eVQ, eWQ, eXQ, eYQ, eZQ, faQ, fbQ, fcQ, fdQ, feQ, ffQ, fgQ, fhQ, fiQ, fjQ, fkQ, flQ, fmQ, fnQ, foQ, fpQ, fqQ, frQ, fsQ, ftQ, fuQ, fvQ, fwQ, fxQ, fyQ, fzQ, fAQ, fBQ, fCQ, fDQ, fEQ, fFQ, fGQ, fHQ, fIQ, fJQ, fKQ, fLQ, fMQ, fNQ, fOQ, fPQ, fQQ, fRQ, fSQ, fTQ, fUQ, fVQ, fWQ, fXQ, fYQ, fZQ, gaQ, gbQ, gcQ, gdQ, geQ, gfQ, ggQ, ghQ, giQ, gjQ, gkQ, glQ, gmQ, gnQ, goQ, gpQ, gqQ, grQ, gsQ, gtQ, guQ, gvQ, gwQ, gxQ, gyQ, gzQ, gAQ, gBQ, gCQ, gDQ, gEQ, gFQ, gGQ, gHQ, gIQ, gJQ, gKQ, gLQ, gMQ, gNQ, gOQ, gPQ, gQQ, gRQ, gSQ, gTQ, gUQ, gVQ, gWQ, gXQ, gYQ, gZQ, haQ, hbQ, hcQ, hdQ, heQ, hfQ, hgQ, hhQ, hiQ, hjQ, hkQ, hlQ, hmQ, hnQ, hoQ, hpQ, hqQ, hrQ, hsQ, htQ, huQ, hvQ, hwQ, hxQ, hyQ, hzQ, hAQ, hBQ, hCQ, hDQ, hEQ, hFQ, hGQ, hHQ, hIQ, hJQ, hKQ, hLQ, hMQ, hNQ, hOQ, hPQ, hQQ, hRQ, hSQ, hTQ, hUQ, hVQ, hWQ, hXQ, hYQ, hZQ, iaQ, euQ, etQ, exQ, ibQ, icQ, natD, gx]
  have gt : gTuple [.lst [.int 1]] L = .ok (.tg [.int 1]) L := gTuple_l (show 1 ≤ 16777216 by decide)
  simp only [u_row_of, F_row_of, aaQ, abQ, acQ, adQ, aeQ, afQ, agQ, ahQ, aiQ, ajQ, akQ, alQ, amQ, anQ, aoQ, apQ, aqQ, arQ, asQ, atQ, auQ, avQ, awQ, axQ, ayQ, azQ, aAQ, aBQ, aCQ, aDQ, aEQ, aFQ, aGQ, aHQ, aIQ, aJQ, aKQ, aLQ, aMQ, aNQ, aOQ, aPQ, aQQ, aRQ, aSQ, aTQ, aUQ, aVQ, aWQ, aXQ, aYQ, aZQ, baQ, bbQ, bcQ, bdQ, beQ, bfQ, bgQ, bhQ, biQ, bjQ, bkQ, blQ, bmQ, bnQ, boQ, bpQ, bqQ, brQ, bsQ, btQ, buQ, bvQ, bwQ, bxQ, byQ, bzQ, bAQ, bBQ, bCQ, bDQ, bEQ, bFQ, bGQ, bHQ, bIQ, bJQ, bKQ, bLQ, bMQ, bNQ, bOQ, bPQ, bQQ, bRQ, bSQ, bTQ, bUQ, bVQ, bWQ, bXQ, bYQ, bZQ, caQ, cbQ, ccQ, cdQ, ceQ, cfQ, cgQ, chQ, ciQ, cjQ, ckQ, clQ, cmQ, cnQ, coQ, cpQ, cqQ, crQ, csQ, ctQ, cuQ, cvQ, cwQ, cxQ, cyQ, czQ, cAQ, cBQ, cCQ, cDQ, cEQ, cFQ, cGQ, cHQ, cIQ, cJQ, cKQ, cLQ, cMQ, cNQ, cOQ, cPQ, cQQ, cRQ, cSQ, cTQ, cUQ, cVQ, cWQ, cXQ, cYQ, cZQ, daQ, dbQ, dcQ, ddQ, deQ, dfQ, dgQ, dhQ, diQ, djQ, dkQ, dlQ, dmQ, dnQ, doQ, dpQ, dqQ, drQ, dsQ, dtQ, duQ, dvQ, dwQ, dxQ, dyQ, dzQ, dAQ, dBQ, dCQ, dDQ, dEQ, dFQ, dGQ, dHQ, dIQ, dJQ, dKQ, dLQ, dMQ, dNQ, dOQ, dPQ, dQQ, dRQ, dSQ, dTQ, dUQ, dVQ, dWQ, dXQ, dYQ, dZQ, eaQ, ebQ, ecQ, edQ, eeQ, efQ, egQ, ehQ, eiQ, ejQ, ekQ, elQ, emQ, enQ, eoQ, epQ, eqQ, erQ, esQ, etQ, euQ, evQ, ewQ, exQ, eyQ, ezQ, eAQ, eBQ, eCQ, eDQ, eEQ, eFQ, eGQ, eHQ, eIQ, eJQ, eKQ, eLQ, eMQ, eNQ, eOQ, ePQ, eQQ, eRQ, eSQ, eTQ, eUQ, eVQ, eWQ, eXQ, eYQ, eZQ, faQ, fbQ, fcQ, fdQ, feQ, ffQ, fgQ, fhQ, fiQ, fjQ, fkQ, flQ, fmQ, fnQ, foQ, fpQ, fqQ, frQ, fsQ, ftQ, fuQ, fvQ, fwQ, fxQ, fyQ, fzQ, fAQ, fBQ, fCQ, fDQ, fEQ, fFQ, fGQ, fHQ, fIQ, fJQ, fKQ, fLQ, fMQ, fNQ, fOQ, fPQ, fQQ, fRQ, fSQ, fTQ, fUQ, fVQ, fWQ, fXQ, fYQ, fZQ, gaQ, gbQ, gcQ, gdQ, geQ, gfQ, ggQ, ghQ, giQ, gjQ, gkQ, glQ, gmQ, gnQ, goQ, gpQ, gqQ, grQ, gsQ, gtQ, guQ, gvQ, gwQ, gxQ, gyQ, gzQ, gAQ, gBQ, gCQ, gDQ, gEQ, gFQ, gGQ, gHQ, gIQ, gJQ, gKQ, gLQ, gMQ, gNQ, gOQ, gPQ, gQQ, gRQ, gSQ, gTQ, gUQ, gVQ, gWQ, gXQ, gYQ, gZQ, haQ, hbQ, hcQ, hdQ, heQ, hfQ, hgQ, hhQ, hiQ, hjQ, hkQ, hlQ, hmQ, hnQ, hoQ, hpQ, hqQ, hrQ, hsQ, htQ, huQ, hvQ, hwQ, hxQ, hyQ, hzQ, hAQ, hBQ, hCQ, hDQ, hEQ, hFQ, hGQ, hHQ, hIQ, hJQ, hKQ, hLQ, hMQ, hNQ, hOQ, hPQ, hQQ, hRQ, hSQ, hTQ, hUQ, hVQ, hWQ, hXQ, hYQ, hZQ, iaQ, euQ, etQ, exQ, ibQ, icQ, a, Bool.not_true, Bool.false_eq_true, if_false, c1, c2, gt]
theorem law_ok (ns : List Int) (_ : ns.length ≤ 63) : ∃ L, m_law [.ro (ns.map .int)] [] = .ok (.bl true) L := by
  obtain ⟨y1, y3, y4, L, q⟩ := outer_loop ns []
  have zm : ∀ L, gMulG (.tg [.int 19]) (.int 20) L = .ok (rowD (List.replicate 20 19)) L := fun L => by
    rw [show (20 : Int) = ((20 : Nat) : Int) from rfl, gMulG_rep (by decide) (by decide)]
    unfold rowD
    rw [List.map_replicate]
  have hr : HRow (List.replicate 20 19) 20 := ⟨⟨by decide, by decide, by decide⟩, by decide, by decide, by decide⟩
  obtain ⟨d1, e1⟩ := sizes_fine hr
  obtain ⟨d2, e2⟩ := rowOf_one
  have fin : ∀ L, gEq (.lst [.str "fine", .str "fine", .int 10, .int 20, .int 20]) (.lst [.str "fine", .str "fine", .int 10, .int 20, .int 20]) L = .ok (.bl true) L := fun L => by
    have o : okD 60 (.lst [.str "fine", .str "fine", .int 10, .int 20, .int 20]) = true := by decide +kernel
    rw [gEq_ev (by rw [seen_lst]; exact o) (by rw [seen_lst]; exact o), seen_lst]
    exact congrArg (fun b => Res.ok (D.bl b) L) (by decide +kernel)
  refine ⟨L, ?_⟩
  simp only [u_law, F_law, aaQ, abQ, acQ, adQ, aeQ, afQ, agQ, ahQ, aiQ, ajQ, akQ, alQ, amQ, anQ, aoQ, apQ, aqQ, arQ, asQ, atQ, auQ, avQ, awQ, axQ, ayQ, azQ, aAQ, aBQ, aCQ, aDQ, aEQ, aFQ, aGQ, aHQ, aIQ, aJQ, aKQ, aLQ, aMQ, aNQ, aOQ, aPQ, aQQ, aRQ, aSQ, aTQ, aUQ, aVQ, aWQ, aXQ, aYQ, aZQ, baQ, bbQ, bcQ, bdQ, beQ, bfQ, bgQ, bhQ, biQ, bjQ, bkQ, blQ, bmQ, bnQ, boQ, bpQ, bqQ, brQ, bsQ, btQ, buQ, bvQ, bwQ, bxQ, byQ, bzQ, bAQ, bBQ, bCQ, bDQ, bEQ, bFQ, bGQ, bHQ, bIQ, bJQ, bKQ, bLQ, bMQ, bNQ, bOQ, bPQ, bQQ, bRQ, bSQ, bTQ, bUQ, bVQ, bWQ, bXQ, bYQ, bZQ, caQ, cbQ, ccQ, cdQ, ceQ, cfQ, cgQ, chQ, ciQ, cjQ, ckQ, clQ, cmQ, cnQ, coQ, cpQ, cqQ, crQ, csQ, ctQ, cuQ, cvQ, cwQ, cxQ, cyQ, czQ, cAQ, cBQ, cCQ, cDQ, cEQ, cFQ, cGQ, cHQ, cIQ, cJQ, cKQ, cLQ, cMQ, cNQ, cOQ, cPQ, cQQ, cRQ, cSQ, cTQ, cUQ, cVQ, cWQ, cXQ, cYQ, cZQ, daQ, dbQ, dcQ, ddQ, deQ, dfQ, dgQ, dhQ, diQ, djQ, dkQ, dlQ, dmQ, dnQ, doQ, dpQ, dqQ, drQ, dsQ, dtQ, duQ, dvQ, dwQ, dxQ, dyQ, dzQ, dAQ, dBQ, dCQ, dDQ, dEQ, dFQ, dGQ, dHQ, dIQ, dJQ, dKQ, dLQ, dMQ, dNQ, dOQ, dPQ, dQQ, dRQ, dSQ, dTQ, dUQ, dVQ, dWQ, dXQ, dYQ, dZQ, eaQ, ebQ, ecQ, edQ, eeQ, efQ, egQ, ehQ, eiQ, ejQ, ekQ, elQ, emQ, enQ, eoQ, epQ, eqQ, erQ, esQ, etQ, euQ, evQ, ewQ, exQ, eyQ, ezQ, eAQ, eBQ, eCQ, eDQ, eEQ, eFQ, eGQ, eHQ, eIQ, eJQ, eKQ, eLQ, eMQ, eNQ, eOQ, ePQ, eQQ, eRQ, eSQ, eTQ, eUQ, eVQ, eWQ, eXQ, eYQ, eZQ, faQ, fbQ, fcQ, fdQ, feQ, ffQ, fgQ, fhQ, fiQ, fjQ, fkQ, flQ, fmQ, fnQ, foQ, fpQ, fqQ, frQ, fsQ, ftQ, fuQ, fvQ, fwQ, fxQ, fyQ, fzQ, fAQ, fBQ, fCQ, fDQ, fEQ, fFQ, fGQ, fHQ, fIQ, fJQ, fKQ, fLQ, fMQ, fNQ, fOQ, fPQ, fQQ, fRQ, fSQ, fTQ, fUQ, fVQ, fWQ, fXQ, fYQ, fZQ, gaQ, gbQ, gcQ, gdQ, geQ, gfQ, ggQ, ghQ, giQ, gjQ, gkQ, glQ, gmQ, gnQ, goQ, gpQ, gqQ, grQ, gsQ, gtQ, guQ, gvQ, gwQ, gxQ, gyQ, gzQ, gAQ, gBQ, gCQ, gDQ, gEQ, gFQ, gGQ, gHQ, gIQ, gJQ, gKQ, gLQ, gMQ, gNQ, gOQ, gPQ, gQQ, gRQ, gSQ, gTQ, gUQ, gVQ, gWQ, gXQ, gYQ, gZQ, haQ, hbQ, hcQ, hdQ, heQ, hfQ, hgQ, hhQ, hiQ, hjQ, hkQ, hlQ, hmQ, hnQ, hoQ, hpQ, hqQ, hrQ, hsQ, htQ, huQ, hvQ, hwQ, hxQ, hyQ, hzQ, hAQ, hBQ, hCQ, hDQ, hEQ, hFQ, hGQ, hHQ, hIQ, hJQ, hKQ, hLQ, hMQ, hNQ, hOQ, hPQ, hQQ, hRQ, hSQ, hTQ, hUQ, hVQ, hWQ, hXQ, hYQ, hZQ, iaQ, euQ, etQ, exQ, ibQ, icQ, q, zm, e1, e2, met_okc, z_addl, List.length_cons, List.length_nil, List.cons_append, List.nil_append, Nat.zero_add, Nat.reduceAdd, Nat.reduceLT, Nat.reduceLeDiff, fin]
def exPos : List Stmt → _root_.Fin 10 → Pos
  | [.Expr (.Call (.Attribute (.Call (.Name _ p0) [] [] p1) _ p2) [.Name _ p3] [] p4) p5, .Assign [.Attribute (.Name _ p6) _ p7] (.Name _ p8) p9] => fun i => [p0, p1, p2, p3, p4, p5, p6, p7, p8, p9].getD i.val ⟨0, 0, 0, 0⟩
  | _ => fun _ => ⟨0, 0, 0, 0⟩
def refsS (o : Obj) : List Addr := match o.data with
  | .dict es _ => es.toList.flatMap fun e => He.refV e.val
  | .func fd => He.refV fd.code ++ (He.refV fd.defaults ++ (He.refV fd.kwdefaults ++ fd.closure.map (·.2)))
  | .cls cd => cd.ns :: cd.mro.flatMap He.refV
  | .cell (some v) => He.refV v
  | .fields vs => (match Nat.ble vs.size 8 with
    | true => vs.toList.flatMap He.refV
    | false => [])
  | .seq its _ => its.toList.flatMap He.refV
  | _ => []
def refsG (g : Addr → Option Obj) (a : Addr) : List Addr := match g a with
  | some o => refsS o
  | none => []
def pickS : List Addr → List Addr → Nat → List Addr × Nat
  | [], out, m => (out, m)
  | a :: r, out, m => HandSHeadRun.frNat a fun a => match Nat.beq (Nat.land (Nat.shiftRight m a) 1) 1 with
    | true => pickS r out m
    | false => HandSHeadRun.frNat (Nat.lor m (Nat.shiftLeft 1 a)) fun m => pickS r (a :: out) m
def asS (g : Addr → Option Obj) : Nat → List Addr → Nat → List Addr → List Addr
  | 0, _, _, acc => acc
  | n + 1, front, m, acc => match pickS (front.flatMap (refsG g)) [] m with
    | (out, m2) => asS g n out m2 (acc ++ out)
def rootS (g : Addr → Option Obj) (n : Nat) : List Addr := asS g n [mainGlobals] (Nat.shiftLeft 1 mainGlobals) [mainGlobals, cStatics]
def frFrag {β : Type} (g : Addr → Option Obj) : List Addr → (PySem.W.Frag → β) → β
  | [], k => k []
  | a :: r, k => HandSHeadRun.frNat a fun a => match g a with
    | none => frFrag g r k
    | some o => (match He.emptyTab o with
      | true => frFrag g r k
      | false => frFrag g r fun K => k ((a, o) :: K))
theorem frFrag_eq {β : Type} {g : Addr → Option Obj} : ∀ (as : List Addr) (k : PySem.W.Frag → β), frFrag g as k = k (He.frT g as)
  | [], k => rfl
  | a :: r, k => by
    rw [frFrag, HandSHeadRun.frNat_eq]
    have e : He.frT g (a :: r) = (match g a with
      | none => He.frT g r
      | some o => (match He.emptyTab o with
        | true => He.frT g r
        | false => (a, o) :: He.frT g r)) := by
      unfold He.frT He.frG
      rw [List.filterMap_cons]
      cases h : g a with
      | none => rfl
      | some o =>
        dsimp only [Option.map]
        rw [List.filter_cons]
        cases he : He.emptyTab o <;> simp
    rw [e]
    cases h : g a with
    | none => exact frFrag_eq r k
    | some o =>
      dsimp only
      cases he : He.emptyTab o with
      | true => exact frFrag_eq r k
      | false => exact frFrag_eq r fun K => k ((a, o) :: K)
def obsK (ck : List Chk) (fn tf : List DefZ) (er : List ErZ) (g : Addr → Option Obj) (K : PySem.W.Frag) : (He.AlD × Bool) × List FnE := ((obsY ck fn K, lamsB g tf K), er.map fun z => fnE K (z.ini K))
def obsS (n : Nat) (ck : List Chk) (fn tf : List DefZ) (er : List ErZ) (g : Addr → Option Obj) : (He.AlD × Bool) × List FnE := frFrag g (rootS g n) (obsK ck fn tf er g)
theorem saysL_ofK {K : PySem.W.Frag} {ck : List Chk} {fn tf : List DefZ} {h : Heap} (hn : ∀ a o, h.get? a = some o → He.emptyTab o = true → K.lookup a = none) (e : (obsY ck fn K, lamsB h.get? tf K) = (valY fn, true)) : SaysL ck fn tf h K := by
  have e1 : obsY ck fn K = valY fn := congrArg (fun z : He.AlD × Bool => z.1) e
  have e2 : lamsB h.get? tf K = true := congrArg (fun z : He.AlD × Bool => z.2) e
  obtain ⟨a1, a2⟩ := and2 e2
  have key : ∀ z ∈ tf, (PySem.W.codeHdIn K (cOf K z).1 (cOf K z).2 = true ∧ codeB K z = true) ∧ ∃ o, h.get? (cOf K z).2 = some o ∧ He.emptyTab o = true := fun z hz => by
    obtain ⟨b1, b2⟩ := and2 (List.all_eq_true.mp a1 z hz)
    refine ⟨and2 b1, ?_⟩
    cases q : h.get? (cOf K z).2 with
    | none => rw [q] at b2; cases b2
    | some o => rw [q] at b2; exact ⟨o, rfl, b2⟩
  refine ⟨e1, fun z hz => (key z hz).1.1, fun z hz => (key z hz).1.2, fun z hz => ?_, fun z hz => ?_, onceB_ok a2⟩
  · obtain ⟨_, o, q, t⟩ := key z hz
    exact hn _ o q t
  · obtain ⟨_, o, q, t⟩ := key z hz
    rw [q, He.emptyTab_eq t]
def hookS (n : Nat) (ck : List Chk) (fn tf : List DefZ) (er : List ErZ) : PySem.W.Hook where
  α := (He.AlD × Bool) × List FnE
  obs := fun s => obsS n ck fn tf er s.heap.get?
  val := fun _ => ((valY fn, true), er.map ErZ.val)
  says := fun _ h => ∃ K : PySem.W.Frag, K.In h ∧ SaysL ck fn tf h K ∧ er.map (fun z => fnE K (z.ini K)) = er.map ErZ.val
  of := fun _ s e => by
    have e1 : obsK ck fn tf er s.heap.get? (He.frT s.heap.get? (rootS s.heap.get? n)) = ((valY fn, true), er.map ErZ.val) := (frFrag_eq _ _).symm.trans e
    exact ⟨_, He.frT_in, saysL_ofK (fun a o h t => He.frT_none h t) (congrArg (fun z : (He.AlD × Bool) × List FnE => z.1) e1), congrArg (fun z : (He.AlD × Bool) × List FnE => z.2) e1⟩
  keeps := fun _ _ _ ⟨K, hK, c, v⟩ k => ⟨K, PySem.W.Frag.In.keeps hK k, ⟨c.y, c.hd, c.cd, c.out, fun z hz => k _ _ (c.empty z hz), c.once⟩, v⟩
theorem obsS_eq {n : Nat} {ck : List Chk} {fn tf : List DefZ} {er : List ErZ} {g : Addr → Option Obj} {s : Shared} (h : ∀ a, g a = s.heap.get? a) : obsS n ck fn tf er g = (hookS n ck fn tf er).obs s := by
  obtain rfl : g = s.heap.get? := funext h
  rfl
def dd_l_dice : DefZ := ⟨.glo "_law_dice", ⟨("_law_dice", none), "_law_dice", "_law_dice", defArgs s_l_dice, defBody s_l_dice, defScope s_l_dice, [], []⟩⟩
def dd_l_roll : DefZ := ⟨.glo "_law_roll", ⟨("_law_roll", none), "_law_roll", "_law_roll", defArgs s_l_roll, defBody s_l_roll, defScope s_l_roll, [], []⟩⟩
def dd_l_one_of : DefZ := ⟨.glo "_law_one_of", ⟨("_law_one_of", none), "_law_one_of", "_law_one_of", defArgs s_l_one_of, defBody s_l_one_of, defScope s_l_one_of, [], []⟩⟩
def dd_is_integer : DefZ := ⟨.glo "is_integer", ⟨("is_integer", none), "is_integer", "is_integer", defArgs s_is_integer, defBody s_is_integer, defScope s_is_integer, [], []⟩⟩
def dd_is_row : DefZ := ⟨.glo "is_row", ⟨("is_row", none), "is_row", "is_row", defArgs s_is_row, defBody s_is_row, defScope s_is_row, [], []⟩⟩
def dd_require_row : DefZ := ⟨.glo "require_row", ⟨("require_row", none), "require_row", "require_row", defArgs s_require_row, defBody s_require_row, defScope s_require_row, [], []⟩⟩
def dd_require_hues : DefZ := ⟨.glo "require_hues", ⟨("require_hues", none), "require_hues", "require_hues", defArgs s_require_hues, defBody s_require_hues, defScope s_require_hues, [], []⟩⟩
def dd_require_below : DefZ := ⟨.glo "require_below", ⟨("require_below", none), "require_below", "require_below", defArgs s_require_below, defBody s_require_below, defScope s_require_below, [], []⟩⟩
def dd_require_both : DefZ := ⟨.glo "require_both", ⟨("require_both", none), "require_both", "require_both", defArgs s_require_both, defBody s_require_both, defScope s_require_both, [], []⟩⟩
def dd_classes_in : DefZ := ⟨.glo "classes_in", ⟨("classes_in", none), "classes_in", "classes_in", defArgs s_classes_in, defBody s_classes_in, defScope s_classes_in, [], []⟩⟩
def dd_classes : DefZ := ⟨.glo "classes", ⟨("classes", none), "classes", "classes", defArgs s_classes, defBody s_classes, defScope s_classes, [], []⟩⟩
def dd_sizes_in : DefZ := ⟨.glo "sizes_in", ⟨("sizes_in", none), "sizes_in", "sizes_in", defArgs s_sizes_in, defBody s_sizes_in, defScope s_sizes_in, [], []⟩⟩
def dd_is_level : DefZ := ⟨.glo "is_level", ⟨("is_level", none), "is_level", "is_level", defArgs s_is_level, defBody s_is_level, defScope s_is_level, [], []⟩⟩
def dd_spread : DefZ := ⟨.glo "spread", ⟨("spread", none), "spread", "spread", defArgs s_spread, defBody s_spread, defScope s_spread, [], []⟩⟩
def dd_sizes : DefZ := ⟨.glo "sizes", ⟨("sizes", none), "sizes", "sizes", defArgs s_sizes, defBody s_sizes, defScope s_sizes, [], []⟩⟩
def dd_l_met : DefZ := ⟨.glo "_law_met", ⟨("_law_met", none), "_law_met", "_law_met", defArgs s_l_met, defBody s_l_met, defScope s_l_met, [], []⟩⟩
def dd_require_hue : DefZ := ⟨.glo "require_hue", ⟨("require_hue", none), "require_hue", "require_hue", defArgs s_require_hue, defBody s_require_hue, defScope s_require_hue, [], []⟩⟩
def dd_exchanged : DefZ := ⟨.glo "exchanged", ⟨("exchanged", none), "exchanged", "exchanged", defArgs s_exchanged, defBody s_exchanged, defScope s_exchanged, [], []⟩⟩
def dd_renamed_in : DefZ := ⟨.glo "renamed_in", ⟨("renamed_in", none), "renamed_in", "renamed_in", defArgs s_renamed_in, defBody s_renamed_in, defScope s_renamed_in, [], []⟩⟩
def dd_renamed : DefZ := ⟨.glo "renamed", ⟨("renamed", none), "renamed", "renamed", defArgs s_renamed, defBody s_renamed, defScope s_renamed, [], []⟩⟩
def dd_are_alike : DefZ := ⟨.glo "are_alike", ⟨("are_alike", none), "are_alike", "are_alike", defArgs s_are_alike, defBody s_are_alike, defScope s_are_alike, [], []⟩⟩
def dd_level_sizes_in : DefZ := ⟨.glo "level_sizes_in", ⟨("level_sizes_in", none), "level_sizes_in", "level_sizes_in", defArgs s_level_sizes_in, defBody s_level_sizes_in, defScope s_level_sizes_in, [], []⟩⟩
def dd_level_sizes : DefZ := ⟨.glo "level_sizes", ⟨("level_sizes", none), "level_sizes", "level_sizes", defArgs s_level_sizes, defBody s_level_sizes, defScope s_level_sizes, [], []⟩⟩
def dd_is_ascending : DefZ := ⟨.glo "is_ascending", ⟨("is_ascending", none), "is_ascending", "is_ascending", defArgs s_is_ascending, defBody s_is_ascending, defScope s_is_ascending, [], []⟩⟩
def dd_are_places : DefZ := ⟨.glo "are_places", ⟨("are_places", none), "are_places", "are_places", defArgs s_are_places, defBody s_are_places, defScope s_are_places, [], []⟩⟩
def dd_are_parts : DefZ := ⟨.glo "are_parts", ⟨("are_parts", none), "are_parts", "are_parts", defArgs s_are_parts, defBody s_are_parts, defScope s_are_parts, [], []⟩⟩
def dd_row_of : DefZ := ⟨.glo "row_of", ⟨("row_of", none), "row_of", "row_of", defArgs s_row_of, defBody s_row_of, defScope s_row_of, [], []⟩⟩
def dd_l_parts_right : DefZ := ⟨.glo "_law_parts_right", ⟨("_law_parts_right", none), "_law_parts_right", "_law_parts_right", defArgs s_l_parts_right, defBody s_l_parts_right, defScope s_l_parts_right, [], []⟩⟩
def dd_l_right : DefZ := ⟨.glo "_law_right", ⟨("_law_right", none), "_law_right", "_law_right", defArgs s_l_right, defBody s_l_right, defScope s_l_right, [], []⟩⟩
def dd_law : DefZ := ⟨.glo "law", ⟨("law", none), "law", "law", defArgs s_law, defBody s_law, defScope s_law, [], []⟩⟩
def hfn : List DefZ := [dd_l_dice, dd_l_roll, dd_l_one_of, dd_is_integer, dd_is_row, dd_require_row, dd_require_hues, dd_require_below, dd_require_both, dd_classes_in, dd_classes, dd_sizes_in, dd_is_level, dd_spread, dd_sizes, dd_l_met, dd_require_hue, dd_exchanged, dd_renamed_in, dd_renamed, dd_are_alike, dd_level_sizes_in, dd_level_sizes, dd_is_ascending, dd_are_places, dd_are_parts, dd_row_of, dd_l_parts_right, dd_l_right, dd_law]
def htf : List DefZ := [dd_l_parts_right, dd_l_right, dd_law]
abbrev s_InvalidNumber_init : Stmt := inCls (top 8) 0
def er_InvalidNumber : ErZ := ⟨"InvalidNumber", "value", defArgs s_InvalidNumber_init, defBody s_InvalidNumber_init, defScope s_InvalidNumber_init⟩
def her : List ErZ := [er_InvalidNumber]
abbrev RR : PySem.W.OpenRow := PySem.W.OpenLaw.row PySem.Challenge.rw_levelhues_k02_errors_of_rows
def hck0 : List Chk := [fa (.glo "_law_dice"), fa (.glo "_law_roll"), fa (.glo "_law_one_of"), fa (.glo "is_integer"), fa (.glo "is_row"), fa (.glo "require_row"), fa (.glo "require_hues"), fa (.glo "require_below"), fa (.glo "require_both"), fa (.glo "classes_in"), fa (.glo "classes"), fa (.glo "sizes_in"), fa (.glo "is_level"), fa (.glo "spread"), fa (.glo "sizes"), fa (.glo "_law_met"), fa (.glo "require_hue"), fa (.glo "exchanged"), fa (.glo "renamed_in"), fa (.glo "renamed"), fa (.glo "are_alike"), fa (.glo "level_sizes_in"), fa (.glo "level_sizes"), fa (.glo "is_ascending")]
def hck1 : List Chk := [fa (.glo "are_places"), fa (.glo "are_parts"), fa (.glo "row_of"), fa (.glo "_law_parts_right"), fa (.glo "_law_right"), fa (.glo "law"), fa (.int "MAX_PLACES" 10), fa (.int "MAX_HUES" 20), fa (.int "MOST_PLACES" 20), fa (.free "range"), fa (.free "enumerate"), fa (.free "zip"), fa (.free "len"), fa (.free "tuple"), fa (.free "list"), fa (.free "int"), fa (.free "abs"), fa (.free "max"), fa (.free "min"), fa (.free "sum"), fa (.free "all"), fa (.free "any"), fa (.free "sorted"), fa (.free "isinstance")]
def hck2 : List Chk := [fa (.free "dict"), fa (.free "set"), fa (.free "bool"), fa (.free "str"), fa (.free "reversed"), fa (.free "repr"), fa (.free "iter"), fa (.free "next"), chkT owns, chkXs xsE, fa (.free "super"), fa (.glo "ParseError"), chkXf "ParseError" "line", fa (.glo "UnknownName"), chkXf "UnknownName" "name", fa (.glo "NoChain"), chkXf "NoChain" "pair", fa (.glo "InvalidNumber"), chkXf "InvalidNumber" "value", fa (.glo "TooMany"), chkXf "TooMany" "limit", fa (.glo "NothingToUndo"), chkXf "NothingToUndo" "many", fa (.glo "Refused")]
def hck3 : List Chk := [chkXf "Refused" "reason", chkEr RR.prog.main.file [.type "RuntimeError", .type "Exception", .type "BaseException", .type "object"] "RuntimeError" "RuntimeError.__new__" "RuntimeError.__init__" "InvalidNumber" "value", fa (.glo "InvalidOperation"), chkEx [.type "ValueError", .type "Exception", .type "BaseException", .type "object"] "ValueError.__new__" "InvalidOperation", fa (.glo "InvalidRow"), chkEx [.type "ValueError", .type "Exception", .type "BaseException", .type "object"] "ValueError.__new__" "InvalidRow"]
def hck : List Chk := hck0 ++ hck1 ++ hck2 ++ hck3
abbrev hk : PySem.W.Hook := hookS 6 hck hfn htf her
def hob (s : PySem.W.SharedT) : (He.AlD × Bool) × List FnE := obsS 6 hck hfn htf her (HandSHeadRun.getT s)
theorem hob_eq (s : PySem.W.SharedT) : hob s = hk.obs s.abs := obsS_eq (HandSHeadRun.getT_eq s)
def hnames0 : List Str := ["HueError", "InvalidWeb", "InvalidRow", "InvalidOperation", "ParseError", "UnknownName", "NoChain", "InvalidNumber", "TooMany", "NothingToUndo", "Refused", "MAX_PLACES", "MAX_HUES", "MOST_PLACES", "is_integer", "is_ascending", "are_places", "is_row", "require_row", "require_hues", "require_below", "require_both", "sizes_in", "classes_in", "level_sizes_in", "renamed_in", "sizes", "spread", "is_level", "classes"]
def hnames1 : List Str := ["are_parts", "row_of", "level_sizes", "require_hue", "exchanged", "renamed", "are_alike", "_law_dice", "_law_roll", "_law_one_of", "_law_met", "_law_parts_right", "_law_right"]
def hnames : List Str := hnames0 ++ hnames1
theorem hrun (w : World) : HandSHeadRun.RunEq RR (PySem.W.view RR.prog [46]) hk hob 8000 hnames w := by
  intro os
  kernel_rfl
theorem hfacts {w : World} {K : PySem.W.Frag} {h base : Heap} {mg : Str → Option Value} (X : K.In h) (Gn : h.Ns mainGlobals mg) (c : SaysL hck hfn htf h K) (v : her.map (fun z => fnE K (z.ini K)) = her.map ErZ.val) (hT : ∀ z ∈ htf, LamX.TabB base mg (cOf K z).1 (cOf K z).2) : Facts ⟨RR.prog, w, K, mg, base, tabsL K htf⟩ where
  bl := ⟨He.free_ok X Gn (c.y.chk 33 (f := fa (.free "range")) rfl), He.free_ok X Gn (c.y.chk 34 (f := fa (.free "enumerate")) rfl), He.free_ok X Gn (c.y.chk 35 (f := fa (.free "zip")) rfl), He.free_ok X Gn (c.y.chk 36 (f := fa (.free "len")) rfl), He.free_ok X Gn (c.y.chk 37 (f := fa (.free "tuple")) rfl), He.free_ok X Gn (c.y.chk 38 (f := fa (.free "list")) rfl), He.free_ok X Gn (c.y.chk 39 (f := fa (.free "int")) rfl), He.free_ok X Gn (c.y.chk 40 (f := fa (.free "abs")) rfl), He.free_ok X Gn (c.y.chk 41 (f := fa (.free "max")) rfl), He.free_ok X Gn (c.y.chk 42 (f := fa (.free "min")) rfl), He.free_ok X Gn (c.y.chk 43 (f := fa (.free "sum")) rfl), He.free_ok X Gn (c.y.chk 44 (f := fa (.free "all")) rfl), He.free_ok X Gn (c.y.chk 45 (f := fa (.free "any")) rfl), He.free_ok X Gn (c.y.chk 46 (f := fa (.free "sorted")) rfl), He.free_ok X Gn (c.y.chk 47 (f := fa (.free "isinstance")) rfl), He.free_ok X Gn (c.y.chk 48 (f := fa (.free "dict")) rfl), He.free_ok X Gn (c.y.chk 49 (f := fa (.free "set")) rfl), He.free_ok X Gn (c.y.chk 50 (f := fa (.free "bool")) rfl), He.free_ok X Gn (c.y.chk 51 (f := fa (.free "str")) rfl), He.free_ok X Gn (c.y.chk 52 (f := fa (.free "reversed")) rfl), He.free_ok X Gn (c.y.chk 53 (f := fa (.free "repr")) rfl), He.free_ok X Gn (c.y.chk 54 (f := fa (.free "iter")) rfl), He.free_ok X Gn (c.y.chk 55 (f := fa (.free "next")) rfl)⟩
  c_MAX_PLACES := let ⟨t, e⟩ := He.int_ok X Gn (c.y.chk 30 (f := fa (.int "MAX_PLACES" 10)) rfl); ⟨_, e, ⟨t, rfl⟩⟩
  c_MAX_HUES := let ⟨t, e⟩ := He.int_ok X Gn (c.y.chk 31 (f := fa (.int "MAX_HUES" 20)) rfl); ⟨_, e, ⟨t, rfl⟩⟩
  c_MOST_PLACES := let ⟨t, e⟩ := He.int_ok X Gn (c.y.chk 32 (f := fa (.int "MOST_PLACES" 20)) rfl); ⟨_, e, ⟨t, rfl⟩⟩
  str := He.free_ok X Gn (c.y.chk 51 (f := fa (.free "str")) rfl)
  tf := tabsL_fun c.once
  xs := excT_of X Gn (c.y.chk 57 (f := chkXs xsE) rfl)
  x_ParseError_line := xfIs_of X Gn (c.y.chk 59 (f := fa (.glo "ParseError")) rfl) (c.y.chk 60 (f := chkXf "ParseError" "line") rfl)
  x_UnknownName_name := xfIs_of X Gn (c.y.chk 61 (f := fa (.glo "UnknownName")) rfl) (c.y.chk 62 (f := chkXf "UnknownName" "name") rfl)
  x_NoChain_pair := xfIs_of X Gn (c.y.chk 63 (f := fa (.glo "NoChain")) rfl) (c.y.chk 64 (f := chkXf "NoChain" "pair") rfl)
  x_InvalidNumber_value := xfIs_of X Gn (c.y.chk 65 (f := fa (.glo "InvalidNumber")) rfl) (c.y.chk 66 (f := chkXf "InvalidNumber" "value") rfl)
  x_TooMany_limit := xfIs_of X Gn (c.y.chk 67 (f := fa (.glo "TooMany")) rfl) (c.y.chk 68 (f := chkXf "TooMany" "limit") rfl)
  x_NothingToUndo_many := xfIs_of X Gn (c.y.chk 69 (f := fa (.glo "NothingToUndo")) rfl) (c.y.chk 70 (f := chkXf "NothingToUndo" "many") rfl)
  x_Refused_reason := xfIs_of X Gn (c.y.chk 71 (f := fa (.glo "Refused")) rfl) (c.y.chk 72 (f := chkXf "Refused" "reason") rfl)
  e_InvalidNumber := exfIs_of (z := er_InvalidNumber) (n1 := "self") (n2 := "value") (p := exPos (defBody s_InvalidNumber_init)) (bmB := [.type "RuntimeError", .type "Exception", .type "BaseException", .type "object"]) X Gn (c.y.chk 65 (f := fa (.glo "InvalidNumber")) rfl) (c.y.chk 73 (f := chkEr RR.prog.main.file [.type "RuntimeError", .type "Exception", .type "BaseException", .type "object"] "RuntimeError" "RuntimeError.__new__" "RuntimeError.__init__" "InvalidNumber" "value") rfl) (ers_at v 0 rfl) (by kernel_rfl) ⟨rfl, rfl, rfl, by decide +kernel, rfl, rfl, rfl, rfl, by decide, by decide, by decide, ⟨_, rfl, rfl⟩, fun _ => rfl, fun _ => rfl, ⟨_, fun _ => rfl⟩, fun _ => rfl⟩ rfl (by kernel_rfl) (He.free_ok X Gn (c.y.chk 58 (f := fa (.free "super")) rfl)) (fun fd h1 h2 h3 s u v => match fd, h1, h2, h3 with | ⟨_, _, _, _, _, _, _, _, _, _, _, _, _, _, _⟩, rfl, rfl, rfl => BindsTo.of_eq rfl) store_Runtime PySem.F.excBase_RuntimeError PySem.W.kxs_RuntimeError
  e_InvalidOperation := excIs_of X Gn (c.y.chk 74 (f := fa (.glo "InvalidOperation")) rfl) (c.y.chk 75 (f := chkEx [.type "ValueError", .type "Exception", .type "BaseException", .type "object"] "ValueError.__new__" "InvalidOperation") rfl) PySem.F.excBase_ValueError
  e_InvalidRow := excIs_of X Gn (c.y.chk 76 (f := fa (.glo "InvalidRow")) rfl) (c.y.chk 77 (f := chkEx [.type "ValueError", .type "Exception", .type "BaseException", .type "object"] "ValueError.__new__" "InvalidRow") rfl) PySem.F.excBase_ValueError
  set := He.free_ok X Gn (c.y.chk 49 (f := fa (.free "set")) rfl)
  ct := clsT_of X Gn (c.y.chk 56 (f := chkT owns) rfl)
  f_l_dice := let ⟨fd, F⟩ := c.y.def_ 0 (z := dd_l_dice) rfl; ⟨_, fd, F, He.glo_ok X Gn (c.y.chk 0 (f := fa (.glo "_law_dice")) rfl)⟩
  f_l_roll := let ⟨fd, F⟩ := c.y.def_ 1 (z := dd_l_roll) rfl; ⟨_, fd, F, He.glo_ok X Gn (c.y.chk 1 (f := fa (.glo "_law_roll")) rfl)⟩
  f_l_one_of := let ⟨fd, F⟩ := c.y.def_ 2 (z := dd_l_one_of) rfl; ⟨_, fd, F, He.glo_ok X Gn (c.y.chk 2 (f := fa (.glo "_law_one_of")) rfl)⟩
  f_is_integer := let ⟨fd, F⟩ := c.y.def_ 3 (z := dd_is_integer) rfl; ⟨_, fd, F, He.glo_ok X Gn (c.y.chk 3 (f := fa (.glo "is_integer")) rfl)⟩
  f_is_row := let ⟨fd, F⟩ := c.y.def_ 4 (z := dd_is_row) rfl; ⟨_, fd, F, He.glo_ok X Gn (c.y.chk 4 (f := fa (.glo "is_row")) rfl)⟩
  f_require_row := let ⟨fd, F⟩ := c.y.def_ 5 (z := dd_require_row) rfl; ⟨_, fd, F, He.glo_ok X Gn (c.y.chk 5 (f := fa (.glo "require_row")) rfl)⟩
  f_require_hues := let ⟨fd, F⟩ := c.y.def_ 6 (z := dd_require_hues) rfl; ⟨_, fd, F, He.glo_ok X Gn (c.y.chk 6 (f := fa (.glo "require_hues")) rfl)⟩
  f_require_below := let ⟨fd, F⟩ := c.y.def_ 7 (z := dd_require_below) rfl; ⟨_, fd, F, He.glo_ok X Gn (c.y.chk 7 (f := fa (.glo "require_below")) rfl)⟩
  f_require_both := let ⟨fd, F⟩ := c.y.def_ 8 (z := dd_require_both) rfl; ⟨_, fd, F, He.glo_ok X Gn (c.y.chk 8 (f := fa (.glo "require_both")) rfl)⟩
  f_classes_in := let ⟨fd, F⟩ := c.y.def_ 9 (z := dd_classes_in) rfl; ⟨_, fd, F, He.glo_ok X Gn (c.y.chk 9 (f := fa (.glo "classes_in")) rfl)⟩
  f_classes := let ⟨fd, F⟩ := c.y.def_ 10 (z := dd_classes) rfl; ⟨_, fd, F, He.glo_ok X Gn (c.y.chk 10 (f := fa (.glo "classes")) rfl)⟩
  f_sizes_in := let ⟨fd, F⟩ := c.y.def_ 11 (z := dd_sizes_in) rfl; ⟨_, fd, F, He.glo_ok X Gn (c.y.chk 11 (f := fa (.glo "sizes_in")) rfl)⟩
  f_is_level := let ⟨fd, F⟩ := c.y.def_ 12 (z := dd_is_level) rfl; ⟨_, fd, F, He.glo_ok X Gn (c.y.chk 12 (f := fa (.glo "is_level")) rfl)⟩
  f_spread := let ⟨fd, F⟩ := c.y.def_ 13 (z := dd_spread) rfl; ⟨_, fd, F, He.glo_ok X Gn (c.y.chk 13 (f := fa (.glo "spread")) rfl)⟩
  f_sizes := let ⟨fd, F⟩ := c.y.def_ 14 (z := dd_sizes) rfl; ⟨_, fd, F, He.glo_ok X Gn (c.y.chk 14 (f := fa (.glo "sizes")) rfl)⟩
  f_l_met := let ⟨fd, F⟩ := c.y.def_ 15 (z := dd_l_met) rfl; ⟨_, fd, F, He.glo_ok X Gn (c.y.chk 15 (f := fa (.glo "_law_met")) rfl)⟩
  f_require_hue := let ⟨fd, F⟩ := c.y.def_ 16 (z := dd_require_hue) rfl; ⟨_, fd, F, He.glo_ok X Gn (c.y.chk 16 (f := fa (.glo "require_hue")) rfl)⟩
  f_exchanged := let ⟨fd, F⟩ := c.y.def_ 17 (z := dd_exchanged) rfl; ⟨_, fd, F, He.glo_ok X Gn (c.y.chk 17 (f := fa (.glo "exchanged")) rfl)⟩
  f_renamed_in := let ⟨fd, F⟩ := c.y.def_ 18 (z := dd_renamed_in) rfl; ⟨_, fd, F, He.glo_ok X Gn (c.y.chk 18 (f := fa (.glo "renamed_in")) rfl)⟩
  f_renamed := let ⟨fd, F⟩ := c.y.def_ 19 (z := dd_renamed) rfl; ⟨_, fd, F, He.glo_ok X Gn (c.y.chk 19 (f := fa (.glo "renamed")) rfl)⟩
  f_are_alike := let ⟨fd, F⟩ := c.y.def_ 20 (z := dd_are_alike) rfl; ⟨_, fd, F, He.glo_ok X Gn (c.y.chk 20 (f := fa (.glo "are_alike")) rfl)⟩
  f_level_sizes_in := let ⟨fd, F⟩ := c.y.def_ 21 (z := dd_level_sizes_in) rfl; ⟨_, fd, F, He.glo_ok X Gn (c.y.chk 21 (f := fa (.glo "level_sizes_in")) rfl)⟩
  f_level_sizes := let ⟨fd, F⟩ := c.y.def_ 22 (z := dd_level_sizes) rfl; ⟨_, fd, F, He.glo_ok X Gn (c.y.chk 22 (f := fa (.glo "level_sizes")) rfl)⟩
  f_is_ascending := let ⟨fd, F⟩ := c.y.def_ 23 (z := dd_is_ascending) rfl; ⟨_, fd, F, He.glo_ok X Gn (c.y.chk 23 (f := fa (.glo "is_ascending")) rfl)⟩
  f_are_places := let ⟨fd, F⟩ := c.y.def_ 24 (z := dd_are_places) rfl; ⟨_, fd, F, He.glo_ok X Gn (c.y.chk 24 (f := fa (.glo "are_places")) rfl)⟩
  f_are_parts := let ⟨fd, F⟩ := c.y.def_ 25 (z := dd_are_parts) rfl; ⟨_, fd, F, He.glo_ok X Gn (c.y.chk 25 (f := fa (.glo "are_parts")) rfl)⟩
  f_row_of := let ⟨fd, F⟩ := c.y.def_ 26 (z := dd_row_of) rfl; ⟨_, fd, F, He.glo_ok X Gn (c.y.chk 26 (f := fa (.glo "row_of")) rfl)⟩
  f_l_parts_right := let ⟨fd, F⟩ := c.y.def_ 27 (z := dd_l_parts_right) rfl; ⟨_, fd, F, He.glo_ok X Gn (c.y.chk 27 (f := fa (.glo "_law_parts_right")) rfl), lmOk_of (z := dd_l_parts_right) c (List.mem_of_getElem? (i := 0) rfl) (hT _ (List.mem_of_getElem? (i := 0) rfl)) F⟩
  f_l_right := let ⟨fd, F⟩ := c.y.def_ 28 (z := dd_l_right) rfl; ⟨_, fd, F, He.glo_ok X Gn (c.y.chk 28 (f := fa (.glo "_law_right")) rfl), lmOk_of (z := dd_l_right) c (List.mem_of_getElem? (i := 1) rfl) (hT _ (List.mem_of_getElem? (i := 1) rfl)) F⟩
  f_law := let ⟨fd, F⟩ := c.y.def_ 29 (z := dd_law) rfl; ⟨_, fd, F, He.glo_ok X Gn (c.y.chk 29 (f := fa (.glo "law")) rfl), lmOk_of (z := dd_law) c (List.mem_of_getElem? (i := 2) rfl) (hT _ (List.mem_of_getElem? (i := 2) rfl)) F⟩
theorem walked (ht : ∀ ns : List Int, ns.length ≤ 63 → ∃ L, m_law [.ro (ns.map .int)] [] = .ok (.bl true) L) : PySem.Challenge.rw_levelhues_k02_errors_of_rows.Holds := by
  w_on; o_law
  refine HandSHeadRun.head_any (r := RR) (q := PySem.W.view RR.prog [46]) (H := hk) (ob := hob) (M := 8000) (loose := hnames) (d := HandSHeadRun.topDef RR.prog 46) (kwd := []) hob_eq
    (by kernel_rfl) (fun s => by kernel_rfl) hrun (by kernel_rfl) (by kernel_rfl) (by kernel_rfl) (by rfl) (by first | assumption | decide +kernel) (by decide +kernel) ⟨rfl, rfl, rfl, rfl, rfl, by decide +kernel⟩ ?hw ?hc
  case hw => w_witness2
  case hc =>
    refine walk_ofG (l := PySem.Challenge.rw_levelhues_k02_errors_of_rows) (n := 63) (k := 9) (x := "_law_script") (CX := CXA RR.prog) rfl (by decide) (by kernel_rfl) ⟨rfl, by decide, by decide⟩ ?F cxa_none
    intro w mg fL h Y G hmg0
    obtain ⟨K, KX, c, v⟩ := Y
    have hmg : mg ("law" : PySem.Str) = some (.ref fL) := by
      have e : (HandSHeadRun.topDef RR.prog 46).name = ("law" : PySem.Str) := by kernel_rfl
      rw [← e]
      exact hmg0
    obtain ⟨fd, F⟩ := c.y.def_ 29 (z := dd_law) rfl
    have e := hmg.symm.trans (He.glo_ok KX G (c.y.chk 29 (f := fa (.glo "law")) rfl))
    cases e
    have b := FunD.bindsA (ps := ["_law_script"]) F fun _ _ _ _ _ _ us hl => match us, hl with | [_], _ => rfl
    refine ⟨K, fd, htf.map (cOf K), fun vs H Q E => ∀ base, K.In base → base.Ns mainGlobals mg → spD ⟨RR.prog, w, K, mg, base, tabsL K htf⟩ 1 m_law vs H Q E, KX, (fun p hp => by obtain ⟨z, hz, rfl⟩ := List.mem_map.mp hp; exact c.empty z hz), (fun p hp => by obtain ⟨z, hz, rfl⟩ := List.mem_map.mp hp; exact c.out z hz), (fun p hp => by obtain ⟨z, hz, rfl⟩ := List.mem_map.mp hp; exact PySem.W.codeHd_of_K KX (c.hd z hz)), fun s v => b s [v] rfl, fun H a ns hl hH hS base _ _ => law_sp hS (fun p hp => by obtain ⟨z, hz, rfl⟩ := List.mem_map.mp hp; exact hH _ (List.mem_map.mpr ⟨z, hz, rfl⟩)) (ht ns hl), fun base hK hn hB => ?_⟩
    have tb : ∀ z ∈ htf, LamX.TabB base mg (cOf K z).1 (cOf K z).2 := fun z hz => hB _ (List.mem_map.mpr ⟨z, hz, rfl⟩)
    exact fnX_any (fn_body (gd := true) (lm := true) (G := ⟨RR.prog, w, K, mg, base, tabsL K htf⟩) (m := m_law) F sc_law (d_law (hfacts KX G c v tb)) (fun _ _ _ _ _ _ _ p => p) (fun _ => lmOk_of (z := dd_law) c (List.mem_of_getElem? (i := 2) rfl) (tb _ (List.mem_of_getElem? (i := 2) rfl)) F)) fun vs H Q E q => q base hK hn
end DS

theorem PySem.Challenge.cw_levelhues_k02_errors_of_rows_holds : PySem.Challenge.rw_levelhues_k02_errors_of_rows.Holds :=
  DS.walked fun ns hn => DS.law_ok ns hn
