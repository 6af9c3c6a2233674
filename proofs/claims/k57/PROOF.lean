import PyProof.Rows.All
import Wide.All
import OpenK.AllK
import Wide.FinOn
import HandS.ForMost
import HandS.Exc
import HandS.ExcOwn
import HandS.CallSlots
import HandS.Defaults
import HandS.TupSets
import HandS.SetKeys
import HandS.SortInts
import HandS.Zip
import HandS.Conv
import HandS.DictComp
import HandS.Style
import HandS.Wide
import HandS.Small
import HandS.Flow
import HandS.Keys
import HandS.TupAny
import HandS.TupMul
import HandS.IsInst
import HandS.Slots
import HandS.SlotsOwn
import HandS.Lambda
import KE.GoesNew
import KE.GoesMore
import HandS.Deep
import HandS.TupLen
import HandS.WordsDict
import HandS.SetFor
import HandS.Remove
import HandS.TupLe
import HandS.HeadEnd
import HandS.HeadWalk
import HandS.Property
import HandS.ClsMeth
import HandS.SortOrd
import HandS.HeadHook1
import HandS.HeadHook2
import HandS.Star
import KE.KCallOwn
import PyProof.InstEq
import KE.KExcSuper
import KE.KExcInit
import HandS.ExcInit
import HandS.TryMany
import HandS.ExcField
import HandS.RaiseMore
import PyProof.ReprRoads
import PyProof.CallFns
import KE.KDflt
import KE.KIndexOf
import KE.KUnpack
import PyProof.StrOps2
import HandS.HeadHook4
import PyProof.InstStoreFacts
import HandS.CallLocal
import HandS.Strs
import HandS.FStr
import HandS.OwnIter
import HandS.IterVal
import PyProof.CollectIter
import HandS.AnyAll
import PyProof.WalkInts
import PyProof.WalksMore
import PyProof.DictMoreH
import HandS.Sort
import HandS.More
import KE.KDictPairs
import HandS.IterNext
import HandS.MakeKwOnly
import PyProof.SumWalkG
import KE.KSortKeySt
import KE.KMinKey
import KE.KOpsOwn
import HandS.SetBool
import HandS.DictTup
import HandS.DictEq
import HandS.DeepEq
import KE.KDictDisplayH
import KE.DataFind
import HandS.Iter
import HandS.Text
import HandS.Head0
import HandS.Head1
import HandS.Head2
import PySem.Challenge.RW_levelhues_k57_errors_of_texts
set_option Elab.async false
set_option linter.all false
set_option maxRecDepth 100000
set_option maxHeartbeats 4000000
namespace DS
open PySem PySem.Spec L2
open PyProof.Rows hiding St
inductive D where
  | non | bl (b : Bool) | int (i : Int) | str (s : Str)
  | tup (xs : List D) | lst (xs : List D) | ro (xs : List D)
  | dK (kvs : List (Key × D)) | dT (kvs : List (List Key × D))
  | ins (c : Str) (fs : List (Str × D))
  | loc (n : Nat)
  | fn (x : Str)
  | ty (n : String)
  
  | tg (xs : List D)
  
  | sl (c : Str) (xs : List D)
  
  | dF (kvs : List (Key × D))
  
  | dG (kvs : List (List Key × D))
  
  | tk (k : List Key)
  
  | dP (ks : List (List Int))
instance : Inhabited D := ⟨.non⟩
abbrev Sto := List D
abbrev Env' := List (Option D)
structure Gb where
  P : Program
  w : World
  K : PySem.W.Frag
  mg : Str → Option Value
  base : Heap
  
  tabs : List (Addr × Option Str)
structure Wd where
  F : Hp
  φ : List Addr
  
  prv : Hp
def HO.thaw : HO → Prop
  | .frz _ _ => False
  | _ => True
@[reducible] def HO.nt : HO → Prop
  | .tup _ => False
  | _ => True
structure Wd.le0 (w w' : Wd) : Prop where
  sub : ∀ a u, HO.thaw u → Rd w.F a u → Rd w'.F a u
  pre : ∀ (n : Nat) (a : Addr), w.φ[n]? = some a → w'.φ[n]? = some a
  dir : ∀ a u, w.F a = some u → w'.F a = some u
structure Wd.le (w w' : Wd) : Prop extends Wd.le0 w w' where
  same : w'.prv = w.prv
theorem Wd.le0.refl (w : Wd) : w.le0 w := ⟨fun _ _ _ h => h, fun _ _ h => h, fun _ _ h => h⟩
theorem Wd.le0.trans {a b c : Wd} (h : a.le0 b) (k : b.le0 c) : a.le0 c := ⟨fun x u t r => k.sub x u t (h.sub x u t r), fun n x e => k.pre n x (h.pre n x e), fun a vs e => k.dir a vs (h.dir a vs e)⟩
theorem Wd.prv_le (w : Wd) (q : Hp) : w.le0 ⟨w.F, w.φ, q⟩ := ⟨fun _ _ _ h => h, fun _ _ h => h, fun _ _ h => h⟩
theorem Wd.le.refl (w : Wd) : w.le w := ⟨.refl w, rfl⟩
theorem Wd.le.trans {a b c : Wd} (h : a.le b) (k : b.le c) : a.le c := ⟨h.tole0.trans k.tole0, k.same.trans h.same⟩
def SqG (K : PySem.W.Frag) (H : Hp) (a : Addr) (xs : List V) : Prop :=
  (∃ o : Obj, H a = some (.frz o (.tup xs)) ∧ o.dict = none) ∨
    ∃ (o : Obj) (its : Array Value) (n : Nat), K.lookup a = some o ∧ o.cls = .type "tuple" ∧ o.dict = none ∧ o.data = .seq its n ∧ its.size ≤ sizeLine ∧ Vals xs its.toList
theorem SqG.t {K : PySem.W.Frag} {H : Hp} {a : Addr} {xs : List V} (h : SqG K H a xs) : SqT K H a xs := by
  rcases h with ⟨o, h, _⟩ | ⟨o, its, n, h1, h2, _, h3⟩
  · exact .inl (.inr ⟨o, h⟩)
  · exact .inr ⟨o, its, n, h1, h2, h3⟩
theorem SqG.mono {K : PySem.W.Frag} {H H' : Hp} {a : Addr} {xs : List V} (k : ∀ u, H a = some u → H' a = some u) (h : SqG K H a xs) : SqG K H' a xs := by
  rcases h with ⟨o, h, d⟩ | h
  · exact .inl ⟨o, k _ h, d⟩
  · exact .inr h
def DpAt (P : Program) (w : World) (a : Addr) (xs : List (List Key × Addr × Value)) (h : Heap) : Prop :=
  (a == sysModules) = false ∧ xs.length ≤ sizeLine ∧ (xs.map (·.1)).Nodup ∧ ∃ (o : Obj) (es : Array DictEntry) (ep : Nat), h.get? a = some o ∧ o.ExactDict ∧ o.data = .dict es ep ∧ es.toList = xs.map (entryOfKey (tupleKind (mixKind P w)))
def dpO (P : Program) (w : World) (a : Addr) (xs : List (List Key × Addr × Value)) : HO := .ext (DpAt P w a xs)
mutual
inductive Den (G : Gb) (w : Wd) : V → D → Prop where
  | non : Den G w .non .non
  | bl (b : Bool) : Den G w (.bl b) (.bl b)
  | int (i : Int) : Den G w (.int i) (.int i)
  | str (s : Str) : Den G w (.str s) (.str s)
  | tup {a : Addr} {vs : List V} {ds : List D} (h : SqT G.K w.F a vs) (r : DenL G w vs ds) : Den G w (.ref a) (.tup ds)
  | lst {a : Addr} {vs : List V} {ds : List D} (h : w.F a = some (.lst vs)) (r : DenL G w vs ds) : Den G w (.ref a) (.lst ds)
  | ro {a : Addr} {vs : List V} {ds : List D} (h : SqL G.K w.F a vs) (r : DenL G w vs ds) : Den G w (.ref a) (.ro ds)
  | dK {a : Addr} {kvs : List (Key × V)} {kds : List (Key × D)} (h : w.F a = some (.dK kvs)) (r : DenK G w kvs kds) : Den G w (.ref a) (.dK kds)
  | dT {a : Addr} {kvs : List (List Key × V)} {kds : List (List Key × D)} (h : w.F a = some (.dT kvs)) (r : DenT G w kvs kds) : Den G w (.ref a) (.dT kds)
  | ins {a C dx : Addr} {c : Str} {fs : List (Str × V)} {gs : List (Str × D)} (h : w.F a = some (.ins C dx fs)) (m : G.mg c = some (.ref C)) (r : DenF G w fs gs) : Den G w (.ref a) (.ins c gs)
  | loc {n : Nat} {a : Addr} (h : w.φ[n]? = some a) : Den G w (.ref a) (.loc n)
  | fn {x : Str} {v : V} {u : Value} (h : G.mg x = some u) (r : RelV v u) : Den G w v (.fn x)
  | ty (n : String) : Den G w (.ty n) (.ty n)
  | tg {a : Addr} {vs : List V} {ds : List D} (h : SqG G.K w.F a vs) (r : DenL G w vs ds) : Den G w (.ref a) (.tg ds)
  | sl {a C dx : Addr} {c : Str} {vs : List V} {ds : List D} (h : w.F a = some (SlX.SlO a C dx (vs.map some))) (hd : w.F dx = some (.xd [])) (m : G.mg c = some (.ref C)) (r : DenL G w vs ds) : Den G w (.ref a) (.sl c ds)
  | dF {a : Addr} {ob : Obj} {kvs : List (Key × V)} {kds : List (Key × D)} (h : w.F a = some (.frz ob (.dK kvs))) (r : DenK G w kvs kds) : Den G w (.ref a) (.dF kds)
  | tk {a : Addr} {k : List Key} (h : w.F a = some (.tup (k.map kV))) : Den G w (.ref a) (.tk k)
  | dG {a : Addr} {ob : Obj} {kvs : List (List Key × V)} {kds : List (List Key × D)} (h : w.F a = some (.frz ob (.dT kvs))) (r : DenT G w kvs kds) : Den G w (.ref a) (.dG kds)
  | dP {a a' : Addr} {ks : List (List Int)} {xs : List (List Key × Addr × Value)} (h : w.F a = some (dpO G.P G.w a' xs)) (h1 : ∀ x ∈ xs, ∃ k ∈ ks, x.1 = k.map Sum.inl ∧ SqT G.K w.F x.2.1 (k.map V.int)) (h2 : ∀ k ∈ ks, k.map Sum.inl ∈ xs.map (·.1)) : Den G w (.ref a) (.dP ks)
inductive DenL (G : Gb) (w : Wd) : List V → List D → Prop where
  | nil : DenL G w [] []
  | cons {v : V} {d : D} {vs : List V} {ds : List D} (h : Den G w v d) (t : DenL G w vs ds) : DenL G w (v :: vs) (d :: ds)
inductive DenK (G : Gb) (w : Wd) : List (Key × V) → List (Key × D) → Prop where
  | nil : DenK G w [] []
  | cons {k : Key} {v : V} {d : D} {vs : List (Key × V)} {ds : List (Key × D)} (h : Den G w v d) (t : DenK G w vs ds) : DenK G w ((k, v) :: vs) ((k, d) :: ds)
inductive DenT (G : Gb) (w : Wd) : List (List Key × V) → List (List Key × D) → Prop where
  | nil : DenT G w [] []
  | cons {k : List Key} {v : V} {d : D} {vs : List (List Key × V)} {ds : List (List Key × D)} (h : Den G w v d) (t : DenT G w vs ds) : DenT G w ((k, v) :: vs) ((k, d) :: ds)
inductive DenF (G : Gb) (w : Wd) : List (Str × V) → List (Str × D) → Prop where
  | nil : DenF G w [] []
  | cons {k : Str} {v : V} {d : D} {vs : List (Str × V)} {ds : List (Str × D)} (h : Den G w v d) (t : DenF G w vs ds) : DenF G w ((k, v) :: vs) ((k, d) :: ds)
end
theorem SqT.le0 {K : PySem.W.Frag} {w w' : Wd} (h : w.le0 w') {a : Addr} {vs : List V} (s : SqT K w.F a vs) : SqT K w'.F a vs := by
  rcases s with s | s
  · exact .inl (h.sub _ _ trivial s)
  · exact .inr s
theorem SqL.le0 {K : PySem.W.Frag} {w w' : Wd} (h : w.le0 w') {a : Addr} {vs : List V} (s : SqL K w.F a vs) : SqL K w'.F a vs := by
  rcases s with s | s
  · exact .inl (h.sub _ _ trivial s)
  · exact .inr s
mutual
theorem Den.le0 {G : Gb} {w w' : Wd} (h : w.le0 w') : ∀ {v : V} {d : D}, Den G w v d → Den G w' v d
  | _, _, .non => .non
  | _, _, .bl b => .bl b
  | _, _, .int i => .int i
  | _, _, .str s => .str s
  | _, _, .tup s r => .tup (SqT.le0 h s) (DenL.le0 h r)
  | _, _, .lst s r => .lst (h.dir _ _ s) (DenL.le0 h r)
  | _, _, .ro s r => .ro (SqL.le0 h s) (DenL.le0 h r)
  | _, _, .dK s r => .dK (h.dir _ _ s) (DenK.le0 h r)
  | _, _, .dT s r => .dT (h.dir _ _ s) (DenT.le0 h r)
  | _, _, .ins s m r => .ins (h.dir _ _ s) m (DenF.le0 h r)
  | _, _, .loc e => .loc (h.pre _ _ e)
  | _, _, .fn e r => .fn e r
  | _, _, .ty n => .ty n
  | _, _, .tg s r => .tg (s.mono fun u e => h.dir _ _ e) (DenL.le0 h r)
  | _, _, .sl s d m r => .sl (h.dir _ _ s) (h.dir _ _ d) m (DenL.le0 h r)
  | _, _, .dF s r => .dF (h.dir _ _ s) (DenK.le0 h r)
  | _, _, .dG s r => .dG (h.dir _ _ s) (DenT.le0 h r)
  | _, _, .tk s => .tk (h.dir _ _ s)
  | _, _, .dP s h1 h2 => .dP (h.dir _ _ s) (fun x hx => let ⟨k, m, e, q⟩ := h1 x hx; ⟨k, m, e, SqT.le0 h q⟩) h2
theorem DenL.le0 {G : Gb} {w w' : Wd} (h : w.le0 w') : ∀ {v : List V} {d : List D}, DenL G w v d → DenL G w' v d
  | _, _, .nil => .nil
  | _, _, .cons a t => .cons (Den.le0 h a) (DenL.le0 h t)
theorem DenK.le0 {G : Gb} {w w' : Wd} (h : w.le0 w') : ∀ {v : List (Key × V)} {d : List (Key × D)}, DenK G w v d → DenK G w' v d
  | _, _, .nil => .nil
  | _, _, .cons a t => .cons (Den.le0 h a) (DenK.le0 h t)
theorem DenT.le0 {G : Gb} {w w' : Wd} (h : w.le0 w') : ∀ {v : List (List Key × V)} {d : List (List Key × D)}, DenT G w v d → DenT G w' v d
  | _, _, .nil => .nil
  | _, _, .cons a t => .cons (Den.le0 h a) (DenT.le0 h t)
theorem DenF.le0 {G : Gb} {w w' : Wd} (h : w.le0 w') : ∀ {v : List (Str × V)} {d : List (Str × D)}, DenF G w v d → DenF G w' v d
  | _, _, .nil => .nil
  | _, _, .cons a t => .cons (Den.le0 h a) (DenF.le0 h t)
end
def dOfKey : Key → D
  | .inl i => .int i
  | .inr s => .str s
theorem keyT_den {G : Gb} {w : Wd} : ∀ k : List Key, DenL G w (k.map kV) (k.map dOfKey)
  | [] => .nil
  | .inl i :: t => .cons (.int i) (keyT_den t)
  | .inr s :: t => .cons (.str s) (keyT_den t)
def lo : D → D
  | .tg xs => .tup xs
  | .tk k => .tup (k.map dOfKey)
  | d => d
theorem Den.lo {G : Gb} {w : Wd} {v : V} {d : D} (h : Den G w v d) : Den G w v (lo d) := by
  cases h with
  | tg h r => exact .tup h.t r
  | non => exact .non
  | bl b => exact .bl b
  | int i => exact .int i
  | str s => exact .str s
  | tup h r => exact .tup h r
  | lst h r => exact .lst h r
  | ro h r => exact .ro h r
  | dK h r => exact .dK h r
  | dT h r => exact .dT h r
  | ins h m r => exact .ins h m r
  | loc h => exact .loc h
  | fn h r => exact .fn h r
  | ty n => exact .ty n
  | sl h d m r => exact .sl h d m r
  | dF h r => exact .dF h r
  | dG h r => exact .dG h r
  | tk h => exact .tup (.inl (.inl h)) (keyT_den _)
  | dP h a b => exact .dP h a b
theorem Den.le {G : Gb} {w w' : Wd} (h : w.le w') {v : V} {d : D} (r : Den G w v d) : Den G w' v d := Den.le0 h.tole0 r
theorem DenL.le {G : Gb} {w w' : Wd} (h : w.le w') {v : List V} {d : List D} (r : DenL G w v d) : DenL G w' v d := DenL.le0 h.tole0 r
theorem DenK.le {G : Gb} {w w' : Wd} (h : w.le w') {v : List (Key × V)} {d : List (Key × D)} (r : DenK G w v d) : DenK G w' v d := DenK.le0 h.tole0 r
theorem DenT.le {G : Gb} {w w' : Wd} (h : w.le w') {v : List (List Key × V)} {d : List (List Key × D)} (r : DenT G w v d) : DenT G w' v d := DenT.le0 h.tole0 r
theorem DenF.le {G : Gb} {w w' : Wd} (h : w.le w') {v : List (Str × V)} {d : List (Str × D)} (r : DenF G w v d) : DenF G w' v d := DenF.le0 h.tole0 r
inductive BoxD (G : Gb) (w : Wd) : HO → D → Prop where
  | lst {vs : List V} {ds : List D} (r : DenL G w vs ds) : BoxD G w (.lst vs) (.lst ds)
  | dK {vs : List (Key × V)} {ds : List (Key × D)} (r : DenK G w vs ds) : BoxD G w (.dK vs) (.dK ds)
  | dT {vs : List (List Key × V)} {ds : List (List Key × D)} (r : DenT G w vs ds) : BoxD G w (.dT vs) (.dT ds)
  | ins {C dx : Addr} {c : Str} {fs : List (Str × V)} {gs : List (Str × D)} (m : G.mg c = some (.ref C)) (r : DenF G w fs gs) : BoxD G w (.ins C dx fs) (.ins c gs)
  | dP {a : Addr} {ks : List (List Int)} {xs : List (List Key × Addr × Value)} (h1 : ∀ x ∈ xs, ∃ k ∈ ks, x.1 = k.map Sum.inl ∧ SqT G.K w.F x.2.1 (k.map V.int)) (h2 : ∀ k ∈ ks, k.map Sum.inl ∈ xs.map (·.1)) : BoxD G w (dpO G.P G.w a xs) (.dP ks)
theorem BoxD.le0 {G : Gb} {w w' : Wd} (h : w.le0 w') {o : HO} {d : D} : BoxD G w o d → BoxD G w' o d
  | .lst r => .lst (DenL.le0 h r)
  | .dK r => .dK (DenK.le0 h r)
  | .dT r => .dT (DenT.le0 h r)
  | .ins m r => .ins m (DenF.le0 h r)
  | .dP h1 h2 => .dP (fun x hx => let ⟨k, m, e, q⟩ := h1 x hx; ⟨k, m, e, SqT.le0 h q⟩) h2
theorem BoxD.nt {G : Gb} {w : Wd} {o : HO} {d : D} (h : BoxD G w o d) : HO.nt o := by cases h <;> exact True.intro
theorem BoxD.le {G : Gb} {w w' : Wd} (h : w.le w') {o : HO} {d : D} (r : BoxD G w o d) : BoxD G w' o d := r.le0 h.tole0
def TabsW (G : Gb) (w : Wd) (H : Hp) : Prop := ∀ p ∈ G.tabs, w.F p.1 = none ∧ p.1 ∉ w.φ ∧ w.prv p.1 = none ∧ ∃ ps : Array Value, H p.1 = some (.tbl ps) ∧ TriplesOk ps.toList ∧
  ∀ q, p.2 = some q → ∀ (pos : Pos) (cv : Value), codeAmong pos ps.toList = some cv → ∃ c, cv = .ref c ∧ w.F c = some (LamX.CodeO c q)
theorem TabsW.step {G : Gb} {w w' : Wd} {H H' : Hp} (t : TabsW G w H) (h : ∀ q : Addr, w.F q = none → q ∉ w.φ → w.prv q = none → (∃ ps, H q = some (.tbl ps)) → w'.F q = none ∧ q ∉ w'.φ ∧ w'.prv q = none ∧ H' q = H q) (k : ∀ c o, w.F c = some o → w'.F c = some o) : TabsW G w' H' := fun p hp => by
  obtain ⟨a, b, c, ps, d, e, f⟩ := t p hp
  obtain ⟨a', b', c', d'⟩ := h p.1 a b c ⟨ps, d⟩
  exact ⟨a', b', c', ps, d'.trans d, e, fun q hq pos cv hc => let ⟨x, h1, h2⟩ := f q hq pos cv hc; ⟨x, h1, k _ _ h2⟩⟩
structure Rel (G : Gb) (w : Wd) (L : Sto) (H : Hp) : Prop where
  sub : ∀ a o, w.F a = some o → H a = some o
  len : w.φ.length = L.length
  nd : w.φ.Nodup
  free : ∀ a ∈ w.φ, w.F a = none
  box : ∀ (n : Nat) (a : Addr) (c : D), w.φ[n]? = some a → L[n]? = some c → ∃ o, H a = some o ∧ BoxD G w o c
  prv : ∀ a o, w.prv a = some o → H a = some o ∧ w.F a = none ∧ a ∉ w.φ
  tab : TabsW G w H
  nt : ∀ a o, w.prv a = some o → HO.nt o
def EnvR (G : Gb) (w : Wd) (σ : St) (ρ : Env') : Prop := σ.length = ρ.length ∧ ∀ (i : Nat) (d : D), ρ[i]? = some (some d) → ∃ v, σ[i]? = some (some v) ∧ Den G w v d
theorem EnvR.le0 {G : Gb} {w w' : Wd} (h : w.le0 w') {σ : St} {ρ : Env'} (e : EnvR G w σ ρ) : EnvR G w' σ ρ := ⟨e.1, fun i d q => let ⟨v, a, b⟩ := e.2 i d q; ⟨v, a, Den.le0 h b⟩⟩
theorem EnvR.le {G : Gb} {w w' : Wd} (h : w.le w') {σ : St} {ρ : Env'} (e : EnvR G w σ ρ) : EnvR G w' σ ρ := e.le0 h.tole0
theorem EnvR.set {G : Gb} {w : Wd} {σ : St} {ρ : Env'} (e : EnvR G w σ ρ) (i : Nat) {v : V} {d : D} (h : Den G w v d) : EnvR G w (σ.set i (some v)) (ρ.set i (some d)) := by
  refine ⟨by rw [List.length_set, List.length_set, e.1], fun j x q => ?_⟩
  by_cases hj : i = j
  · subst hj
    by_cases hi : i < ρ.length
    · rw [List.getElem?_set_self hi] at q
      cases q
      exact ⟨v, List.getElem?_set_self (by rw [e.1]; exact hi), h⟩
    · rw [List.getElem?_eq_none (by rw [List.length_set]; omega)] at q
      cases q
  · rw [List.getElem?_set_ne hj] at q
    obtain ⟨u, a, b⟩ := e.2 j x q
    exact ⟨u, by rw [List.getElem?_set_ne hj]; exact a, b⟩
theorem EnvR.unset {G : Gb} {w : Wd} {σ : St} {ρ : Env'} (e : EnvR G w σ ρ) (i : Nat) : EnvR G w (σ.set i none) (ρ.set i none) := by
  refine ⟨by rw [List.length_set, List.length_set, e.1], fun j x q => ?_⟩
  by_cases hj : i = j
  · subst hj
    by_cases hi : i < ρ.length
    · rw [List.getElem?_set_self hi] at q
      cases q
    · rw [List.getElem?_eq_none (by rw [List.length_set]; omega)] at q
      cases q
  · rw [List.getElem?_set_ne hj] at q
    obtain ⟨u, a, b⟩ := e.2 j x q
    exact ⟨u, by rw [List.getElem?_set_ne hj]; exact a, b⟩
def wipeE (ρ : Env') : List Nat → Env'
  | [] => ρ
  | v :: vs => (wipeE ρ vs).set v none
theorem EnvR.wipe {G : Gb} {w : Wd} {σ : St} {ρ : Env'} (e : EnvR G w σ ρ) : ∀ vs : List Nat, EnvR G w (wipe σ vs) (wipeE ρ vs)
  | [] => e
  | v :: vs => (EnvR.wipe e vs).unset v
section
variable {G : Gb} {w : Wd} {L : Sto} {H : Hp}
theorem Rel.newF (R : Rel G w L H) {p : Addr} {o : HO} (hp : H p = none) : Rel G ⟨upd w.F p o, w.φ, w.prv⟩ L (upd H p o) ∧ w.le ⟨upd w.F p o, w.φ, w.prv⟩ := by
  have hF : w.F p = none := by
    cases q : w.F p with
    | none => rfl
    | some u => rw [R.sub _ _ q] at hp; cases hp
  have hφ : p ∉ w.φ := fun hm => by
    obtain ⟨n, hn, e⟩ := List.getElem_of_mem hm
    have e1 : w.φ[n]? = some p := by rw [List.getElem?_eq_getElem hn, e]
    have hL : n < L.length := by rw [← R.len]; exact hn
    obtain ⟨o, h1, _⟩ := R.box n p L[n] e1 (List.getElem?_eq_getElem hL)
    rw [hp] at h1; cases h1
  have le : w.le ⟨upd w.F p o, w.φ, w.prv⟩ := ⟨⟨fun a u _ r => by
    have ne : ∀ z, w.F a = some z → a ≠ p := fun z e q => by subst q; rw [hF] at e; cases e
    rcases r with r | ⟨ob, r⟩
    · exact .inl (show upd w.F p o a = some u by rw [upd_ne (ne _ r)]; exact r)
    · exact .inr ⟨ob, show upd w.F p o a = _ by rw [upd_ne (ne _ r)]; exact r⟩, fun _ _ h => h, fun a vs r => by
    show upd w.F p o a = _
    rw [upd_ne (fun q => by subst q; rw [hF] at r; cases r)]; exact r⟩, rfl⟩
  refine ⟨⟨fun a u e => ?_, R.len, R.nd, fun a ha => ?_, fun n a c e1 e2 => ?_, fun a u e => ?_, R.tab.step (fun q a b c ⟨ps, d⟩ => ?_) fun c u e => ?_, R.nt⟩, le⟩
  rotate_left 4
  · have ne : q ≠ p := fun z => by rw [z, hp] at d; cases d
    exact ⟨(upd_ne ne).trans a, b, c, upd_ne ne⟩
  · exact (upd_ne fun z => by rw [z, hF] at e; cases e).trans e
  · have e' : upd w.F p o a = some u := e
    by_cases hb : a = p
    · subst hb; rw [upd_same] at e' ⊢; exact e'
    · rw [upd_ne hb] at e' ⊢; exact R.sub _ _ e'
  · have na : a ≠ p := fun q => hφ (q ▸ ha)
    show upd w.F p o a = none
    rw [upd_ne na]; exact R.free a ha
  · obtain ⟨ob, h1, h2⟩ := R.box n a c e1 e2
    exact ⟨ob, by rw [upd_ne (ne_of_none h1 hp)]; exact h1, h2.le le⟩
  · obtain ⟨h1, h2, h3⟩ := R.prv a u e
    have ne := ne_of_none h1 hp
    exact ⟨by rw [upd_ne ne]; exact h1, by show upd w.F p o a = none; rw [upd_ne ne]; exact h2, h3⟩
theorem getElem?_lt {α : Type} {l : List α} {n : Nat} {a : α} (h : l[n]? = some a) : n < l.length := (List.getElem?_eq_some_iff.mp h).1
theorem Rel.newB (R : Rel G w L H) {p : Addr} {o : HO} {c : D} (hp : H p = none) (hb : BoxD G ⟨w.F, w.φ ++ [p], w.prv⟩ o c) : Rel G ⟨w.F, w.φ ++ [p], w.prv⟩ (L ++ [c]) (upd H p o) ∧ w.le ⟨w.F, w.φ ++ [p], w.prv⟩ := by
  have hF : w.F p = none := by
    cases q : w.F p with
    | none => rfl
    | some u => rw [R.sub _ _ q] at hp; cases hp
  have hφ : p ∉ w.φ := fun hm => by
    obtain ⟨n, hn, e⟩ := List.getElem_of_mem hm
    have e1 : w.φ[n]? = some p := by rw [List.getElem?_eq_getElem hn, e]
    have hL : n < L.length := by rw [← R.len]; exact hn
    obtain ⟨o, h1, _⟩ := R.box n p L[n] e1 (List.getElem?_eq_getElem hL)
    rw [hp] at h1; cases h1
  have le : w.le ⟨w.F, w.φ ++ [p], w.prv⟩ := ⟨⟨fun _ _ _ r => r, fun n a e => (List.getElem?_append_left (getElem?_lt e)).trans e, fun _ _ r => r⟩, rfl⟩
  refine ⟨⟨fun a u e => ?_, by simp [R.len], ?_, fun a ha => ?_, fun n a c' e1 e2 => ?_, fun a u e => ?_, R.tab.step (fun q a b c ⟨ps, d⟩ => ?_) (fun c u e => e), R.nt⟩, le⟩
  rotate_left 5
  · have ne : q ≠ p := fun z => by rw [z, hp] at d; cases d
    refine ⟨a, fun hm => ?_, c, upd_ne ne⟩
    rcases List.mem_append.mp (show q ∈ w.φ ++ [p] from hm) with h | h
    · exact b h
    · exact ne (List.mem_singleton.mp h)
  · have e' : w.F a = some u := e
    rw [upd_ne (fun q => by subst q; rw [hF] at e'; cases e')]; exact R.sub _ _ e'
  · rw [List.nodup_append]
    exact ⟨R.nd, by simp, fun a ha b hb => by
      rw [List.mem_singleton] at hb; subst hb; exact fun q => hφ (q ▸ ha)⟩
  · rcases List.mem_append.mp (show a ∈ w.φ ++ [p] from ha) with h | h
    · exact R.free a h
    · rw [List.mem_singleton] at h; subst h; exact hF
  · have e1' : (w.φ ++ [p])[n]? = some a := e1
    by_cases hn : n < w.φ.length
    · rw [List.getElem?_append_left hn] at e1'
      rw [List.getElem?_append_left (by rw [← R.len]; exact hn)] at e2
      obtain ⟨ob, h1, h2⟩ := R.box n a c' e1' e2
      exact ⟨ob, by rw [upd_ne (ne_of_none h1 hp)]; exact h1, h2.le le⟩
    · have hn' : n = w.φ.length := by
        have := getElem?_lt e1'
        simp at this; omega
      subst hn'
      rw [List.getElem?_append_right (Nat.le_refl _)] at e1'
      rw [R.len, List.getElem?_append_right (Nat.le_refl _)] at e2
      simp at e1' e2
      subst e1'; subst e2
      exact ⟨o, upd_same, hb⟩
  · obtain ⟨h1, h2, h3⟩ := R.prv a u e
    have ne := ne_of_none h1 hp
    refine ⟨by rw [upd_ne ne]; exact h1, h2, fun hm => ?_⟩
    rcases List.mem_append.mp (show a ∈ w.φ ++ [p] from hm) with h | h
    · exact h3 h
    · exact ne (List.mem_singleton.mp h)
theorem Rel.put (R : Rel G w L H) {n : Nat} {p : Addr} {o : HO} {c : D} (hn : w.φ[n]? = some p) (hb : BoxD G w o c) : Rel G w (L.set n c) (upd H p o) := by
  refine ⟨fun a u e => ?_, by rw [List.length_set]; exact R.len, R.nd, R.free, fun m a c' e1 e2 => ?_, fun a u e => ?_, R.tab.step (fun q a b c _ => ⟨a, b, c, upd_ne fun z => b (z ▸ List.mem_of_getElem? hn)⟩) (fun c u e => e), R.nt⟩
  · have hm : p ∈ w.φ := List.mem_of_getElem? hn
    rw [upd_ne (fun q => by subst q; rw [R.free _ hm] at e; cases e)]; exact R.sub _ _ e
  · by_cases h : m = n
    · subst h
      rw [hn] at e1; cases e1
      rw [List.getElem?_set_self (by rw [← R.len]; exact getElem?_lt hn)] at e2
      cases e2
      exact ⟨o, upd_same, hb⟩
    · rw [List.getElem?_set_ne (Ne.symm h)] at e2
      obtain ⟨ob, h1, h2⟩ := R.box m a c' e1 e2
      refine ⟨ob, ?_, h2⟩
      rw [upd_ne]
      · exact h1
      · intro q
        subst q
        exact h ((List.getElem?_inj (getElem?_lt e1) R.nd).mp (e1.trans hn.symm))
  · obtain ⟨h1, h2, h3⟩ := R.prv a u e
    exact ⟨by rw [upd_ne (fun q => by subst q; exact h3 (List.mem_of_getElem? hn))]; exact h1, h2, h3⟩
theorem nt_upd {q : Hp} {p : Addr} {o' : HO} (h : ∀ a o, q a = some o → HO.nt o) (ho : HO.nt o') (a : Addr) (u : HO) (e : upd q p o' a = some u) : HO.nt u := by
  by_cases hb : a = p
  · subst hb; rw [upd_same] at e; cases e; exact ho
  · rw [upd_ne hb] at e; exact h a u e
theorem Rel.newP (R : Rel G w L H) {p : Addr} {o : HO} (hp : H p = none) (ho : HO.nt o := by exact True.intro) : Rel G ⟨w.F, w.φ, upd w.prv p o⟩ L (upd H p o) := by
  have hF : w.F p = none := by
    cases q : w.F p with
    | none => rfl
    | some u => rw [R.sub _ _ q] at hp; cases hp
  have hφ : p ∉ w.φ := fun hm => by
    obtain ⟨n, hn, e⟩ := List.getElem_of_mem hm
    have e1 : w.φ[n]? = some p := by rw [List.getElem?_eq_getElem hn, e]
    have hL : n < L.length := by rw [← R.len]; exact hn
    obtain ⟨o, h1, _⟩ := R.box n p L[n] e1 (List.getElem?_eq_getElem hL)
    rw [hp] at h1; cases h1
  refine ⟨fun a u e => ?_, R.len, R.nd, R.free, fun n a c e1 e2 => ?_, fun a u e => ?_, R.tab.step (fun q a b c ⟨ps, d⟩ => ?_) (fun c u e => e), nt_upd R.nt ho⟩
  rotate_left 3
  · have ne : q ≠ p := fun z => by rw [z, hp] at d; cases d
    exact ⟨a, b, (upd_ne ne).trans c, upd_ne ne⟩
  · have e' : w.F a = some u := e
    rw [upd_ne (fun q => by subst q; rw [hF] at e'; cases e')]; exact R.sub _ _ e'
  · obtain ⟨ob, h1, h2⟩ := R.box n a c e1 e2
    exact ⟨ob, by rw [upd_ne (ne_of_none h1 hp)]; exact h1, h2.le0 (Wd.prv_le w _)⟩
  · have e' : upd w.prv p o a = some u := e
    by_cases hb : a = p
    · subst hb; rw [upd_same] at e' ⊢; exact ⟨e', hF, hφ⟩
    · rw [upd_ne hb] at e' ⊢; exact R.prv a u e'
theorem Rel.putP (R : Rel G w L H) {p : Addr} {o o' : HO} (hp : w.prv p = some o) (ho : HO.nt o' := by exact True.intro) : Rel G ⟨w.F, w.φ, upd w.prv p o'⟩ L (upd H p o') := by
  obtain ⟨h1, h2, h3⟩ := R.prv p o hp
  refine ⟨fun a u e => ?_, R.len, R.nd, R.free, fun n a c e1 e2 => ?_, fun a u e => ?_, R.tab.step (fun q a b c _ => ?_) (fun c u e => e), nt_upd R.nt ho⟩
  rotate_left 3
  · have ne : q ≠ p := fun z => by rw [z, hp] at c; cases c
    exact ⟨a, b, (upd_ne ne).trans c, upd_ne ne⟩
  · have e' : w.F a = some u := e
    rw [upd_ne (fun q => by subst q; rw [h2] at e'; cases e')]; exact R.sub _ _ e'
  · obtain ⟨ob, k1, k2⟩ := R.box n a c e1 e2
    exact ⟨ob, by rw [upd_ne (fun q => by subst q; exact h3 (List.mem_of_getElem? e1))]; exact k1, k2.le0 (Wd.prv_le w _)⟩
  · have e' : upd w.prv p o' a = some u := e
    by_cases hb : a = p
    · subst hb; rw [upd_same] at e' ⊢; exact ⟨e', h2, h3⟩
    · rw [upd_ne hb] at e' ⊢; exact R.prv a u e'
theorem Rel.outP (R : Rel G w L H) {p : Addr} {o : HO} (hp : w.prv p = some o) (prv : Hp) (hq : ∀ a u, prv a = some u → a ≠ p ∧ w.prv a = some u) : Rel G ⟨upd w.F p o, w.φ, prv⟩ L H ∧ w.le0 ⟨upd w.F p o, w.φ, prv⟩ := by
  obtain ⟨h1, h2, h3⟩ := R.prv p o hp
  have le : w.le0 ⟨upd w.F p o, w.φ, prv⟩ := ⟨fun a u _ r => by
    have ne : ∀ z, w.F a = some z → a ≠ p := fun z e q => by subst q; rw [h2] at e; cases e
    rcases r with r | ⟨ob, r⟩
    · exact .inl (show upd w.F p o a = some u by rw [upd_ne (ne _ r)]; exact r)
    · exact .inr ⟨ob, show upd w.F p o a = _ by rw [upd_ne (ne _ r)]; exact r⟩, fun _ _ h => h, fun a vs r => by
    show upd w.F p o a = _
    rw [upd_ne (fun q => by subst q; rw [h2] at r; cases r)]; exact r⟩
  refine ⟨⟨fun a u e => ?_, R.len, R.nd, fun a ha => ?_, fun n a c e1 e2 => ?_, fun a u e => ?_, R.tab.step (fun q a b c _ => ?_) (fun c u e => (upd_ne fun z => by rw [z, h2] at e; cases e).trans e), fun a u e => R.nt a u (hq a u e).2⟩, le⟩
  rotate_left 4
  · have ne : q ≠ p := fun z => by rw [z, hp] at c; cases c
    refine ⟨(upd_ne ne).trans a, b, ?_, rfl⟩
    cases e : prv q with
    | none => exact e
    | some u => rw [(hq q u e).2] at c; cases c
  · have e' : upd w.F p o a = some u := e
    by_cases hb : a = p
    · subst hb; rw [upd_same] at e'; cases e'; exact h1
    · rw [upd_ne hb] at e'; exact R.sub _ _ e'
  · show upd w.F p o a = none
    rw [upd_ne (fun q => by subst q; exact h3 ha)]; exact R.free a ha
  · obtain ⟨ob, k1, k2⟩ := R.box n a c e1 e2
    exact ⟨ob, k1, k2.le0 le⟩
  · obtain ⟨n1, n2⟩ := hq a u e
    obtain ⟨k1, k2, k3⟩ := R.prv a u n2
    exact ⟨k1, by show upd w.F p o a = none; rw [upd_ne n1]; exact k2, k3⟩
theorem Rel.outB (R : Rel G w L H) {p : Addr} {o : HO} {c : D} (hp : w.prv p = some o) (hb : BoxD G w o c) (prv : Hp) (hq : ∀ a u, prv a = some u → a ≠ p ∧ w.prv a = some u) :
    Rel G ⟨w.F, w.φ ++ [p], prv⟩ (L ++ [c]) H ∧ w.le0 ⟨w.F, w.φ ++ [p], prv⟩ := by
  obtain ⟨h1, h2, h3⟩ := R.prv p o hp
  have le : w.le0 ⟨w.F, w.φ ++ [p], prv⟩ := ⟨fun _ _ _ r => r, fun n a e => (List.getElem?_append_left (getElem?_lt e)).trans e, fun _ _ r => r⟩
  refine ⟨⟨R.sub, by simp [R.len], ?_, fun a ha => ?_, fun n a c' e1 e2 => ?_, fun a u e => ?_, R.tab.step (fun q a b c _ => ?_) (fun c u e => e), fun a u e => R.nt a u (hq a u e).2⟩, le⟩
  rotate_left 4
  · have ne : q ≠ p := fun z => by rw [z, hp] at c; cases c
    refine ⟨a, fun hm => ?_, ?_, rfl⟩
    · rcases List.mem_append.mp (show q ∈ w.φ ++ [p] from hm) with h | h
      · exact b h
      · exact ne (List.mem_singleton.mp h)
    · cases e : prv q with
      | none => exact e
      | some u => rw [(hq q u e).2] at c; cases c
  · rw [List.nodup_append]
    exact ⟨R.nd, by simp, fun a ha b hb => by
      rw [List.mem_singleton] at hb; subst hb; exact fun q => h3 (q ▸ ha)⟩
  · rcases List.mem_append.mp (show a ∈ w.φ ++ [p] from ha) with h | h
    · exact R.free a h
    · rw [List.mem_singleton] at h; subst h; exact h2
  · have e1' : (w.φ ++ [p])[n]? = some a := e1
    by_cases hn : n < w.φ.length
    · rw [List.getElem?_append_left hn] at e1'
      rw [List.getElem?_append_left (by rw [← R.len]; exact hn)] at e2
      obtain ⟨ob, k1, k2⟩ := R.box n a c' e1' e2
      exact ⟨ob, k1, k2.le0 le⟩
    · have hn' : n = w.φ.length := by
        have := getElem?_lt e1'
        simp at this; omega
      subst hn'
      rw [List.getElem?_append_right (Nat.le_refl _)] at e1'
      rw [R.len, List.getElem?_append_right (Nat.le_refl _)] at e2
      simp at e1' e2
      subst e1'; subst e2
      exact ⟨o, h1, hb.le0 le⟩
  · obtain ⟨n1, n2⟩ := hq a u e
    obtain ⟨k1, k2, k3⟩ := R.prv a u n2
    refine ⟨k1, k2, fun hm => ?_⟩
    rcases List.mem_append.mp (show a ∈ w.φ ++ [p] from hm) with h | h
    · exact k3 h
    · exact n1 (List.mem_singleton.mp h)
theorem Rel.outQ (R : Rel G w L H) {p : Addr} {o o' : HO} (hp : w.prv p = some o) (prv : Hp) (hq : ∀ a u, prv a = some u → a ≠ p ∧ w.prv a = some u) : Rel G ⟨upd w.F p o', w.φ, prv⟩ L (upd H p o') ∧ w.le0 ⟨upd w.F p o', w.φ, prv⟩ := by
  obtain ⟨h1, h2, h3⟩ := R.prv p o hp
  have ne : ∀ a z, w.F a = some z → a ≠ p := fun a z e q => by subst q; rw [h2] at e; cases e
  have fw : ∀ a z, w.F a = some z → upd w.F p o' a = some z := fun a z e => (upd_ne (ne a z e)).trans e
  have le : w.le0 ⟨upd w.F p o', w.φ, prv⟩ := ⟨fun a u _ r => r.elim (fun r => .inl (fw a u r)) fun ⟨ob, r⟩ => .inr ⟨ob, fw a _ r⟩, fun _ _ h => h, fw⟩
  refine ⟨⟨fun a u e => ?_, R.len, R.nd, fun a ha => ?_, fun n a c e1 e2 => ?_, fun a u e => ?_, R.tab.step (fun q a b c _ => ?_) fw, fun a u e => R.nt a u (hq a u e).2⟩, le⟩
  rotate_left 4
  · have ne : q ≠ p := fun z => by rw [z, hp] at c; cases c
    refine ⟨(upd_ne ne).trans a, b, ?_, upd_ne ne⟩
    cases e : prv q with
    | none => exact e
    | some u => rw [(hq q u e).2] at c; cases c
  · by_cases hb : a = p
    · have e' : upd w.F p o' a = some u := e
      rw [hb, upd_same] at e' ⊢; exact e'
    · have e' : upd w.F p o' a = some u := e
      rw [upd_ne hb] at e' ⊢; exact R.sub _ _ e'
  · have na : a ≠ p := fun q => h3 (q ▸ ha)
    exact (upd_ne na).trans (R.free a ha)
  · have na : a ≠ p := fun q => h3 (q ▸ List.mem_of_getElem? e1)
    obtain ⟨ob, k1, k2⟩ := R.box n a c e1 e2
    exact ⟨ob, (upd_ne na).trans k1, k2.le0 le⟩
  · obtain ⟨n1, n2⟩ := hq a u e
    obtain ⟨k1, k2, k3⟩ := R.prv a u n2
    exact ⟨(upd_ne n1).trans k1, (upd_ne n1).trans k2, k3⟩
theorem Rel.addT (R : Rel G w L H) {p : Addr} {xs : List V} (hp : H p = some (.tup xs)) : ∃ w', w.le w' ∧ Rel G w' L H ∧ w'.F p = some (.tup xs) := by
  cases q : w.F p with
  | some u =>
    have := R.sub _ _ q
    rw [hp] at this
    cases this
    exact ⟨w, .refl w, R, q⟩
  | none =>
    have hφ : p ∉ w.φ := fun hm => by
      obtain ⟨n, hn, e⟩ := List.getElem_of_mem hm
      have e1 : w.φ[n]? = some p := by rw [List.getElem?_eq_getElem hn, e]
      have hL : n < L.length := by rw [← R.len]; exact hn
      obtain ⟨o, h1, h2⟩ := R.box n p L[n] e1 (List.getElem?_eq_getElem hL)
      rw [hp] at h1; cases h1; cases h2
    have hv : ∀ u, w.prv p ≠ some u := fun u e => by
      have h1 := (R.prv p u e).1
      rw [hp] at h1
      cases h1
      exact R.nt _ _ e
    have fw : ∀ a z, w.F a = some z → upd w.F p (.tup xs) a = some z := fun a z e => (upd_ne fun y => by subst y; rw [q] at e; cases e).trans e
    have le : w.le ⟨upd w.F p (.tup xs), w.φ, w.prv⟩ := ⟨⟨fun a u _ r => r.elim (fun r => .inl (fw a u r)) fun ⟨ob, r⟩ => .inr ⟨ob, fw a _ r⟩, fun _ _ h => h, fw⟩, rfl⟩
    refine ⟨⟨upd w.F p (.tup xs), w.φ, w.prv⟩, le, ⟨fun a u e => ?_, R.len, R.nd, fun a ha => (upd_ne fun y => by rw [y] at ha; exact hφ ha).trans (R.free a ha), fun n a c e1 e2 => ?_, fun a u e => ?_, R.tab.step (fun z a b c ⟨ps, d⟩ => ⟨(upd_ne fun y => by rw [y, hp] at d; cases d).trans a, b, c, rfl⟩) fw, R.nt⟩, upd_same⟩
    · have e' : upd w.F p (.tup xs) a = some u := e
      by_cases hb : a = p
      · subst hb; rw [upd_same] at e'; cases e'; exact hp
      · rw [upd_ne hb] at e'; exact R.sub _ _ e'
    · obtain ⟨ob, k1, k2⟩ := R.box n a c e1 e2
      exact ⟨ob, k1, k2.le le⟩
    · obtain ⟨k1, k2, k3⟩ := R.prv a u e
      exact ⟨k1, (upd_ne fun y => by rw [y] at e; exact hv u e).trans k2, k3⟩
theorem Rel.sqT (R : Rel G w L H) {a : Addr} {vs : List V} (h : SqT G.K w.F a vs) : SqT G.K H a vs := by
  rcases h with (h | ⟨o, h⟩) | h
  · exact .inl (.inl (R.sub _ _ h))
  · exact .inl (.inr ⟨o, R.sub _ _ h⟩)
  · exact .inr h
theorem Rel.sqL (R : Rel G w L H) {a : Addr} {vs : List V} (h : SqL G.K w.F a vs) : SqL G.K H a vs := by
  rcases h with (h | ⟨o, h⟩) | h
  · exact .inl (.inl (R.sub _ _ h))
  · exact .inl (.inr ⟨o, R.sub _ _ h⟩)
  · exact .inr h
theorem Rel.rd (R : Rel G w L H) {a : Addr} {u : HO} (h : Rd w.F a u) : Rd H a u := by
  rcases h with h | ⟨o, h⟩
  · exact .inl (R.sub _ _ h)
  · exact .inr ⟨o, R.sub _ _ h⟩
end
inductive Res (α : Type) where
  | ok (a : α) (L : Sto)
  | err (c : Str) (p : List (Str × D)) (L : Sto)
  | bad
def Res.bind {α β : Type} (r : Res α) (k : α → Sto → Res β) : Res β := match r with
  | .ok a L => k a L
  | .err c p L => .err c p L
  | .bad => .bad
@[simp] theorem Res.bind_ok {α β : Type} (a : α) (L : Sto) (k : α → Sto → Res β) : (Res.ok a L).bind k = k a L := rfl
@[simp] theorem Res.bind_err {α β : Type} (c : Str) (p : List (Str × D)) (L : Sto) (k : α → Sto → Res β) : (Res.err c p L : Res α).bind k = .err c p L := rfl
@[simp] theorem Res.bind_bad {α β : Type} (k : α → Sto → Res β) : (Res.bad : Res α).bind k = .bad := rfl
def ExcP (G : Gb) (w : Wd) (H : Hp) (dx : Option Addr) (p : List (Str × D)) : Prop :=
  (p = [] ∧ dx = none) ∨ ∃ (a : Addr) (fs : List (Str × V)), dx = some a ∧ w.F a = some (.xd fs) ∧ DenF G w fs p
section
variable (G : Gb)
def Post {α β : Type} (rel : Wd → β → α → Prop) (w : Wd) (r : Res α) (Q : β → Hp → Prop) (E : XK) : Prop := match r with
  | .ok a L => ∀ w' H v, w.le w' → Rel G w' L H → rel w' v a → Q v H
  | .err c p L => ∀ w' H dx, w.le w' → Rel G w' L H → ExcP G w' H dx p → ∀ C, G.mg c = some (.ref C) → E (.ref C) dx H
  | .bad => False
def tR {α β : Type} (rel : Wd → β → α → Prop) (W : WX) (f : Env' → Sto → Res α) : St → Hp → (β → Hp → Prop) → Prop := fun σ H Q =>
  ∃ w ρ L, Rel G w L H ∧ EnvR G w σ ρ ∧ Post G rel w (f ρ L) Q (fun c dx H' => W c dx σ H')
end
theorem Post.le {G : Gb} {α β : Type} {rel : Wd → β → α → Prop} {w w' : Wd} (h : w.le w') {r : Res α} {Q : β → Hp → Prop} {E : XK} (p : Post G rel w r Q E) : Post G rel w' r Q E := by
  cases r with
  | ok a L => exact fun w2 H v l R d => p w2 H v (h.trans l) R d
  | err c q L => exact fun w2 H dx l R x C m => p w2 H dx (h.trans l) R x C m
  | bad => exact p
theorem Post.imp {G : Gb} {α β : Type} {rel : Wd → β → α → Prop} {w : Wd} {r : Res α} {Q Q' : β → Hp → Prop} {E E' : XK} (p : Post G rel w r Q E) (h : ∀ v H, Q v H → Q' v H) (hE : ∀ c d H, E c d H → E' c d H) : Post G rel w r Q' E' := by
  cases r with
  | ok a L => exact fun w2 H v l R d => h _ _ (p w2 H v l R d)
  | err c q L => exact fun w2 H dx l R x C m => hE _ _ _ (p w2 H dx l R x C m)
  | bad => exact p
theorem Post.bind {G : Gb} {α α' β β' : Type} {rel : Wd → β → α → Prop} {rel' : Wd → β' → α' → Prop} {w : Wd} {r : Res α} {k : α → Sto → Res α'} {Q : β' → Hp → Prop} {E : XK} (p : Post G rel' w (r.bind k) Q E) :
    Post G rel w r (fun v H => ∃ w' a L, w.le w' ∧ Rel G w' L H ∧ rel w' v a ∧ Post G rel' w' (k a L) Q E) E := by
  cases r with
  | ok a L => exact fun w2 H v l R d => ⟨w2, a, L, l, R, d, Post.le l p⟩
  | err c q L => exact p
  | bad => exact p
theorem Post.ok {G : Gb} {α β : Type} {rel : Wd → β → α → Prop} {w : Wd} {a : α} {L : Sto} {Q : β → Hp → Prop} {E : XK} (p : Post G rel w (.ok a L) Q E) {w' : Wd} {H : Hp} {v : β} (l : w.le w') (R : Rel G w' L H) (d : rel w' v a) : Q v H := p w' H v l R d
structure Sc where
  g : Gb
  N : List Str
  sc : Scope
  fn : Str → Bool
  k : Nat
  
  gd : Bool
  
  top : Bool
  
  lm : Option Str
structure Sc.Has (S : Sc) (W : WX) (X : Cx) : Prop where
  P : S.g.P = X.prog
  w : S.g.w = X.w
  K : S.g.K = X.K
  mg : S.g.mg = X.mg
  base : S.g.base = X.base
  N : S.N = X.N
  sc : S.sc = X.env.scope
  fn : S.fn = X.fn
  calm : X.calm = true
  room : Room S.k X.A
  gd : S.gd = true → X.A.guards = some []
  top : S.top = true → X.stack = X.env :: X.outer ∧ X.env.frame = some X.env.locals
  lm : ∀ q, S.lm = some q → ∃ c P, X.env.code = .ref c ∧ LamX.TabB S.g.base S.g.mg c P ∧ (P, some (X.env.qual ++ q)) ∈ S.g.tabs
  takes : Takes X W
  passes : PassesOwn (model X.prog X.w) X.A X.env X.xe
def Glb (S : Sc) (x : Str) : Prop := S.sc.names.lookup x = some .globalImplicit
theorem PE.imp {X : Cx} {e : Expr} {t u : TE} (h : PE X e t) (k : ∀ σ H Q, u σ H Q → t σ H Q) : PE X e u := ⟨fun pins s σ H Q I q => h.run pins s σ H Q I (k σ H Q q)⟩
theorem PT.imp {X : Cx} {e : Expr} {t u : TT} (h : PT X e t) (k : ∀ σ H Q, u σ H Q → t σ H Q) : PT X e u := ⟨fun pins s σ H Q I q => h.run pins s σ H Q I (k σ H Q q)⟩
theorem PW.imp {X : Cx} {e : Expr} {t u : TT} (h : PW X e t) (k : ∀ σ H Q, u σ H Q → t σ H Q) : PW X e u := ⟨fun wh pins s σ H Q I q => h.run wh pins s σ H Q I (k σ H Q q)⟩
theorem PA.imp {X : Cx} {e : List Expr} {t u : TA} (h : PA X e t) (k : ∀ σ H Q, u σ H Q → t σ H Q) : PA X e u := ⟨fun pos pins s σ H Q I q => h.run pos pins s σ H Q I (k σ H Q q)⟩
theorem PS.imp {X : Cx} {e : Stmt} {t u : TS} (h : PS X e t) (k : ∀ D σ H, u D σ H → t D σ H) : PS X e u := ⟨fun pins s σ H D I q => h.run pins s σ H D I (k D σ H q)⟩
theorem PSs.imp {X : Cx} {e : List Stmt} {t u : TS} (h : PSs X e t) (k : ∀ D σ H, u D σ H → t D σ H) : PSs X e u := ⟨fun pins s σ H D I q => h.run pins s σ H D I (k D σ H q)⟩
theorem PG.imp {X : Cx} {e : Expr} {t u : TG} (h : PG X e t) (k : ∀ v σ H Q, u v σ H Q → t v σ H Q) : PG X e u := ⟨fun pins s σ H v u Q I r q => h.run pins s σ H v u Q I r (k v σ H Q q)⟩
theorem PGs.imp {X : Cx} {e : List Expr} {t u : TGs} (h : PGs X e t) (k : ∀ v σ H Q, u v σ H Q → t v σ H Q) : PGs X e u := ⟨fun pins s σ H v u Q I r q => h.run pins s σ H v u Q I r (k v σ H Q q)⟩
theorem PI.imp {X : Cx} {tg e : Expr} {t u : TI} (h : PI X tg e t) (k : ∀ σ H Q, u σ H Q → t σ H Q) : PI X tg e u := ⟨fun pins s σ H Q I q => h.run pins s σ H Q I (k σ H Q q)⟩
inductive SRes where
  | nx (ρ : Env') (L : Sto)
  | rt (d : D) (L : Sto)
  | bk (ρ : Env') (L : Sto)
  | ct (ρ : Env') (L : Sto)
  | err (c : Str) (p : List (Str × D)) (ρ : Env') (L : Sto)
  | bad
abbrev EF := Env' → Sto → Res D
abbrev TF := Env' → Sto → Res Bool
abbrev AF := Env' → Sto → Res (List D)
abbrev SF := Env' → Sto → SRes
abbrev GF := D → Env' → Option Env'
structure Its where
  ds : List D
  src : List (Nat × D)
abbrev IF := Env' → Sto → Res Its
section
variable (G : Gb)
def PostS (w : Wd) (r : SRes) (E : Ends) (W : WX) : Prop := match r with
  | .nx ρ L => ∀ w' σ H, w.le w' → Rel G w' L H → EnvR G w' σ ρ → E.nx σ H
  | .rt d L => ∀ w' v H, w.le w' → Rel G w' L H → Den G w' v d → E.rt v H
  | .bk ρ L => ∀ w' σ H, w.le w' → Rel G w' L H → EnvR G w' σ ρ → E.bk σ H
  | .ct ρ L => ∀ w' σ H, w.le w' → Rel G w' L H → EnvR G w' σ ρ → E.ct σ H
  | .err c p ρ L => ∀ w' σ H dx, w.le w' → Rel G w' L H → EnvR G w' σ ρ → ExcP G w' H dx p → ∀ C, G.mg c = some (.ref C) → W (.ref C) dx σ H
  | .bad => False
def tS (W : WX) (f : SF) : TS := fun E σ H => ∃ w ρ L, Rel G w L H ∧ EnvR G w σ ρ ∧ PostS G w (f ρ L) E W
def tG (own : List Nat) (f : GF) : TG := fun v σ H Q => ∃ w ρ L d ρ', Rel G w L H ∧ EnvR G w σ ρ ∧ Den G w v d ∧ f d ρ = some ρ' ∧ ∀ σ', EnvR G w σ' ρ' → L2.wipe σ' own = L2.wipe σ own → Q σ' H
def tGs (own : List Nat) (f : List D → Env' → Option Env') : TGs := fun vs σ H Q => ∃ w ρ L ds ρ', Rel G w L H ∧ EnvR G w σ ρ ∧ DenL G w vs ds ∧ f ds ρ = some ρ' ∧ ∀ σ', EnvR G w σ' ρ' → L2.wipe σ' own = L2.wipe σ own → Q σ' H
def srcOk (L : Sto) (s : List (Nat × D)) : Prop := ∀ p ∈ s, L[p.1]? = some p.2
def ItOk (w0 : Wd) (s : List (Nat × D)) (J : It) (ds : List D) : Prop := ∀ w L H, w0.le0 w → Rel G w L H → srcOk L s → ∀ i : Nat,
  (∀ d, ds[i]? = some d → J.go i H ∧ ∀ x H', J.yld i H x H' → ∃ w', w.le w' ∧ Rel G w' L H' ∧ Den G w' x d) ∧ (i = ds.length → J.stop i H)
def PostI (w : Wd) (r : Res Its) (R : It → Hp → Prop) (E : XK) : Prop := match r with
  | .ok its L => ∀ w' H J, w.le w' → Rel G w' L H → srcOk L its.src → ItOk G w' its.src J its.ds → R J H
  | .err c p L => ∀ w' H dx, w.le w' → Rel G w' L H → ExcP G w' H dx p → ∀ C, G.mg c = some (.ref C) → E (.ref C) dx H
  | .bad => False
def tI (W : WX) (f : IF) : TI := fun σ H R => ∃ w ρ L, Rel G w L H ∧ EnvR G w σ ρ ∧ PostI G w (f ρ L) R (fun c dx H' => W c dx σ H')
end
theorem PostS.le {G : Gb} {w w' : Wd} (h : w.le w') {r : SRes} {E : Ends} {W : WX} (p : PostS G w r E W) : PostS G w' r E W := by
  cases r with
  | nx ρ L => exact fun w2 σ H l R e => p w2 σ H (h.trans l) R e
  | rt d L => exact fun w2 v H l R e => p w2 v H (h.trans l) R e
  | bk ρ L => exact fun w2 σ H l R e => p w2 σ H (h.trans l) R e
  | ct ρ L => exact fun w2 σ H l R e => p w2 σ H (h.trans l) R e
  | err c q ρ L => exact fun w2 σ H dx l R e x C m => p w2 σ H dx (h.trans l) R e x C m
  | bad => exact p
def SE (S : Sc) (W : WX) (e : Expr) (f : EF) : Prop := ∀ X, S.Has W X → PE X e (tR S.g (Den S.g) W f)
def ST (S : Sc) (W : WX) (e : Expr) (f : TF) : Prop := ∀ X, S.Has W X → PT X e (tR S.g (fun _ a b => a = b) W f)
def SW (S : Sc) (W : WX) (e : Expr) (f : TF) : Prop := ∀ X, S.Has W X → PW X e (tR S.g (fun _ a b => a = b) W f)
def SA (S : Sc) (W : WX) (es : List Expr) (f : AF) : Prop := ∀ X, S.Has W X → PA X es (tR S.g (DenL S.g) W f)
def SS (S : Sc) (W : WX) (st : Stmt) (f : SF) : Prop := ∀ X, S.Has W X → PS X st (tS S.g W f)
def SSs (S : Sc) (W : WX) (st : List Stmt) (f : SF) : Prop := ∀ X, S.Has W X → PSs X st (tS S.g W f)
def SG (S : Sc) (W : WX) (own : List Nat) (tg : Expr) (f : GF) : Prop := ∀ X, S.Has W X → PG X tg (tG S.g own f)
def SGs (S : Sc) (W : WX) (own : List Nat) (tgs : List Expr) (f : List D → Env' → Option Env') : Prop := ∀ X, S.Has W X → PGs X tgs (tGs S.g own f)
def SI (S : Sc) (W : WX) (tg e : Expr) (f : IF) : Prop := ∀ X, S.Has W X → PI X tg e (tI S.g W f)
def eVar (i : Nat) : EF := fun ρ L => match ρ[i]? with
  | some (some d) => .ok d L
  | _ => .bad
def eC (d : D) : EF := fun _ L => .ok d L
section
variable {S : Sc} {W : WX} {a b e c : Expr} {fa fb : EF} {pos : Pos}
theorem se_var (i : Nat) {x : Str} (hN : S.N[i]? = some x := by rfl) (hv : Vis S.sc x := by first | exact Or.inl rfl | exact Or.inr (Or.inl rfl) | exact Or.inr (Or.inr rfl))
    (hd : (x == ("__debug__" : Str)) = false := by decide) (hcd : (x == ("__classdict__" : Str)) = false := by decide) : SE S W (.Name x pos) (eVar i) := fun X h => by
  refine PE.imp (pe_var (i := i) (by rw [← h.N]; exact hN) (by rw [← h.sc]; exact hv) hd hcd) fun σ H Q ⟨w, ρ, L, R, e, p⟩ => ?_
  unfold eVar at p
  split at p
  · rename_i d q
    obtain ⟨v, h1, h2⟩ := e.2 i d q
    exact ⟨v, h1, p.ok (Wd.le.refl w) R h2⟩
  · exact p.elim
theorem se_const {d : D} {v : V} (hp : ∀ X : Cx, PE X e (tC v)) (hd : ∀ G w, Den G w v d) : SE S W e (eC d) := fun X h =>
  PE.imp (hp X) fun σ H Q ⟨w, ρ, L, R, e, p⟩ => p.ok (Wd.le.refl w) R (hd S.g w)
theorem se_int {i : Int} {j : Nat} : SE S W (.Constant (.int i) j pos) (eC (.int i)) := se_const (fun _ => pe_int) fun _ _ => .int i
theorem se_bl {i : Bool} {j : Nat} : SE S W (.Constant (.bool i) j pos) (eC (.bl i)) := se_const (fun _ => pe_bl) fun _ _ => .bl i
theorem se_non {j : Nat} : SE S W (.Constant .none j pos) (eC .non) := se_const (fun _ => pe_non) fun _ _ => .non
theorem se_str {x : Str} {j : Nat} : SE S W (.Constant (.str x) j pos) (eC (.str x)) := se_const (fun _ => pe_str) fun _ _ => .str x
theorem se_glob {x : Str} {v : V} {u : Value} {d : D} (hg : Glb S x) (hm : S.g.mg x = some u) (r : RelV v u) (hd : ∀ w, Den S.g w v d) (hdb : (x == ("__debug__" : Str)) = false := by decide) :
    SE S W (.Name x pos) (eC d) := fun X h =>
  PE.imp (pe_glob (v := v) (u := u) (by show X.env.scope.names.lookup x = _; rw [← h.sc]; exact hg) (by rw [← h.mg]; exact hm) r hdb) fun σ H Q ⟨w, ρ, L, R, e, p⟩ => p.ok (Wd.le.refl w) R (hd w)
def R2D (G : Gb) (r : R2) (g : D → D → Sto → Res D) : Prop := ∀ (w : Wd) (L : Sto) (H : Hp) (x y : V) (d e : D) (Q : VK) (E : XK), Rel G w L H → Den G w x d → Den G w y e → Post G (Den G) w (g d e L) Q E → r x y H Q
def R1D (G : Gb) (r : V → Hp → VK → Prop) (g : D → Sto → Res D) : Prop := ∀ (w : Wd) (L : Sto) (H : Hp) (x : V) (d : D) (Q : VK) (E : XK), Rel G w L H → Den G w x d → Post G (Den G) w (g d L) Q E → r x H Q
def RnD (G : Gb) (r : List V → Hp → VK → Prop) (g : List D → Sto → Res D) : Prop := ∀ (w : Wd) (L : Sto) (H : Hp) (x : List V) (d : List D) (Q : VK) (E : XK), Rel G w L H → DenL G w x d → Post G (Den G) w (g d L) Q E → r x H Q
def e2 (g : D → D → Sto → Res D) (fa fb : EF) : EF := fun ρ L => (fa ρ L).bind fun d L1 => (fb ρ L1).bind fun e L2 => g d e L2
def e1 (g : D → Sto → Res D) (fa : EF) : EF := fun ρ L => (fa ρ L).bind g
def en (g : List D → Sto → Res D) (fa : AF) : EF := fun ρ L => (fa ρ L).bind g
theorem tOp_of {G : Gb} {r : R2} {g : D → D → Sto → Res D} (hr : R2D G r g) {σ : St} {H : Hp} {Q : VK} (h : tR G (Den G) W (e2 g fa fb) σ H Q) : tOp r (tR G (Den G) W fa) (tR G (Den G) W fb) σ H Q := by
  obtain ⟨w, ρ, L, R, e, p⟩ := h
  refine ⟨w, ρ, L, R, e, (Post.bind (rel := Den G) p).imp (fun x H1 ⟨w1, d, L1, l1, R1, d1, p1⟩ => ?_) fun _ _ _ z => z⟩
  refine ⟨w1, ρ, L1, R1, e.le l1, (Post.bind (rel := Den G) p1).imp (fun y H2 ⟨w2, d', L2, l2, R2, d2, p2⟩ => ?_) fun _ _ _ z => z⟩
  exact hr w2 L2 H2 x y d d' Q _ R2 (d1.le l2) d2 p2
theorem se_op {op : Operator} {r : R2} {g : D → D → Sto → Res D} (ho : ∀ X, S.Has W X → OpR X (binaryOp op) r) (hr : R2D S.g r g) (ha : SE S W a fa) (hb : SE S W b fb) : SE S W (.BinOp a op b pos) (e2 g fa fb) := fun X h =>
  PE.imp (pe_op (ho X h) (ha X h) (hb X h)) fun σ H Q q => tOp_of hr q
theorem se_un {op : UnaryOp} {r : V → Hp → VK → Prop} {g : D → Sto → Res D} (ho : ∀ X, S.Has W X → UnR X (unaryOp op) r) (hr : R1D S.g r g) (ha : SE S W a fa) : SE S W (.UnaryOp op a pos) (e1 g fa) := fun X h =>
  PE.imp (pe_un (ho X h) (ha X h)) fun σ H Q ⟨w, ρ, L, R, e, p⟩ =>
    ⟨w, ρ, L, R, e, (Post.bind (rel := Den S.g) p).imp (fun x H1 ⟨w1, d, L1, l1, R1, d1, p1⟩ => hr w1 L1 H1 x d Q _ R1 d1 p1) fun _ _ _ z => z⟩
theorem se_cmp {op : CmpOp} {r : R2} {g : D → D → Sto → Res D} (ho : ∀ X, S.Has W X → OpR X (compareOp op) r) (hr : R2D S.g r g) (ha : SE S W a fa) (hb : SE S W b fb) (hm : behindInMarks op b = false) : SE S W (.Compare a [op] [b] pos) (e2 g fa fb) := fun X h =>
  PE.imp (pe_cmpR (ho X h) (ha X h) (hb X h) hm) fun σ H Q q => tOp_of hr q
def asB (r : Res D) : Res Bool := r.bind fun d L => match d with
  | .bl b => .ok b L
  | _ => .bad
theorem Post.asB {G : Gb} {w : Wd} {r : Res D} {Q : Bool → Hp → Prop} {E : XK} (p : Post G (fun _ a b => a = b) w (asB r) Q E) : Post G (Den G) w r (fun x H => ∃ k, x = .bl k ∧ Q k H) E := by
  refine (Post.bind (rel := Den G) p).imp (fun x H ⟨w1, d, L1, l1, R1, d1, p1⟩ => ?_) fun _ _ _ z => z
  cases d with
  | bl b => cases d1; exact ⟨b, rfl, Post.ok p1 (Wd.le.refl _) R1 rfl⟩
  | _ => exact p1.elim
theorem st_cmp {op : CmpOp} {r : R2} {g : D → D → Sto → Res D} (ho : ∀ X, S.Has W X → OpR X (compareOp op) r) (hr : R2D S.g r g) (ha : SE S W a fa) (hb : SE S W b fb) (hm : behindInMarks op b = false) : ST S W (.Compare a [op] [b] pos) (fun ρ L => asB (e2 g fa fb ρ L)) := fun X h =>
  PT.imp (pt_cmpR (ho X h) (ha X h) (hb X h) hm) fun σ H Q ⟨w, ρ, L, R, e, p⟩ => tOp_of hr ⟨w, ρ, L, R, e, Post.asB p⟩
def tAndF (f g : TF) : TF := fun ρ L => (f ρ L).bind fun c L1 => if c = true then g ρ L1 else .ok false L1
def tOrF (f g : TF) : TF := fun ρ L => (f ρ L).bind fun c L1 => if c = true then .ok true L1 else g ρ L1
def tNotF (f : TF) : TF := fun ρ L => (f ρ L).bind fun c L1 => .ok (!c) L1
variable {ta tb : TF} {rest : List Expr}
abbrev eqR {α : Type} : Wd → α → α → Prop := fun _ a b => a = b
theorem sw_one_and (h : ST S W a ta) : SW S W (.BoolOp .And [a] pos) ta := fun X hX => pw_and1 (h X hX)
theorem sw_one_or (h : ST S W a ta) : SW S W (.BoolOp .Or [a] pos) ta := fun X hX => pw_or1 (h X hX)
theorem sw_and (ha : ST S W a ta) (hb : SW S W (.BoolOp .And (b :: rest) pos) tb) : SW S W (.BoolOp .And (a :: b :: rest) pos) (tAndF ta tb) := fun X h =>
  PW.imp (pw_and (ha X h) (hb X h)) fun σ H Q ⟨w, ρ, L, R, e, p⟩ => ⟨w, ρ, L, R, e, (Post.bind (rel := eqR) p).imp (fun c H1 ⟨w1, d, L1, l1, R1, d1, p1⟩ => by
    cases d1
    cases c with
    | true => exact ⟨w1, ρ, L1, R1, e.le l1, p1⟩
    | false => exact Post.ok p1 (Wd.le.refl _) R1 rfl) fun _ _ _ z => z⟩
theorem sw_or (ha : ST S W a ta) (hb : SW S W (.BoolOp .Or (b :: rest) pos) tb) : SW S W (.BoolOp .Or (a :: b :: rest) pos) (tOrF ta tb) := fun X h =>
  PW.imp (pw_or (ha X h) (hb X h)) fun σ H Q ⟨w, ρ, L, R, e, p⟩ => ⟨w, ρ, L, R, e, (Post.bind (rel := eqR) p).imp (fun c H1 ⟨w1, d, L1, l1, R1, d1, p1⟩ => by
    cases d1
    cases c with
    | true => exact Post.ok p1 (Wd.le.refl _) R1 rfl
    | false => exact ⟨w1, ρ, L1, R1, e.le l1, p1⟩) fun _ _ _ z => z⟩
theorem st_bool (h : SW S W e ta) : ST S W e ta := fun X hX => (h X hX).pt
theorem st_not (ha : ST S W a ta) : ST S W (.UnaryOp .Not a pos) (tNotF ta) := fun X h =>
  PT.imp (pt_not (ha X h)) fun σ H Q ⟨w, ρ, L, R, e, p⟩ => ⟨w, ρ, L, R, e, (Post.bind (rel := eqR) p).imp (fun c H1 ⟨w1, d, L1, l1, R1, d1, p1⟩ => by
    cases d1
    exact Post.ok p1 (Wd.le.refl _) R1 rfl) fun _ _ _ z => z⟩
def eIf (t : TF) (f g : EF) : EF := fun ρ L => (t ρ L).bind fun c L1 => if c = true then f ρ L1 else g ρ L1
theorem se_if (hc : ST S W c ta) (ha : SE S W a fa) (hb : SE S W b fb) : SE S W (.IfExp c a b pos) (eIf ta fa fb) := fun X h =>
  PE.imp (pe_ifExp (hc X h) (ha X h) (hb X h)) fun σ H Q ⟨w, ρ, L, R, e, p⟩ => ⟨w, ρ, L, R, e, (Post.bind (rel := eqR) p).imp (fun c H1 ⟨w1, d, L1, l1, R1, d1, p1⟩ => by
    cases d1
    cases c with
    | true => exact ⟨w1, ρ, L1, R1, e.le l1, p1⟩
    | false => exact ⟨w1, ρ, L1, R1, e.le l1, p1⟩) fun _ _ _ z => z⟩
def eAndF (f g : EF) : EF := fun ρ L => (asB (f ρ L)).bind fun c L1 => if c = true then g ρ L1 else .ok (.bl false) L1
def eOrF (f g : EF) : EF := fun ρ L => (asB (f ρ L)).bind fun c L1 => if c = true then .ok (.bl true) L1 else g ρ L1
theorem se_one {op} (h : SE S W a fa) : SE S W (.BoolOp op [a] pos) fa := fun X hX => pe_one (h X hX)
theorem se_and (ha : SE S W a fa) (hb : SE S W (.BoolOp .And (b :: rest) pos) fb) : SE S W (.BoolOp .And (a :: b :: rest) pos) (eAndF fa fb) := fun X h =>
  PE.imp (pe_and (ha X h) (hb X h)) fun σ H Q ⟨w, ρ, L, R, e, p⟩ => ⟨w, ρ, L, R, e, (Post.asB (Post.bind (rel := eqR) p)).imp (fun x H1 ⟨k, hk, w1, d, L1, l1, R1, d1, p1⟩ => by
    cases d1
    refine ⟨k, hk, ?_⟩
    cases k with
    | true => exact ⟨w1, ρ, L1, R1, e.le l1, p1⟩
    | false => exact Post.ok p1 (Wd.le.refl _) R1 (.bl false)) fun _ _ _ z => z⟩
theorem se_or (ha : SE S W a fa) (hb : SE S W (.BoolOp .Or (b :: rest) pos) fb) : SE S W (.BoolOp .Or (a :: b :: rest) pos) (eOrF fa fb) := fun X h =>
  PE.imp (pe_or (ha X h) (hb X h)) fun σ H Q ⟨w, ρ, L, R, e, p⟩ => ⟨w, ρ, L, R, e, (Post.asB (Post.bind (rel := eqR) p)).imp (fun x H1 ⟨k, hk, w1, d, L1, l1, R1, d1, p1⟩ => by
    cases d1
    refine ⟨k, hk, ?_⟩
    cases k with
    | true => exact Post.ok p1 (Wd.le.refl _) R1 (.bl true)
    | false => exact ⟨w1, ρ, L1, R1, e.le l1, p1⟩) fun _ _ _ z => z⟩
def eNotF (f : EF) : EF := fun ρ L => (asB (f ρ L)).bind fun c L1 => .ok (.bl (!c)) L1
def aNil : AF := fun _ L => .ok [] L
def aCons (f : EF) (g : AF) : AF := fun ρ L => (f ρ L).bind fun d L1 => (g ρ L1).bind fun ds L2 => .ok (d :: ds) L2
end
mutual
def D.bel (n : Nat) : D → Bool
  | .non => true | .bl _ => true | .int _ => true | .str _ => true | .fn _ => true | .ty _ => true
  | .tup xs => belL n xs
  | .tg xs => belL n xs
  | .sl _ xs => belL n xs
  | .dF kvs => belK n kvs
  | .dG kvs => belT n kvs
  | .tk _ => true
  | .dP _ => true
  | .lst xs => belL n xs
  | .ro xs => belL n xs
  | .dK kvs => belK n kvs
  | .dT kvs => belT n kvs
  | .ins _ fs => belF n fs
  | .loc m => decide (m < n)
def belL (n : Nat) : List D → Bool
  | [] => true
  | d :: ds => d.bel n && belL n ds
def belK (n : Nat) : List (Key × D) → Bool
  | [] => true
  | (_, d) :: ds => d.bel n && belK n ds
def belT (n : Nat) : List (List Key × D) → Bool
  | [] => true
  | (_, d) :: ds => d.bel n && belT n ds
def belF (n : Nat) : List (Str × D) → Bool
  | [] => true
  | (_, d) :: ds => d.bel n && belF n ds
end
theorem and2 {a b : Bool} (h : (a && b) = true) : a = true ∧ b = true := Bool.and_eq_true_iff.mp h
theorem and2' {a b : Bool} (h : a = true) (k : b = true) : (a && b) = true := Bool.and_eq_true_iff.mpr ⟨h, k⟩
mutual
theorem Den.bel {G : Gb} {w : Wd} : ∀ {v : V} {d : D}, Den G w v d → d.bel w.φ.length = true
  | _, _, .non => rfl
  | _, _, .bl _ => rfl
  | _, _, .int _ => rfl
  | _, _, .str _ => rfl
  | _, _, .fn _ _ => rfl
  | _, _, .ty _ => rfl
  | _, _, .tup _ r => DenL.bel r
  | _, _, .tg _ r => DenL.bel r
  | _, _, .sl _ _ _ r => DenL.bel r
  | _, _, .dF _ r => DenK.bel r
  | _, _, .dG _ r => DenT.bel r
  | _, _, .tk _ => rfl
  | _, _, .dP _ _ _ => rfl
  | _, _, .lst _ r => DenL.bel r
  | _, _, .ro _ r => DenL.bel r
  | _, _, .dK _ r => DenK.bel r
  | _, _, .dT _ r => DenT.bel r
  | _, _, .ins _ _ r => DenF.bel r
  | _, _, .loc e => decide_eq_true (getElem?_lt e)
theorem DenL.bel {G : Gb} {w : Wd} : ∀ {v : List V} {d : List D}, DenL G w v d → belL w.φ.length d = true
  | _, _, .nil => rfl
  | _, _, .cons a t => and2' (Den.bel a) (DenL.bel t)
theorem DenK.bel {G : Gb} {w : Wd} : ∀ {v : List (Key × V)} {d : List (Key × D)}, DenK G w v d → belK w.φ.length d = true
  | _, _, .nil => rfl
  | _, _, .cons a t => and2' (Den.bel a) (DenK.bel t)
theorem DenT.bel {G : Gb} {w : Wd} : ∀ {v : List (List Key × V)} {d : List (List Key × D)}, DenT G w v d → belT w.φ.length d = true
  | _, _, .nil => rfl
  | _, _, .cons a t => and2' (Den.bel a) (DenT.bel t)
theorem DenF.bel {G : Gb} {w : Wd} : ∀ {v : List (Str × V)} {d : List (Str × D)}, DenF G w v d → belF w.φ.length d = true
  | _, _, .nil => rfl
  | _, _, .cons a t => and2' (Den.bel a) (DenF.bel t)
end
theorem BoxD.bel {G : Gb} {w : Wd} {o : HO} {d : D} : BoxD G w o d → d.bel w.φ.length = true
  | .lst r => r.bel
  | .dK r => r.bel
  | .dT r => r.bel
  | .ins _ r => r.bel
  | .dP _ _ => rfl
structure Cut (w1 w2 : Wd) (n : Nat) : Prop where
  sub : ∀ a u, HO.thaw u → Rd w1.F a u → Rd w2.F a u
  φ : w2.φ = w1.φ.take n
  dir : ∀ a u, w1.F a = some u → w2.F a = some u
mutual
theorem Den.cut {G : Gb} {w1 w2 : Wd} {n : Nat} (c : Cut w1 w2 n) : ∀ {v : V} {d : D}, Den G w1 v d → d.bel n = true → Den G w2 v d
  | _, _, .non, _ => .non
  | _, _, .bl b, _ => .bl b
  | _, _, .int i, _ => .int i
  | _, _, .str s, _ => .str s
  | _, _, .fn e r, _ => .fn e r
  | _, _, .ty n, _ => .ty n
  | _, _, .tg h r, b => .tg (h.mono fun u e => c.dir _ _ e) (DenL.cut c r b)
  | _, _, .sl h d m r, b => .sl (c.dir _ _ h) (c.dir _ _ d) m (DenL.cut c r b)
  | _, _, .dF h r, b => .dF (c.dir _ _ h) (DenK.cut c r b)
  | _, _, .dG h r, b => .dG (c.dir _ _ h) (DenT.cut c r b)
  | _, _, .tk h, _ => .tk (c.dir _ _ h)
  | _, _, .dP h a b, _ => .dP (c.dir _ _ h) (fun x hx => let ⟨k, m, e, q⟩ := a x hx; ⟨k, m, e, q.elim (fun h => .inl (c.sub _ _ trivial h)) .inr⟩) b
  | _, _, .tup h r, b => .tup (h.elim (fun h => .inl (c.sub _ _ trivial h)) .inr) (DenL.cut c r b)
  | _, _, .lst h r, b => .lst (c.dir _ _ h) (DenL.cut c r b)
  | _, _, .ro h r, b => .ro (h.elim (fun h => .inl (c.sub _ _ trivial h)) .inr) (DenL.cut c r b)
  | _, _, .dK h r, b => .dK (c.dir _ _ h) (DenK.cut c r b)
  | _, _, .dT h r, b => .dT (c.dir _ _ h) (DenT.cut c r b)
  | _, _, .ins h m r, b => .ins (c.dir _ _ h) m (DenF.cut c r b)
  | _, _, .loc e, b => .loc (by rw [c.φ, List.getElem?_take_of_lt (of_decide_eq_true b)]; exact e)
theorem DenL.cut {G : Gb} {w1 w2 : Wd} {n : Nat} (c : Cut w1 w2 n) : ∀ {v : List V} {d : List D}, DenL G w1 v d → belL n d = true → DenL G w2 v d
  | _, _, .nil, _ => .nil
  | _, _, .cons a t, b => .cons (Den.cut c a (and2 b).1) (DenL.cut c t (and2 b).2)
theorem DenK.cut {G : Gb} {w1 w2 : Wd} {n : Nat} (c : Cut w1 w2 n) : ∀ {v : List (Key × V)} {d : List (Key × D)}, DenK G w1 v d → belK n d = true → DenK G w2 v d
  | _, _, .nil, _ => .nil
  | _, _, .cons a t, b => .cons (Den.cut c a (and2 b).1) (DenK.cut c t (and2 b).2)
theorem DenT.cut {G : Gb} {w1 w2 : Wd} {n : Nat} (c : Cut w1 w2 n) : ∀ {v : List (List Key × V)} {d : List (List Key × D)}, DenT G w1 v d → belT n d = true → DenT G w2 v d
  | _, _, .nil, _ => .nil
  | _, _, .cons a t, b => .cons (Den.cut c a (and2 b).1) (DenT.cut c t (and2 b).2)
theorem DenF.cut {G : Gb} {w1 w2 : Wd} {n : Nat} (c : Cut w1 w2 n) : ∀ {v : List (Str × V)} {d : List (Str × D)}, DenF G w1 v d → belF n d = true → DenF G w2 v d
  | _, _, .nil, _ => .nil
  | _, _, .cons a t, b => .cons (Den.cut c a (and2 b).1) (DenF.cut c t (and2 b).2)
end
theorem BoxD.cut {G : Gb} {w1 w2 : Wd} {n : Nat} (c : Cut w1 w2 n) {o : HO} {d : D} : BoxD G w1 o d → d.bel n = true → BoxD G w2 o d
  | .lst r, b => .lst (r.cut c b)
  | .dK r, b => .dK (r.cut c b)
  | .dT r, b => .dT (r.cut c b)
  | .ins m r, b => .ins m (r.cut c b)
  | .dP h1 h2, _ => .dP (fun x hx => let ⟨k, m, e, q⟩ := h1 x hx; ⟨k, m, e, q.elim (fun h => .inl (c.sub _ _ trivial h)) .inr⟩) h2
def mapO {α β : Type} (f : α → Option β) : List α → Option (List β)
  | [] => some []
  | a :: as => match f a, mapO f as with
    | some b, some bs => some (b :: bs)
    | _, _ => none
def frz (L : Sto) (n : Nat) : Nat → D → Option D
  | k, d => if d.bel n = true then some d else match k with
    | 0 => none
    | k + 1 => match d with
      | .loc m => (match L[m]? with
        | some c => frz L n k c
        | none => none)
      | .tup xs => (mapO (frz L n k) xs).map .tup
      | .tg xs => (mapO (frz L n k) xs).map .tg
      | .sl c xs => (mapO (frz L n k) xs).map (.sl c)
      | .dF kvs => (mapO (fun p => (frz L n k p.2).map fun d => (p.1, d)) kvs).map .dF
      | .dG kvs => (mapO (fun p => (frz L n k p.2).map fun d => (p.1, d)) kvs).map .dG
      | .lst xs => (mapO (frz L n k) xs).map .lst
      | .dK kvs => (mapO (fun p => (frz L n k p.2).map fun d => (p.1, d)) kvs).map .dK
      | .dT kvs => (mapO (fun p => (frz L n k p.2).map fun d => (p.1, d)) kvs).map .dT
      | .ins c fs => (mapO (fun p => (frz L n k p.2).map fun d => (p.1, d)) fs).map (.ins c)
      | _ => none
theorem frz_bel {L : Sto} {n k : Nat} {d : D} (h : d.bel n = true) : frz L n k d = some d := by
  unfold frz; rw [if_pos h]
structure Fz (G : Gb) (w1 w2 : Wd) (n : Nat) (H : Hp) : Prop where
  cut : Cut w1 w2 n
  box : ∀ (m : Nat) (a : Addr) (o : HO), n ≤ m → w1.φ[m]? = some a → H a = some o → w2.F a = some o
theorem mapO_cons {α β : Type} {f : α → Option β} {a : α} {as : List α} {r : List β} (h : mapO f (a :: as) = some r) : ∃ b bs, f a = some b ∧ mapO f as = some bs ∧ r = b :: bs := by
  unfold mapO at h
  split at h
  · rename_i b bs h1 h2
    cases h
    exact ⟨b, bs, h1, h2, rfl⟩
  · cases h
theorem mapO_imp {α β : Type} {f g : α → Option β} (h : ∀ a b, f a = some b → g a = some b) : ∀ {l : List α} {r : List β}, mapO f l = some r → mapO g l = some r
  | [], _, e => e
  | a :: as, _, e => by
    obtain ⟨b, bs, h1, h2, rfl⟩ := mapO_cons e
    have h3 := h a b h1
    have h4 := mapO_imp h h2
    unfold mapO
    rw [h3, h4]
theorem frz_mono {L : Sto} {n : Nat} : ∀ (k : Nat) (d d' : D), frz L n k d = some d' → frz L n (k + 1) d = some d' := by
  intro k
  induction k with
  | zero =>
    intro d d' y
    unfold frz at y
    split at y
    · rename_i b; cases y; exact frz_bel b
    · cases y
  | succ k ihk =>
    intro d d' y
    have mm : ∀ {κ : Type} (p : κ × D) (b : κ × D), ((frz L n k p.2).map fun d => (p.1, d)) = some b → ((frz L n (k + 1) p.2).map fun d => (p.1, d)) = some b := fun p b h => by
      obtain ⟨d, h3, rfl⟩ := Option.map_eq_some_iff.mp h
      rw [ihk _ _ h3] <;> rfl
    unfold frz at y
    split at y
    · rename_i b
      cases y
      exact frz_bel b
    · rename_i nb
      unfold frz
      rw [if_neg nb]
      cases d with
      | loc m =>
        dsimp only at y ⊢
        split at y
        · exact ihk _ _ y
        · cases y
      | tup xs =>
        obtain ⟨ys, h1, rfl⟩ := Option.map_eq_some_iff.mp y
        dsimp only
        rw [mapO_imp ihk h1] <;> rfl
      | lst xs =>
        obtain ⟨ys, h1, rfl⟩ := Option.map_eq_some_iff.mp y
        dsimp only
        rw [mapO_imp ihk h1] <;> rfl
      | tg xs =>
        obtain ⟨ys, h1, rfl⟩ := Option.map_eq_some_iff.mp y
        dsimp only
        rw [mapO_imp ihk h1] <;> rfl
      | sl c xs =>
        obtain ⟨ys, h1, rfl⟩ := Option.map_eq_some_iff.mp y
        dsimp only
        rw [mapO_imp ihk h1] <;> rfl
      | dK xs =>
        obtain ⟨ys, h1, rfl⟩ := Option.map_eq_some_iff.mp y
        dsimp only
        rw [mapO_imp mm h1] <;> rfl
      | dF xs =>
        obtain ⟨ys, h1, rfl⟩ := Option.map_eq_some_iff.mp y
        dsimp only
        rw [mapO_imp mm h1] <;> rfl
      | dG xs =>
        obtain ⟨ys, h1, rfl⟩ := Option.map_eq_some_iff.mp y
        dsimp only
        rw [mapO_imp mm h1] <;> rfl
      | dT xs =>
        obtain ⟨ys, h1, rfl⟩ := Option.map_eq_some_iff.mp y
        dsimp only
        rw [mapO_imp mm h1] <;> rfl
      | ins c xs =>
        obtain ⟨ys, h1, rfl⟩ := Option.map_eq_some_iff.mp y
        dsimp only
        rw [mapO_imp mm h1] <;> rfl
      | _ => cases y
section
variable {G : Gb} {w1 w2 : Wd} {n k : Nat} {L : Sto} {H : Hp}
theorem frzL (ih : ∀ v d d', Den G w1 v d → frz L n k d = some d' → Den G w2 v d') : ∀ {vs : List V} {ds ds' : List D}, DenL G w1 vs ds → mapO (frz L n k) ds = some ds' → DenL G w2 vs ds'
  | _, _, _, .nil, e => by cases e; exact .nil
  | _, _, _, .cons a t, e => by
    obtain ⟨b, bs, h1, h2, rfl⟩ := mapO_cons e
    exact .cons (ih _ _ _ a h1) (frzL ih t h2)
theorem frzK (ih : ∀ v d d', Den G w1 v d → frz L n k d = some d' → Den G w2 v d') : ∀ {vs : List (Key × V)} {ds ds' : List (Key × D)}, DenK G w1 vs ds → mapO (fun p => (frz L n k p.2).map fun d => (p.1, d)) ds = some ds' → DenK G w2 vs ds'
  | _, _, _, .nil, e => by cases e; exact .nil
  | _, _, _, .cons a t, e => by
    obtain ⟨b, bs, h1, h2, rfl⟩ := mapO_cons e
    obtain ⟨d, h3, rfl⟩ := Option.map_eq_some_iff.mp h1
    exact .cons (ih _ _ _ a h3) (frzK ih t h2)
theorem frzT (ih : ∀ v d d', Den G w1 v d → frz L n k d = some d' → Den G w2 v d') : ∀ {vs : List (List Key × V)} {ds ds' : List (List Key × D)}, DenT G w1 vs ds → mapO (fun p => (frz L n k p.2).map fun d => (p.1, d)) ds = some ds' → DenT G w2 vs ds'
  | _, _, _, .nil, e => by cases e; exact .nil
  | _, _, _, .cons a t, e => by
    obtain ⟨b, bs, h1, h2, rfl⟩ := mapO_cons e
    obtain ⟨d, h3, rfl⟩ := Option.map_eq_some_iff.mp h1
    exact .cons (ih _ _ _ a h3) (frzT ih t h2)
theorem frzF (ih : ∀ v d d', Den G w1 v d → frz L n k d = some d' → Den G w2 v d') : ∀ {vs : List (Str × V)} {ds ds' : List (Str × D)}, DenF G w1 vs ds → mapO (fun p => (frz L n k p.2).map fun d => (p.1, d)) ds = some ds' → DenF G w2 vs ds'
  | _, _, _, .nil, e => by cases e; exact .nil
  | _, _, _, .cons a t, e => by
    obtain ⟨b, bs, h1, h2, rfl⟩ := mapO_cons e
    obtain ⟨d, h3, rfl⟩ := Option.map_eq_some_iff.mp h1
    exact .cons (ih _ _ _ a h3) (frzF ih t h2)
theorem frz_den (R : Rel G w1 L H) (F : Fz G w1 w2 n H) : ∀ (k : Nat) (v : V) (d d' : D), Den G w1 v d → frz L n k d = some d' → Den G w2 v d' := by
  intro k
  induction k with
  | zero =>
    intro v d d' h e
    unfold frz at e
    split at e
    · rename_i b; cases e; exact h.cut F.cut b
    · cases e
  | succ k ih =>
    intro v d d' h e
    unfold frz at e
    split at e
    · rename_i b; cases e; exact h.cut F.cut b
    · rename_i nb
      cases h with
      | loc q =>
        rename_i m a
        have hm : n ≤ m := by
          have := nb
          simp only [D.bel, decide_eq_true_eq] at this
          omega
        dsimp only at e
        split at e
        · rename_i c hc
          obtain ⟨o, h1, h2⟩ := R.box m a c q hc
          have h3 := F.box m a o hm q h1
          have hd : ∀ d', frz L n k c = some d' → Den G w2 (.ref a) d' := by
            intro d' e'
            cases k with
            | zero =>
              unfold frz at e'
              split at e'
              · rename_i b
                cases e'
                cases h2 with
                | lst r => exact .lst h3 (r.cut F.cut b)
                | dK r => exact .dK h3 (r.cut F.cut b)
                | dT r => exact .dT h3 (r.cut F.cut b)
                | ins m r => exact .ins h3 m (r.cut F.cut b)
                | dP a1 a2 => exact .dP h3 (fun x hx => let ⟨k, m, e, q⟩ := a1 x hx; ⟨k, m, e, q.elim (fun h => .inl (F.cut.sub _ _ trivial h)) .inr⟩) a2
              · cases e'
            | succ k =>
              have ih' : ∀ v d d', Den G w1 v d → frz L n k d = some d' → Den G w2 v d' := fun v d d' x y => ih v d d' x (frz_mono k d d' y)
              unfold frz at e'
              split at e'
              · rename_i b
                cases e'
                cases h2 with
                | lst r => exact .lst h3 (r.cut F.cut b)
                | dK r => exact .dK h3 (r.cut F.cut b)
                | dT r => exact .dT h3 (r.cut F.cut b)
                | ins m r => exact .ins h3 m (r.cut F.cut b)
                | dP a1 a2 => exact .dP h3 (fun x hx => let ⟨k, m, e, q⟩ := a1 x hx; ⟨k, m, e, q.elim (fun h => .inl (F.cut.sub _ _ trivial h)) .inr⟩) a2
              · cases h2 with
                | lst r => obtain ⟨ys, y1, rfl⟩ := Option.map_eq_some_iff.mp e'; exact .lst h3 (frzL ih' r y1)
                | dK r => obtain ⟨ys, y1, rfl⟩ := Option.map_eq_some_iff.mp e'; exact .dK h3 (frzK ih' r y1)
                | dT r => obtain ⟨ys, y1, rfl⟩ := Option.map_eq_some_iff.mp e'; exact .dT h3 (frzT ih' r y1)
                | ins m r => obtain ⟨ys, y1, rfl⟩ := Option.map_eq_some_iff.mp e'; exact .ins h3 m (frzF ih' r y1)
                | dP a1 a2 => cases e'
          exact hd _ e
        · cases e
      | tg s r => obtain ⟨ys, y1, rfl⟩ := Option.map_eq_some_iff.mp e; exact .tg (s.mono fun u e => F.cut.dir _ _ e) (frzL ih r y1)
      | tup s r => obtain ⟨ys, y1, rfl⟩ := Option.map_eq_some_iff.mp e; exact .tup (s.elim (fun h => .inl (F.cut.sub _ _ trivial h)) .inr) (frzL ih r y1)
      | lst s r => obtain ⟨ys, y1, rfl⟩ := Option.map_eq_some_iff.mp e; exact .lst (F.cut.dir _ _ s) (frzL ih r y1)
      | dK s r => obtain ⟨ys, y1, rfl⟩ := Option.map_eq_some_iff.mp e; exact .dK (F.cut.dir _ _ s) (frzK ih r y1)
      | dT s r => obtain ⟨ys, y1, rfl⟩ := Option.map_eq_some_iff.mp e; exact .dT (F.cut.dir _ _ s) (frzT ih r y1)
      | ins s m r => obtain ⟨ys, y1, rfl⟩ := Option.map_eq_some_iff.mp e; exact .ins (F.cut.dir _ _ s) m (frzF ih r y1)
      | sl s d m r => obtain ⟨ys, y1, rfl⟩ := Option.map_eq_some_iff.mp e; exact .sl (F.cut.dir _ _ s) (F.cut.dir _ _ d) m (frzL ih r y1)
      | dF s r => obtain ⟨ys, y1, rfl⟩ := Option.map_eq_some_iff.mp e; exact .dF (F.cut.dir _ _ s) (frzK ih r y1)
      | dG s r => obtain ⟨ys, y1, rfl⟩ := Option.map_eq_some_iff.mp e; exact .dG (F.cut.dir _ _ s) (frzT ih r y1)
      | ro s r => cases e
      | _ => exact absurd rfl nb
end
def TakeOk (L0 L : Sto) : Prop := L0.length ≤ L.length ∧ ∀ (n : Nat) (c : D), n < L0.length → L[n]? = some c → L0[n]? = some c ∨ c.bel L0.length = true
open Classical in
noncomputable def dropR (L0 : Sto) (r : Res D) : Res D := match r with
  | .ok d L => if TakeOk L0 L then (match frz L L0.length 12 d with
    | some d' => .ok d' (L.take L0.length)
    | none => .bad) else .bad
  | .err c p L => if TakeOk L0 L then (if belF L0.length p = true then .err c p (L.take L0.length) else .bad) else .bad
  | .bad => .bad
theorem dropR_ok {L0 L : Sto} {d d' : D} (h : TakeOk L0 L) (e : frz L L0.length 12 d = some d') : dropR L0 (.ok d L) = .ok d' (L.take L0.length) := by
  unfold dropR; dsimp only; rw [if_pos h, e]
theorem dropR_err {L0 L : Sto} {c : Str} {p : List (Str × D)} (h : TakeOk L0 L) (e : belF L0.length p = true) : dropR L0 (.err c p L) = .err c p (L.take L0.length) := by
  unfold dropR; dsimp only; rw [if_pos h, if_pos e]
section
variable {G : Gb} {w w1 : Wd} {L0 L : Sto} {H H1 : Hp}
def cutW (w1 : Wd) (n : Nat) (H : Hp) : Wd := ⟨fun a => if a ∈ w1.φ.drop n then H a else w1.F a, w1.φ.take n, w1.prv⟩
theorem cut_rel (R0 : Rel G w L0 H) (l : w.le w1) (R : Rel G w1 L H1) (t : TakeOk L0 L) : w.le (cutW w1 L0.length H1) ∧ Rel G (cutW w1 L0.length H1) (L.take L0.length) H1 ∧ Fz G w1 (cutW w1 L0.length H1) L0.length H1 := by
  have out : ∀ a u, w1.F a = some u → a ∉ w1.φ.drop L0.length := fun a u e hm => by
    rw [R.free a (List.mem_of_mem_drop hm)] at e; cases e
  have sub : ∀ a u, HO.thaw u → Rd w1.F a u → Rd (cutW w1 L0.length H1).F a u := fun a u _ r => by
    rcases r with r | ⟨o, r⟩
    · exact .inl ((if_neg (out a _ r)).trans r)
    · exact .inr ⟨o, (if_neg (out a _ r)).trans r⟩
  have dir : ∀ a vs, w1.F a = some vs → (cutW w1 L0.length H1).F a = some vs := fun a vs r => (if_neg (out a _ r)).trans r
  have c : Cut w1 (cutW w1 L0.length H1) L0.length := ⟨sub, rfl, dir⟩
  refine ⟨⟨⟨fun a u th r => sub a u th (l.sub a u th r), fun n a e => ?_, fun a vs r => dir a vs (l.dir a vs r)⟩, l.same⟩, ⟨fun a u e => ?_, ?_, ?_, fun a ha => ?_, fun n a x e1 e2 => ?_, fun a u e => ?_, R.tab.step (fun q a b c _ => ⟨(if_neg fun hm => b (List.mem_of_mem_drop hm)).trans a, fun hm => b (List.mem_of_mem_take hm), c, rfl⟩) dir, fun a u e => R.nt a u e⟩, c, fun m a o hm e h => ?_⟩
  · have hn : n < L0.length := by rw [← R0.len]; exact getElem?_lt e
    show (w1.φ.take L0.length)[n]? = some a
    rw [List.getElem?_take_of_lt hn]; exact l.pre n a e
  · have e' : (if a ∈ w1.φ.drop L0.length then H1 a else w1.F a) = some u := e
    split at e'
    · exact e'
    · exact R.sub _ _ e'
  · show (w1.φ.take L0.length).length = _
    rw [List.length_take, List.length_take, R.len]
  · exact R.nd.sublist (List.take_sublist _ _)
  · have ha' : a ∈ w1.φ.take L0.length := ha
    have nd := R.nd
    have : a ∉ w1.φ.drop L0.length := fun hm => by
      rw [← List.take_append_drop L0.length w1.φ, List.nodup_append] at nd
      exact nd.2.2 a ha' a hm rfl
    exact (if_neg this).trans (R.free a (List.mem_of_mem_take ha'))
  · have e1' : (w1.φ.take L0.length)[n]? = some a := e1
    have hn : n < L0.length := by
      have := getElem?_lt e1'
      rw [List.length_take] at this; omega
    rw [List.getElem?_take_of_lt hn] at e1' e2
    obtain ⟨o, h1, h2⟩ := R.box n a x e1' e2
    refine ⟨o, h1, h2.cut c ?_⟩
    rcases t.2 n x hn e2 with q | q
    · have hw : ∃ b, w.φ[n]? = some b := ⟨w.φ[n]'(by rw [R0.len]; exact hn), List.getElem?_eq_getElem _⟩
      obtain ⟨b, hb⟩ := hw
      obtain ⟨o0, _, h3⟩ := R0.box n b x hb q
      have := h3.bel
      rw [R0.len] at this; exact this
    · exact q
  · obtain ⟨k1, k2, k3⟩ := R.prv a u e
    exact ⟨k1, (if_neg (fun hm => k3 (List.mem_of_mem_drop hm))).trans k2, fun hm => k3 (List.mem_of_mem_take hm)⟩
  · have hm' : a ∈ w1.φ.drop L0.length := by
      refine List.mem_of_getElem? (i := m - L0.length) ?_
      rw [List.getElem?_drop, Nat.add_sub_cancel' hm]; exact e
    exact (if_pos hm').trans h
theorem Post.drop (R0 : Rel G w L0 H) {r : Res D} {Q : VK} {E : XK} (p : Post G (Den G) w (dropR L0 r) Q E) : Post G (Den G) w r Q E := by
  cases r with
  | bad => exact p
  | ok d L =>
    unfold dropR at p
    dsimp only at p
    split at p
    · rename_i t
      split at p
      · rename_i d' hd
        intro w1 H1 v l R h
        obtain ⟨a, b, c⟩ := cut_rel R0 l R t
        exact p _ H1 v a b (frz_den R c 12 v d d' h hd)
      · exact p.elim
    · exact p.elim
  | err x q L =>
    unfold dropR at p
    dsimp only at p
    split at p
    · rename_i t
      split at p
      · rename_i hb
        intro w1 H1 dx l R h C m
        obtain ⟨a, b, c⟩ := cut_rel R0 l R t
        refine p _ H1 dx a b ?_ C m
        rcases h with h | ⟨ad, fs, h1, h2, h3⟩
        · exact .inl h
        · refine .inr ⟨ad, fs, h1, ?_, h3.cut c.cut hb⟩
          have : ad ∉ w1.φ.drop L0.length := fun hm => by rw [R.free ad (List.mem_of_mem_drop hm)] at h2; cases h2
          exact (if_neg this).trans h2
      · exact p.elim
    · exact p.elim
end
section
variable {S : Sc} {W : WX} {a b e c : Expr} {es : List Expr} {fa fb f : EF} {pos : Pos}
theorem sa_nil : SA S W [] aNil := fun X h => PA.imp pa_nil fun σ H Q ⟨w, ρ, L, R, e, p⟩ => Post.ok p (Wd.le.refl w) R .nil
theorem sa_cons {g : AF} (ha : SE S W e f) (hr : SA S W es g) (hs : ∀ env, starEach (e :: es) env = (false, eval e env) :: starEach es env := by intro _; rfl) : SA S W (e :: es) (aCons f g) := fun X h =>
  PA.imp (pa_cons (ha X h) (hr X h) (hs _)) fun σ H Q ⟨w, ρ, L, R, e, p⟩ => ⟨w, ρ, L, R, e, (Post.bind (rel := Den S.g) p).imp (fun x H1 ⟨w1, d, L1, l1, R1, d1, p1⟩ =>
    ⟨w1, ρ, L1, R1, e.le l1, (Post.bind (rel := DenL S.g) p1).imp (fun xs H2 ⟨w2, ds, L2, l2, R2, d2, p2⟩ => Post.ok p2 (Wd.le.refl _) R2 (.cons (d1.le l2) d2)) fun _ _ _ z => z⟩) fun _ _ _ z => z⟩
def sBind (r : Res D) (ρ : Env') (k : D → Sto → SRes) : SRes := match r with
  | .ok d L => k d L
  | .err c p L => .err c p ρ L
  | .bad => .bad
def sBindB (r : Res Bool) (ρ : Env') (k : Bool → Sto → SRes) : SRes := match r with
  | .ok d L => k d L
  | .err c p L => .err c p ρ L
  | .bad => .bad
@[simp] theorem sBind_ok (d : D) (L : Sto) (ρ : Env') (k : D → Sto → SRes) : sBind (.ok d L) ρ k = k d L := rfl
@[simp] theorem sBind_err (c : Str) (p : List (Str × D)) (L : Sto) (ρ : Env') (k : D → Sto → SRes) : sBind (.err c p L) ρ k = .err c p ρ L := rfl
@[simp] theorem sBind_bad (ρ : Env') (k : D → Sto → SRes) : sBind .bad ρ k = .bad := rfl
@[simp] theorem sBindB_ok (d : Bool) (L : Sto) (ρ : Env') (k : Bool → Sto → SRes) : sBindB (.ok d L) ρ k = k d L := rfl
@[simp] theorem sBindB_err (c : Str) (p : List (Str × D)) (L : Sto) (ρ : Env') (k : Bool → Sto → SRes) : sBindB (.err c p L) ρ k = .err c p ρ L := rfl
@[simp] theorem sBindB_bad (ρ : Env') (k : Bool → Sto → SRes) : sBindB .bad ρ k = .bad := rfl
theorem PostS.bind {G : Gb} {w : Wd} {r : Res D} {ρ : Env'} {σ : St} {k : D → Sto → SRes} {E : Ends} (e : EnvR G w σ ρ) (p : PostS G w (sBind r ρ k) E W) :
    Post G (Den G) w r (fun v H => ∃ w' d L, w.le w' ∧ Rel G w' L H ∧ Den G w' v d ∧ PostS G w' (k d L) E W) (fun c dx H => W c dx σ H) := by
  cases r with
  | ok d L => exact fun w2 H v l R h => ⟨w2, d, L, l, R, h, PostS.le l p⟩
  | err c q L => exact fun w2 H dx l R x C m => p w2 σ H dx l R (e.le l) x C m
  | bad => exact p
theorem PostS.bindB {G : Gb} {w : Wd} {r : Res Bool} {ρ : Env'} {σ : St} {k : Bool → Sto → SRes} {E : Ends} (e : EnvR G w σ ρ) (p : PostS G w (sBindB r ρ k) E W) :
    Post G eqR w r (fun v H => ∃ w' L, w.le w' ∧ Rel G w' L H ∧ PostS G w' (k v L) E W) (fun c dx H => W c dx σ H) := by
  cases r with
  | ok d L => intro w2 H v l R h; cases h; exact ⟨w2, L, l, R, PostS.le l p⟩
  | err c q L => exact fun w2 H dx l R x C m => p w2 σ H dx l R (e.le l) x C m
  | bad => exact p
def sSkip : SF := fun ρ L => .nx ρ L
def sSeq (f g : SF) : SF := fun ρ L => match f ρ L with
  | .nx ρ L => g ρ L
  | r => r
variable {st : Stmt} {rest body orelse : List Stmt} {g g1 g2 : SF}
theorem ss_nil : SSs S W [] sSkip := fun X h => PSs.imp pss_nil fun D σ H ⟨w, ρ, L, R, e, p⟩ => p w σ H (Wd.le.refl w) R e
theorem ss_one (h1 : SS S W st g) : SSs S W [st] g := fun X h => pss_one (h1 X h)
theorem ss_cons (h1 : SS S W st g1) (h2 : SSs S W rest g2) : SSs S W (st :: rest) (sSeq g1 g2) := fun X h =>
  PSs.imp (pss_cons (h1 X h) (h2 X h)) fun D σ H ⟨w, ρ, L, R, e, p⟩ => by
    refine ⟨w, ρ, L, R, e, ?_⟩
    unfold sSeq at p
    cases q : g1 ρ L with
    | nx ρ1 L1 =>
      rw [q] at p
      exact fun w1 σ1 H1 l1 R1 e1 => ⟨w1, ρ1, L1, R1, e1, PostS.le l1 p⟩
    | rt d L1 => rw [q] at p; exact p
    | bk ρ1 L1 => rw [q] at p; exact p
    | ct ρ1 L1 => rw [q] at p; exact p
    | err c x ρ1 L1 => rw [q] at p; exact p
    | bad => rw [q] at p; exact p
def sExpr (f : EF) : SF := fun ρ L => sBind (f ρ L) ρ fun _ L1 => .nx ρ L1
theorem ss_expr (he : SE S W e f) (hs : ∀ env, swapsWith e none pos.line env = pure false := by intro _; rfl) : SS S W (.Expr e pos) (sExpr f) := fun X h =>
  PS.imp (ps_expr (he X h) (hs _)) fun D σ H ⟨w, ρ, L, R, e, p⟩ => ⟨w, ρ, L, R, e, (PostS.bind e p).imp (fun v H1 ⟨w1, d, L1, l1, R1, d1, p1⟩ => p1 w1 σ H1 (Wd.le.refl _) R1 (e.le l1)) fun _ _ _ z => z⟩
def sRet (f : EF) : SF := fun ρ L => sBind (f ρ L) ρ fun d L1 => .rt d L1
theorem ss_ret (he : SE S W e f) : SS S W (.Return (some e) pos) (sRet f) := fun X h =>
  PS.imp (ps_ret (he X h)) fun D σ H ⟨w, ρ, L, R, e, p⟩ => ⟨w, ρ, L, R, e, (PostS.bind e p).imp (fun v H1 ⟨w1, d, L1, l1, R1, d1, p1⟩ => p1 w1 v H1 (Wd.le.refl _) R1 d1) fun _ _ _ z => z⟩
def sRetN : SF := fun ρ L => .rt .non L
def sIf (t : TF) (f g : SF) : SF := fun ρ L => sBindB (t ρ L) ρ fun k L1 => if k = true then f ρ L1 else g ρ L1
theorem ss_if {t : TF} (hc : ST S W c t) (ha : SSs S W body g1) (hb : SSs S W orelse g2) : SS S W (.If c body orelse pos) (sIf t g1 g2) := fun X h =>
  PS.imp (ps_if (hc X h) (ha X h) (hb X h)) fun D σ H ⟨w, ρ, L, R, e, p⟩ => ⟨w, ρ, L, R, e, (PostS.bindB e p).imp (fun k H1 ⟨w1, L1, l1, R1, p1⟩ => by
    cases k with
    | true => exact ⟨w1, ρ, L1, R1, e.le l1, p1⟩
    | false => exact ⟨w1, ρ, L1, R1, e.le l1, p1⟩) fun _ _ _ z => z⟩
def gSet (i : Nat) : GF := fun d ρ => some (ρ.set i (some d))
theorem wipe_get {σ : St} {i : Nat} : ∀ {vs : List Nat}, i ∈ vs → (wipe σ vs)[i]? = (if i < σ.length then some none else none)
  | [], h => by simp at h
  | v :: vs, h => by
    show ((wipe σ vs).set v none)[i]? = _
    by_cases hv : v = i
    · subst hv
      by_cases hl : v < σ.length
      · rw [List.getElem?_set_self (by rw [wipe_length]; exact hl), if_pos hl]
      · rw [List.getElem?_eq_none (by rw [List.length_set, wipe_length]; omega), if_neg hl]
    · have hi : i ∈ vs := by
        rcases List.mem_cons.mp h with e | e
        · exact absurd e.symm hv
        · exact e
      rw [List.getElem?_set_ne hv, wipe_get hi]
theorem wipe_eq {σ τ : St} {vs : List Nat} (hl : σ.length = τ.length) (h : ∀ i, i ∉ vs → σ[i]? = τ[i]?) : wipe σ vs = wipe τ vs := by
  apply List.ext_getElem?
  intro i
  by_cases hi : i ∈ vs
  · rw [wipe_get hi, wipe_get hi, hl]
  · rw [wipe_out hi, wipe_out hi, h i hi]
theorem wipe_set {σ : St} {vs : List Nat} {i : Nat} (hi : i ∈ vs) (x : Option V) : wipe (σ.set i x) vs = wipe σ vs := by
  refine wipe_eq (by rw [List.length_set]) fun j hj => ?_
  have ne : i ≠ j := fun e => hj (by rw [← e]; exact hi)
  exact List.getElem?_set_ne ne
theorem wipe_idem {σ : St} {vs : List Nat} : wipe (wipe σ vs) vs = wipe σ vs := wipe_eq (wipe_length _ _) fun i hi => wipe_out hi
theorem sg_name (i : Nat) {own : List Nat} {x : Str} (hN : S.N.Nodup) (ho : i ∈ own := by decide) (hi : S.N[i]? = some x := by rfl) (hx : Loc S.sc x := by first | exact Or.inl rfl | exact Or.inr rfl) (hf : S.fn x = true ∨ S.sc.names.lookup x = some .local := by first | exact .inl rfl | exact .inr rfl) :
    SG S W own (.Name x pos) (gSet i) := fun X h =>
  PG.imp (pg_name (i := i) (by rw [← h.N]; exact hN) (by rw [← h.N]; exact hi) (by rw [← h.sc]; exact hx) (by rw [← h.fn, ← h.sc]; exact hf)) fun v σ H Q ⟨w, ρ, L, d, ρ', R, e, dd, ef, q⟩ => by
    cases ef
    exact q _ (e.set i dd) (wipe_set ho _)
def gsNil : List D → Env' → Option Env' := fun ds ρ => match ds with
  | [] => some ρ
  | _ => none
def gsCons (f : GF) (g : List D → Env' → Option Env') : List D → Env' → Option Env' := fun ds ρ => match ds with
  | [] => none
  | d :: r => (f d ρ).bind (g r)
theorem sgs_nil {own : List Nat} : SGs S W own [] gsNil := fun X h => PGs.imp pgs_nil fun vs σ H Q ⟨w, ρ, L, ds, ρ', R, e, dd, ef, q⟩ => by
  cases dd with
  | nil => cases ef; exact ⟨rfl, q σ e rfl⟩
  | cons _ _ => cases ef
theorem sgs_cons {own : List Nat} {tg : Expr} {tgs : List Expr} {f : GF} {g : List D → Env' → Option Env'} (h1 : SG S W own tg f) (h2 : SGs S W own tgs g)
    (hs : ∀ env, (assignEach (tg :: tgs) env).map (·.2) = assign tg env :: (assignEach tgs env).map (·.2) := by intro _; rfl) : SGs S W own (tg :: tgs) (gsCons f g) := fun X h =>
  PGs.imp (pgs_cons (h1 X h) (h2 X h) (hs _)) fun vs σ H Q ⟨w, ρ, L, ds, ρ', R, e, dd, ef, q⟩ => by
    cases dd with
    | nil => cases ef
    | @cons v d vs ds a t =>
      obtain ⟨ρ1, e1, e2⟩ := Option.bind_eq_some_iff.mp ef
      exact ⟨v, vs, rfl, w, ρ, L, d, ρ1, R, e, a, e1, fun σ' e' hw => ⟨w, ρ1, L, ds, ρ', R, e', t, e2, fun σ2 e3 hw2 => q σ2 e3 (hw2.trans hw)⟩⟩
def gTupF (n : Nat) (g : List D → Env' → Option Env') : GF := fun d ρ => match lo d with
  | .tup ds => if ds.length = n then g ds ρ else none
  | _ => none
theorem DenL.length {G : Gb} {w : Wd} : ∀ {vs : List V} {ds : List D}, DenL G w vs ds → vs.length = ds.length
  | _, _, .nil => rfl
  | _, _, .cons _ t => congrArg Nat.succ (DenL.length t)
theorem sg_tup {own : List Nat} {k n : Nat} {g : List D → Env' → Option Env'} (h1 : SGs S W own es g) (hn : ∀ env, (assignEach es env).length = n := by intro _; rfl) (hst : ∀ env, (assignEach es env).findIdx? (·.1) = none := by intro _; rfl) :
    SG S W own (.Tuple es k pos) (gTupF n g) := fun X h =>
  PG.imp (pg_tup h.calm (h1 X h) (hn _) (hst _)) fun v σ H Q ⟨w, ρ, L, d, ρ', R, e, dd, ef, q⟩ => by
    unfold gTupF at ef
    have dd := dd.lo
    generalize lo d = d' at ef dd
    cases dd with
    | @tup a vs ds s r =>
      dsimp only at ef
      split at ef
      · rename_i hl
        exact ⟨a, vs, rfl, by rw [← h.K]; exact R.sqT s, by rw [r.length, hl], w, ρ, L, ds, ρ', R, e, r, ef, q⟩
      · cases ef
    | _ => cases ef
def sAsg (f : EF) (g : GF) : SF := fun ρ L => sBind (f ρ L) ρ fun d L1 => match g d ρ with
  | some ρ' => .nx ρ' L1
  | none => .bad
def sSet (i : Nat) (f : EF) : SF := fun ρ L => sBind (f ρ L) ρ fun d L1 => .nx (ρ.set i (some d)) L1
theorem ss_set (i : Nat) {x : Str} {pos' : Pos} (hN : S.N.Nodup) (he : SE S W e f) (hi : S.N[i]? = some x := by rfl) (hx : Loc S.sc x := by first | exact Or.inl rfl | exact Or.inr rfl) (hs : ∀ env, swapsWith e (some (.Name x pos')) pos.line env = pure false := by intro _; rfl)
    (hf : S.fn x = true ∨ S.sc.names.lookup x = some .local := by first | exact .inl rfl | exact .inr rfl) : SS S W (.Assign [.Name x pos'] e pos) (sSet i f) := fun X h =>
  PS.imp (ps_set (i := i) (by rw [← h.N]; exact hN) (by rw [← h.N]; exact hi) (by rw [← h.sc]; exact hx) (he X h) (hs _) (by rw [← h.fn, ← h.sc]; exact hf)) fun D σ H ⟨w, ρ, L, R, e, p⟩ => ⟨w, ρ, L, R, e, (PostS.bind e p).imp (fun v H1 ⟨w1, d, L1, l1, R1, d1, p1⟩ =>
    p1 w1 _ H1 (Wd.le.refl _) R1 ((e.le l1).set i d1)) fun _ _ _ z => z⟩
end
section
variable {S : Sc} {W : WX} {a b e c tg iter elt : Expr} {es ifs : List Expr} {fa fb f : EF} {pos : Pos} {body : List Stmt} {g : SF}
open Classical in
noncomputable def forGo (tg : GF) (body : SF) (src : List (Nat × D)) : List D → SF
  | [] => fun ρ L => .nx ρ L
  | d :: ds => fun ρ L => match tg d ρ with
    | none => .bad
    | some ρ1 => match body ρ1 L with
      | .nx ρ2 L2 => if srcOk L2 src then forGo tg body src ds ρ2 L2 else .bad
      | .ct ρ2 L2 => if srcOk L2 src then forGo tg body src ds ρ2 L2 else .bad
      | .bk ρ2 L2 => .nx ρ2 L2
      | r => r
noncomputable def sFor (it : IF) (tg : GF) (body : SF) : SF := fun ρ L => match it ρ L with
  | .ok its L1 => forGo tg body its.src its.ds ρ L1
  | .err c p L1 => .err c p ρ L1
  | .bad => .bad
theorem ss_for {own : List Nat} {fi : IF} {ft : GF} (hi : SI S W tg iter fi) (hg : SG S W own tg ft) (hb : SSs S W body g) (hs : ∀ env x, foldedSetIterable iter env x = pure x := by intro _ _; rfl) :
    SS S W (.For tg iter body [] pos) (sFor fi ft g) := fun X h =>
  PS.imp (ps_for h.passes h.calm (hi X h) (hg X h) (hb X h) (hs _)) fun D σ H ⟨w, ρ, L, R, e, p⟩ => by
    refine ⟨w, ρ, L, R, e, ?_⟩
    unfold sFor at p
    cases q : fi ρ L with
    | bad => rw [q] at p; exact p
    | err c x L1 =>
      rw [q] at p
      exact fun w1 H1 dx l R1 x1 C m => p w1 σ H1 dx l R1 (e.le l) x1 C m
    | ok its L1 =>
      rw [q] at p
      intro w1 H1 J l1 R1 so io
      refine ⟨fun i m σ H => ∃ w2 ρ2 L2, w1.le w2 ∧ Rel S.g w2 L2 H ∧ EnvR S.g w2 σ ρ2 ∧ srcOk L2 its.src ∧ i ≤ its.ds.length ∧ m = its.ds.length - i ∧ PostS S.g w2 (forGo ft g its.src (its.ds.drop i) ρ2 L2) D W,
        ⟨its.ds.length, w1, ρ, L1, .refl w1, R1, e.le l1, so, Nat.zero_le _, by simp, PostS.le l1 p⟩, ?_⟩
      rintro i m σ H ⟨w2, ρ2, L2, l2, R2, e2, so2, hi, rfl, p2⟩
      obtain ⟨k1, k2⟩ := io w2 L2 H l2.tole0 R2 so2 i
      by_cases hlt : i < its.ds.length
      · have hd : its.ds[i]? = some its.ds[i] := List.getElem?_eq_getElem hlt
        obtain ⟨g1, g2⟩ := k1 _ hd
        rw [List.drop_eq_getElem_cons hlt] at p2
        refine .inr ⟨g1, fun σ H => ∃ w2 ρ2 L2, w1.le w2 ∧ Rel S.g w2 L2 H ∧ EnvR S.g w2 σ ρ2 ∧ srcOk L2 its.src ∧ PostS S.g w2 (forGo ft g its.src (its.ds.drop (i + 1)) ρ2 L2) D W,
          fun σ' H' ⟨w3, ρ3, L3, l3, R3, e3, so3, p3⟩ => ⟨its.ds.length - (i + 1), by omega, w3, ρ3, L3, l3, R3, e3, so3, hlt, rfl, p3⟩, fun x H' y => ?_⟩
        obtain ⟨w3, l3, R3, d3⟩ := g2 x H' y
        unfold forGo at p2
        cases qt : ft its.ds[i] ρ2 with
        | none => simp only [qt] at p2; exact p2.elim
        | some ρ3 =>
          simp only [qt] at p2
          refine ⟨w3, ρ2, L2, _, ρ3, R3, e2.le l3, d3, qt, fun σ3 e3 _ => ⟨w3, ρ3, L2, R3, e3, ?_⟩⟩
          have l13 : w1.le w3 := l2.trans l3
          have p3 := PostS.le l3 p2
          clear p2
          cases qb : g ρ3 L2 with
          | nx ρ4 L4 =>
            rw [qb] at p3
            dsimp only at p3
            intro w4 σ4 H4 l4 R4 e4
            by_cases hso : srcOk L4 its.src
            · rw [if_pos hso] at p3
              exact ⟨w4, ρ4, L4, l13.trans l4, R4, e4, hso, PostS.le l4 p3⟩
            · rw [if_neg hso] at p3; exact p3.elim
          | ct ρ4 L4 =>
            rw [qb] at p3
            dsimp only at p3
            intro w4 σ4 H4 l4 R4 e4
            by_cases hso : srcOk L4 its.src
            · rw [if_pos hso] at p3
              exact ⟨w4, ρ4, L4, l13.trans l4, R4, e4, hso, PostS.le l4 p3⟩
            · rw [if_neg hso] at p3; exact p3.elim
          | bk ρ4 L4 => rw [qb] at p3; exact p3
          | rt d L4 => rw [qb] at p3; exact p3
          | err c x ρ4 L4 => rw [qb] at p3; exact p3
          | bad => rw [qb] at p3; exact p3
      · have hd : i = its.ds.length := by omega
        rw [List.drop_eq_nil_of_le (by omega)] at p2
        exact .inl ⟨k2 hd, p2 w2 σ H (.refl _) R2 e2⟩
def W0 : WX := fun _ _ _ _ => False
def Sc.blk (S : Sc) (scope : Scope) : Sc := { S with top := false, lm := none, sc := relS scope S.sc, fn := fun x => scope.names.lookup x == some .cell }
theorem Sc.Has.blk {X : Cx} {scope : Scope} (h : S.Has W X) (s : Shared) (H : Hp) (C : Addr) (cl : List (Str × Addr)) (fp : List Addr) : (S.blk scope).Has W0 (X.blk s H scope (compEnvC scope cl C X.env) fp) where
  P := h.P
  w := h.w
  K := h.K
  mg := h.mg
  base := h.base
  N := h.N
  sc := by
    show relS scope S.sc = relabel scope X.env
    rw [h.sc] <;> rfl
  fn := rfl
  calm := h.calm
  room := h.room
  gd := h.gd
  top := fun z => nomatch z
  lm := fun _ z => nomatch z
  takes := fun u s' ⟨_, _, _, _, _, _, _, _, _, _, _, _, _, _, _, _, w⟩ => w.elim
  passes := PassesOwn.never
def STs (S : Sc) (W : WX) (ifs : List Expr) (t : TF) : Prop := ∀ X, S.Has W X → PTs X ifs (tR S.g eqR W t)
def tTrue : TF := fun _ L => .ok true L
theorem sts_nil : STs S W [] tTrue := fun X h => ⟨fun pins s σ H Q I ⟨w, ρ, L, R, e, p⟩ => (pts_nil (X := X)).run pins s σ H Q I (Post.ok p (Wd.le.refl w) R rfl)⟩
theorem sts_one {t : TF} (hc : ST S W c t) : STs S W [c] t := fun X h => pts_one (hc X h)
open Classical in
noncomputable def lcGo (src : List (Nat × D)) (tg : GF) (t : TF) (f : EF) (ρ : Env') : List D → List D → Sto → Res (List D)
  | [], acc, L => .ok acc L
  | d :: ds, acc, L => match tg d ρ with
    | none => .bad
    | some ρ1 => match t ρ1 L with
      | .ok true L1 => (match f ρ1 L1 with
        | .ok y L2 => if acc.length < 16777216 ∧ srcOk L2 src then lcGo src tg t f ρ ds (acc ++ [y]) L2 else .bad
        | _ => .bad)
      | .ok false L1 => if srcOk L1 src then lcGo src tg t f ρ ds acc L1 else .bad
      | _ => .bad
def lstOut (box : Bool) (ds : List D) (L : Sto) : Res D := if box = true then .ok (.loc L.length) (L ++ [.lst ds]) else .ok (.lst ds) L
noncomputable def eLc (box : Bool) (own : List Nat) (it : IF) (tg : GF) (t : TF) (f : EF) : EF := fun ρ L => match it ρ L with
  | .ok its L1 => (lcGo its.src tg t f (wipeE ρ own) its.ds [] L1).bind (lstOut box)
  | .err c p L1 => .err c p L1
  | .bad => .bad
theorem DenL.snoc {G : Gb} {w : Wd} : ∀ {vs : List V} {ds : List D} {v : V} {d : D}, DenL G w vs ds → Den G w v d → DenL G w (vs ++ [v]) (ds ++ [d])
  | _, _, _, _, .nil, h => .cons h .nil
  | _, _, _, _, .cons a t, h => .cons a (t.snoc h)
theorem tLc_of {own : List Nat} {fi : IF} {ft : GF} {t : TF} {box : Bool} {σ : St} {H : Hp} {Q : VK} (q : tR S.g (Den S.g) W (eLc box own fi ft t f) σ H Q) :
    tLc (tI S.g W fi) (tG S.g own ft) (tR S.g eqR W0 t) (tR S.g (Den S.g) W0 f) own σ H Q := by
  obtain ⟨w, ρ, L, R, e, p⟩ := q
  refine ⟨w, ρ, L, R, e, ?_⟩
  unfold eLc at p
  cases q : fi ρ L with
  | bad => rw [q] at p; exact p
  | err c x L1 => rw [q] at p; exact p
  | ok its L1 =>
    rw [q] at p
    dsimp only at p
    intro w1 H1 J l1 R1 so io Dd hD
    have ew := (e.le l1).wipe own
    have R2 := R1.newP (o := .lst []) hD
    refine ⟨fun i m H => ∃ (w2 : Wd) (L2 : Sto) (vs : List V) (acc : List D), w1.le0 w2 ∧ w2.prv = upd w1.prv Dd (.lst vs) ∧ Rel S.g w2 L2 H ∧ srcOk L2 its.src ∧ DenL S.g w2 vs acc ∧
        i ≤ its.ds.length ∧ m = its.ds.length - i ∧ Post S.g (Den S.g) w1 ((lcGo its.src ft t f (wipeE ρ own) (its.ds.drop i) acc L2).bind (lstOut box)) Q (fun c dx H' => W c dx σ H'), ?_, ?_⟩
    · exact ⟨its.ds.length, ⟨w1.F, w1.φ, upd w1.prv Dd (.lst [])⟩, L1, [], [], Wd.prv_le _ _, rfl, R2, so, .nil, Nat.zero_le _, by simp, Post.le l1 p⟩
    · rintro i m H ⟨w2, L2, vs, acc, l2, pv2, R3, so2, da, hi, rfl, p2⟩
      obtain ⟨k1, k2⟩ := io w2 L2 H l2 R3 so2 i
      by_cases hlt : i < its.ds.length
      · have hd : its.ds[i]? = some its.ds[i] := List.getElem?_eq_getElem hlt
        obtain ⟨g1, g2⟩ := k1 _ hd
        rw [List.drop_eq_getElem_cons hlt] at p2
        refine .inr ⟨g1, fun H => ∃ (w2 : Wd) (L2 : Sto) (vs : List V) (acc : List D), w1.le0 w2 ∧ w2.prv = upd w1.prv Dd (.lst vs) ∧ Rel S.g w2 L2 H ∧ srcOk L2 its.src ∧ DenL S.g w2 vs acc ∧ Post S.g (Den S.g) w1 ((lcGo its.src ft t f (wipeE ρ own) (its.ds.drop (i + 1)) acc L2).bind (lstOut box)) Q (fun c dx H' => W c dx σ H'),
          fun H' ⟨w2, L2, vs, acc, x1, x2, x3, x3', x4, x5⟩ => ⟨its.ds.length - (i + 1), by omega, w2, L2, vs, acc, x1, x2, x3, x3', x4, hlt, rfl, x5⟩, fun x H' y => ?_⟩
        obtain ⟨w3, l3, R4, d3⟩ := g2 x H' y
        have l13 : w1.le0 w3 := l2.trans l3.tole0
        have pv3 : w3.prv = upd w1.prv Dd (.lst vs) := l3.same.trans pv2
        unfold lcGo at p2
        cases qt : ft its.ds[i] (wipeE ρ own) with
        | none => simp only [qt] at p2; exact p2.elim
        | some ρ3 =>
          simp only [qt] at p2
          refine ⟨w3, wipeE ρ own, L2, _, ρ3, R4, ew.le0 l13, d3, qt, fun σ3 e3 hw => ⟨hw.trans wipe_idem, w3, ρ3, L2, R4, e3, ?_⟩⟩
          cases qq : t ρ3 L2 with
          | bad => simp only [qq] at p2; exact p2.elim
          | err c x L3 => simp only [qq] at p2; exact p2.elim
          | ok b L3 =>
            intro w4 H4 b' l4 R5 hb
            subst hb
            cases b' with
            | false =>
              simp only [qq] at p2
              rw [if_neg (by decide)]
              split at p2
              · rename_i hso
                exact ⟨w4, L3, vs, acc, l13.trans l4.tole0, l4.same.trans pv3, R5, hso, (da.le0 l3.tole0).le0 l4.tole0, p2⟩
              · exact p2.elim
            | true =>
              simp only [qq] at p2
              rw [if_pos rfl]
              refine ⟨w4, ρ3, L3, R5, e3.le l4, ?_⟩
              cases qf : f ρ3 L3 with
              | bad => simp only [qf] at p2; exact p2.elim
              | err c x L4 => simp only [qf] at p2; exact p2.elim
              | ok y L4 =>
                simp only [qf] at p2
                intro w5 H5 yv l5 R6 dy
                split at p2
                · rename_i hsz
                  have pv5 : w5.prv = upd w1.prv Dd (.lst vs) := l5.same.trans (l4.same.trans pv3)
                  have hp : w5.prv Dd = some (.lst vs) := by rw [pv5]; exact upd_same
                  have l15 : w1.le0 w5 := (l13.trans l4.tole0).trans l5.tole0
                  have da5 : DenL S.g w5 vs acc := ((da.le0 l3.tole0).le0 l4.tole0).le0 l5.tole0
                  refine ⟨vs, (R6.prv _ _ hp).1, by rw [da.length, sizeLine_eq]; exact hsz.1, ⟨w5.F, w5.φ, upd w5.prv Dd (.lst (vs ++ [yv]))⟩, L4, vs ++ [yv], acc ++ [y], l15.trans (Wd.prv_le _ _), by rw [pv5]; exact upd_upd, R6.putP hp, hsz.2, (da5.snoc dy).le0 (Wd.prv_le _ _), p2⟩
                · exact p2.elim
      · have hd : i = its.ds.length := by omega
        rw [List.drop_eq_nil_of_le (by omega)] at p2
        refine .inl ⟨k2 hd, ?_⟩
        have hp : w2.prv Dd = some (.lst vs) := by rw [pv2]; exact upd_same
        have hq : ∀ a u, w1.prv a = some u → a ≠ Dd ∧ w2.prv a = some u := fun a u h => by
          have na : a ≠ Dd := fun z => by rw [z] at h; rw [(R1.prv _ _ h).1] at hD; cases hD
          exact ⟨na, by rw [pv2, upd_ne na]; exact h⟩
        have p3 : Post S.g (Den S.g) w1 (lstOut box acc L2) Q (fun c dx H' => W c dx σ H') := p2
        unfold lstOut at p3
        cases box with
        | true =>
          rw [if_pos rfl] at p3
          obtain ⟨Rz, lz⟩ := R3.outB hp (.lst da) w1.prv hq
          refine p3 _ H (.ref Dd) ⟨l2.trans lz, rfl⟩ Rz (.loc ?_)
          show (w2.φ ++ [Dd])[L2.length]? = some Dd
          rw [← R3.len, List.getElem?_append_right (Nat.le_refl _)]
          simp
        | false =>
          rw [if_neg (by decide)] at p3
          obtain ⟨Rz, lz⟩ := R3.outP hp w1.prv hq
          exact p3 _ H (.ref Dd) ⟨l2.trans lz, rfl⟩ Rz (.lst upd_same (da.le0 lz))
theorem se_lc {fi : IF} {ft : GF} {t : TF} (box : Bool) {scope : Scope} (own : List (Str × Nat)) (hN : S.N.Nodup) (hi : SI S W tg iter fi) (ok : blkC S.N S.sc scope own = true)
    (hg : SG (S.blk scope) W0 (own.map (·.2)) tg ft) (ht : STs (S.blk scope) W0 ifs t) (he : SE (S.blk scope) W0 elt f) (hs : ∀ env x, foldedSetIterable iter env x = pure x := by intro _ _; rfl) :
    SE S W (.ListComp elt [⟨tg, iter, ifs, 0⟩] scope pos) (eLc box (own.map (·.2)) fi ft t f) := fun X h =>
  PE.imp (pe_lc (own := own) h.calm (by rw [← h.N]; exact hN) (hi X h) (blkOk_by (by rw [← h.N, ← h.sc]; exact ok)) (fun s H C cl fp => hg _ (h.blk s H C cl fp)) (fun s H C cl fp => ht _ (h.blk s H C cl fp)) (fun s H C cl fp => he _ (h.blk s H C cl fp)) (hs _)) fun σ H Q q => tLc_of q
theorem ss_setLc (i : Nat) {y : Str} {py spos : Pos} {fi : IF} {ft : GF} {t : TF} (box : Bool) {scope : Scope} (own : List (Str × Nat)) (hN : S.N.Nodup) (hi : SI S W tg iter fi) (ok : blkC S.N S.sc scope own = true)
    (hg : SG (S.blk scope) W0 (own.map (·.2)) tg ft) (ht : STs (S.blk scope) W0 ifs t) (he : SE (S.blk scope) W0 elt f) (hy : S.N[i]? = some y := by rfl) (hyl : S.sc.names.lookup y = some .local := by rfl)
    (hk : S.sc.kind = .function := by rfl) (hl : (py.line == pos.line) = true := by rfl)
    (hs : ∀ env x, foldedSetIterable iter env x = pure x := by intro _ _; rfl) (hsw : ∀ env : Env, env.scope.kind = .function → env.scope.names.lookup y = some .local → swapsWith (.ListComp elt [⟨tg, iter, ifs, 0⟩] scope pos) (some (.Name y py)) spos.line env = pure true := by intro env h1 h2; exact sw_true h1 h2 (by rfl) (by decide +kernel)) :
    SS S W (.Assign [.Name y py] (.ListComp elt [⟨tg, iter, ifs, 0⟩] scope pos) spos) (sSet i (eLc box (own.map (·.2)) fi ft t f)) := fun X h =>
  PS.imp (ps_setLc (i := i) (own := own) h.calm (by rw [← h.N]; exact hN) (by rw [← h.N]; exact hy) (by rw [← h.sc]; exact hyl) (hsw _ (by rw [← h.sc]; exact hk) (by rw [← h.sc]; exact hyl)) (hi X h) (blkOk_by (by rw [← h.N, ← h.sc]; exact ok))
    (fun s H C cl fp => hg _ (h.blk s H C cl fp)) (fun s H C cl fp => ht _ (h.blk s H C cl fp)) (fun s H C cl fp => he _ (h.blk s H C cl fp)) (hs _)) fun D σ H ⟨w, ρ, L, R, e, p⟩ =>
    tLc_of ⟨w, ρ, L, R, e, (PostS.bind e p).imp (fun v H1 ⟨w1, d, L1, l1, R1, d1, p1⟩ => p1 w1 _ H1 (Wd.le.refl _) R1 ((e.le l1).set i d1)) fun _ _ _ z => z⟩
end
def SqB (k : Bool) (K : PySem.W.Frag) (H : Hp) (a : Addr) (xs : List V) : Prop := match k with
  | true => SqL K H a xs
  | false => SqT K H a xs
def ItB (k : Bool) (h : Heap) (it a : Addr) (i : Nat) : Prop := match k with
  | true => h.IsListIter it a i
  | false => h.IsTupleIter it a i
def AtB (k : Bool) (h : Heap) (a : Addr) (its : Array Value) : Prop := match k with
  | true => h.IsList a its
  | false => h.IsTuple a its
theorem sqB_inv {X : Cx} {pins : List (Addr × Obj)} {σ : St} {H : Hp} {s : Shared} {k : Bool} {a : Addr} {xs : List V} (I : Inv X pins σ H s) (h : SqB k X.K H a xs) : ∃ its : List Value, Vals xs its ∧ AtB k s.heap a its.toArray ∧ xs.length ≤ sizeLine := by
  cases k with
  | true => obtain ⟨its, r, p, z⟩ := I.list h; exact ⟨its, r, p.isList, z⟩
  | false => obtain ⟨its, r, p, z⟩ := I.tuple h; exact ⟨its, r, p, z⟩
theorem sqB_inj {X : Cx} {pins : List (Addr × Obj)} {σ : St} {H : Hp} {s : Shared} {k : Bool} {a : Addr} {xs ys : List V} (I : Inv X pins σ H s) (h : SqB k X.K H a xs) (h' : SqB k X.K H a ys) : xs = ys := by
  cases k with
  | true => exact I.list_inj h h'
  | false => exact I.tuple_inj h h'
theorem drawsB {prog : Program} {w : World} {A : Around} (hh : A.handled = none) (k : Bool) (it a : Addr) (ne : a ≠ it) (items : Array Value) :
    Draws prog w A it [it, a] items.size (fun i v => items[i]? = some v) (fun i h => ItB k h it a i ∧ AtB k h a items) := by
  cases k with
  | true => exact Draws.list hh it a ne items
  | false => exact Draws.tuple hh it a ne items
def beginB (k : Bool) (a : Addr) : Obj := match k with
  | true => { cls := .type "list_iterator", data := .fields #[.ref a, .int 0 0] }
  | false => { cls := .type "tuple_iterator", data := .fields #[.ref a, .int 0 0] }
theorem beginsB (k : Bool) (a : Addr) (items : Array Value) : Begins (.ref a) (beginB k a) (fun h => AtB k h a items) := by
  cases k with
  | true => exact begins_list a items
  | false => exact begins_tuple a items
theorem itB_begin {k : Bool} {h : Heap} {it a : Addr} (e : h.get? it = some (beginB k a)) : ItB k h it a 0 := by
  cases k with
  | true => exact ⟨_, e, rfl, rfl⟩
  | false => exact ⟨_, e, rfl, rfl⟩
theorem itB_obj {k : Bool} {h : Heap} {it a : Addr} {i : Nat} (x : ItB k h it a i) : ∃ o, h.get? it = some o ∧ ∀ v, o.data ≠ .cell v := by
  cases k with
  | true => obtain ⟨o, e, _, d⟩ := x; exact ⟨o, e, fun v z => by rw [d] at z; cases z⟩
  | false => obtain ⟨o, e, _, d⟩ := x; exact ⟨o, e, fun v z => by rw [d] at z; cases z⟩
theorem itB_at {k : Bool} {h h' : Heap} {it a : Addr} {i : Nat} (x : ItB k h it a i) (kp : ∀ o, h.get? it = some o → h'.get? it = some o) : ItB k h' it a i := by
  cases k with
  | true => exact Heap.IsListIter.at x kp
  | false => exact Heap.IsTupleIter.at x kp
theorem sqB_some {X : Cx} {pins : List (Addr × Obj)} {σ : St} {H : Hp} {s : Shared} {k : Bool} {a b : Addr} {xs : List V} (I : Inv X pins σ H s) (h : SqB k X.K H a xs) (hb : FpOk X pins H b) : a ≠ b := by
  intro e
  subst e
  obtain ⟨f0, _, _, f3, _, _⟩ := hb
  have hk : (∃ u, Rd H a u) ∨ ∃ o, X.K.lookup a = some o := by
    cases k with
    | true => rcases h with h | ⟨o, _, _, h, _⟩; exact .inl ⟨_, h⟩; exact .inr ⟨o, h⟩
    | false => rcases h with h | ⟨o, _, _, h, _⟩; exact .inl ⟨_, h⟩; exact .inr ⟨o, h⟩
  rcases hk with ⟨u, r | ⟨o, r⟩⟩ | ⟨o, hk⟩
  · rw [f0] at r; cases r
  · rw [f0] at r; cases r
  · have hb := I.ok.mod.kin a o hk
    rcases f3 with z | z
    · exact I.ok.noex a o hb z
    · exact absurd (Nat.lt_of_lt_of_le (Heap.lt_size (I.ok.bs a o hb).1) z) (Nat.lt_irrefl _)
def ItEn (k : Bool) (K : PySem.W.Frag) (a : Addr) : It :=
  ⟨fun i H => ∃ (xs : List V) (x : V), SqB k K H a xs ∧ xs[i]? = some x, fun i H v H' => ∃ T x, v = .ref T ∧ H T = none ∧ H' = upd H T (.tup [.int (i : Nat), x]) ∧ ∀ xs, SqB k K H a xs → xs[i]? = some x, fun i H => ∃ xs : List V, SqB k K H a xs ∧ i = xs.length⟩
theorem turn_en {P : Program} {w : World} {K : PySem.W.Frag} {elts : List Expr} {kk : Nat} {tpos : Pos} (k : Bool) (a e it : Addr) (hne : e ≠ it) :
    Turn P w K (.Tuple elts kk tpos) (ItEn k K a) [e, it] e (fun i h => (∃ old, IsEnum h e it ((i : Nat) : Int) old) ∧ ItB k h it a i) where
  mem := by simp
  obj := fun i h st b hb => by
    obtain ⟨⟨old, he⟩, hi⟩ := st
    have e' : b = e ∨ b = it := by simpa using hb
    rcases e' with z | z
    · rw [z]; exact ⟨_, he, fun v q => nomatch q⟩
    · rw [z]; exact itB_obj hi
  keep := fun i h h' st kp => let ⟨⟨old, he⟩, hi⟩ := st; ⟨⟨old, kp e (by simp) _ he⟩, itB_at hi fun o q => kp it (by simp) o q⟩
  item := by
    intro X hP hw hK hc i pins s σ H E I hf st hg
    subst hP hw hK
    obtain ⟨⟨old, he⟩, hit⟩ := st
    obtain ⟨xs, x, hq, hx⟩ := hg
    obtain ⟨its, rv, p, hz⟩ := sqB_inv I hq
    obtain ⟨u, hu, ru⟩ := rv.get hx
    have nae : a ≠ e := sqB_some I hq (hf e (by simp))
    have nai : a ≠ it := sqB_some I hq (hf it (by simp))
    have W := GoesN.enumFrom (prog := X.prog) (w := X.w) (A := X.A) (elts := elts) (x1 := kk) (pos := tpos) 0 (drawsB (A := X.A.in1) (I.ok.hd hc) k it a nai its.toArray) e hne (by simp only [List.mem_cons, List.not_mem_nil, or_false, not_or]; exact ⟨hne, Ne.symm nae⟩) (by simp)
    have hi : i < its.toArray.size := by
      have := getElem?_lt hu
      simpa using this
    have z0 : ∀ j : Nat, (0 : Int) + (j : Int) = (j : Int) := fun j => by omega
    refine wpAny_mono (W.goes i s (fun v s2 => ∃ x H', Inv X pins σ H' s2 ∧ RelV x v ∧ (ItEn k X.K a).yld i H x H' ∧ ((∃ old, IsEnum s2.heap e it ((i + 1 : Nat) : Int) old) ∧ ItB k s2.heap it a (i + 1)) ∧ ∀ b ∈ [e, it], H' b = none) E hi ⟨⟨old, by rw [z0]; exact he⟩, hit, p⟩ fun v h' tk hY st' hk htk => ?_) (fun r s1 h1 => ?_) fun _ _ z => z
    · obtain ⟨T, t, y, rfl, hT, hy, hTup⟩ := hY
      obtain ⟨⟨old', he'⟩, hit', _⟩ := st'
      have ey : y = u := by
        have : its.toArray[i]? = some u := by simpa using hu
        rw [this] at hy; exact (Option.some.inj hy).symm
      subst ey
      have new : ObjOk X.prog X.w (upd H T (.tup [.int (i : Nat), x])) h' T (.tup [.int (i : Nat), x]) :=
        ⟨by show 2 ≤ sizeLine; decide, [.int i t, y], .cons ⟨_, rfl⟩ (.cons ru .nil), by rw [z0] at hTup; exact hTup⟩
      have I1 : Inv X pins σ (upd H T (.tup [.int (i : Nat), x])) { s with heap := h', toks := tk } := I.turnedNew (ch := [e, it]) hk hf hT new
      refine ⟨.ref T, _, I1, rfl, ⟨T, x, rfl, I.hok.fresh hT, rfl, fun ys hy => by rw [sqB_inj I hy hq]; exact hx⟩, ⟨⟨old', by rw [z0] at he'; exact he'⟩, hit'⟩, fun b hb => ?_⟩
      have hbl : b < s.heap.objs.size := by
        have e' : b = e ∨ b = it := by simpa using hb
        rcases e' with z | z
        · rw [z]; exact Heap.lt_size he
        · rw [z]; obtain ⟨o, q, _⟩ := itB_obj hit; exact Heap.lt_size q
      rw [upd_ne (Nat.ne_of_lt (Nat.lt_of_lt_of_le hbl hT))]
      exact (hf b hb).1
    · obtain ⟨v, hv, h2⟩ := h1
      exact ⟨v, hv, h2⟩
  done := by
    intro X hP hw hK hc i pins s σ H E I hf st hg
    subst hP hw hK
    obtain ⟨⟨old, he⟩, hit⟩ := st
    obtain ⟨xs, hq, hx⟩ := hg
    obtain ⟨its, rv, p, hz⟩ := sqB_inv I hq
    have nae : a ≠ e := sqB_some I hq (hf e (by simp))
    have nai : a ≠ it := sqB_some I hq (hf it (by simp))
    have W := GoesN.enumFrom (prog := X.prog) (w := X.w) (A := X.A) (elts := elts) (x1 := kk) (pos := tpos) 0 (drawsB (A := X.A.in1) (I.ok.hd hc) k it a nai its.toArray) e hne (by simp only [List.mem_cons, List.not_mem_nil, or_false, not_or]; exact ⟨hne, Ne.symm nae⟩) (by simp)
    have hl := rv.length
    have hi : its.toArray.size = i := by simp only [List.size_toArray]; omega
    have z0 : ∀ j : Nat, (0 : Int) + (j : Int) = (j : Int) := fun j => by omega
    exact W.stops s (fun s1 => Inv X pins σ H s1) E (by rw [hi]; exact ⟨⟨old, by rw [z0]; exact he⟩, hit, p⟩) fun h' tk hk _ => I.turnedL (ch := [e, it]) hk hf
  self := fun A i s Q E st h => let ⟨⟨_, he⟩, _⟩ := st; wpAny_pyIter_enum he h
theorem meets_enumerate_newB1 {v : Value} {o : Obj} {H : Heap → Prop} (B : Begins v o H) :
    Meets (Builtin.«enumerate.__new__» ⟨[.type "enumerate", v], []⟩) (fun _ R s => H s.heap ∧
      R (.ok (.ret (.ref (s.heap.push o).objs.size))) { s with heap := (s.heap.push o).push { cls := .type "enumerate", data := .fields #[.none, .bool false, .ref s.heap.objs.size, rawInt 0, .none, .none] } }) :=
  .of_wp fun prog w A R s h => by
    obtain ⟨hp, g, d, tk, os⟩ := s; obtain ⟨h1, h⟩ := h
    have hsub := sub_enumerate
    have q1 : ∀ {A' : Around} {E : Value → Shared → Prop} {Q : Value → Shared → Prop}, Q (.ref hp.objs.size) ⟨hp.push o, g, d, tk, os⟩ → wpAny (model prog w) A' (pyIter v) Q E ⟨hp, g, d, tk, os⟩ :=
      fun q => B.iter prog w _ _ ⟨hp, g, d, tk, os⟩ _ h1 q
    wp_walk using q1
    refine wpAny_stack_any fun st => wpAny_pure ?_
    split
    · rename_i c _ _ _ _ _
      cases (c == Value.type "enumerate")
      · wp_walk using q1
        exact ⟨_, rfl, h⟩
      · wp_walk using q1
        exact ⟨_, rfl, h⟩
    · wp_walk using q1
      exact ⟨_, rfl, h⟩
theorem enum_begins1 {prog : Program} {w : World} {A : Around} {E : Value → Shared → Prop} {s : Shared} {v : Value} {o : Obj} {H : Heap → Prop} {Q : Value → Shared → Prop} (B : Begins v o H) (h1 : H s.heap)
    (h : ∀ h', IsEnum h' (s.heap.objs.size + 1) s.heap.objs.size 0 .none → h'.get? s.heap.objs.size = some o → h'.objs.size = s.heap.objs.size + 2 →
      (∀ b o, s.heap.get? b = some o → h'.get? b = some o) → Q (.ref (s.heap.objs.size + 1)) { s with heap := h' }) :
    wpAny (model prog w) A (call (.type "enumerate") [v]) Q E s := by
  refine callType_new F.called_enumerate (by decide) (F.typeCall_enumerate_1 _) (F.newCall_enumerate_1 _) (fun obj => F.args_object_init_2 obj _) F.entry_enumerate_new
    (meets_enumerate_newB1 B) ⟨h1, ?_⟩
  have hz : (s.heap.push o).objs.size = s.heap.objs.size + 1 := Heap.size_push ..
  show _ ∧ _
  rw [hz]
  have he : IsEnum ((s.heap.push o).push { cls := .type "enumerate", data := .fields #[.none, .bool false, .ref s.heap.objs.size, rawInt 0, .none, .none] }) (s.heap.objs.size + 1) s.heap.objs.size 0 .none := by
    have := Heap.get?_push_size (s.heap.push o) (o := { cls := .type "enumerate", data := .fields #[.none, .bool false, .ref s.heap.objs.size, rawInt 0, .none, .none] }) rfl
    rw [hz] at this; exact this
  refine ⟨⟨_, he, rfl⟩, h _ he (Heap.get?_push_of_some _ (Heap.get?_push_size _ B.free)) (by rw [Heap.size_push, hz]) fun b o x => Heap.get?_push_of_some _ (Heap.get?_push_of_some _ x)⟩
def iEn (K : PySem.W.Frag) (ta : TA) : TI := fun σ H R => ta σ H fun vs H1 => ∃ k a xs, vs = [.ref a] ∧ SqB k K H1 a xs ∧ R (ItEn k K a) H1
theorem pi_en {X : Cx} {e : Expr} {ta : TA} {p pos tpos : Pos} {elts : List Expr} {kk : Nat} (hg : Gl X "enumerate") (hm : X.mg "enumerate" = none) (ha : PA X [e] ta) (hs : starEach [e] X.env = [(false, eval e X.env)] := by rfl) :
    PI X (.Tuple elts kk tpos) (.Call (.Name "enumerate" p) [e] [] pos) (iEn X.K ta) := by
  refine ⟨fun pins s σ H R I h => ?_⟩
  refine Call_ (ld_blt I hg hm boot_enumerate (PyProof.Rows.callWith_type1 (thn (ha.run pos pins s σ H _ I h) fun us s1 ⟨vs, H1, I1, r1, q1⟩ => ?_) hs rfl))
  obtain ⟨k, a, xs, ex, hq, q⟩ := q1
  subst ex
  cases r1 with
  | cons r rr =>
    cases rr
    cases r
    obtain ⟨its, rv, p', hz⟩ := sqB_inv I1 hq
    refine enum_begins1 (beginsB k a its.toArray) p' fun h' he hit hsz hk => wpAny_pyIter_enum he ?_
    have I2 : Inv X pins σ H1 { s1 with heap := h' } := I1.kept (t' := s1.toks) hk
    refine ⟨s1.heap.objs.size + 1, [s1.heap.objs.size + 1, s1.heap.objs.size], _, _, H1, rfl, I2, turn_en k a (s1.heap.objs.size + 1) s1.heap.objs.size (Nat.succ_ne_self _), ⟨⟨.none, he⟩, itB_begin hit⟩, fun b hb => ?_, q⟩
    have e' : b = s1.heap.objs.size + 1 ∨ b = s1.heap.objs.size := by simpa using hb
    have hle : s1.heap.objs.size ≤ b := by
      rcases e' with z | z
      · rw [z]; exact Nat.le_add_right _ _
      · rw [z]; exact Nat.le_refl _
    exact I1.fpOk hle (I1.hok.fresh hle)
def ItZp (k j : Bool) (K : PySem.W.Frag) (a b : Addr) : It :=
  ⟨fun i H => ∃ (xs ys : List V) (x y : V), SqB k K H a xs ∧ SqB j K H b ys ∧ xs[i]? = some x ∧ ys[i]? = some y,
    fun i H v H' => ∃ T x y, v = .ref T ∧ H T = none ∧ H' = upd H T (.tup [x, y]) ∧ (∀ xs, SqB k K H a xs → xs[i]? = some x) ∧ ∀ ys, SqB j K H b ys → ys[i]? = some y,
    fun i H => ∃ xs ys : List V, SqB k K H a xs ∧ SqB j K H b ys ∧ i = min xs.length ys.length⟩
structure ZpApart (z TI TO i1 i2 : Addr) : Prop where
  TIz : TI ≠ z
  TOz : TO ≠ z
  TITO : TI ≠ TO
  TIi1 : TI ≠ i1
  TIi2 : TI ≠ i2
  zi1 : z ≠ i1
  zi2 : z ≠ i2
  TOi1 : TO ≠ i1
  TOi2 : TO ≠ i2
  i12 : i1 ≠ i2
theorem turn_zp {P : Program} {w : World} {K : PySem.W.Frag} {elts : List Expr} {kk : Nat} {tpos : Pos} (k j : Bool) {a b z TI TO i1 i2 : Addr} (D : ZpApart z TI TO i1 i2) :
    Turn P w K (.Tuple elts kk tpos) (ItZp k j K a b) [z, TI, TO, i1, i2] z (fun i h => IsZip h z TI TO .none ∧ IsTupOf2 h TI (.ref i1) (.ref i2) ∧ (∃ x y, IsTupOf2 h TO x y) ∧ ItB k h i1 a i ∧ ItB j h i2 b i) where
  mem := by simp
  obj := fun i h st c hc => by
    obtain ⟨hz, hTI, ⟨x, y, hTO⟩, h1, h2⟩ := st
    have e' : c = z ∨ c = TI ∨ c = TO ∨ c = i1 ∨ c = i2 := by simpa using hc
    rcases e' with q | q | q | q | q
    · rw [q]; exact ⟨_, hz, fun v q => nomatch q⟩
    · rw [q]; exact ⟨_, hTI, fun v q => nomatch q⟩
    · rw [q]; exact ⟨_, hTO, fun v q => nomatch q⟩
    · rw [q]; exact itB_obj h1
    · rw [q]; exact itB_obj h2
  keep := fun i h h' st kp => by
    obtain ⟨hz, hTI, ⟨x, y, hTO⟩, h1, h2⟩ := st
    exact ⟨kp z (by simp) _ hz, kp TI (by simp) _ hTI, ⟨x, y, kp TO (by simp) _ hTO⟩, itB_at h1 fun o q => kp i1 (by simp) o q, itB_at h2 fun o q => kp i2 (by simp) o q⟩
  item := by
    intro X hP hw hK hc i pins s σ H E I hf st hg
    subst hP hw hK
    obtain ⟨hz, hTI, ⟨x0, y0, hTO⟩, h1, h2⟩ := st
    obtain ⟨xs, ys, x, y, hqx, hqy, hx, hy⟩ := hg
    obtain ⟨its, rv, p, _⟩ := sqB_inv I hqx
    obtain ⟨its2, rv2, p2, _⟩ := sqB_inv I hqy
    obtain ⟨u, hu, ru⟩ := rv.get hx
    obtain ⟨u2, hu2, ru2⟩ := rv2.get hy
    have na : ∀ c ∈ [z, TI, TO, i1, i2], a ≠ c := fun c hc => sqB_some I hqx (hf c hc)
    have nb : ∀ c ∈ [z, TI, TO, i1, i2], b ≠ c := fun c hc => sqB_some I hqy (hf c hc)
    have hh := I.ok.hd hc
    have SP : ZipSep2 z TI TO i1 i2 [i1, a] [i2, b] :=
      { TIz := D.TIz, TOz := D.TOz, TITO := D.TITO, TIi1 := D.TIi1, TIi2 := D.TIi2, mem1 := by simp, mem2 := by simp,
        zf1 := by simp [D.zi1, (na z (by simp)).symm], zf2 := by simp [D.zi2, (nb z (by simp)).symm], Tf1 := by simp [D.TOi1, (na TO (by simp)).symm], Tf2 := by simp [D.TOi2, (nb TO (by simp)).symm],
        sep1_2 := by simp [D.i12, (nb i1 (by simp)).symm], sep2_1 := by simp [D.i12.symm, (na i2 (by simp)).symm] }
    have W := GoesN.zip2 (prog := X.prog) (w := X.w) (A := X.A) (elts := elts) (x1 := kk) (pos := tpos) SP (drawsB (A := X.A.in1) hh k i1 a (na i1 (by simp)) its.toArray) (drawsB (A := X.A.in1) hh j i2 b (nb i2 (by simp)) its2.toArray)
    have hi : i < min its.toArray.size its2.toArray.size := by
      have q1 := getElem?_lt hu
      have q2 := getElem?_lt hu2
      simp only [List.size_toArray]; omega
    have hlt : ∀ c ∈ [z, TI, TO, i1, i2], c < s.heap.objs.size := fun c hcm => by
      have e' : c = z ∨ c = TI ∨ c = TO ∨ c = i1 ∨ c = i2 := by simpa using hcm
      rcases e' with q | q | q | q | q
      · rw [q]; exact Heap.lt_size hz
      · rw [q]; exact Heap.lt_size hTI
      · rw [q]; exact Heap.lt_size hTO
      · rw [q]; obtain ⟨_, e1, _⟩ := itB_obj h1; exact Heap.lt_size e1
      · rw [q]; obtain ⟨_, e2, _⟩ := itB_obj h2; exact Heap.lt_size e2
    refine wpAny_mono (W.goes i s (fun v s2 => ∃ x H', Inv X pins σ H' s2 ∧ RelV x v ∧ (ItZp k j X.K a b).yld i H x H' ∧ (IsZip s2.heap z TI TO .none ∧ IsTupOf2 s2.heap TI (.ref i1) (.ref i2) ∧ (∃ x y, IsTupOf2 s2.heap TO x y) ∧ ItB k s2.heap i1 a (i + 1) ∧ ItB j s2.heap i2 b (i + 1)) ∧ ∀ c ∈ [z, TI, TO, i1, i2], H' c = none) E hi
      ⟨hz, hTI, ⟨x0, y0, hTO⟩, ⟨h1, p⟩, h2, p2⟩ fun v h' tk hY st' hk htk => ?_) (fun r s1 h1 => ?_) fun _ _ z => z
    · obtain ⟨T, y1, y2, rfl, hT, hy1, hy2, hTup⟩ := hY
      obtain ⟨z', TI', TO', ⟨h1', _⟩, h2', _⟩ := st'
      have e1 : y1 = u := by
        have : its.toArray[i]? = some u := by simpa using hu
        rw [this] at hy1; exact (Option.some.inj hy1).symm
      have e2 : y2 = u2 := by
        have : its2.toArray[i]? = some u2 := by simpa using hu2
        rw [this] at hy2; exact (Option.some.inj hy2).symm
      subst e1 e2
      have new : ObjOk X.prog X.w (upd H T (.tup [x, y])) h' T (.tup [x, y]) := ⟨by show 2 ≤ sizeLine; decide, [y1, y2], .cons ru (.cons ru2 .nil), hTup⟩
      have I1 : Inv X pins σ (upd H T (.tup [x, y])) { s with heap := h', toks := tk } := I.turnedNew (ch := [z, TI, TO, i1, i2]) (fun c o hb q => hk c o (fun hm => hb (by
        have : c = z ∨ c = TO ∨ c = i1 ∨ c = i2 := by simpa using hm
        rcases this with q | q | q | q <;> simp [q])) q) hf hT new
      refine ⟨.ref T, _, I1, rfl, ⟨T, x, y, rfl, I.hok.fresh hT, rfl, fun l hl => by rw [sqB_inj I hl hqx]; exact hx, fun l hl => by rw [sqB_inj I hl hqy]; exact hy⟩, ⟨z', TI', TO', h1', h2'⟩, fun c hcm => ?_⟩
      rw [upd_ne (Nat.ne_of_lt (Nat.lt_of_lt_of_le (hlt c hcm) hT))]
      exact (hf c hcm).1
    · obtain ⟨v, hv, h2⟩ := h1
      exact ⟨v, hv, h2⟩
  done := by
    intro X hP hw hK hc i pins s σ H E I hf st hg
    subst hP hw hK
    obtain ⟨hz, hTI, ⟨x0, y0, hTO⟩, h1, h2⟩ := st
    obtain ⟨xs, ys, hqx, hqy, hend⟩ := hg
    obtain ⟨its, rv, p, _⟩ := sqB_inv I hqx
    obtain ⟨its2, rv2, p2, _⟩ := sqB_inv I hqy
    have na : ∀ c ∈ [z, TI, TO, i1, i2], a ≠ c := fun c hc => sqB_some I hqx (hf c hc)
    have nb : ∀ c ∈ [z, TI, TO, i1, i2], b ≠ c := fun c hc => sqB_some I hqy (hf c hc)
    have hh := I.ok.hd hc
    have SP : ZipSep2 z TI TO i1 i2 [i1, a] [i2, b] :=
      { TIz := D.TIz, TOz := D.TOz, TITO := D.TITO, TIi1 := D.TIi1, TIi2 := D.TIi2, mem1 := by simp, mem2 := by simp,
        zf1 := by simp [D.zi1, (na z (by simp)).symm], zf2 := by simp [D.zi2, (nb z (by simp)).symm], Tf1 := by simp [D.TOi1, (na TO (by simp)).symm], Tf2 := by simp [D.TOi2, (nb TO (by simp)).symm],
        sep1_2 := by simp [D.i12, (nb i1 (by simp)).symm], sep2_1 := by simp [D.i12.symm, (na i2 (by simp)).symm] }
    have W := GoesN.zip2 (prog := X.prog) (w := X.w) (A := X.A) (elts := elts) (x1 := kk) (pos := tpos) SP (drawsB (A := X.A.in1) hh k i1 a (na i1 (by simp)) its.toArray) (drawsB (A := X.A.in1) hh j i2 b (nb i2 (by simp)) its2.toArray)
    have l1 := rv.length
    have l2 := rv2.length
    have hi : min its.toArray.size its2.toArray.size = i := by simp only [List.size_toArray]; omega
    exact W.stops s (fun s1 => Inv X pins σ H s1) E (by rw [hi]; exact ⟨hz, hTI, ⟨x0, y0, hTO⟩, ⟨h1, p⟩, h2, p2⟩) fun h' tk hk _ => I.turnedL (ch := [z, TI, TO, i1, i2]) (fun c o hb q => hk c o (fun hm => hb (by
        have : c = z ∨ c = TO ∨ c = i1 ∨ c = i2 := by simpa using hm
        rcases this with q | q | q | q <;> simp [q])) q) hf
  self := fun A i s Q E st h => wpAny_pyIter_zip st.1 h
def iZp (K : PySem.W.Frag) (ta : TA) : TI := fun σ H R => ta σ H fun vs H1 => ∃ k j a b xs ys, vs = [.ref a, .ref b] ∧ SqB k K H1 a xs ∧ SqB j K H1 b ys ∧ R (ItZp k j K a b) H1
theorem pi_zp {X : Cx} {e e2 : Expr} {ta : TA} {p pos tpos : Pos} {elts : List Expr} {kk : Nat} (hg : Gl X "zip") (hm : X.mg "zip" = none) (ha : PA X [e, e2] ta)
    (hs : starEach [e, e2] X.env = (false, eval e X.env) :: starEach [e2] X.env := by rfl) (hpl : (backTo pos (starEach [e2] X.env)).any (·.1) = false := by rfl) :
    PI X (.Tuple elts kk tpos) (.Call (.Name "zip" p) [e, e2] [] pos) (iZp X.K ta) := by
  refine ⟨fun pins s σ H R I h => ?_⟩
  refine Call_ (ld_blt I hg hm PyProof.Rows.boot_zip (PyProof.Rows.callWith_type1 (thn (ha.run pos pins s σ H _ I h) fun us s1 ⟨vs, H1, I1, r1, q1⟩ => ?_) hs hpl))
  obtain ⟨k, j, a, b, xs, ys, ex, hqa, hqb, q⟩ := q1
  subst ex
  obtain ⟨u, u', rfl, ra, rb⟩ := vals2 r1
  cases ra
  cases rb
  obtain ⟨its, rv, p1, hz⟩ := sqB_inv I1 hqa
  obtain ⟨its2, rv2, p2, hz2⟩ := sqB_inv I1 hqb
  refine zip_begins2 (beginsB k a its.toArray) (beginsB j b its2.toArray) p1 p2 fun h' hz hTI hTO h1 h2 hsz hk => wpAny_pyIter_zip hz ?_
  have I2 : Inv X pins σ H1 { s1 with heap := h' } := I1.kept (t' := s1.toks) hk
  generalize hN : s1.heap.objs.size = n at *
  have D : ZpApart (n + 4) (n + 2) (n + 3) n (n + 1) :=
    ⟨show (n + 2 : Nat) ≠ n + 4 by omega, show (n + 3 : Nat) ≠ n + 4 by omega, show (n + 2 : Nat) ≠ n + 3 by omega, show (n + 2 : Nat) ≠ n by omega, show (n + 2 : Nat) ≠ n + 1 by omega,
      show (n + 4 : Nat) ≠ n by omega, show (n + 4 : Nat) ≠ n + 1 by omega, show (n + 3 : Nat) ≠ n by omega, show (n + 3 : Nat) ≠ n + 1 by omega, show (n : Nat) ≠ n + 1 by omega⟩
  refine ⟨n + 4, [n + 4, n + 2, n + 3, n, n + 1], _, _, H1, rfl, I2, turn_zp k j D, ⟨hz, hTI, ⟨_, _, hTO⟩, itB_begin h1, itB_begin h2⟩, fun c hc => ?_, q⟩
  have hle : s1.heap.objs.size ≤ c := by
    rw [hN]
    have e' : c = n + 4 ∨ c = n + 2 ∨ c = n + 3 ∨ c = n ∨ c = n + 1 := by simpa using hc
    rcases e' with z | z | z | z | z <;> rw [z]
    · exact (show (n : Nat) ≤ n + 4 by omega)
    · exact (show (n : Nat) ≤ n + 2 by omega)
    · exact (show (n : Nat) ≤ n + 3 by omega)
    · exact Nat.le_refl n
    · exact (show (n : Nat) ≤ n + 1 by omega)
  exact I1.fpOk hle (I1.hok.fresh hle)
def seqOf (L : Sto) (d : D) : Option (List D × List (Nat × D)) := match d with
  | .lst xs => some (xs, [])
  | .ro xs => some (xs, [])
  | .tup xs => some (xs, [])
  | .tg xs => some (xs, [])
  | .tk k => some (k.map dOfKey, [])
  | .loc n => (match L[n]? with
    | some (.lst xs) => some (xs, [(n, .lst xs)])
    | _ => none)
  | _ => none
theorem DenL.get {G : Gb} {w : Wd} : ∀ {vs : List V} {ds : List D} {i : Nat} {d : D}, DenL G w vs ds → ds[i]? = some d → ∃ v, vs[i]? = some v ∧ Den G w v d
  | _, _, _, _, .nil, e => by simp at e
  | _, _, 0, _, .cons a t, e => by simp at e; subst e; exact ⟨_, rfl, a⟩
  | _, _, i + 1, _, .cons a t, e => by simpa using DenL.get t (by simpa using e)
theorem seq_at {G : Gb} {w : Wd} {L : Sto} {H : Hp} {v : V} {d : D} {xs : List D} {s : List (Nat × D)} (h : Den G w v d) (e : seqOf L d = some (xs, s)) :
    ∃ k a, v = .ref a ∧ ∀ w' L' H', w.le0 w' → Rel G w' L' H' → srcOk L' s → ∃ vs, SqB k G.K H' a vs ∧ DenL G w' vs xs := by
  cases h with
  | @tup a vs ds hq r =>
    cases e
    exact ⟨false, a, rfl, fun w' L' H' l R _ => ⟨vs, R.sqT (SqT.le0 l hq), DenL.le0 l r⟩⟩
  | @tg a vs ds hq r =>
    cases e
    exact ⟨false, a, rfl, fun w' L' H' l R _ => ⟨vs, R.sqT (SqT.le0 l hq.t), DenL.le0 l r⟩⟩
  | @tk a k hq =>
    cases e
    exact ⟨false, a, rfl, fun w' L' H' l R _ => ⟨_, .inl (.inl (R.sub _ _ (l.dir _ _ hq))), keyT_den k⟩⟩
  | @lst a vs ds hq r =>
    cases e
    exact ⟨true, a, rfl, fun w' L' H' l R _ => ⟨vs, .inl (.inl (R.sub _ _ (l.dir _ _ hq))), DenL.le0 l r⟩⟩
  | @ro a vs ds hq r =>
    cases e
    exact ⟨true, a, rfl, fun w' L' H' l R _ => ⟨vs, R.sqL (SqL.le0 l hq), DenL.le0 l r⟩⟩
  | @loc n a hn =>
    dsimp only [seqOf] at e
    split at e
    · rename_i ys hy
      cases e
      refine ⟨true, a, rfl, fun w' L' H' l R so => ?_⟩
      obtain ⟨o, h1, h2⟩ := R.box n a _ (l.pre _ _ hn) (so (n, .lst xs) (by simp))
      cases h2 with
      | lst r => exact ⟨_, .inl (.inl h1), r⟩
    · cases e
  | _ => cases e
theorem seq_src {L : Sto} {d : D} {xs : List D} {s : List (Nat × D)} (e : seqOf L d = some (xs, s)) : srcOk L s := by
  cases d with
  | tup ds => cases e; intro p hp; cases hp
  | tg ds => cases e; intro p hp; cases hp
  | tk ds => cases e; intro p hp; cases hp
  | lst ds => cases e; intro p hp; cases hp
  | ro ds => cases e; intro p hp; cases hp
  | loc n =>
    dsimp only [seqOf] at e
    split at e
    · rename_i ys hy
      cases e
      intro p hp
      have := List.mem_singleton.mp hp
      subst this
      exact hy
    · cases e
  | _ => cases e
section
variable {S : Sc} {W : WX} {a b e c tg : Expr} {f fa fb : EF} {fl : AF} {pos p : Pos}
theorem DenK.keysD {G : Gb} {w : Wd} : ∀ {vs : List (Key × V)} {ds : List (Key × D)}, DenK G w vs ds → DenL G w (vs.map fun kv => kV kv.1) (ds.map fun kv => dOfKey kv.1)
  | _, _, .nil => .nil
  | _, _, @DenK.cons _ _ k _ _ _ _ a t => .cons (by cases k <;> constructor) (DenK.keysD t)
def keyT (k : List Key) : D := .tk k
def iSeq (f : EF) : IF := fun ρ L => (f ρ L).bind fun d L1 => match seqOf L1 d with
  | some (xs, s) => .ok ⟨xs, s⟩ L1
  | none => (match d with
    | .dF kvs => .ok ⟨kvs.map fun kv => dOfKey kv.1, []⟩ L1
    | .dG kvs => .ok ⟨kvs.map fun kv => keyT kv.1, []⟩ L1
    | _ => .bad)
theorem itOk_keys {G : Gb} {w : Wd} {a : Addr} {o : Obj} {vs : List (Key × V)} {kds : List (Key × D)} (h : w.F a = some (.frz o (.dK vs))) (r : DenK G w vs kds) : ItOk G w [] (Itk a o vs) (kds.map fun kv => dOfKey kv.1) := by
  intro w1 L1 H1 l R _ i
  have hq : H1 a = some (.frz o (.dK vs)) := R.sub _ _ (l.dir _ _ h)
  have hk := (DenK.le0 l r).keysD
  refine ⟨fun d hd => ?_, fun hi => ?_⟩
  · obtain ⟨v, hv, dv⟩ := hk.get hd
    rw [List.getElem?_map] at hv
    obtain ⟨kv, e1, e2⟩ := Option.map_eq_some_iff.mp hv
    refine ⟨⟨hq, (List.getElem?_eq_some_iff.mp e1).1⟩, fun x H' y => ?_⟩
    obtain ⟨rfl, k, z, e3, rfl⟩ := y
    rw [e1] at e3
    cases e3
    subst e2
    exact ⟨w1, .refl _, R, dv⟩
  · have hl := hk.length
    rw [List.length_map] at hl
    exact ⟨hq, by omega⟩
theorem itOk_keysT {G : Gb} {w : Wd} {a : Addr} {o : Obj} {vs : List (List Key × V)} {kds : List (List Key × D)} (h : w.F a = some (.frz o (.dT vs))) (r : DenT G w vs kds) : ItOk G w [] (Itkt a o vs) (kds.map fun kv => keyT kv.1) := by
  intro w1 L1 H1 l R _ i
  have hq : H1 a = some (.frz o (.dT vs)) := R.sub _ _ (l.dir _ _ h)
  have hk : vs.map (fun kv => kv.1) = kds.map fun kv => kv.1 := by
    clear h hq
    induction vs generalizing kds with
    | nil => cases r; rfl
    | cons x t ih => cases r with
      | cons h t => exact congrArg _ (ih t)
  refine ⟨fun d hd => ?_, fun hi => ?_⟩
  · rw [List.getElem?_map] at hd
    obtain ⟨kv, e1, e2⟩ := Option.map_eq_some_iff.mp hd
    have e3 : (vs.map fun kv => kv.1)[i]? = some kv.1 := by rw [hk, List.getElem?_map, e1]; rfl
    rw [List.getElem?_map] at e3
    obtain ⟨kv', e4, e5⟩ := Option.map_eq_some_iff.mp e3
    refine ⟨⟨hq, (List.getElem?_eq_some_iff.mp e4).1⟩, fun x H' y => ?_⟩
    obtain ⟨rfl, k, z, q, e6, rfl, hqt⟩ := y
    rw [e4] at e6
    cases e6
    subst e2
    obtain ⟨w2, l2, R2, f2⟩ := R.addT hqt
    dsimp only at e5
    rw [← e5]
    exact ⟨w2, l2, R2, .tk f2⟩
  · have hl : vs.length = kds.length := by
      have := congrArg List.length hk
      rwa [List.length_map, List.length_map] at this
    rw [List.length_map] at hi
    exact ⟨hq, by omega⟩
theorem pi_or {X : Cx} {tg e : Expr} {t u : TI} (h : PI X tg e t) (k : PI X tg e u) : PI X tg e (fun σ H R => t σ H R ∨ u σ H R) := ⟨fun pins s σ H R I q => q.elim (h.run pins s σ H R I) (k.run pins s σ H R I)⟩
theorem PostI.bind {G : Gb} {α β : Type} {rel : Wd → β → α → Prop} {w : Wd} {r : Res α} {k : α → Sto → Res Its} {R : It → Hp → Prop} {E : XK} (p : PostI G w (r.bind k) R E) :
    Post G rel w r (fun v H => ∃ w' a L, w.le w' ∧ Rel G w' L H ∧ rel w' v a ∧ PostI G w' (k a L) R E) E := by
  cases r with
  | ok a L =>
    refine fun w2 H v l R0 d => ⟨w2, a, L, l, R0, d, ?_⟩
    have p' : PostI G w (k a L) R E := p
    cases hk : k a L with
    | ok its L2 => rw [hk] at p'; exact fun w3 H3 J l3 R3 so io => p' w3 H3 J (l.trans l3) R3 so io
    | err c x L2 => rw [hk] at p'; exact fun w3 H3 dx l3 R3 x3 C m => p' w3 H3 dx (l.trans l3) R3 x3 C m
    | bad => rw [hk] at p'; exact p'
  | err c q L => exact p
  | bad => exact p
def ItS (k : Bool) (K : PySem.W.Frag) (a : Addr) : It := match k with
  | true => Itl K a
  | false => Itt K a
theorem itOk_seq {G : Gb} {w : Wd} {k : Bool} {a : Addr} {xs : List D} {s : List (Nat × D)} (h : ∀ w' L' H', w.le0 w' → Rel G w' L' H' → srcOk L' s → ∃ vs, SqB k G.K H' a vs ∧ DenL G w' vs xs) :
    ItOk G w s (ItS k G.K a) xs := by
  intro w1 L1 H1 l R so i
  obtain ⟨vs, hq, r⟩ := h w1 L1 H1 l R so
  refine ⟨fun d hd => ?_, fun hi => ?_⟩
  · obtain ⟨v, hv, dv⟩ := r.get hd
    cases k with
    | true => exact ⟨⟨vs, v, hq, hv⟩, fun x H' ⟨e, y⟩ => by subst e; have := y vs hq; rw [hv] at this; cases this; exact ⟨w1, .refl _, R, dv⟩⟩
    | false => exact ⟨⟨vs, v, hq, hv⟩, fun x H' ⟨e, y⟩ => by subst e; have := y vs hq; rw [hv] at this; cases this; exact ⟨w1, .refl _, R, dv⟩⟩
  · have hl := r.length
    cases k with
    | true => exact ⟨vs, hq, by omega⟩
    | false => exact ⟨vs, hq, by omega⟩
theorem si_seq (he : SE S W e f) : SI S W tg e (iSeq f) := fun X h => by
  have hp : PI X tg e (fun σ H R => (iList X.K (tR S.g (Den S.g) W f) σ H R ∨ iTup X.K (tR S.g (Den S.g) W f) σ H R) ∨ iKeys (tR S.g (Den S.g) W f) σ H R) := pi_or (pi_or (pi_list (he X h)) (pi_tup (he X h))) (pi_keys (he X h))
  refine PI.imp hp fun σ H R ⟨w, ρ, L, R0, e, p⟩ => ?_
  rw [← h.K]
  unfold iSeq at p
  cases q : f ρ L with
  | bad => rw [q] at p; exact p.elim
  | err c x L1 => rw [q] at p; exact .inl (.inl ⟨w, ρ, L, R0, e, by rw [q]; exact p⟩)
  | ok d L1 =>
    rw [q] at p
    dsimp only [Res.bind] at p
    split at p
    · rename_i xs s hs
      refine .inl ?_
      have mk : ∀ (kk : Bool), (∀ (w1 : Wd) (H1 : Hp) (v : V), w.le w1 → Rel S.g w1 L1 H1 → Den S.g w1 v d → ∃ a, v = .ref a ∧ (∃ vs, SqB kk S.g.K H1 a vs) ∧ R (ItS kk S.g.K a) H1) →
          iList S.g.K (tR S.g (Den S.g) W f) σ H R ∨ iTup S.g.K (tR S.g (Den S.g) W f) σ H R := by
        intro kk hk
        cases kk with
        | true => exact .inl ⟨w, ρ, L, R0, e, by rw [q]; exact fun w1 H1 v l R1 dv => hk w1 H1 v l R1 dv⟩
        | false => exact .inr ⟨w, ρ, L, R0, e, by rw [q]; exact fun w1 H1 v l R1 dv => hk w1 H1 v l R1 dv⟩
      have kd : ∀ d : D, seqOf L1 d = some (xs, s) → ∃ kk : Bool, ∀ (w1 : Wd) (v : V), Den S.g w1 v d → ∃ a, v = .ref a ∧ ∀ w' L' H', w1.le0 w' → Rel S.g w' L' H' → srcOk L' s → ∃ vs, SqB kk S.g.K H' a vs ∧ DenL S.g w' vs xs := by
        intro d hs
        cases d with
        | tup ds => exact ⟨false, fun w1 v dv => by cases dv with | tup hq r => cases hs; exact ⟨_, rfl, fun w' L' H' l R _ => ⟨_, R.sqT (SqT.le0 l hq), DenL.le0 l r⟩⟩⟩
        | tg ds => exact ⟨false, fun w1 v dv => by cases dv with | tg hq r => cases hs; exact ⟨_, rfl, fun w' L' H' l R _ => ⟨_, R.sqT (SqT.le0 l hq.t), DenL.le0 l r⟩⟩⟩
        | tk ds => exact ⟨false, fun w1 v dv => by cases dv with | tk hq => cases hs; exact ⟨_, rfl, fun w' L' H' l R _ => ⟨_, .inl (.inl (R.sub _ _ (l.dir _ _ hq))), keyT_den _⟩⟩⟩
        | lst ds => exact ⟨true, fun w1 v dv => by cases dv with | lst hq r => cases hs; exact ⟨_, rfl, fun w' L' H' l R _ => ⟨_, .inl (.inl (R.sub _ _ (l.dir _ _ hq))), DenL.le0 l r⟩⟩⟩
        | ro ds => exact ⟨true, fun w1 v dv => by cases dv with | ro hq r => cases hs; exact ⟨_, rfl, fun w' L' H' l R _ => ⟨_, R.sqL (SqL.le0 l hq), DenL.le0 l r⟩⟩⟩
        | loc n =>
          refine ⟨true, fun w1 v dv => ?_⟩
          obtain ⟨k, a, ea, hk⟩ := seq_at (H := H) dv hs
          cases dv with
          | loc hn =>
            cases ea
            refine ⟨_, rfl, fun w' L' H' l R so => ?_⟩
            dsimp only [seqOf] at hs
            split at hs
            · rename_i ys hy
              cases hs
              obtain ⟨o, h1, h2⟩ := R.box n _ _ (l.pre _ _ hn) (so (n, .lst xs) (by simp))
              cases h2 with
              | lst r => exact ⟨_, .inl (.inl h1), r⟩
            · cases hs
        | _ => cases hs
      obtain ⟨kk, hkk⟩ := kd d hs
      refine mk kk fun w1 H1 v l R1 dv => ?_
      obtain ⟨a, ea, ha⟩ := hkk w1 v dv
      have so := seq_src hs
      obtain ⟨vs, hq, _⟩ := ha w1 L1 H1 (.refl _) R1 so
      exact ⟨a, ea, ⟨vs, hq⟩, p w1 H1 _ l R1 so (itOk_seq ha)⟩
    · split at p
      · refine .inr ⟨w, ρ, L, R0, e, ?_⟩
        rw [q]
        intro w1 H1 v l R1 dv
        cases dv with
        | dF hq r => exact ⟨_, _, rfl, .inl ⟨_, R1.sub _ _ hq, p w1 H1 _ l R1 (fun z hz => by cases hz) (itOk_keys hq r)⟩⟩
      · refine .inr ⟨w, ρ, L, R0, e, ?_⟩
        rw [q]
        intro w1 H1 v l R1 dv
        cases dv with
        | dG hq r => exact ⟨_, _, rfl, .inr ⟨_, R1.sub _ _ hq, p w1 H1 _ l R1 (fun z hz => by cases hz) (itOk_keysT hq r)⟩⟩
      · exact p.elim
def rangeD (lo : Int) (n : Nat) : List D := (List.range n).map fun (i : Nat) => D.int (lo + (i : Int))
def small62 (i : Int) : Bool := decide (-4611686018427387904 ≤ i ∧ i < 4611686018427387904)
def iRange1 (f : AF) : IF := fun ρ L => (f ρ L).bind fun ds L1 => match ds with
  | [.int j] => if small62 j = true then .ok ⟨rangeD 0 j.toNat, []⟩ L1 else .bad
  | _ => .bad
def iRange2 (f : AF) : IF := fun ρ L => (f ρ L).bind fun ds L1 => match ds with
  | [.int i, .int j] => if small62 i = true ∧ small62 j = true then .ok ⟨rangeD i (j - i).toNat, []⟩ L1 else .bad
  | _ => .bad
theorem itOk_range {G : Gb} {w : Wd} {lo : Int} {n : Nat} : ItOk G w [] (Itr lo n) (rangeD lo n) := by
  intro w1 L1 H1 l R so i
  unfold rangeD
  refine ⟨fun d hd => ?_, fun hi => ?_⟩
  · rw [List.getElem?_map] at hd
    obtain ⟨k, hk, rfl⟩ := Option.map_eq_some_iff.mp hd
    have hk2 := getElem?_lt hk
    rw [List.length_range] at hk2
    rw [List.getElem?_range hk2] at hk
    cases hk
    exact ⟨hk2, fun x H' ⟨e, y⟩ => by subst e; rw [y]; exact ⟨w1, .refl _, R, .int _⟩⟩
  · have : (List.range n).length ≤ i := by rw [hi]; simp
    rw [List.length_range] at this
    exact this
theorem small62_ok {i : Int} (h : small62 i = true) : -(2 ^ 62) ≤ i ∧ i < 2 ^ 62 := by
  have := of_decide_eq_true h
  exact ⟨by omega, by omega⟩
theorem si_range1 (ha : SA S W [a] fl) (hg : Glb S "range" := by rfl) (hm : S.g.mg "range" = none := by assumption) (hs : ∀ env, starEach [a] env = [(false, eval a env)] := by intro _; rfl) :
    SI S W tg (.Call (.Name "range" p) [a] [] pos) (iRange1 fl) := fun X h =>
  PI.imp (pi_range1 (by show X.env.scope.names.lookup _ = _; rw [← h.sc]; exact hg) (by rw [← h.mg]; exact hm) (ha X h) (hs _)) fun σ H R ⟨w, ρ, L, R0, e, q⟩ =>
    ⟨w, ρ, L, R0, e, (PostI.bind (rel := DenL S.g) q).imp (fun vs H1 ⟨w1, ds, L1, l1, R1, d1, p1⟩ => by
      split at p1
      · rename_i j
        split at p1
        · rename_i hj
          cases d1 with
          | cons x t =>
            cases t
            cases x
            obtain ⟨k1, k2⟩ := small62_ok hj
            exact ⟨j, rfl, k1, k2, p1 w1 H1 _ (.refl _) R1 (fun _ z => nomatch z) itOk_range⟩
        · exact p1.elim
      · exact p1.elim) fun _ _ _ z => z⟩
def enumD : Nat → List D → List D
  | _, [] => []
  | i, d :: ds => .tup [.int (i : Int), d] :: enumD (i + 1) ds
theorem enumD_get : ∀ {ds : List D} {i j : Nat}, (enumD j ds)[i]? = (ds[i]?).map fun d => D.tup [.int ((j + i : Nat) : Int), d]
  | [], i, j => by simp [enumD]
  | d :: ds, 0, j => by simp [enumD]
  | d :: ds, i + 1, j => by
    show (enumD (j + 1) ds)[i]? = _
    rw [enumD_get, show j + 1 + i = j + (i + 1) by omega]
    simp
theorem enumD_length : ∀ {ds : List D} {j : Nat}, (enumD j ds).length = ds.length
  | [], _ => rfl
  | _ :: ds, j => by simp [enumD, enumD_length]
theorem newPair {G : Gb} {w1 : Wd} {L1 : Sto} {H H' : Hp} (R : Rel G w1 L1 H) {T : Addr} {x y : V} {d e : D} (hT : H T = none) (hH : H' = upd H T (.tup [x, y])) (dx : Den G w1 x d) (dy : Den G w1 y e) :
    ∃ w', w1.le w' ∧ Rel G w' L1 H' ∧ Den G w' (.ref T) (.tup [d, e]) := by
  obtain ⟨R2, l2⟩ := R.newF (o := .tup [x, y]) hT
  exact ⟨_, l2, by rw [hH]; exact R2, .tup (.inl (.inl upd_same)) (.cons (dx.le l2) (.cons (dy.le l2) .nil))⟩
def iEnumF (f : AF) : IF := fun ρ L => (f ρ L).bind fun ds L1 => match ds with
  | [d] => (match seqOf L1 d with
    | some (xs, s) => .ok ⟨enumD 0 xs, s⟩ L1
    | none => .bad)
  | _ => .bad
theorem si_enum {elts : List Expr} {kk : Nat} {tpos : Pos} (ha : SA S W [a] fl) (hg : Glb S "enumerate" := by rfl) (hm : S.g.mg "enumerate" = none := by assumption) (hs : ∀ env, starEach [a] env = [(false, eval a env)] := by intro _; rfl) :
    SI S W (.Tuple elts kk tpos) (.Call (.Name "enumerate" p) [a] [] pos) (iEnumF fl) := fun X h =>
  PI.imp (pi_en (by show X.env.scope.names.lookup _ = _; rw [← h.sc]; exact hg) (by rw [← h.mg]; exact hm) (ha X h) (hs _)) fun σ H R ⟨w, ρ, L, R0, e, q⟩ =>
    ⟨w, ρ, L, R0, e, (PostI.bind (rel := DenL S.g) q).imp (fun vs H1 ⟨w1, ds, L1, l1, R1, d1, p1⟩ => by
      split at p1
      · rename_i d
        split at p1
        · rename_i xs s hs
          cases d1 with
          | cons x t =>
            cases t
            obtain ⟨k, a, ea, hk⟩ := seq_at (H := H1) x hs
            subst ea
            have so := seq_src hs
            obtain ⟨vs, hq, _⟩ := hk w1 L1 H1 (.refl _) R1 so
            rw [← h.K]
            refine ⟨k, a, vs, rfl, hq, p1 w1 H1 _ (.refl _) R1 so fun w2 L2 H2 l2 R2 so2 i => ?_⟩
            obtain ⟨us, hq2, r2⟩ := hk w2 L2 H2 l2 R2 so2
            refine ⟨fun d hd => ?_, fun hi => ⟨us, hq2, ?_⟩⟩
            · rw [enumD_get, Nat.zero_add] at hd
              obtain ⟨d', hd', rfl⟩ := Option.map_eq_some_iff.mp hd
              obtain ⟨v, hv, dv⟩ := r2.get hd'
              refine ⟨⟨us, v, hq2, hv⟩, fun x H' ⟨T, y, ex, hT, hH, hy⟩ => ?_⟩
              have := hy us hq2
              rw [hv] at this; cases this
              subst ex
              exact newPair R2 hT hH (.int _) dv
            · rw [enumD_length] at hi; rw [r2.length]; exact hi
        · exact p1.elim
      · exact p1.elim) fun _ _ _ z => z⟩
def zipD (xs ys : List D) : List D := List.zipWith (fun x y => D.tup [x, y]) xs ys
def iZipF (f : AF) : IF := fun ρ L => (f ρ L).bind fun ds L1 => match ds with
  | [d, e] => (match seqOf L1 d, seqOf L1 e with
    | some (xs, s), some (ys, t) => .ok ⟨zipD xs ys, s ++ t⟩ L1
    | _, _ => .bad)
  | _ => .bad
theorem si_zip {elts : List Expr} {kk : Nat} {tpos : Pos} (ha : SA S W [a, b] fl) (hg : Glb S "zip" := by rfl) (hm : S.g.mg "zip" = none := by assumption)
    (hs : ∀ env, starEach [a, b] env = (false, eval a env) :: starEach [b] env := by intro _; rfl) (hpl : ∀ env, (backTo pos (starEach [b] env)).any (·.1) = false := by intro _; rfl) :
    SI S W (.Tuple elts kk tpos) (.Call (.Name "zip" p) [a, b] [] pos) (iZipF fl) := fun X h =>
  PI.imp (pi_zp (by show X.env.scope.names.lookup _ = _; rw [← h.sc]; exact hg) (by rw [← h.mg]; exact hm) (ha X h) (hs _) (hpl _)) fun σ H R ⟨w, ρ, L, R0, e, q⟩ =>
    ⟨w, ρ, L, R0, e, (PostI.bind (rel := DenL S.g) q).imp (fun vs H1 ⟨w1, ds, L1, l1, R1, d1, p1⟩ => by
      split at p1
      · rename_i d e
        split at p1
        · rename_i xs s ys t hs1 hs2
          cases d1 with
          | cons x tt =>
            cases tt with
            | cons y tt =>
              cases tt
              obtain ⟨k, a, ea, hk⟩ := seq_at (H := H1) x hs1
              obtain ⟨j, b, eb, hj⟩ := seq_at (H := H1) y hs2
              subst ea eb
              have so1 := seq_src hs1
              have so2 := seq_src hs2
              have so : srcOk L1 (s ++ t) := fun p hp => (List.mem_append.mp hp).elim (so1 p) (so2 p)
              obtain ⟨vs, hq, _⟩ := hk w1 L1 H1 (.refl _) R1 so1
              obtain ⟨us, hq', _⟩ := hj w1 L1 H1 (.refl _) R1 so2
              rw [← h.K]
              refine ⟨k, j, a, b, vs, us, rfl, hq, hq', p1 w1 H1 _ (.refl _) R1 so fun w2 L2 H2 l2 R2 so3 i => ?_⟩
              obtain ⟨vs2, hq2, r2⟩ := hk w2 L2 H2 l2 R2 fun p hp => so3 p (List.mem_append_left _ hp)
              obtain ⟨us2, hq3, r3⟩ := hj w2 L2 H2 l2 R2 fun p hp => so3 p (List.mem_append_right _ hp)
              refine ⟨fun d hd => ?_, fun hi => ⟨vs2, us2, hq2, hq3, ?_⟩⟩
              · unfold zipD at hd
                rw [List.getElem?_zipWith] at hd
                cases q1 : xs[i]? with
                | none => rw [q1] at hd; cases hd
                | some x1 =>
                  cases q2 : ys[i]? with
                  | none => rw [q1, q2] at hd; cases hd
                  | some y1 =>
                    rw [q1, q2] at hd
                    cases hd
                    obtain ⟨v, hv, dv⟩ := r2.get q1
                    obtain ⟨u, hu, du⟩ := r3.get q2
                    refine ⟨⟨vs2, us2, v, u, hq2, hq3, hv, hu⟩, fun x H' ⟨T, y, z, ex, hT, hH, hy, hz⟩ => ?_⟩
                    have e1 := hy vs2 hq2
                    have e2 := hz us2 hq3
                    rw [hv] at e1; cases e1
                    rw [hu] at e2; cases e2
                    subst ex
                    exact newPair R2 hT hH dv du
              · rw [r2.length, r3.length]
                unfold zipD at hi
                rw [List.length_zipWith] at hi; exact hi
        · exact p1.elim
      · exact p1.elim) fun _ _ _ z => z⟩
end
def lstOf (L : Sto) (d : D) : Option (List D) := match d with
  | .lst xs => some xs
  | .loc n => (match L[n]? with
    | some (.lst xs) => some xs
    | _ => none)
  | _ => none
theorem lst_at {G : Gb} {w : Wd} {L : Sto} {H : Hp} {v : V} {d : D} {xs : List D} (R : Rel G w L H) (h : Den G w v d) (e : lstOf L d = some xs) : ∃ a vs, v = .ref a ∧ H a = some (.lst vs) ∧ DenL G w vs xs := by
  cases h with
  | @lst a vs ds hq r => cases e; exact ⟨a, vs, rfl, R.sub _ _ hq, r⟩
  | @loc n a hn =>
    dsimp only [lstOf] at e
    split at e
    · rename_i ys hy
      cases e
      obtain ⟨o, h1, h2⟩ := R.box n a _ hn hy
      cases h2 with
      | lst r => exact ⟨a, _, rfl, h1, r⟩
    · cases e
  | _ => cases e
theorem DenL.append {G : Gb} {w : Wd} : ∀ {vs us : List V} {ds es : List D}, DenL G w vs ds → DenL G w us es → DenL G w (vs ++ us) (ds ++ es)
  | _, _, _, _, .nil, k => k
  | _, _, _, _, .cons a t, k => .cons a (DenL.append t k)
theorem DenL.take {G : Gb} {w : Wd} : ∀ {vs : List V} {ds : List D} (n : Nat), DenL G w vs ds → DenL G w (vs.take n) (ds.take n)
  | _, _, 0, _ => .nil
  | _, _, _ + 1, .nil => .nil
  | _, _, n + 1, .cons a t => .cons a (DenL.take n t)
theorem DenL.drop {G : Gb} {w : Wd} : ∀ {vs : List V} {ds : List D} (n : Nat), DenL G w vs ds → DenL G w (vs.drop n) (ds.drop n)
  | _, _, 0, h => h
  | _, _, _ + 1, .nil => .nil
  | _, _, n + 1, .cons a t => DenL.drop n t
theorem DenL.reverse {G : Gb} {w : Wd} {vs : List V} {ds : List D} (h : DenL G w vs ds) : DenL G w vs.reverse ds.reverse := by
  induction vs generalizing ds with
  | nil => cases h; exact .nil
  | cons v vs ih => cases h with | cons a t => rw [List.reverse_cons, List.reverse_cons]; exact (ih t).snoc a
theorem DenL.set {G : Gb} {w : Wd} {v : V} {d : D} (h : Den G w v d) : ∀ {vs : List V} {ds : List D} (n : Nat), DenL G w vs ds → DenL G w (vs.set n v) (ds.set n d)
  | _, _, _, .nil => .nil
  | _, _, 0, .cons a t => .cons h t
  | _, _, n + 1, .cons a t => .cons a (DenL.set h n t)
theorem DenL.eraseIdx {G : Gb} {w : Wd} : ∀ {vs : List V} {ds : List D} (n : Nat), DenL G w vs ds → DenL G w (vs.eraseIdx n) (ds.eraseIdx n)
  | _, _, _, .nil => .nil
  | _, _, 0, .cons a t => t
  | _, _, n + 1, .cons a t => .cons a (DenL.eraseIdx n t)
def dInts : List D → Option (List Int)
  | [] => some []
  | .int i :: r => (dInts r).map (i :: ·)
  | _ :: _ => none
theorem DenL.ints {G : Gb} {w : Wd} : ∀ {vs : List V} {ds : List D} {ns : List Int}, DenL G w vs ds → dInts ds = some ns → vs = ns.map V.int
  | _, _, _, .nil, e => by cases e; rfl
  | _, _, _, .cons a t, e => by
    cases a with
    | int i =>
      obtain ⟨ns, h, rfl⟩ := Option.map_eq_some_iff.mp e
      rw [DenL.ints t h] <;> rfl
    | _ => cases e
theorem DenL.of_ints {G : Gb} {w : Wd} : ∀ (ns : List Int), DenL G w (ns.map V.int) (ns.map D.int)
  | [] => .nil
  | n :: ns => .cons (.int n) (DenL.of_ints ns)
def dBls : List D → Option (List Bool)
  | [] => some []
  | .bl i :: r => (dBls r).map (i :: ·)
  | _ :: _ => none
theorem DenL.bls {G : Gb} {w : Wd} : ∀ {vs : List V} {ds : List D} {ns : List Bool}, DenL G w vs ds → dBls ds = some ns → vs = ns.map V.bl
  | _, _, _, .nil, e => by cases e; rfl
  | _, _, _, .cons a t, e => by
    cases a with
    | bl i =>
      obtain ⟨ns, h, rfl⟩ := Option.map_eq_some_iff.mp e
      rw [DenL.bls t h] <;> rfl
    | _ => cases e
def newL (xs : List D) (L : Sto) : Res D := if xs.length ≤ 16777216 then .ok (.lst xs) L else .bad
def newT (xs : List D) (L : Sto) : Res D := if xs.length ≤ 16777216 then .ok (.tup xs) L else .bad
section
variable {G : Gb} {w : Wd} {L : Sto} {H : Hp} {vs : List V} {xs : List D} {Q : VK} {E : XK}
theorem lineLe {n : Nat} (h : n ≤ 16777216) : n ≤ sizeLine := by rw [sizeLine_eq]; exact h
theorem lineLt {n : Nat} (h : n < 16777216) : n < sizeLine := by rw [sizeLine_eq]; exact h
theorem newL_post (p : Post G (Den G) w (newL xs L) Q E) : vs.length = xs.length → vs.length ≤ sizeLine := by
  unfold newL at p
  split at p
  · rename_i h; intro e; rw [e]; exact lineLe h
  · exact p.elim
theorem newL_go (p : Post G (Den G) w (newL xs L) Q E) (R : Rel G w L H) (d : DenL G w vs xs) (q : Addr) (hq : H q = none) : Q (.ref q) (upd H q (.lst vs)) := by
  unfold newL at p
  split at p
  · obtain ⟨R2, l2⟩ := R.newF (o := .lst vs) hq
    exact p _ _ _ l2 R2 (.lst upd_same (d.le l2))
  · exact p.elim
theorem newT_post (p : Post G (Den G) w (newT xs L) Q E) : vs.length = xs.length → vs.length ≤ sizeLine := by
  unfold newT at p
  split at p
  · rename_i h; intro e; rw [e]; exact lineLe h
  · exact p.elim
theorem newT_go (p : Post G (Den G) w (newT xs L) Q E) (R : Rel G w L H) (d : DenL G w vs xs) (q : Addr) (hq : H q = none) : Q (.ref q) (upd H q (.tup vs)) := by
  unfold newT at p
  split at p
  · obtain ⟨R2, l2⟩ := R.newF (o := .tup vs) hq
    exact p _ _ _ l2 R2 (.tup (.inl (.inl upd_same)) (d.le l2))
  · exact p.elim
end
def gAdd0 (d e : D) (L : Sto) : Res D := match d, e with
  | .int i, .int j => .ok (.int (i + j)) L
  | .str a, .str b => if a.length + b.length ≤ 16777216 then .ok (.str (a ++ b)) L else .bad
  | .tup xs, .tup ys => newT (xs ++ ys) L
  | d, e => (match lstOf L d, lstOf L e with
    | some xs, some ys => newL (xs ++ ys) L
    | _, _ => .bad)
def gAdd (d e : D) (L : Sto) : Res D := gAdd0 (lo d) (lo e) L
def gSub (d e : D) (L : Sto) : Res D := match d, e with
  | .int i, .int j => .ok (.int (i - j)) L
  | _, _ => .bad
def gMul0 (d e : D) (L : Sto) : Res D := match d, e with
  | .int i, .int j => if (-(2 ^ 64) < i ∧ i < 2 ^ 64) ∨ (-(2 ^ 64) < j ∧ j < 2 ^ 64) then .ok (.int (i * j)) L else .bad
  | .tup xs, .int k => if xs ≠ [] ∧ 2 ≤ k ∧ k ≤ 1000 ∧ xs.length ≤ 1000 then .ok (.tup (List.replicate k.toNat xs).flatten) L else .bad
  | d, .int k => (match lstOf L d with
    | some xs => if -(2 ^ 63) ≤ k ∧ k < 2 ^ 63 ∧ xs.length * k.toNat ≤ 16777216 then .ok (.lst (List.replicate k.toNat xs).flatten) L else .bad
    | _ => .bad)
  | _, _ => .bad
def gMul (d e : D) (L : Sto) : Res D := gMul0 (lo d) e L
def gDiv (d e : D) (L : Sto) : Res D := match d, e with
  | .int i, .int j => if 0 < j ∧ j.natAbs < 2 ^ 64 then .ok (.int (i / j)) L else .bad
  | _, _ => .bad
def gMod (d e : D) (L : Sto) : Res D := match d, e with
  | .int i, .int j => if 0 < j then .ok (.int (i % j)) L else .bad
  | _, _ => .bad
def gPow (d e : D) (L : Sto) : Res D := match d, e with
  | .int i, .int j => if 0 ≤ j ∧ j ≤ 1000 ∧ i.natAbs < 2 ^ 1000 then .ok (.int (i ^ j.toNat)) L else .bad
  | _, _ => .bad
def gNeg (d : D) (L : Sto) : Res D := match d with
  | .int i => .ok (.int (-i)) L
  | _ => .bad
def rPowW : R2 := rI (fun i j => 0 ≤ j ∧ j ≤ 1000 ∧ i.natAbs < 2 ^ 1000) fun i j => .int (i ^ j.toNat)
theorem op_powW {X : Cx} : OpR X (binaryOp .Pow) rPowW := opI fun i j t u s Q E hc q => by
  obtain ⟨h0, h1, h2⟩ := hc
  refine PyProof.Rows.pow_int h0 ?_ q
  have hb : (Builtin.Int.intBits i : Int) ≤ 1001 := by
    have : Builtin.Int.intBits i ≤ i.natAbs.log2 + 1 := by
      unfold Builtin.Int.intBits
      split <;> omega
    have h3 := PySem.Flt.log2_lt_of (n := i.natAbs) (k := 1000) (by decide) h2
    omega
  have : (Builtin.Int.intBits i : Int) * j ≤ 1001 * 1000 := Int.mul_le_mul hb h1 h0 (by decide)
  have e : (2 : Int) ^ 27 = 134217728 := by decide
  omega
section
variable {S : Sc} {W : WX} {a b e c : Expr} {fa fb f : EF} {fl : AF} {pos : Pos}
def rAddU (K : PySem.W.Frag) : R2 := fun x y H Q => (rI0 fun i j => V.int (i + j)) x y H Q ∨ rCat x y H Q ∨ rCatA K x y H Q ∨ (∃ i j, x = .str i ∧ y = .str j ∧ i.length + j.length ≤ sizeLine ∧ Q (.str (i ++ j)) H)
theorem op_addU {X : Cx} : OpR X (binaryOp .Add) (rAddU X.K) := op_add.or (op_cat.or (op_catA.or op_add_str))
theorem gAdd0_ok {G : Gb} : R2D G (rAddU G.K) gAdd0 := by
  intro w L H x y d e Q E R dx dy p
  have lists : (∀ xs ys, lstOf L d = some xs → lstOf L e = some ys → Post G (Den G) w (newL (xs ++ ys) L) Q E → rAddU G.K x y H Q) := fun xs ys h1 h2 p => by
    obtain ⟨a, vs, rfl, ha, da⟩ := lst_at R dx h1
    obtain ⟨b, us, rfl, hb, db⟩ := lst_at R dy h2
    have hl : (vs ++ us).length = (xs ++ ys).length := (da.append db).length
    refine .inr (.inl ⟨a, b, vs, us, rfl, rfl, ha, hb, ?_, fun q hq => newL_go p R (da.append db) q hq⟩)
    have := newL_post p hl
    rw [List.length_append] at this; exact this
  unfold gAdd0 at p
  split at p
  · cases dx; cases dy
    exact .inl ⟨_, _, rfl, rfl, Post.ok p (.refl w) R (.int _)⟩
  · rename_i a b
    cases dx; cases dy
    split at p
    · rename_i h
      exact .inr (.inr (.inr ⟨_, _, rfl, rfl, lineLe h, Post.ok p (.refl w) R (.str _)⟩))
    · exact p.elim
  · rename_i xs ys
    cases dx with
    | @tup a vs ds h1 r1 =>
      cases dy with
      | @tup b us es h2 r2 =>
        have hl : (vs ++ us).length = (xs ++ ys).length := (r1.append r2).length
        have hz := newT_post p hl
        rw [List.length_append] at hz
        have pk : ∀ {zs : List D}, newT zs L = .ok (.tup zs) L ∨ newT zs L = .bad := fun {zs} => by unfold newT; split <;> simp
        have p2 : Post G (Den G) w (.ok (.tup (xs ++ ys)) L) Q E := by
          rcases pk (zs := xs ++ ys) with q | q
          · rw [q] at p; exact p
          · rw [q] at p; exact p.elim
        refine .inr (.inr (.inl ⟨a, b, vs, us, rfl, rfl, R.sqT h1, R.sqT h2, hz, fun e0 => ?_, fun _ e0 => ?_, fun _ _ q hq => newT_go p R (r1.append r2) q hq⟩))
        · subst e0; cases r1; exact Post.ok p2 (.refl w) R (.tup h2 r2)
        · subst e0; cases r2; rw [List.append_nil] at p2; exact Post.ok p2 (.refl w) R (.tup h1 r1)
  · split at p
    · rename_i xs ys h1 h2
      exact lists xs ys h1 h2 p
    · exact p.elim
theorem gAdd_ok {G : Gb} : R2D G (rAddU G.K) gAdd := fun w L H x y d e Q E R dx dy p => gAdd0_ok w L H x y _ _ Q E R dx.lo dy.lo p
theorem se_add (ha : SE S W a fa) (hb : SE S W b fb) : SE S W (.BinOp a .Add b pos) (e2 gAdd fa fb) := fun X h => se_op (r := rAddU S.g.K) (fun X h => by rw [h.K]; exact op_addU) gAdd_ok ha hb X h
theorem gSub_ok {G : Gb} : R2D G (rI0 fun i j => V.int (i - j)) gSub := by
  intro w L H x y d e Q E R dx dy p
  unfold gSub at p
  split at p
  · cases dx; cases dy; exact ⟨_, _, rfl, rfl, Post.ok p (.refl w) R (.int _)⟩
  · exact p.elim
theorem se_sub (ha : SE S W a fa) (hb : SE S W b fb) : SE S W (.BinOp a .Sub b pos) (e2 gSub fa fb) := se_op (fun _ _ => op_sub) gSub_ok ha hb
def rMulU (K : PySem.W.Frag) : R2 := fun x y H Q => (rI CMul fun i j => V.int (i * j)) x y H Q ∨ rRep x y H Q ∨ rRepT K x y H Q
theorem op_mulU {X : Cx} : OpR X (binaryOp .Mult) (rMulU X.K) := op_mul.or (op_rep.or op_repT)
theorem DenL.rep {G : Gb} {w : Wd} {vs : List V} {ds : List D} (h : DenL G w vs ds) : ∀ n : Nat, DenL G w (List.replicate n vs).flatten (List.replicate n ds).flatten
  | 0 => .nil
  | n + 1 => by rw [List.replicate_succ, List.replicate_succ, List.flatten_cons, List.flatten_cons]; exact h.append (DenL.rep h n)
theorem gMul0_ok {G : Gb} : R2D G (rMulU G.K) gMul0 := by
  intro w L H x y d e Q E R dx dy p
  unfold gMul0 at p
  split at p
  · cases dx; cases dy
    split at p
    · rename_i h; exact .inl ⟨_, _, rfl, rfl, h, Post.ok p (.refl w) R (.int _)⟩
    · exact p.elim
  · rename_i xs k
    cases dy
    split at p
    · rename_i h
      cases dx with
      | @tup a vs ds h1 r1 =>
        have hl := r1.length
        refine .inr (.inr ⟨a, k, vs, rfl, rfl, R.sqT h1, fun e0 => h.1 (by subst e0; cases r1; rfl), h.2.1, h.2.2.1, by omega, fun q hq => ?_⟩)
        obtain ⟨R2, l2⟩ := R.newF (o := .tup (List.replicate k.toNat vs).flatten) hq
        exact p _ _ _ l2 R2 (.tup (.inl (.inl upd_same)) ((r1.le l2).rep _))
    · exact p.elim
  · cases dy
    split at p
    · rename_i xs hx
      split at p
      · rename_i h
        obtain ⟨a, vs, rfl, h1, r1⟩ := lst_at R dx hx
        have hl := r1.length
        refine .inr (.inl ⟨a, _, vs, rfl, rfl, h1, h.1, h.2.1, by rw [hl]; exact lineLe h.2.2, fun q hq => ?_⟩)
        obtain ⟨R2, l2⟩ := R.newF (o := .lst (List.replicate _ vs).flatten) hq
        exact p _ _ _ l2 R2 (.lst upd_same ((r1.le l2).rep _))
      · exact p.elim
    · exact p.elim
  · exact p.elim
theorem gMul_ok {G : Gb} : R2D G (rMulU G.K) gMul := fun w L H x y d e Q E R dx dy p => gMul0_ok w L H x y _ _ Q E R dx.lo dy p
theorem se_mul (ha : SE S W a fa) (hb : SE S W b fb) : SE S W (.BinOp a .Mult b pos) (e2 gMul fa fb) := fun X h => se_op (r := rMulU S.g.K) (fun X h => by rw [h.K]; exact op_mulU) gMul_ok ha hb X h
theorem gDiv_ok {G : Gb} : R2D G (rI CDivW fun i j => V.int (i / j)) gDiv := by
  intro w L H x y d e Q E R dx dy p
  unfold gDiv at p
  split at p
  · cases dx; cases dy
    split at p
    · rename_i h; exact ⟨_, _, rfl, rfl, wide_div h.1 h.2 (by decide) (by decide), Post.ok p (.refl w) R (.int _)⟩
    · exact p.elim
  · exact p.elim
theorem se_div (ha : SE S W a fa) (hb : SE S W b fb) : SE S W (.BinOp a .FloorDiv b pos) (e2 gDiv fa fb) := se_op (fun _ _ => op_fdivW) gDiv_ok ha hb
theorem gMod_ok {G : Gb} : R2D G (rI (fun _ j => 0 < j) fun i j => V.int (i % j)) gMod := by
  intro w L H x y d e Q E R dx dy p
  unfold gMod at p
  split at p
  · cases dx; cases dy
    split at p
    · rename_i h; exact ⟨_, _, rfl, rfl, h, Post.ok p (.refl w) R (.int _)⟩
    · exact p.elim
  · exact p.elim
theorem se_mod (ha : SE S W a fa) (hb : SE S W b fb) : SE S W (.BinOp a .Mod b pos) (e2 gMod fa fb) := se_op (fun _ _ => op_mod) gMod_ok ha hb
theorem gPow_ok {G : Gb} : R2D G rPowW gPow := by
  intro w L H x y d e Q E R dx dy p
  unfold gPow at p
  split at p
  · cases dx; cases dy
    split at p
    · rename_i h; exact ⟨_, _, rfl, rfl, h, Post.ok p (.refl w) R (.int _)⟩
    · exact p.elim
  · exact p.elim
theorem se_pow (ha : SE S W a fa) (hb : SE S W b fb) : SE S W (.BinOp a .Pow b pos) (e2 gPow fa fb) := se_op (fun _ _ => op_powW) gPow_ok ha hb
theorem gNeg_ok {G : Gb} : R1D G (rU fun i => V.int (-i)) gNeg := by
  intro w L H x d Q E R dx p
  unfold gNeg at p
  split at p
  · cases dx; exact ⟨_, rfl, Post.ok p (.refl w) R (.int _)⟩
  · exact p.elim
theorem se_neg (ha : SE S W a fa) : SE S W (.UnaryOp .USub a pos) (e1 gNeg fa) := se_un (fun _ _ => un_neg) gNeg_ok ha
mutual
def toPy : D → Option PyData
  | .non => some .none
  | .bl b => some (.bool b)
  | .int i => some (.int i)
  | .str s => some (.str s)
  | .tup xs => (toPyL xs).map .tuple
  | .tg xs => (toPyL xs).map .tuple
  | .lst xs => (toPyL xs).map .list
  | .ro xs => (toPyL xs).map .list
  | _ => none
def toPyL : List D → Option (List PyData)
  | [] => some []
  | d :: ds => match toPy d, toPyL ds with
    | some p, some ps => some (p :: ps)
    | _, _ => none
end
mutual
theorem Den.py {G : Gb} {w : Wd} {L : Sto} {H : Hp} (R : Rel G w L H) : ∀ {v : V} {d : D} {p : PyData}, Den G w v d → toPy d = some p → Dp G.K H v p
  | _, _, _, .non, e => by cases e; exact .non
  | _, _, _, .bl b, e => by cases e; exact .bl b
  | _, _, _, .int i, e => by cases e; exact .int i
  | _, _, _, .str s, e => by cases e; exact .str s
  | _, _, _, .tup h r, e => by
    obtain ⟨ps, h1, rfl⟩ := Option.map_eq_some_iff.mp e
    exact .tup (R.sqT h) (DenL.py R r h1)
  | _, _, _, .tg h r, e => by
    obtain ⟨ps, h1, rfl⟩ := Option.map_eq_some_iff.mp e
    exact .tup (R.sqT h.t) (DenL.py R r h1)
  | _, _, _, .lst h r, e => by
    obtain ⟨ps, h1, rfl⟩ := Option.map_eq_some_iff.mp e
    exact .lst (.inl (.inl (R.sub _ _ h))) (DenL.py R r h1)
  | _, _, _, .ro h r, e => by
    obtain ⟨ps, h1, rfl⟩ := Option.map_eq_some_iff.mp e
    exact .lst (R.sqL h) (DenL.py R r h1)
  | _, _, _, .dK _ _, e => by cases e
  | _, _, _, .dT _ _, e => by cases e
  | _, _, _, .ins _ _ _, e => by cases e
  | _, _, _, .loc _, e => by cases e
  | _, _, _, .fn _ _, e => by cases e
  | _, _, _, .ty _, e => by cases e
  | _, _, _, .sl _ _ _ _, e => by cases e
  | _, _, _, .dF _ _, e => by cases e
  | _, _, _, .dG _ _, e => by cases e
  | _, _, _, .tk _, e => by cases e
theorem DenL.py {G : Gb} {w : Wd} {L : Sto} {H : Hp} (R : Rel G w L H) : ∀ {v : List V} {d : List D} {p : List PyData}, DenL G w v d → toPyL d = some p → DpAll G.K H v p
  | _, _, _, .nil, e => by cases e; exact .nil
  | _, d :: ds, _, .cons a t, e => by
    cases h1 : toPy d with
    | none => simp only [toPyL, h1] at e; cases e
    | some p =>
      cases h2 : toPyL ds with
      | none => simp only [toPyL, h1, h2] at e; cases e
      | some ps =>
        simp only [toPyL, h1, h2] at e
        cases e
        exact .cons (Den.py R a h1) (DenL.py R t h2)
end
def seen (L : Sto) (d : D) : D := match lstOf L d with
  | some xs => .lst xs
  | none => d
theorem Den.pySeen {G : Gb} {w : Wd} {L : Sto} {H : Hp} (R : Rel G w L H) {v : V} {d : D} {p : PyData} (h : Den G w v d) (e : toPy (seen L d) = some p) : Dp G.K H v p := by
  unfold seen at e
  split at e
  · rename_i xs hx
    obtain ⟨a, vs, rfl, h1, r⟩ := lst_at R h hx
    obtain ⟨ps, h2, rfl⟩ := Option.map_eq_some_iff.mp e
    exact .lst (.inl (.inl h1)) (DenL.py R r h2)
  · exact h.py R e
def gEqB (L : Sto) (d e : D) : Option Bool := match toPy (seen L d), toPy (seen L e) with
  | some p, some q => if SeqAt.shaped p = true ∧ SeqAt.shaped q = true then some (PyData.eqv p q) else none
  | _, _ => none
def gEq (d e : D) (L : Sto) : Res D := match gEqB L d e with
  | some b => .ok (.bl b) L
  | none => .bad
def gNe (d e : D) (L : Sto) : Res D := match gEqB L d e with
  | some b => .ok (.bl (!b)) L
  | none => .bad
theorem gEqB_at {G : Gb} {w : Wd} {L : Sto} {H : Hp} (R : Rel G w L H) {x y : V} {d e : D} {b : Bool} (dx : Den G w x d) (dy : Den G w y e) (h : gEqB L d e = some b) :
    ∃ p q, Dp G.K H x p ∧ Dp G.K H y q ∧ SeqAt.shaped p = true ∧ SeqAt.shaped q = true ∧ PyData.eqv p q = b := by
  unfold gEqB at h
  split at h
  · rename_i p q h1 h2
    split at h
    · rename_i h3; cases h; exact ⟨p, q, dx.pySeen R h1, dy.pySeen R h2, h3.1, h3.2, rfl⟩
    · cases h
  · cases h
theorem gEq_ok {G : Gb} : R2D G (rEqD G.K) gEq := by
  intro w L H x y d e Q E R dx dy p
  unfold gEq at p
  split at p
  · rename_i b h
    obtain ⟨u, v, h1, h2, h3, h4, h5⟩ := gEqB_at R dx dy h
    exact ⟨u, v, h1, h2, h3, h4, by rw [h5]; exact Post.ok p (.refl w) R (.bl b)⟩
  · exact p.elim
theorem gNe_ok {G : Gb} : R2D G (rNeD G.K) gNe := by
  intro w L H x y d e Q E R dx dy p
  unfold gNe at p
  split at p
  · rename_i b h
    obtain ⟨u, v, h1, h2, h3, h4, h5⟩ := gEqB_at R dx dy h
    exact ⟨u, v, h1, h2, h3, h4, by rw [h5]; exact Post.ok p (.refl w) R (.bl _)⟩
  · exact p.elim
theorem Sc.Has.units {X : Cx} (h : S.Has W X) : X.A.units + 64 < cLine := by have := h.room.un; omega
theorem se_eq (ha : SE S W a fa) (hb : SE S W b fb) : SE S W (.Compare a [.Eq] [b] pos) (e2 gEq fa fb) := fun X h => se_cmp (r := rEqD S.g.K) (fun X h => by rw [h.K]; exact op_eqD h.units) gEq_ok ha hb (nomark _) X h
theorem st_eq (ha : SE S W a fa) (hb : SE S W b fb) : ST S W (.Compare a [.Eq] [b] pos) (fun ρ L => asB (e2 gEq fa fb ρ L)) := fun X h => st_cmp (r := rEqD S.g.K) (fun X h => by rw [h.K]; exact op_eqD h.units) gEq_ok ha hb (nomark _) X h
theorem st_ne (ha : SE S W a fa) (hb : SE S W b fb) : ST S W (.Compare a [.NotEq] [b] pos) (fun ρ L => asB (e2 gNe fa fb ρ L)) := fun X h => st_cmp (r := rNeD S.g.K) (fun X h => by rw [h.K]; exact op_neD h.units) gNe_ok ha hb (nomark _) X h
def gLt0 (d e : D) (L : Sto) : Res D := match d, e with
  | .int i, .int j => .ok (.bl (decide (i < j))) L
  | .str i, .str j => .ok (.bl (decide (i.cps.toList < j.cps.toList))) L
  | .tup xs, .tup ys => (match dInts xs, dInts ys with
    | some ns, some ms => .ok (.bl (HT.lexLt ns ms)) L
    | _, _ => .bad)
  | _, _ => .bad
def gLt (d e : D) (L : Sto) : Res D := gLt0 (lo d) (lo e) L
def rLtU (K : PySem.W.Frag) : R2 := fun x y H Q => (rI0 fun i j => V.bl (decide (i < j))) x y H Q ∨ (∃ i j, x = .str i ∧ y = .str j ∧ Q (.bl (decide (i.cps.toList < j.cps.toList))) H) ∨ rLtT K x y H Q
theorem op_ltU {X : Cx} (hu : X.A.units < cLine) : OpR X (compareOp .Lt) (rLtU X.K) := op_lt.or (op_lt_str.or (op_ltT hu))
theorem gLt0_ok {G : Gb} : R2D G (rLtU G.K) gLt0 := by
  intro w L H x y d e Q E R dx dy p
  unfold gLt0 at p
  split at p
  · cases dx; cases dy; exact .inl ⟨_, _, rfl, rfl, Post.ok p (.refl w) R (.bl _)⟩
  · cases dx; cases dy; exact .inr (.inl ⟨_, _, rfl, rfl, Post.ok p (.refl w) R (.bl _)⟩)
  · split at p
    · rename_i ns ms h1 h2
      cases dx with
      | tup hx rx =>
        cases dy with
        | tup hy ry =>
          have e1 := rx.ints h1
          have e2 := ry.ints h2
          subst e1 e2
          exact .inr (.inr ⟨_, _, ns, ms, rfl, rfl, R.sqT hx, R.sqT hy, Post.ok p (.refl w) R (.bl _)⟩)
    · exact p.elim
  · exact p.elim
theorem gLt_ok {G : Gb} : R2D G (rLtU G.K) gLt := fun w L H x y d e Q E R dx dy p => gLt0_ok w L H x y _ _ Q E R dx.lo dy.lo p
def gIcmp (f : Int → Int → Bool) (d e : D) (L : Sto) : Res D := match d, e with
  | .int i, .int j => .ok (.bl (f i j)) L
  | _, _ => .bad
theorem gIcmp_ok {G : Gb} (f : Int → Int → Bool) : R2D G (rI0 fun i j => V.bl (f i j)) (gIcmp f) := by
  intro w L H x y d e Q E R dx dy p
  unfold gIcmp at p
  split at p
  · cases dx; cases dy; exact ⟨_, _, rfl, rfl, Post.ok p (.refl w) R (.bl _)⟩
  · exact p.elim
def gLe := gIcmp fun i j => decide (i ≤ j)
def gGt := gIcmp fun i j => decide (j < i)
def gGe := gIcmp fun i j => decide (j ≤ i)
theorem se_lt (ha : SE S W a fa) (hb : SE S W b fb) : SE S W (.Compare a [.Lt] [b] pos) (e2 gLt fa fb) := fun X h => se_cmp (r := rLtU S.g.K) (fun X h => by rw [h.K]; exact op_ltU (by have := h.units; omega)) gLt_ok ha hb (nomark _) X h
theorem st_lt (ha : SE S W a fa) (hb : SE S W b fb) : ST S W (.Compare a [.Lt] [b] pos) (fun ρ L => asB (e2 gLt fa fb ρ L)) := fun X h => st_cmp (r := rLtU S.g.K) (fun X h => by rw [h.K]; exact op_ltU (by have := h.units; omega)) gLt_ok ha hb (nomark _) X h
theorem se_le (ha : SE S W a fa) (hb : SE S W b fb) : SE S W (.Compare a [.LtE] [b] pos) (e2 gLe fa fb) := se_cmp (fun _ _ => op_le) (gIcmp_ok _) ha hb (nomark _)
theorem st_gt (ha : SE S W a fa) (hb : SE S W b fb) : ST S W (.Compare a [.Gt] [b] pos) (fun ρ L => asB (e2 gGt fa fb ρ L)) := st_cmp (fun _ _ => op_gt) (gIcmp_ok _) ha hb (nomark _)
theorem st_ge (ha : SE S W a fa) (hb : SE S W b fb) : ST S W (.Compare a [.GtE] [b] pos) (fun ρ L => asB (e2 gGe fa fb ρ L)) := st_cmp (fun _ _ => op_ge) (gIcmp_ok _) ha hb (nomark _)
end
theorem PE.or {X : Cx} {e : Expr} {t u : TE} (h : PE X e t) (k : PE X e u) : PE X e (fun σ H Q => t σ H Q ∨ u σ H Q) := ⟨fun pins s σ H Q I q => q.elim (h.run pins s σ H Q I) (k.run pins s σ H Q I)⟩
structure Bl (G : Gb) : Prop where
  range : G.mg "range" = none
  enumerate : G.mg "enumerate" = none
  zip : G.mg "zip" = none
  len : G.mg "len" = none
  tuple : G.mg "tuple" = none
  list : G.mg "list" = none
  int : G.mg "int" = none
  abs : G.mg "abs" = none
  max : G.mg "max" = none
  min : G.mg "min" = none
  sum : G.mg "sum" = none
  all : G.mg "all" = none
  any : G.mg "any" = none
  sorted : G.mg "sorted" = none
  isinstance : G.mg "isinstance" = none
  dict : G.mg "dict" = none
  set : G.mg "set" = none
  bool : G.mg "bool" = none
  str : G.mg "str" = none
  reversed : G.mg "reversed" = none
  repr : G.mg "repr" = none
  iter : G.mg "iter" = none
  next : G.mg "next" = none
theorem seq_now {G : Gb} {w : Wd} {L : Sto} {H : Hp} {v : V} {d : D} {xs : List D} {s : List (Nat × D)} (R : Rel G w L H) (h : Den G w v d) (e : seqOf L d = some (xs, s)) :
    ∃ k a vs, v = .ref a ∧ SqB k G.K H a vs ∧ DenL G w vs xs := by
  obtain ⟨k, a, ea, hk⟩ := seq_at (H := H) h e
  obtain ⟨vs, h1, h2⟩ := hk w L H (.refl w) R (seq_src e)
  exact ⟨k, a, vs, ea, h1, h2⟩
def sqlOf (L : Sto) (d : D) : Option (List D) := match d with
  | .ro xs => some xs
  | d => lstOf L d
theorem sql_at {G : Gb} {w : Wd} {L : Sto} {H : Hp} {v : V} {d : D} {xs : List D} (R : Rel G w L H) (h : Den G w v d) (e : sqlOf L d = some xs) : ∃ a vs, v = .ref a ∧ SqL G.K H a vs ∧ DenL G w vs xs := by
  cases h with
  | @ro a vs ds hq r => cases e; exact ⟨a, vs, rfl, R.sqL hq, r⟩
  | lst hq r => obtain ⟨a, vs, e1, h1, h2⟩ := lst_at R (.lst hq r) e; exact ⟨a, vs, e1, .inl (.inl h1), h2⟩
  | loc hn => obtain ⟨a, vs, e1, h1, h2⟩ := lst_at R (.loc hn) e; exact ⟨a, vs, e1, .inl (.inl h1), h2⟩
  | _ => cases e
def dFlat : D → Bool
  | .non => true
  | .bl _ => true
  | .int _ => true
  | .str _ => true
  | _ => false
def dEqF : D → D → Bool
  | .non, .non => true
  | .bl a, .bl b => a == b
  | .bl a, .int b => (if a then 1 else 0) == b
  | .int a, .bl b => a == (if b then 1 else 0)
  | .int a, .int b => a == b
  | .str a, .str b => a == b
  | _, _ => false
theorem Den.flat {G : Gb} {w : Wd} {v : V} {d : D} (h : Den G w v d) (e : dFlat d = true) : flatV v = true := by
  cases h <;> first | rfl | cases e
theorem Den.eqF {G : Gb} {w : Wd} {v u : V} {d e : D} (h : Den G w v d) (k : Den G w u e) (h1 : dFlat d = true) (h2 : dFlat e = true) : eqV v u = dEqF d e := by
  cases h <;> first
    | exact absurd h1 Bool.false_ne_true
    | (cases k <;> first | exact absurd h2 Bool.false_ne_true | rfl)
theorem DenL.flat {G : Gb} {w : Wd} : ∀ {vs : List V} {ds : List D}, DenL G w vs ds → ds.all dFlat = true → vs.all flatV = true
  | _, _, .nil, _ => rfl
  | _, _, .cons a t, e => by
    rw [List.all_cons] at e ⊢
    exact and2' (a.flat (and2 e).1) (t.flat (and2 e).2)
theorem DenL.inF {G : Gb} {w : Wd} {v : V} {d : D} (h : Den G w v d) (hd : dFlat d = true) : ∀ {vs : List V} {ds : List D}, DenL G w vs ds → ds.all dFlat = true → inV v vs = ds.any fun y => dEqF y d
  | _, _, .nil, _ => rfl
  | _, _, .cons a t, e => by
    rw [List.all_cons] at e
    have := DenL.inF h hd t (and2 e).2
    unfold inV at this ⊢
    rw [List.any_cons, List.any_cons, this, a.eqF h (and2 e).1 hd]
inductive DD where
  | k (kvs : List (Key × D))
  | t (kvs : List (List Key × D))
def dictOf (L : Sto) (d : D) : Option DD := match d with
  | .dK kvs => some (.k kvs)
  | .dT kvs => some (.t kvs)
  | .dF kvs => some (.k kvs)
  | .dG kvs => some (.t kvs)
  | .loc n => (match L[n]? with
    | some (.dK kvs) => some (.k kvs)
    | some (.dT kvs) => some (.t kvs)
    | _ => none)
  | _ => none
theorem dk_at {G : Gb} {w : Wd} {L : Sto} {H : Hp} {v : V} {d : D} {xs : List (Key × D)} (R : Rel G w L H) (h : Den G w v d) (e : dictOf L d = some (.k xs)) : ∃ a vs, v = .ref a ∧ ((∀ ks, d ≠ .dF ks) → H a = some (.dK vs)) ∧ Rd H a (.dK vs) ∧ DenK G w vs xs := by
  cases h with
  | @dK a vs ds hq r => cases e; exact ⟨a, vs, rfl, fun _ => R.sub _ _ hq, .inl (R.sub _ _ hq), r⟩
  | @dF a ob vs ds hq r => cases e; exact ⟨a, vs, rfl, fun z => (z _ rfl).elim, .inr ⟨ob, R.sub _ _ hq⟩, r⟩
  | @dT a vs ds hq r => cases e
  | @dG a ob vs ds hq r => cases e
  | @loc n a hn =>
    dsimp only [dictOf] at e
    split at e
    · rename_i ys hy
      cases e
      obtain ⟨o, h1, h2⟩ := R.box n a _ hn hy
      cases h2 with
      | dK r => exact ⟨a, _, rfl, fun _ => h1, .inl h1, r⟩
    · cases e
    · cases e
  | _ => cases e
theorem dt_at {G : Gb} {w : Wd} {L : Sto} {H : Hp} {v : V} {d : D} {xs : List (List Key × D)} (R : Rel G w L H) (h : Den G w v d) (e : dictOf L d = some (.t xs)) : ∃ a vs, v = .ref a ∧ Rd H a (.dT vs) ∧ DenT G w vs xs := by
  cases h with
  | @dK a vs ds hq r => cases e
  | @dT a vs ds hq r => cases e; exact ⟨a, vs, rfl, .inl (R.sub _ _ hq), r⟩
  | @dF a ob vs ds hq r => cases e
  | @dG a ob vs ds hq r => cases e; exact ⟨a, vs, rfl, .inr ⟨ob, R.sub _ _ hq⟩, r⟩
  | @loc n a hn =>
    dsimp only [dictOf] at e
    split at e
    · cases e
    · rename_i ys hy
      cases e
      obtain ⟨o, h1, h2⟩ := R.box n a _ hn hy
      cases h2 with
      | dT r => exact ⟨a, _, rfl, .inl h1, r⟩
    · cases e
  | _ => cases e
def dKey : D → Option Key
  | .int i => some (.inl i)
  | .str s => some (.inr s)
  | _ => none
def dKeys : List D → Option (List Key)
  | [] => some []
  | d :: ds => match dKey d, dKeys ds with
    | some k, some ks => some (k :: ks)
    | _, _ => none
theorem Den.key {G : Gb} {w : Wd} {v : V} {d : D} {k : Key} (h : Den G w v d) (e : dKey d = some k) : v = kV k := by
  cases h <;> cases e <;> rfl
theorem DenL.keys {G : Gb} {w : Wd} : ∀ {vs : List V} {ds : List D} {ks : List Key}, DenL G w vs ds → dKeys ds = some ks → vs = ks.map kV
  | _, _, _, .nil, e => by cases e; rfl
  | _, d :: ds, _, .cons a t, e => by
    unfold dKeys at e
    split at e
    · rename_i k ks h1 h2
      cases e
      rw [a.key h1, DenL.keys t h2] <;> rfl
    · cases e
def valD {κ : Type} [DecidableEq κ] (kvs : List (κ × D)) (k : κ) : Option D := (kvs.find? fun kv => decide (kv.1 = k)).map (·.2)
def putD {κ : Type} [DecidableEq κ] (kvs : List (κ × D)) (k : κ) (v : D) : List (κ × D) :=
  if (kvs.any fun kv => decide (kv.1 = k)) = true then kvs.map (fun kv => if kv.1 = k then (kv.1, v) else kv) else kvs ++ [(k, v)]
inductive OD (G : Gb) (w : Wd) : Option V → Option D → Prop where
  | none : OD G w .none .none
  | some {v : V} {d : D} (h : Den G w v d) : OD G w (some v) (some d)
theorem DenK.val {G : Gb} {w : Wd} (k : Key) : ∀ {vs : List (Key × V)} {ds : List (Key × D)}, DenK G w vs ds → OD G w (valV vs k) (valD ds k)
  | _, _, .nil => .none
  | _, _, @DenK.cons _ _ k' v d vs ds a t => by
    unfold valV valD
    rw [List.find?_cons, List.find?_cons]
    by_cases h : k' = k
    · simp only [h, decide_true]; exact .some a
    · simp only [h, decide_false]; exact DenK.val k t
theorem DenT.val {G : Gb} {w : Wd} (k : List Key) : ∀ {vs : List (List Key × V)} {ds : List (List Key × D)}, DenT G w vs ds → OD G w (valV vs k) (valD ds k)
  | _, _, .nil => .none
  | _, _, @DenT.cons _ _ k' v d vs ds a t => by
    unfold valV valD
    rw [List.find?_cons, List.find?_cons]
    by_cases h : k' = k
    · simp only [h, decide_true]; exact .some a
    · simp only [h, decide_false]; exact DenT.val k t
theorem DenK.any {G : Gb} {w : Wd} (k : Key) : ∀ {vs : List (Key × V)} {ds : List (Key × D)}, DenK G w vs ds → (vs.any fun kv => decide (kv.1 = k)) = ds.any fun kv => decide (kv.1 = k)
  | _, _, .nil => rfl
  | _, _, .cons a t => by rw [List.any_cons, List.any_cons, DenK.any k t]
theorem DenT.any {G : Gb} {w : Wd} (k : List Key) : ∀ {vs : List (List Key × V)} {ds : List (List Key × D)}, DenT G w vs ds → (vs.any fun kv => decide (kv.1 = k)) = ds.any fun kv => decide (kv.1 = k)
  | _, _, .nil => rfl
  | _, _, .cons a t => by rw [List.any_cons, List.any_cons, DenT.any k t]
theorem DenK.map {G : Gb} {w : Wd} {k : Key} {v : V} {d : D} (h : Den G w v d) : ∀ {vs : List (Key × V)} {ds : List (Key × D)}, DenK G w vs ds → DenK G w (vs.map fun kv => if kv.1 = k then (kv.1, v) else kv) (ds.map fun kv => if kv.1 = k then (kv.1, d) else kv)
  | _, _, .nil => .nil
  | _, _, @DenK.cons _ _ k' v' d' vs ds a t => by
    rw [List.map_cons, List.map_cons]
    by_cases hk : k' = k
    · simp only [hk, if_true]; exact .cons h (DenK.map h t)
    · simp only [hk, if_false]; exact .cons a (DenK.map h t)
theorem DenT.map {G : Gb} {w : Wd} {k : List Key} {v : V} {d : D} (h : Den G w v d) : ∀ {vs : List (List Key × V)} {ds : List (List Key × D)}, DenT G w vs ds → DenT G w (vs.map fun kv => if kv.1 = k then (kv.1, v) else kv) (ds.map fun kv => if kv.1 = k then (kv.1, d) else kv)
  | _, _, .nil => .nil
  | _, _, @DenT.cons _ _ k' v' d' vs ds a t => by
    rw [List.map_cons, List.map_cons]
    by_cases hk : k' = k
    · simp only [hk, if_true]; exact .cons h (DenT.map h t)
    · simp only [hk, if_false]; exact .cons a (DenT.map h t)
theorem DenK.snoc {G : Gb} {w : Wd} {k : Key} {v : V} {d : D} (h : Den G w v d) : ∀ {vs : List (Key × V)} {ds : List (Key × D)}, DenK G w vs ds → DenK G w (vs ++ [(k, v)]) (ds ++ [(k, d)])
  | _, _, .nil => .cons h .nil
  | _, _, .cons a t => .cons a (DenK.snoc h t)
theorem DenT.snoc {G : Gb} {w : Wd} {k : List Key} {v : V} {d : D} (h : Den G w v d) : ∀ {vs : List (List Key × V)} {ds : List (List Key × D)}, DenT G w vs ds → DenT G w (vs ++ [(k, v)]) (ds ++ [(k, d)])
  | _, _, .nil => .cons h .nil
  | _, _, .cons a t => .cons a (DenT.snoc h t)
theorem DenK.put {G : Gb} {w : Wd} {k : Key} {v : V} {d : D} {vs : List (Key × V)} {ds : List (Key × D)} (h : DenK G w vs ds) (hv : Den G w v d) : DenK G w (putK vs k v) (putD ds k d) := by
  unfold putK putD
  rw [h.any k]
  split
  · exact h.map hv
  · exact h.snoc hv
theorem DenT.put {G : Gb} {w : Wd} {k : List Key} {v : V} {d : D} {vs : List (List Key × V)} {ds : List (List Key × D)} (h : DenT G w vs ds) (hv : Den G w v d) : DenT G w (putK vs k v) (putD ds k d) := by
  unfold putK putD
  rw [h.any k]
  split
  · exact h.map hv
  · exact h.snoc hv
theorem DenK.length {G : Gb} {w : Wd} : ∀ {vs : List (Key × V)} {ds : List (Key × D)}, DenK G w vs ds → vs.length = ds.length
  | _, _, .nil => rfl
  | _, _, .cons a t => congrArg Nat.succ (DenK.length t)
theorem DenT.length {G : Gb} {w : Wd} : ∀ {vs : List (List Key × V)} {ds : List (List Key × D)}, DenT G w vs ds → vs.length = ds.length
  | _, _, .nil => rfl
  | _, _, .cons a t => congrArg Nat.succ (DenT.length t)
def gLook (L : Sto) (d k : D) : Option (Option D) := match dictOf L d with
  | some (.k kvs) => (match dKey k with
    | some key => some (valD kvs key)
    | none => none)
  | some (.t kvs) => (match k with
    | .tup xs => (match dKeys xs with
      | some ks => some (valD kvs ks)
      | none => none)
    | .tk ks => some (valD kvs ks)
    | _ => none)
  | none => none
theorem look_at {G : Gb} {w : Wd} {L : Sto} {H : Hp} {v u : V} {d k : D} {o : Option D} (R : Rel G w L H) (h : Den G w v d) (hk : Den G w u k) (e : gLook L d k = some o)
    (ht : ∀ a vs, u = .ref a → SqT G.K w.F a vs → ∀ xs, k = .tup xs → H a = some (.tup vs)) : ∃ a ov, v = .ref a ∧ DGet H a u ov ∧ OD G w ov o := by
  unfold gLook at e
  split at e
  · rename_i kvs hd
    split at e
    · rename_i key hkey
      cases e
      obtain ⟨a, vs, rfl, _, ha, r⟩ := dk_at R h hd
      rw [hk.key hkey]
      exact ⟨a, _, rfl, .inl ⟨vs, key, ha, rfl, rfl⟩, r.val key⟩
    · cases e
  · rename_i kvs hd
    split at e
    · rename_i xs
      split at e
      · rename_i ks hks
        cases e
        obtain ⟨a, vs, rfl, ha, r⟩ := dt_at R h hd
        cases hk with
        | @tup b us ds hq rr =>
          have := rr.keys hks
          subst this
          exact ⟨a, _, rfl, .inr ⟨vs, ks, b, ha, rfl, ht _ _ rfl hq _ rfl, rfl⟩, r.val ks⟩
      · cases e
    · rename_i ks
      cases e
      obtain ⟨a, vs, rfl, ha, r⟩ := dt_at R h hd
      cases hk with
      | @tk b k hq => exact ⟨a, _, rfl, .inr ⟨vs, ks, b, ha, rfl, R.sub _ _ hq, rfl⟩, r.val ks⟩
    · cases e
  · cases e
section
variable {S : Sc} {W : WX} {a b e c : Expr} {es : List Expr} {fa fb fc f : EF} {fl : AF} {pos p : Pos}
def gInB (L : Sto) (d e : D) : Option Bool := match seqOf L e with
  | some (xs, _) => if dFlat d = true ∧ xs.all dFlat = true then some (xs.any fun y => dEqF y d) else
    (match toPy (seen L d), toPy (seen L e) with
    | some p, some (.list ps) => if SeqAt.shaped p = true ∧ SeqAt.shaped (.list ps) = true then some (ps.any fun z => PyData.eqv z p) else none
    | _, _ => none)
  | none => (match d with
    | .int _ => (gLook L e d).map Option.isSome
    | .str _ => (gLook L e d).map Option.isSome
    | .tk _ => (gLook L e d).map Option.isSome
    | _ => none)
def gIn (d e : D) (L : Sto) : Res D := match gInB L d e with
  | some b => .ok (.bl b) L
  | none => .bad
def gNotIn (d e : D) (L : Sto) : Res D := match gInB L d e with
  | some b => .ok (.bl (!b)) L
  | none => .bad
def rInDk : R2 := fun y x H Q => ∃ a o, x = .ref a ∧ DGet H a y o ∧ Q (.bl o.isSome) H
def rNotInDk : R2 := fun y x H Q => ∃ a o, x = .ref a ∧ DGet H a y o ∧ Q (.bl (!o.isSome)) H
theorem op_inDk {X : Cx} (hu : X.A.units + 1 < cLine) : OpR X (compareOp .In) rInDk := by
  intro pins s σ H x y v u Q I rx ry h
  obtain ⟨a, o, rfl, g, q⟩ := h
  obtain rfl : u = Value.ref a := ry
  exact d_in hu I g rx fun s3 I3 => ⟨.bl o.isSome, H, I3, rfl, q⟩
theorem op_notInDk {X : Cx} (hu : X.A.units + 1 < cLine) : OpR X (compareOp .NotIn) rNotInDk := by
  intro pins s σ H x y v u Q I rx ry h
  obtain ⟨a, o, rfl, g, q⟩ := h
  obtain rfl : u = Value.ref a := ry
  exact d_notIn hu I g rx fun s3 I3 => ⟨.bl (!o.isSome), H, I3, rfl, q⟩
def rInU (K : PySem.W.Frag) : R2 := fun x y H Q => rIn K false x y H Q ∨ rInD K x y H Q ∨ rInDk x y H Q
def rNotInU (K : PySem.W.Frag) : R2 := fun x y H Q => rIn K true x y H Q ∨ rNotInD K x y H Q ∨ rNotInDk x y H Q
theorem gInB_at {G : Gb} {w : Wd} {L : Sto} {H : Hp} {x y : V} {d e : D} {b : Bool} (R : Rel G w L H) (dx : Den G w x d) (dy : Den G w y e) (h : gInB L d e = some b) :
    (∃ p xs, y = .ref p ∧ (SqL G.K H p xs ∨ SqT G.K H p xs) ∧ flatV x = true ∧ xs.all flatV = true ∧ inV x xs = b) ∨
    (∃ d ds, Dp G.K H x d ∧ Dp G.K H y (.list ds) ∧ SeqAt.shaped d = true ∧ SeqAt.shaped (.list ds) = true ∧ (ds.any fun z => PyData.eqv z d) = b) ∨
    ∃ a o, y = .ref a ∧ DGet H a x o ∧ o.isSome = b := by
  unfold gInB at h
  split at h
  · rename_i xs s hs
    split at h
    · rename_i hf
      cases h
      obtain ⟨k, a, vs, rfl, hq, r⟩ := seq_now R dy hs
      refine .inl ⟨a, vs, rfl, ?_, dx.flat hf.1, r.flat hf.2, DenL.inF dx hf.1 r hf.2⟩
      cases k with
      | true => exact .inl hq
      | false => exact .inr hq
    · split at h
      · rename_i p ps h1 h2
        split at h
        · rename_i h3
          cases h
          exact .inr (.inl ⟨p, ps, dx.pySeen R h1, dy.pySeen R h2, h3.1, h3.2, rfl⟩)
        · cases h
      · cases h
  · have fin : ∀ o, gLook L e d = some o → (∀ a vs, x = .ref a → SqT G.K w.F a vs → ∀ xs, d = .tup xs → H a = some (.tup vs)) → o.isSome = b → ∃ a o, y = .ref a ∧ DGet H a x o ∧ o.isSome = b := fun o h1 h2 h3 => by
      obtain ⟨a, ov, ea, g, od⟩ := look_at R dy dx h1 h2
      refine ⟨a, ov, ea, g, ?_⟩
      rw [← h3]
      cases od <;> rfl
    split at h
    · obtain ⟨o, h1, h2⟩ := Option.map_eq_some_iff.mp h
      cases dx
      exact .inr (.inr (fin o h1 (fun _ _ z => nomatch z) h2))
    · obtain ⟨o, h1, h2⟩ := Option.map_eq_some_iff.mp h
      cases dx
      exact .inr (.inr (fin o h1 (fun _ _ z => nomatch z) h2))
    · obtain ⟨o, h1, h2⟩ := Option.map_eq_some_iff.mp h
      cases dx
      exact .inr (.inr (fin o h1 (fun _ _ _ _ _ z => nomatch z) h2))
    · cases h
theorem gIn_ok {G : Gb} : R2D G (rInU G.K) gIn := by
  intro w L H x y d e Q E R dx dy p
  unfold gIn at p
  split at p
  · rename_i b hb
    have q : Q (.bl b) H := Post.ok p (.refl w) R (.bl b)
    rcases gInB_at R dx dy hb with ⟨a, xs, h1, h2, h3, h4, h5⟩ | ⟨u, us, h1, h2, h3, h4, h5⟩ | ⟨a, o, h1, h2, h3⟩
    · exact .inl ⟨a, xs, h1, h2, h3, h4, by rw [if_neg (by decide), h5]; exact q⟩
    · exact .inr (.inl ⟨u, us, h1, h2, h3, h4, by rw [h5]; exact q⟩)
    · exact .inr (.inr ⟨a, o, h1, h2, by rw [h3]; exact q⟩)
  · exact p.elim
theorem gNotIn_ok {G : Gb} : R2D G (rNotInU G.K) gNotIn := by
  intro w L H x y d e Q E R dx dy p
  unfold gNotIn at p
  split at p
  · rename_i b hb
    have q : Q (.bl (!b)) H := Post.ok p (.refl w) R (.bl _)
    rcases gInB_at R dx dy hb with ⟨a, xs, h1, h2, h3, h4, h5⟩ | ⟨u, us, h1, h2, h3, h4, h5⟩ | ⟨a, o, h1, h2, h3⟩
    · exact .inl ⟨a, xs, h1, h2, h3, h4, by rw [if_pos rfl, h5]; exact q⟩
    · exact .inr (.inl ⟨u, us, h1, h2, h3, h4, by rw [h5]; exact q⟩)
    · exact .inr (.inr ⟨a, o, h1, h2, by rw [h3]; exact q⟩)
  · exact p.elim
theorem op_inU {X : Cx} (hu : X.A.units + 65 < cLine) : OpR X (compareOp .In) (rInU X.K) := op_in_seq.or ((op_inD hu).or (op_inDk (by omega)))
theorem op_notInU {X : Cx} (hu : X.A.units + 65 < cLine) : OpR X (compareOp .NotIn) (rNotInU X.K) := op_notIn_seq.or ((op_notInD hu).or (op_notInDk (by omega)))
theorem Sc.Has.units65 {X : Cx} (h : S.Has W X) : X.A.units + 65 < cLine := by have := h.room.un; omega
theorem st_in (ha : SE S W a fa) (hb : SE S W b fb) (hm : behindInMarks .In b = false := by first | exact nobehind _ (by decide) (by decide) | rfl) : ST S W (.Compare a [.In] [b] pos) (fun ρ L => asB (e2 gIn fa fb ρ L)) := fun X h => st_cmp (r := rInU S.g.K) (fun X h => by rw [h.K]; exact op_inU h.units65) gIn_ok ha hb hm X h
theorem st_notIn (ha : SE S W a fa) (hb : SE S W b fb) (hm : behindInMarks .NotIn b = false := by first | exact nobehind _ (by decide) (by decide) | rfl) : ST S W (.Compare a [.NotIn] [b] pos) (fun ρ L => asB (e2 gNotIn fa fb ρ L)) := fun X h => st_cmp (r := rNotInU S.g.K) (fun X h => by rw [h.K]; exact op_notInU h.units65) gNotIn_ok ha hb hm X h
def isNonD : D → Option Bool
  | .non => some true
  | .fn _ => none
  | _ => some false
theorem Den.isNon {G : Gb} {w : Wd} {v : V} {d : D} {b : Bool} (h : Den G w v d) (e : isNonD d = some b) : decide (v = .non) = b := by
  cases h <;> cases e <;> first | rfl | decide
def gIsN (d e : D) (L : Sto) : Res D := match e, isNonD d with
  | .non, some b => .ok (.bl b) L
  | _, _ => .bad
theorem gIsN_ok {G : Gb} : R2D G (fun x y H Q => y = .non ∧ Q (.bl (decide (x = .non))) H) gIsN := by
  intro w L H x y d e Q E R dx dy p
  unfold gIsN at p
  split at p
  · rename_i b hb
    cases dy
    exact ⟨rfl, by rw [dx.isNon hb]; exact Post.ok p (.refl w) R (.bl b)⟩
  · exact p.elim
theorem se_isN (ha : SE S W a fa) (hb : SE S W b fb) : SE S W (.Compare a [.Is] [b] pos) (e2 gIsN fa fb) := se_cmp (fun _ _ => op_isN) gIsN_ok ha hb (nomark _)
theorem st_isN (ha : SE S W a fa) (hb : SE S W b fb) : ST S W (.Compare a [.Is] [b] pos) (fun ρ L => asB (e2 gIsN fa fb ρ L)) := st_cmp (fun _ _ => op_isN) gIsN_ok ha hb (nomark _)
def eChain (g g' : D → D → Sto → Res D) (fa fb fc : EF) : EF := fun ρ L => (fa ρ L).bind fun d L1 => (fb ρ L1).bind fun e L2 => (asB (g d e L2)).bind fun k L3 =>
  if k = true then (fc ρ L3).bind fun c L4 => g' e c L4 else .ok (.bl false) L3
def gLtI := gIcmp fun i j => decide (i < j)
def truD (L : Sto) (d : D) : Option Bool := match d with
  | .non => some false
  | .bl b => some b
  | .int i => some (i != 0)
  | .str s => if s.length ≤ 16777216 then some ((s.length : Int) != 0) else none
  | .dF _ => none
  | .dG _ => none
  | d => (match seqOf L d with
    | some (xs, _) => some (!xs.isEmpty)
    | none => (match dictOf L d with
      | some (.k kvs) => some (!kvs.isEmpty)
      | _ => none))
theorem DenL.empty {G : Gb} {w : Wd} {vs : List V} {ds : List D} (h : DenL G w vs ds) : vs.isEmpty = ds.isEmpty := by cases h <;> rfl
theorem tru_at {G : Gb} {w : Wd} {L : Sto} {H : Hp} {v : V} {d : D} {k : Bool} (R : Rel G w L H) (h : Den G w v d) (e : truD L d = some k) : TruV G.K v H k := by
  have sq : ∀ {v d}, Den G w v d → ∀ xs s, seqOf L d = some (xs, s) → (!xs.isEmpty) = k → TruV G.K v H k := by
    intro v d h xs s hs hk
    obtain ⟨b, a, vs, rfl, hq, r⟩ := seq_now R h hs
    rw [← r.empty] at hk
    cases b with
    | true => exact .inl ⟨vs, hq, hk.symm⟩
    | false => exact .inr (.inl ⟨vs, hq, hk.symm⟩)
  have dk : ∀ {v d}, Den G w v d → (∀ ks, d ≠ .dF ks) → ∀ kvs, dictOf L d = some (.k kvs) → (!kvs.isEmpty) = k → TruV G.K v H k := by
    intro v d h nf kvs hs hk
    obtain ⟨a, vs, rfl, hq', _, r⟩ := dk_at R h hs
    have hq := hq' nf
    have : vs.isEmpty = kvs.isEmpty := by cases r <;> rfl
    rw [← this] at hk
    exact .inr (.inr ⟨vs, hq, hk.symm⟩)
  have gen : ∀ {v d}, Den G w v d → (∀ ks, d ≠ .dF ks) → (match seqOf L d with
    | some (xs, _) => some (!xs.isEmpty)
    | none => (match dictOf L d with
      | some (.k kvs) => some (!kvs.isEmpty)
      | _ => none)) = some k → TruV G.K v H k := by
    intro v d h nf e
    split at e
    · rename_i xs s hs; cases e; exact sq h _ _ hs rfl
    · split at e
      · rename_i kvs hs; cases e; exact dk h nf _ hs rfl
      · cases e
  cases h with
  | non => cases e; exact rfl
  | bl b => cases e; exact rfl
  | int i => cases e; exact rfl
  | str s =>
    unfold truD at e
    dsimp only at e
    split at e
    · rename_i h; cases e; exact ⟨lineLe h, rfl⟩
    · cases e
  | tup hq r => exact gen (.tup hq r) (fun _ z => nomatch z) e
  | tg hq r => exact gen (.tg hq r) (fun _ z => nomatch z) e
  | lst hq r => exact gen (.lst hq r) (fun _ z => nomatch z) e
  | ro hq r => exact gen (.ro hq r) (fun _ z => nomatch z) e
  | dK hq r => exact gen (.dK hq r) (fun _ z => nomatch z) e
  | dT hq r => exact gen (.dT hq r) (fun _ z => nomatch z) e
  | ins hq m r => exact gen (.ins hq m r) (fun _ z => nomatch z) e
  | loc hn => exact gen (.loc hn) (fun _ z => nomatch z) e
  | fn hm r => cases e
  | ty n => cases e
  | sl h d m r => cases e
  | dF h r => cases e
  | dG h r => cases e
  | tk h => exact gen (.tk h) (fun _ z => nomatch z) e
  | dP h a b => exact gen (.dP h a b) (fun _ z => nomatch z) e
def tTru (f : EF) : TF := fun ρ L => (f ρ L).bind fun d L1 => match truD L1 d with
  | some k => .ok k L1
  | none => .bad
theorem st_truth (he : SE S W e f) (ht : ∀ (env : Env) whole, isTrue e env whole = (do let v ← whole; standAt e.pos; holding [v] (truthy v)) := by intro _ _; rfl) : ST S W e (tTru f) := fun X h =>
  PT.imp (pt_truth (he X h) (ht X.env)) fun σ H Q ⟨w, ρ, L, R, e, p⟩ => ⟨w, ρ, L, R, e, (Post.bind (rel := Den S.g) p).imp (fun x H1 ⟨w1, d, L1, l1, R1, d1, p1⟩ => by
    split at p1
    · rename_i k hk
      exact ⟨k, by rw [← h.K]; exact tru_at R1 d1 hk, Post.ok p1 (.refl _) R1 rfl⟩
    · exact p1.elim) fun _ _ _ z => z⟩
def eTup (f : AF) : EF := fun ρ L => (f ρ L).bind newT
def eLst (box : Bool) (f : AF) : EF := fun ρ L => (f ρ L).bind fun ds L1 => if ds.length ≤ 16777216 then lstOut box ds L1 else .bad
theorem se_tup {k} (ha : SA S W es fl) : SE S W (.Tuple es k pos) (eTup fl) := fun X h =>
  PE.imp (pe_tup (ha X h)) fun σ H Q ⟨w, ρ, L, R, e, p⟩ => ⟨w, ρ, L, R, e, (Post.bind (rel := DenL S.g) p).imp (fun x H1 ⟨w1, d, L1, l1, R1, d1, p1⟩ =>
    ⟨newT_post p1 d1.length, fun q hq => newT_go p1 R1 d1 q hq⟩) fun _ _ _ z => z⟩
theorem lstOut_go {G : Gb} {w : Wd} {L : Sto} {H : Hp} {vs : List V} {xs : List D} {Q : VK} {E : XK} {box : Bool} (p : Post G (Den G) w (lstOut box xs L) Q E) (R : Rel G w L H) (d : DenL G w vs xs) (q : Addr) (hq : H q = none) : Q (.ref q) (upd H q (.lst vs)) := by
  unfold lstOut at p
  split at p
  · obtain ⟨R2, l2⟩ := R.newB (o := .lst vs) (c := .lst xs) hq (.lst (DenL.le (w := w) (w' := ⟨w.F, w.φ ++ [q], w.prv⟩) ⟨⟨fun _ _ _ r => r, fun n a e => (List.getElem?_append_left (getElem?_lt e)).trans e, fun _ _ r => r⟩, rfl⟩ d))
    refine p _ _ _ l2 R2 (.loc ?_)
    show (w.φ ++ [q])[L.length]? = some q
    rw [← R.len, List.getElem?_append_right (Nat.le_refl _)]
    simp
  · obtain ⟨R2, l2⟩ := R.newF (o := .lst vs) hq
    exact p _ _ _ l2 R2 (.lst upd_same (d.le l2))
theorem se_lst (box : Bool) (ha : SA S W es fl) : SE S W (.List es pos) (eLst box fl) := fun X h =>
  PE.imp (pe_lst (ha X h)) fun σ H Q ⟨w, ρ, L, R, e, p⟩ => ⟨w, ρ, L, R, e, (Post.bind (rel := DenL S.g) p).imp (fun x H1 ⟨w1, d, L1, l1, R1, d1, p1⟩ => by
    split at p1
    · rename_i hz
      exact ⟨by rw [d1.length]; exact lineLe hz, fun q hq => lstOut_go p1 R1 d1 q hq⟩
    · exact p1.elim) fun _ _ _ z => z⟩
end
section
variable {S : Sc} {W : WX} {a b e c o : Expr} {es : List Expr} {fa fb fc f fo : EF} {fl : AF} {pos p apos cpos : Pos}
theorem RnD.or {G : Gb} {r r' : List V → Hp → VK → Prop} {g : List D → Sto → Res D} (h : RnD G r g) : RnD G (fun xs H Q => r xs H Q ∨ r' xs H Q) g := fun w L H x d Q E R dx p => .inl (h w L H x d Q E R dx p)
theorem en_of {r : List V → Hp → VK → Prop} {g : List D → Sto → Res D} (hr : RnD S.g r g) {σ : St} {H : Hp} {Q : VK} (q : tR S.g (Den S.g) W (en g fl) σ H Q) : tCB r (tR S.g (DenL S.g) W fl) σ H Q := by
  obtain ⟨w, ρ, L, R, e, p⟩ := q
  exact ⟨w, ρ, L, R, e, (Post.bind (rel := DenL S.g) p).imp (fun x H1 ⟨w1, d, L1, l1, R1, d1, p1⟩ => hr w1 L1 H1 x d Q _ R1 d1 p1) fun _ _ _ z => z⟩
theorem se_callB {x : Str} {id : String} {r : List V → Hp → VK → Prop} {g : List D → Sto → Res D} (hc : ∀ X, S.Has W X → CallR X (.builtin id) r) (hr : RnD S.g r g) (hm : S.g.mg x = none) (hv : bootBuiltins x = some (.builtin id)) (ha : SA S W (e :: es) fl)
    (hg : Glb S x) (hn : x ≠ "__name__") (hdb : (x == ("__debug__" : Str)) = false) (he : ∀ env, starEach (e :: es) env = (false, eval e env) :: starEach es env) (hpl : ∀ env, (backTo pos (starEach es env)).any (·.1) = false) :
    SE S W (.Call (.Name x p) (e :: es) [] pos) (en g fl) := fun X h =>
  PE.imp (pe_callB (hc X h) (by show X.env.scope.names.lookup _ = _; rw [← h.sc]; exact hg) (by rw [← h.mg]; exact hm) hv (ha X h) hn hdb (he _) (hpl _)) fun σ H Q q => en_of hr q
theorem se_callT {x : Str} {T : String} {r : List V → Hp → VK → Prop} {g : List D → Sto → Res D} (hc : ∀ X, S.Has W X → CallR X (.type T) r) (hr : RnD S.g r g) (hm : S.g.mg x = none) (hv : bootBuiltins x = some (.type T)) (ha : SA S W (e :: es) fl)
    (hg : Glb S x) (hn : x ≠ "__name__") (hdb : (x == ("__debug__" : Str)) = false) (he : ∀ env, starEach (e :: es) env = (false, eval e env) :: starEach es env) (hpl : ∀ env, (backTo pos (starEach es env)).any (·.1) = false) :
    SE S W (.Call (.Name x p) (e :: es) [] pos) (en g fl) := fun X h =>
  PE.imp (pe_callTy (hc X h) (by show X.env.scope.names.lookup _ = _; rw [← h.sc]; exact hg) (by rw [← h.mg]; exact hm) hv (ha X h) hn hdb (he _) (hpl _)) fun σ H Q q => en_of hr q
def gLen (ds : List D) (L : Sto) : Res D := match ds with
  | [d] => (match d with
    | .str s => if s.length ≤ 16777216 then .ok (.int s.length) L else .bad
    | d => (match seqOf L d with
      | some (xs, _) => .ok (.int xs.length) L
      | none => (match dictOf L d with
        | some (.k kvs) => .ok (.int kvs.length) L
        | some (.t kvs) => .ok (.int kvs.length) L
        | none => .bad)))
  | _ => .bad
theorem call_lenR {X : Cx} : CallR X (.builtin "len") (fun xs H Q => ∃ a kvs, xs = [V.ref a] ∧ Rd H a (.dK kvs) ∧ Q (.int kvs.length) H) := fun pins s σ H xs us Q I r ⟨a, kvs, e, ha, q⟩ => by
  subst e
  obtain ⟨u, e2, ru⟩ := vals1 r
  subst e2
  cases ru
  exact d_len I ha fun t _ I' => ⟨.int kvs.length, H, I', ⟨t, rfl⟩, q⟩
def rLenTR : List V → Hp → VK → Prop := fun xs H Q => ∃ (p : Addr) (kvs : List (List Key × V)), xs = [.ref p] ∧ Rd H p (.dT kvs) ∧ Q (.int ((kvs.length : Nat) : Int)) H
theorem call_len_tR {X : Cx} : CallR X (.builtin "len") rLenTR := fun pins s σ H xs us Q I r ⟨p, kvs, e, hk, q⟩ => by
  rw [e] at r
  obtain ⟨u, e2, rx⟩ := vals1 r
  have e3 : u = Value.ref p := rx
  rw [e2, e3]
  obtain ⟨sz, nm, ys, rr, hd⟩ := dt_rd I.hok hk
  have ln : kvs.length = ys.length := Paired.length rr
  refine call_len_dictH nm hd (by rw [sizeLine_eq] at sz; omega) ?_
  rw [← ln]
  exact ⟨.int ((kvs.length : Nat) : Int), H, I.tok _, ⟨_, rfl⟩, q⟩
def rLenU (K : PySem.W.Frag) : List V → Hp → VK → Prop := fun xs H Q => (∃ x n, xs = [x] ∧ LenV K x H n ∧ Q (.int n) H) ∨ (∃ a kvs, xs = [V.ref a] ∧ Rd H a (.dK kvs) ∧ Q (.int kvs.length) H) ∨ rLenTR xs H Q
theorem len_seq {G : Gb} {w : Wd} {L : Sto} {H : Hp} {v : V} {d : D} {Q : VK} {E : XK} (R : Rel G w L H) (h : Den G w v d)
    (p : Post G (Den G) w (match seqOf L d with
      | some (xs, _) => .ok (.int xs.length) L
      | none => (match dictOf L d with
        | some (.k kvs) => .ok (.int kvs.length) L
        | some (.t kvs) => .ok (.int kvs.length) L
        | none => .bad)) Q E) : rLenU G.K [v] H Q := by
  split at p
  · rename_i xs s hs
    obtain ⟨k, a, vs, rfl, hq, r⟩ := seq_now R h hs
    refine .inl ⟨_, vs.length, rfl, ?_, by rw [r.length]; exact Post.ok p (.refl w) R (.int _)⟩
    cases k with
    | true => exact .inl ⟨vs, hq, rfl⟩
    | false => exact .inr ⟨vs, hq, rfl⟩
  · split at p
    · rename_i kvs hd
      obtain ⟨a, vs, rfl, _, hq, r⟩ := dk_at R h hd
      exact .inr (.inl ⟨a, vs, rfl, hq, by rw [r.length]; exact Post.ok p (.refl w) R (.int _)⟩)
    · rename_i kvs hd
      obtain ⟨a, vs, rfl, hq, r⟩ := dt_at R h hd
      exact .inr (.inr ⟨a, vs, rfl, hq, by rw [r.length]; exact Post.ok p (.refl w) R (.int _)⟩)
    · exact p.elim
theorem gLen_ok {G : Gb} : RnD G (rLenU G.K) gLen := by
  intro w L H x ds Q E R dx p
  unfold gLen at p
  split at p
  · rename_i d
    cases dx with
    | cons h t =>
      cases t
      split at p
      · cases h
        split at p
        · rename_i hz
          exact .inl ⟨_, _, rfl, ⟨lineLe hz, rfl⟩, Post.ok p (.refl w) R (.int _)⟩
        · exact p.elim
      · exact len_seq R h p
  · exact p.elim
theorem se_len (B : Bl S.g) (ha : SA S W (e :: es) fl) (hg : Glb S "len" := by rfl) (he : ∀ env, starEach (e :: es) env = (false, eval e env) :: starEach es env := by intro _; rfl) (hpl : ∀ env, (backTo pos (starEach es env)).any (·.1) = false := by intro _; rfl) :
    SE S W (.Call (.Name "len" p) (e :: es) [] pos) (en gLen fl) := fun X h =>
  se_callB (id := "len") (r := rLenU S.g.K) (fun X h => by rw [h.K]; exact call_len.or (call_lenR.or call_len_tR)) gLen_ok B.len (by decide +kernel) ha hg (by decide) (by decide) he hpl X h
def gMax (ds : List D) (L : Sto) : Res D := match ds with
  | [d] => (match sqlOf L d with
    | some xs => (match dInts xs with
      | some ns => (match ns.max? with
        | some m => .ok (.int m) L
        | none => .bad)
      | none => .bad)
    | none => .bad)
  | [.int i, .int j] => .ok (.int (if j > i then j else i)) L
  | _ => .bad
def gMin (ds : List D) (L : Sto) : Res D := match ds with
  | [d] => (match sqlOf L d with
    | some xs => (match dInts xs with
      | some ns => (match ns.min? with
        | some m => .ok (.int m) L
        | none => .bad)
      | none => .bad)
    | none => .bad)
  | [.int i, .int j] => .ok (.int (if j < i then j else i)) L
  | _ => .bad
def rMaxU (K : PySem.W.Frag) : List V → Hp → VK → Prop := fun xs H Q => rMax K xs H Q ∨ ∃ i j, xs = [.int i, .int j] ∧ Q (.int (if j > i then j else i)) H
def rMinU (K : PySem.W.Frag) : List V → Hp → VK → Prop := fun xs H Q => rMin K xs H Q ∨ ∃ i j, xs = [.int i, .int j] ∧ Q (.int (if j < i then j else i)) H
theorem gMax_ok {G : Gb} : RnD G (rMaxU G.K) gMax := by
  intro w L H x ds Q E R dx p
  unfold gMax at p
  split at p
  · cases dx with
    | cons h t =>
      cases t
      split at p
      · rename_i xs hx
        split at p
        · rename_i ns hn
          split at p
          · rename_i m hm
            obtain ⟨a, vs, rfl, hq, r⟩ := sql_at R h hx
            have := r.ints hn
            subst this
            have hm2 := List.max?_eq_some_iff.mp hm
            refine .inl ⟨a, ns, rfl, hq, List.length_pos_of_mem hm2.1, fun m' h1 h2 => ?_⟩
            have : m' = m := Int.le_antisymm (hm2.2 _ h1) (h2 _ hm2.1)
            subst this
            exact Post.ok p (.refl w) R (.int _)
          · exact p.elim
        · exact p.elim
      · exact p.elim
  · cases dx with
    | cons h t =>
      cases t with
      | cons h2 t =>
        cases t
        cases h
        cases h2
        exact .inr ⟨_, _, rfl, Post.ok p (.refl w) R (.int _)⟩
  · exact p.elim
theorem gMin_ok {G : Gb} : RnD G (rMinU G.K) gMin := by
  intro w L H x ds Q E R dx p
  unfold gMin at p
  split at p
  · cases dx with
    | cons h t =>
      cases t
      split at p
      · rename_i xs hx
        split at p
        · rename_i ns hn
          split at p
          · rename_i m hm
            obtain ⟨a, vs, rfl, hq, r⟩ := sql_at R h hx
            have := r.ints hn
            subst this
            have hm2 := List.min?_eq_some_iff.mp hm
            refine .inl ⟨a, ns, rfl, hq, List.length_pos_of_mem hm2.1, fun m' h1 h2 => ?_⟩
            have : m' = m := Int.le_antisymm (h2 _ hm2.1) (hm2.2 _ h1)
            subst this
            exact Post.ok p (.refl w) R (.int _)
          · exact p.elim
        · exact p.elim
      · exact p.elim
  · cases dx with
    | cons h t =>
      cases t with
      | cons h2 t =>
        cases t
        cases h
        cases h2
        exact .inr ⟨_, _, rfl, Post.ok p (.refl w) R (.int _)⟩
  · exact p.elim
theorem se_max (B : Bl S.g) (ha : SA S W (e :: es) fl) (hg : Glb S "max" := by rfl) (he : ∀ env, starEach (e :: es) env = (false, eval e env) :: starEach es env := by intro _; rfl) (hpl : ∀ env, (backTo pos (starEach es env)).any (·.1) = false := by intro _; rfl) :
    SE S W (.Call (.Name "max" p) (e :: es) [] pos) (en gMax fl) := fun X h =>
  se_callB (id := "max") (r := rMaxU S.g.K) (fun X h => by rw [h.K]; exact (cr_max h.calm).or (call_max2 h.calm)) gMax_ok B.max (by decide +kernel) ha hg (by decide) (by decide) he hpl X h
theorem se_min (B : Bl S.g) (ha : SA S W (e :: es) fl) (hg : Glb S "min" := by rfl) (he : ∀ env, starEach (e :: es) env = (false, eval e env) :: starEach es env := by intro _; rfl) (hpl : ∀ env, (backTo pos (starEach es env)).any (·.1) = false := by intro _; rfl) :
    SE S W (.Call (.Name "min" p) (e :: es) [] pos) (en gMin fl) := fun X h =>
  se_callB (id := "min") (r := rMinU S.g.K) (fun X h => by rw [h.K]; exact (cr_min h.calm).or (call_min2 h.calm)) gMin_ok B.min (by decide +kernel) ha hg (by decide) (by decide) he hpl X h
def gAll (ds : List D) (L : Sto) : Res D := match ds with
  | [d] => (match sqlOf L d with
    | some xs => (match dBls xs with
      | some ns => .ok (.bl (ns.all id)) L
      | none => .bad)
    | none => .bad)
  | _ => .bad
theorem gAll_ok {G : Gb} : RnD G (rAll G.K) gAll := by
  intro w L H x ds Q E R dx p
  unfold gAll at p
  split at p
  · cases dx with
    | cons h t =>
      cases t
      split at p
      · rename_i xs hx
        split at p
        · rename_i ns hn
          obtain ⟨a, vs, rfl, hq, r⟩ := sql_at R h hx
          have := r.bls hn
          subst this
          exact ⟨a, ns, rfl, hq, Post.ok p (.refl w) R (.bl _)⟩
        · exact p.elim
      · exact p.elim
  · exact p.elim
theorem se_all (B : Bl S.g) (ha : SA S W (e :: es) fl) (hg : Glb S "all" := by rfl) (he : ∀ env, starEach (e :: es) env = (false, eval e env) :: starEach es env := by intro _; rfl) (hpl : ∀ env, (backTo pos (starEach es env)).any (·.1) = false := by intro _; rfl) :
    SE S W (.Call (.Name "all" p) (e :: es) [] pos) (en gAll fl) := fun X h =>
  se_callB (id := "all") (r := rAll S.g.K) (fun X h => by rw [h.K]; exact cr_all h.calm) gAll_ok B.all (by decide +kernel) ha hg (by decide) (by decide) he hpl X h
def gAbs (ds : List D) (L : Sto) : Res D := match ds with
  | [.int i] => .ok (.int (if i < 0 then -i else i)) L
  | _ => .bad
theorem gAbs_ok {G : Gb} : RnD G (fun xs H Q => ∃ i, xs = [.int i] ∧ Q (.int (if i < 0 then -i else i)) H) gAbs := by
  intro w L H x ds Q E R dx p
  unfold gAbs at p
  split at p
  · cases dx with
    | cons h t => cases t; cases h; exact ⟨_, rfl, Post.ok p (.refl w) R (.int _)⟩
  · exact p.elim
theorem se_abs (B : Bl S.g) (ha : SA S W (e :: es) fl) (hg : Glb S "abs" := by rfl) (he : ∀ env, starEach (e :: es) env = (false, eval e env) :: starEach es env := by intro _; rfl) (hpl : ∀ env, (backTo pos (starEach es env)).any (·.1) = false := by intro _; rfl) :
    SE S W (.Call (.Name "abs" p) (e :: es) [] pos) (en gAbs fl) := se_callB (id := "abs") (fun X h => call_abs) gAbs_ok B.abs (by decide +kernel) ha hg (by decide) (by decide) he hpl
def gInt (ds : List D) (L : Sto) : Res D := match ds with
  | [.int i] => .ok (.int i) L
  | [.bl k] => .ok (.int (if k then 1 else 0)) L
  | _ => .bad
theorem gInt_ok {G : Gb} : RnD G (fun xs H Q => (∃ i, xs = [.int i] ∧ Q (.int i) H) ∨ ∃ k, xs = [.bl k] ∧ Q (.int (if k then 1 else 0)) H) gInt := by
  intro w L H x ds Q E R dx p
  unfold gInt at p
  split at p
  · cases dx with
    | cons h t => cases t; cases h; exact .inl ⟨_, rfl, Post.ok p (.refl w) R (.int _)⟩
  · cases dx with
    | cons h t => cases t; cases h; exact .inr ⟨_, rfl, Post.ok p (.refl w) R (.int _)⟩
  · exact p.elim
theorem se_int1 (B : Bl S.g) (ha : SA S W (e :: es) fl) (hg : Glb S "int" := by rfl) (he : ∀ env, starEach (e :: es) env = (false, eval e env) :: starEach es env := by intro _; rfl) (hpl : ∀ env, (backTo pos (starEach es env)).any (·.1) = false := by intro _; rfl) :
    SE S W (.Call (.Name "int" p) (e :: es) [] pos) (en gInt fl) := se_callT (T := "int") (fun X h => call_int1) gInt_ok B.int (by decide +kernel) ha hg (by decide) (by decide) he hpl
theorem call_tuple_g {X : Cx} : CallR X (.type "tuple") (fun xs H Q => ∃ p ys, xs = [.ref p] ∧ ((SqL X.K H p ys ∧ ∀ l (o : Obj), o.dict = none → H l = none → Q (.ref l) (upd H l (.frz o (.tup ys)))) ∨ (SqT X.K H p ys ∧ Q (.ref p) H))) := by
  intro pins s σ H xs us Q I r h
  obtain ⟨p, ys, rfl, h⟩ := h
  obtain ⟨u, rfl, rx⟩ := vals1 r
  cases rx
  rcases h with ⟨hq, q⟩ | ⟨hq, q⟩
  · obtain ⟨its, r', pl, hz⟩ := I.list hq
    have hlen := r'.length
    refine call_tuple_list pl.isList (fun h' kp => ?_) (by simp only [List.size_toArray] <;> omega)
    have I1 : Inv X pins σ H { s with heap := h' } := I.kept (t' := s.toks) kp
    have I2 : Inv X pins σ (upd H h'.objs.size (.frz { cls := .type "tuple", data := .seq its.toArray } (.tup ys))) { s with heap := h'.push { cls := .type "tuple", data := .seq its.toArray } } :=
      I1.laid (t' := s.toks) (fun b o e => Heap.get?_push_of_some _ e) (Nat.le_refl _) (show ObjOk X.prog X.w _ _ _ (.frz _ (.tup ys)) from ⟨Heap.get?_push_size _ rfl, hz, its, r', IsTup.new _ _⟩)
    exact ⟨.ref h'.objs.size, _, I2, rfl, q _ _ rfl (I1.hok.fresh (Nat.le_refl _))⟩
  · obtain ⟨its, r', pl, hz⟩ := I.tuple hq
    exact call_tuple_same pl ⟨.ref p, H, I, rfl, q⟩
def newTG (xs : List D) (L : Sto) : Res D := if xs.length ≤ 16777216 then .ok (.tg xs) L else .bad
theorem newTG_post {G : Gb} {w : Wd} {L : Sto} {vs : List V} {xs : List D} {Q : VK} {E : XK} (p : Post G (Den G) w (newTG xs L) Q E) : vs.length = xs.length → vs.length ≤ sizeLine := by
  unfold newTG at p
  split at p
  · rename_i h; intro e; rw [e]; exact lineLe h
  · exact p.elim
theorem newTG_go {G : Gb} {w : Wd} {L : Sto} {H : Hp} {vs : List V} {xs : List D} {Q : VK} {E : XK} (p : Post G (Den G) w (newTG xs L) Q E) (R : Rel G w L H) (d : DenL G w vs xs) (q : Addr) (o : Obj) (ho : o.dict = none) (hq : H q = none) : Q (.ref q) (upd H q (.frz o (.tup vs))) := by
  unfold newTG at p
  split at p
  · obtain ⟨R2, l2⟩ := R.newF (o := .frz o (.tup vs)) hq
    exact p _ _ _ l2 R2 (.tg (.inl ⟨o, upd_same, ho⟩) (d.le l2))
  · exact p.elim
def gTuple (ds : List D) (L : Sto) : Res D := match ds with
  | [.tup xs] => .ok (.tup xs) L
  | [.tg xs] => .ok (.tg xs) L
  | [d] => (match sqlOf L d with
    | some xs => newTG xs L
    | none => .bad)
  | _ => .bad
def rTupleU (K : PySem.W.Frag) : List V → Hp → VK → Prop := fun xs H Q => ∃ p ys, xs = [.ref p] ∧ ((SqL K H p ys ∧ ∀ l (o : Obj), o.dict = none → H l = none → Q (.ref l) (upd H l (.frz o (.tup ys)))) ∨ (SqT K H p ys ∧ Q (.ref p) H))
theorem gTuple_ok {G : Gb} : RnD G (rTupleU G.K) gTuple := by
  intro w L H x ds Q E R dx p
  unfold gTuple at p
  split at p
  · cases dx with
    | cons h t =>
      cases t
      cases h with
      | tup hq r => exact ⟨_, _, rfl, .inr ⟨R.sqT hq, Post.ok p (.refl w) R (.tup hq r)⟩⟩
  · cases dx with
    | cons h t =>
      cases t
      cases h with
      | tg hq r => exact ⟨_, _, rfl, .inr ⟨R.sqT hq.t, Post.ok p (.refl w) R (.tg hq r)⟩⟩
  · cases dx with
    | cons h t =>
      cases t
      split at p
      · rename_i xs hx
        obtain ⟨a, vs, rfl, hq, r⟩ := sql_at R h hx
        exact ⟨a, vs, rfl, .inl ⟨hq, fun q o ho hq => newTG_go p R r q o ho hq⟩⟩
      · exact p.elim
  · exact p.elim
theorem se_tuple (B : Bl S.g) (ha : SA S W (e :: es) fl) (hg : Glb S "tuple" := by rfl) (he : ∀ env, starEach (e :: es) env = (false, eval e env) :: starEach es env := by intro _; rfl) (hpl : ∀ env, (backTo pos (starEach es env)).any (·.1) = false := by intro _; rfl) :
    SE S W (.Call (.Name "tuple" p) (e :: es) [] pos) (en gTuple fl) := fun X h =>
  se_callT (T := "tuple") (r := rTupleU S.g.K) (fun X h => by rw [h.K]; exact call_tuple_g) gTuple_ok B.tuple (by decide +kernel) ha hg (by decide) (by decide) he hpl X h
theorem pe_tupG {X : Cx} {x1} {t : TA} (h : PA X es t) : PE X (.Tuple es x1 pos) (fun σ H Q => t σ H fun xs H1 => xs.length ≤ sizeLine ∧ ∀ p (o : Obj), o.dict = none → H1 p = none → Q (.ref p) (upd H1 p (.frz o (.tup xs)))) := by
  refine ⟨fun pins s σ H Q I hq => ?_⟩
  refine wpAny_Tuple_spliced (thn (h.run pos pins s σ H _ I hq) fun us s1 ⟨xs, H1, I1, r, z, q⟩ => ⟨by rw [← r.length]; exact z, ?_⟩)
  have hf : H1 s1.heap.objs.size = none := I1.hok.fresh (Nat.le_refl _)
  refine ⟨.ref s1.heap.objs.size, upd H1 s1.heap.objs.size (.frz { cls := .type "tuple", data := .seq us.toArray } (.tup xs)), I1.laid (t' := s1.toks) (fun b u e => Heap.get?_push_of_some _ e) (Nat.le_refl _) ?_, rfl, q _ _ rfl hf⟩
  exact ⟨Heap.get?_push_size _ rfl, z, us, r, ⟨_, Heap.get?_push_size _ rfl, rfl, _, rfl⟩⟩
def eTupG (f : AF) : EF := fun ρ L => (f ρ L).bind newTG
theorem se_tupG {k} (ha : SA S W es fl) : SE S W (.Tuple es k pos) (eTupG fl) := fun X h =>
  PE.imp (pe_tupG (ha X h)) fun σ H Q ⟨w, ρ, L, R, e, p⟩ => ⟨w, ρ, L, R, e, (Post.bind (rel := DenL S.g) p).imp (fun x H1 ⟨w1, d, L1, l1, R1, d1, p1⟩ =>
    ⟨newTG_post p1 d1.length, fun q o ho hq => newTG_go p1 R1 d1 q o ho hq⟩) fun _ _ _ z => z⟩
def rgOk (i j : Int) : Bool := small62 i && small62 j && decide ((j - i).toNat ≤ 16777216)
theorem rgOk_ok {i j : Int} (h : rgOk i j = true) : RgOk i j := by
  unfold rgOk at h
  obtain ⟨h1, h2⟩ := and2 h
  obtain ⟨h3, h4⟩ := and2 h1
  obtain ⟨a, b⟩ := small62_ok h3
  obtain ⟨c, d⟩ := small62_ok h4
  exact ⟨a, b, c, d, of_decide_eq_true h2⟩
theorem den_rg {G : Gb} {w : Wd} {i j : Int} : DenL G w (rgV i j) (rangeD i (j - i).toNat) := by
  unfold rgV rangeD
  have : ∀ l : List Nat, DenL G w (l.map fun k => V.int (i + (k : Nat))) (l.map fun (k : Nat) => D.int (i + (k : Int))) := fun l => by
    induction l with
    | nil => exact .nil
    | cons a t ih => exact .cons (.int _) ih
  exact this _
def eRange1 (f : EF) (k : List D → Sto → Res D) : EF := fun ρ L => (f ρ L).bind fun d L1 => match d with
  | .int j => if rgOk 0 j = true then k (rangeD 0 (j - 0).toNat) L1 else .bad
  | _ => .bad
theorem se_listRg1 {p1 p2 : Pos} (box : Bool) (B : Bl S.g) (ha : SE S W a fa) (hg : Glb S "list" := by rfl) (hg2 : Glb S "range" := by rfl) (na : ∀ env, starEach [a] env = (false, eval a env) :: starEach [] env := by intro _; rfl)
    (na2 : ∀ env, starEach [.Call (.Name "range" p1) [a] [] p2] env = (false, eval (.Call (.Name "range" p1) [a] [] p2) env) :: starEach [] env := by intro _; rfl) :
    SE S W (.Call (.Name "list" p) [.Call (.Name "range" p1) [a] [] p2] [] pos) (eRange1 fa (lstOut box)) := fun X h =>
  PE.imp (pe_listRg h.calm (by show X.env.scope.names.lookup _ = _; rw [← h.sc]; exact hg) (by rw [← h.mg]; exact B.list) (prg_1 (by show X.env.scope.names.lookup _ = _; rw [← h.sc]; exact hg2) (by rw [← h.mg]; exact B.range) (ha X h) (na _)) (na2 _)) fun σ H Q ⟨w, ρ, L, R, e, p⟩ =>
    ⟨w, ρ, L, R, e, (Post.bind (rel := Den S.g) p).imp (fun x H1 ⟨w1, d, L1, l1, R1, d1, p1⟩ => by
      split at p1
      · split at p1
        · rename_i hk
          cases d1
          exact ⟨_, rfl, rgOk_ok hk, fun q hq => lstOut_go p1 R1 den_rg q hq⟩
        · exact p1.elim
      · exact p1.elim) fun _ _ _ z => z⟩
def srtI (ns : List Int) : List Int := ns.mergeSort (fun a b => decide (a ≤ b))
theorem sorted_unique : ∀ {as bs : List Int}, as.Perm bs → as.Pairwise (· ≤ ·) → bs.Pairwise (· ≤ ·) → as = bs
  | [], bs, h, _, _ => by rw [List.nil_perm.mp h]
  | a :: as, bs, h, h1, h2 => by
    cases bs with
    | nil => exact absurd h.length_eq (by simp)
    | cons b bs =>
      rw [List.pairwise_cons] at h1 h2
      have ha : a ∈ b :: bs := h.subset (List.mem_cons_self)
      have hb : b ∈ a :: as := h.symm.subset (List.mem_cons_self)
      have e : a = b := by
        rcases List.mem_cons.mp ha with x | x
        · exact x
        · rcases List.mem_cons.mp hb with y | y
          · exact y.symm
          · exact Int.le_antisymm (h1.1 _ y) (h2.1 _ x)
      subst e
      rw [sorted_unique (List.Perm.cons_inv h) h1.2 h2.2]
theorem srtI_sorted (ns : List Int) : (srtI ns).Pairwise (· ≤ ·) := by
  have := List.pairwise_mergeSort (le := fun a b : Int => decide (a ≤ b)) (by intro a b c h1 h2; simp at *; omega) (by intro a b; simp; omega) ns
  exact this.imp fun h => by simpa using h
theorem srtI_perm (ns : List Int) : (srtI ns).Perm ns := List.mergeSort_perm ns _
theorem srtI_unique {ns ms : List Int} (h : ms.Perm ns) (h1 : ms.Pairwise (· ≤ ·)) : ms = srtI ns := sorted_unique (h.trans (srtI_perm ns).symm) h1 (srtI_sorted ns)
inductive Ty where
  | non | bl | int | str | tup | lst | dict
  deriving DecidableEq
def Ty.name : Ty → String
  | .non => "NoneType" | .bl => "bool" | .int => "int" | .str => "str" | .tup => "tuple" | .lst => "list" | .dict => "dict"
inductive Tc where
  | int | bl | str | tup | lst | dict
def Tc.name : Tc → String
  | .int => "int" | .bl => "bool" | .str => "str" | .tup => "tuple" | .lst => "list" | .dict => "dict"
def Tc.ty : Tc → Ty
  | .int => .int | .bl => .bl | .str => .str | .tup => .tup | .lst => .lst | .dict => .dict
def isiB (t : Ty) (c : Tc) : Bool := decide (t = c.ty) || (match t, c with
  | .bl, .int => true
  | _, _ => false)
theorem isiB_ok (t : Ty) (c : Tc) : kitB t.name c.name = some (isiB t c) := by
  cases t <;> cases c <;> decide +kernel
def tyOfL (L : Sto) (d : D) : Option Ty := match d with
  | .non => some .non
  | .bl _ => some .bl
  | .int _ => some .int
  | .str _ => some .str
  | .tup _ => some .tup
  | .tg _ => some .tup
  | .tk _ => some .tup
  | .lst _ => some .lst
  | .dK _ => some .dict
  | .dT _ => some .dict
  | .dF _ => some .dict
  | .loc n => (match L[n]? with
    | some (.lst _) => some .lst
    | some (.dK _) => some .dict
    | some (.dT _) => some .dict
    | _ => none)
  | _ => none
theorem sqT_ty {K : PySem.W.Frag} {H : Hp} {a : Addr} {vs : List V} (h : SqT K H a vs) : TyX K H (.ref a) (.type "tuple") := by
  rcases h with (h | ⟨o, h⟩) | ⟨o, _, _, h, h2⟩
  · exact .base (.tup h)
  · exact .fTuple h
  · exact .kTuple h h2.1
theorem ty_at {G : Gb} {w : Wd} {L : Sto} {H : Hp} {v : V} {d : D} {t : Ty} (R : Rel G w L H) (h : Den G w v d) (e : tyOfL L d = some t) : TyX G.K H v (.type t.name) := by
  cases h with
  | non => cases e; exact .base .non
  | bl b => cases e; exact .base (.bl b)
  | int b => cases e; exact .base (.int b)
  | str b => cases e; exact .base (.str b)
  | tup hq r => cases e; exact sqT_ty (R.sqT hq)
  | tg hq r => cases e; exact sqT_ty (R.sqT hq.t)
  | lst hq r => cases e; exact .base (.lst (R.sub _ _ hq))
  | dK hq r => cases e; exact .base (.dK (R.sub _ _ hq))
  | dT hq r => cases e; exact .base (.dT (R.sub _ _ hq))
  | dF hq r => cases e; exact .fDict (R.sub _ _ hq)
  | dG hq r => cases e
  | tk hq => cases e; exact .base (.tup (R.sub _ _ hq))
  | loc hn =>
    dsimp only [tyOfL] at e
    split at e <;> first
      | (rename_i ys hy
         obtain ⟨o, h1, h2⟩ := R.box _ _ _ hn hy
         cases h2
         cases e
         first | exact .base (.lst h1) | exact .base (.dK h1) | exact .base (.dT h1))
      | cases e
  | _ => cases e
def gIx (d e : D) (L : Sto) : Res D := match e with
  | .int i => (match seqOf L d with
    | some (xs, _) => (match atI xs i with
      | some y => .ok y L
      | none => .bad)
    | none => (match d with
      | .str z => if z.length ≤ 16777216 then (match atI z.cps.toList i with
        | some c => .ok (.str ⟨#[c]⟩) L
        | none => .bad) else .bad
      | _ => (match gLook L d e with
        | some (some y) => .ok y L
        | _ => .bad)))
  | .str _ => (match gLook L d e with
    | some (some y) => .ok y L
    | _ => .bad)
  | .tk _ => (match gLook L d e with
    | some (some y) => .ok y L
    | _ => .bad)
  | _ => .bad
theorem DenL.atI {G : Gb} {w : Wd} {vs : List V} {ds : List D} {i : Int} {d : D} (r : DenL G w vs ds) (h : L2.atI ds i = some d) : ∃ v, L2.atI vs i = some v ∧ Den G w v d := by
  unfold L2.atI at h ⊢
  rw [← r.length] at h
  obtain ⟨j, h1, h2⟩ := Option.bind_eq_some_iff.mp h
  obtain ⟨v, h3, h4⟩ := r.get h2
  exact ⟨v, by rw [h1]; exact h3, h4⟩
def rIxU (K : PySem.W.Frag) : R2 := fun x y H Q => rIxL K x y H Q ∨ rIxT K x y H Q ∨ rIxS x y H Q
theorem pe_ixU {X : Cx} {a b : Expr} {pos : Pos} (hu : X.A.units + 1 < cLine) {t u : TE} (ha : PE X a t) (hb : PE X b u) (hs : PlainIx b) : PE X (.Subscript a b pos) (fun σ H Q => tOp (rIxU X.K) t u σ H Q ∨ tDGet t u σ H Q) :=
  PE.or (pe_ix (ix_list.or (ix_tup.or ix_str)) ha hb hs) (pe_dget hu ha hb hs)
theorem ix_dec {G : Gb} {w : Wd} {L : Sto} {H : Hp} {d e : D} {y : D} {L' : Sto} (p : gIx d e L = .ok y L') : L' = L ∧ ((∃ o, gLook L d e = some (some y) ∧ seqOf L d = none ∧ o = y) ∨
    (∃ i, e = .int i ∧ ((∃ xs s, seqOf L d = some (xs, s) ∧ L2.atI xs i = some y) ∨ ∃ z c, d = .str z ∧ z.length ≤ 16777216 ∧ L2.atI z.cps.toList i = some c ∧ y = .str ⟨#[c]⟩))) := by
  unfold gIx at p
  split at p
  · split at p
    · rename_i xs s hs
      split at p
      · rename_i yy hy
        cases p
        exact ⟨rfl, .inr ⟨_, rfl, .inl ⟨xs, s, hs, hy⟩⟩⟩
      · cases p
    · split at p
      · split at p
        · rename_i hz
          split at p
          · rename_i c hc
            cases p
            exact ⟨rfl, .inr ⟨_, rfl, .inr ⟨_, c, rfl, hz, hc, rfl⟩⟩⟩
          · cases p
        · cases p
      · split at p
        · rename_i hl
          cases p
          exact ⟨rfl, .inl ⟨_, hl, by assumption, rfl⟩⟩
        · cases p
  · split at p
    · rename_i hl
      cases p
      refine ⟨rfl, .inl ⟨_, hl, ?_, rfl⟩⟩
      unfold gLook at hl
      cases d <;> first | rfl | (dsimp only [dictOf] at hl; cases hl) | skip
      rename_i n
      dsimp only [dictOf] at hl
      dsimp only [seqOf]
      split at hl <;> first | cases hl | skip
      all_goals (rename_i hh; split at hh <;> first | cases hh | skip)
      all_goals (rename_i hq; rw [hq])
    · cases p
  · split at p
    · rename_i hl
      cases p
      refine ⟨rfl, .inl ⟨_, hl, ?_, rfl⟩⟩
      unfold gLook at hl
      cases d <;> first | rfl | (dsimp only [dictOf] at hl; cases hl) | skip
      rename_i n
      dsimp only [dictOf] at hl
      dsimp only [seqOf]
      split at hl <;> first | cases hl | skip
      all_goals (rename_i hh; split at hh <;> first | cases hh | skip)
      all_goals (rename_i hq; rw [hq])
    · cases p
  · cases p
theorem se_ix (ha : SE S W a fa) (hb : SE S W b fb) (hs : PlainIx b := by intro _ _; rfl) : SE S W (.Subscript a b pos) (e2 gIx fa fb) := fun X h =>
  PE.imp (pe_ixU (by have := h.units; omega) (ha X h) (hb X h) hs) fun σ H Q ⟨w, ρ, L, R, e, p⟩ => by
    unfold e2 at p
    cases q1 : fa ρ L with
    | bad => rw [q1] at p; exact p.elim
    | err c x L1 => rw [q1] at p; exact .inl ⟨w, ρ, L, R, e, by rw [q1]; exact p⟩
    | ok d L1 =>
      rw [q1, Res.bind_ok] at p
      cases q2 : fb ρ L1 with
      | bad => rw [q2] at p; exact p.elim
      | err c x L2 => rw [q2] at p; exact .inl ⟨w, ρ, L, R, e, by rw [q1]; exact fun w1 H1 v l1 R1 d1 => ⟨w1, ρ, L1, R1, e.le l1, by rw [q2]; exact Post.le (r := .err c x L2) l1 p⟩⟩
      | ok k L2 =>
        rw [q2, Res.bind_ok] at p
        cases q3 : gIx d k L2 with
        | bad => rw [q3] at p; exact p.elim
        | err c x L3 =>
          exfalso
          unfold gIx at q3
          split at q3 <;> (try split at q3) <;> (try split at q3) <;> (try split at q3) <;> (try split at q3) <;> cases q3
        | ok y L3 =>
          rw [q3] at p
          obtain ⟨eL, hd⟩ := ix_dec (H := H) (G := S.g) (w := w) q3
          subst eL
          rcases hd with ⟨o, hl, hs, rfl⟩ | ⟨i, rfl, hh⟩
          · refine .inr ⟨w, ρ, L, R, e, by rw [q1]; exact fun w1 H1 v l1 R1 d1 => ⟨w1, ρ, L1, R1, e.le l1, by
              rw [q2]
              intro w2 H2 u l2 R2 d2
              have hk : ∀ b us, u = .ref b → SqT S.g.K w2.F b us → ∀ xs, k = .tup xs → H2 b = some (.tup us) := by
                intro b us e1 _ xs ek
                subst ek
                cases q3
              obtain ⟨a, ov, ea, g, od⟩ := look_at R2 (d1.le l2) d2 hl hk
              cases od with
              | some hv => exact ⟨a, _, ea, g, p w2 H2 _ (l1.trans l2) R2 hv⟩⟩⟩
          · refine .inl ⟨w, ρ, L, R, e, by rw [q1]; exact fun w1 H1 v l1 R1 d1 => ⟨w1, ρ, L1, R1, e.le l1, by
              rw [q2]
              intro w2 H2 u l2 R2 d2
              cases d2
              rw [← h.K]
              rcases hh with ⟨xs, s, hs, hy⟩ | ⟨z, c, rfl, hz, hc, rfl⟩
              · obtain ⟨kk, a, vs, rfl, hq, r⟩ := seq_now R2 (d1.le l2) hs
                obtain ⟨v', hv, dv⟩ := r.atI hy
                cases kk with
                | true => exact .inl ⟨a, vs, i, v', rfl, rfl, hq, hv, p w2 H2 _ (l1.trans l2) R2 dv⟩
                | false => exact .inr (.inl ⟨a, vs, i, v', rfl, rfl, hq, hv, p w2 H2 _ (l1.trans l2) R2 dv⟩)
              · cases d1
                exact .inr (.inr ⟨z, i, c, rfl, rfl, lineLe hz, hc, p w2 H2 _ (l1.trans l2) R2 (.str _)⟩)⟩⟩
def cutD (xs : List D) (lo hi : Option Int) : List D := (xs.drop (HT.sIx xs.length 0 lo)).take (HT.sIx xs.length xs.length hi - HT.sIx xs.length 0 lo)
theorem DenL.cut' {G : Gb} {w : Wd} {vs : List V} {ds : List D} (r : DenL G w vs ds) (lo hi : Option Int) : DenL G w (cutV vs lo hi) (cutD ds lo hi) := by
  unfold cutV cutD
  rw [r.length]
  exact (r.drop _).take _
abbrev OF := Env' → Sto → Res (Option Int)
def oNone : OF := fun _ L => .ok none L
def oSome (f : EF) : OF := fun ρ L => (f ρ L).bind fun d L1 => match d with
  | .int i => .ok (some i) L1
  | _ => .bad
def SO (S : Sc) (W : WX) (e : Option Expr) (f : OF) : Prop := ∀ X, S.Has W X → PO X e (tR S.g eqR W f)
theorem PO.imp {X : Cx} {e : Option Expr} {t u : TO} (h : PO X e t) (k : ∀ σ H Q, u σ H Q → t σ H Q) : PO X e u := ⟨fun pins s σ H Q I q => h.run pins s σ H Q I (k σ H Q q)⟩
theorem so_none : SO S W none oNone := fun X h => PO.imp po_none fun σ H Q ⟨w, ρ, L, R, e, p⟩ => Post.ok p (.refl w) R rfl
theorem so_some (ha : SE S W a fa) : SO S W (some a) (oSome fa) := fun X h => PO.imp (po_some (ha X h)) fun σ H Q ⟨w, ρ, L, R, e, p⟩ =>
  ⟨w, ρ, L, R, e, (Post.bind (rel := Den S.g) p).imp (fun v H1 ⟨w1, d, L1, l1, R1, d1, p1⟩ => by
    split at p1
    · cases d1; exact ⟨_, rfl, Post.ok p1 (.refl _) R1 rfl⟩
    · exact p1.elim) fun _ _ _ z => z⟩
def gSl0 (d : D) (lo hi : Option Int) (L : Sto) : Res D := match d with
  | .tup xs => .ok (.tup (cutD xs lo hi)) L
  | d => (match sqlOf L d with
    | some xs => .ok (.lst (cutD xs lo hi)) L
    | none => .bad)
def gSl (d : D) (l h : Option Int) (L : Sto) : Res D := gSl0 (lo d) l h L
def eSl (f : EF) (lo hi : OF) : EF := fun ρ L => (f ρ L).bind fun d L1 => (lo ρ L1).bind fun l L2 => (hi ρ L2).bind fun u L3 => gSl d l u L3
def rSlU (K : PySem.W.Frag) : V → Option Int → Option Int → Hp → VK → Prop := fun x lo hi H Q => rSlL K x lo hi H Q ∨ rSlA K x lo hi H Q
theorem gSl0_ok {G : Gb} {w : Wd} {L : Sto} {H : Hp} {x : V} {d : D} {lo hi : Option Int} {Q : VK} {E : XK} (R : Rel G w L H) (dx : Den G w x d) (p : Post G (Den G) w (gSl0 d lo hi L) Q E) : rSlU G.K x lo hi H Q := by
  unfold gSl0 at p
  split at p
  · rename_i xs
    cases dx with
    | @tup a vs _ hq r =>
      refine .inr ⟨a, vs, rfl, R.sqT hq, fun hw => ?_, fun hw q hq => ?_⟩
      · have hz : cutD xs lo hi = xs := by
          unfold cutD
          rw [← r.length, hw.1, hw.2, List.drop_zero, Nat.sub_zero, r.length]
          exact List.take_length
        rw [hz] at p
        exact Post.ok p (.refl w) R (.tup hq r)
      · obtain ⟨R2, l2⟩ := R.newF (o := .tup (cutV vs lo hi)) hq
        exact p _ _ _ l2 R2 (.tup (.inl (.inl upd_same)) ((r.cut' lo hi).le l2))
  · split at p
    · rename_i xs hx
      obtain ⟨a, vs, rfl, hq, r⟩ := sql_at R dx hx
      refine .inl ⟨a, vs, rfl, hq, fun q hq => ?_⟩
      obtain ⟨R2, l2⟩ := R.newF (o := .lst (cutV vs lo hi)) hq
      exact p _ _ _ l2 R2 (.lst upd_same ((r.cut' lo hi).le l2))
    · exact p.elim
theorem se_sl {lo hi : Option Expr} {fl fh : OF} {p2 : Pos} (ha : SE S W a fa) (hl : SO S W lo fl) (hh : SO S W hi fh) : SE S W (.Subscript a (.Slice lo hi none p2) pos) (eSl fa fl fh) := fun X h =>
  PE.imp (pe_slice (sl_list.or sl_tupA) (ha X h) (hl X h) (hh X h)) fun σ H Q ⟨w, ρ, L, R, e, p⟩ =>
    ⟨w, ρ, L, R, e, (Post.bind (rel := Den S.g) p).imp (fun v H1 ⟨w1, d, L1, l1, R1, d1, p1⟩ =>
      ⟨w1, ρ, L1, R1, e.le l1, (Post.bind (rel := eqR) p1).imp (fun l H2 ⟨w2, l', L2, l2, R2, d2, p2⟩ => by
        cases d2
        exact ⟨w2, ρ, L2, R2, (e.le l1).le l2, (Post.bind (rel := eqR) p2).imp (fun u H3 ⟨w3, u', L3, l3, R3, d3, p3⟩ => by
          cases d3
          rw [← h.K]
          exact gSl0_ok R3 (d1.le (l2.trans l3)).lo p3) fun _ _ _ z => z⟩) fun _ _ _ z => z⟩) fun _ _ _ z => z⟩
def eRev (f : EF) : EF := fun ρ L => (f ρ L).bind fun d L1 => match sqlOf L1 d with
  | some xs => .ok (.lst xs.reverse) L1
  | none => .bad
end
section
variable {S : Sc} {W : WX} {a b e c o : Expr} {es : List Expr} {fa fb fc f fo : EF} {fl : AF} {pos p apos cpos : Pos}
def isL (L : Sto) (d : D) : Bool := (sqlOf L d).isSome
def eBm (f : EF) (fl : AF) (g : D → List D → Sto → Res D) : EF := fun ρ L => (f ρ L).bind fun d L1 => if isL L1 d = true then (fl ρ L1).bind fun ds L2 => g d ds L2 else .bad
def RmD (G : Gb) (r : V → List V → Hp → VK → Prop) (g : D → List D → Sto → Res D) : Prop := ∀ (w : Wd) (L : Sto) (H : Hp) (x : V) (xs : List V) (d : D) (ds : List D) (Q : VK) (E : XK), Rel G w L H → Den G w x d → DenL G w xs ds → Post G (Den G) w (g d ds L) Q E → r x xs H Q
theorem isL_ty {G : Gb} {w : Wd} {L : Sto} {H : Hp} {v : V} {d : D} (R : Rel G w L H) (h : Den G w v d) (e : isL L d = true) : tyV G.K "list" v H := by
  obtain ⟨xs, hx⟩ := Option.isSome_iff_exists.mp e
  obtain ⟨a, vs, rfl, hq, r⟩ := sql_at R h hx
  exact .inl ⟨rfl, vs, hq⟩
theorem tBM_of {r : V → List V → Hp → VK → Prop} {g : D → List D → Sto → Res D} (hr : RmD S.g r g) {σ : St} {H : Hp} {Q : VK} (q : tR S.g (Den S.g) W (eBm f fl g) σ H Q) : tBM S.g.K "list" r (tR S.g (Den S.g) W f) (tR S.g (DenL S.g) W fl) σ H Q := by
  obtain ⟨w, ρ, L, R, e, p⟩ := q
  refine ⟨w, ρ, L, R, e, (Post.bind (rel := Den S.g) p).imp (fun x H1 ⟨w1, d, L1, l1, R1, d1, p1⟩ => ?_) fun _ _ _ z => z⟩
  split at p1
  · rename_i hl
    refine ⟨isL_ty R1 d1 hl, w1, ρ, L1, R1, e.le l1, (Post.bind (rel := DenL S.g) p1).imp (fun xs H2 ⟨w2, ds, L2, l2, R2, d2, p2⟩ => ?_) fun _ _ _ z => z⟩
    exact hr w2 L2 H2 x xs d ds Q _ R2 (d1.le l2) d2 p2
  · exact p1.elim
theorem se_bm {name : Str} {id : String} {r : V → List V → Hp → VK → Prop} {g : D → List D → Sto → Res D} (slot : Slot "list" name id) (hty : typeOf (.builtin id) = pure (.type "method_descriptor")) (hm : ∀ X, S.Has W X → MtR X id r) (hr : RmD S.g r g)
    (ho : SE S W o fo) (ha : SA S W (e :: es) fl) (hbase : ∀ env, attributeBase o name env (eval o env) = eval o env)
    (hfew : ∀ env, ((backTo cpos (starEach (e :: es) env)).all (fun x => !x.1) && (backToKw cpos (keywordEach [] env)).all (fun x => x.1.isSome) && decide ((e :: es).length + ([] : List Keyword).length + (if ([] : List Keyword).isEmpty then 0 else 1) < 30)) = true)
    (hline : (apos.endLine == cpos.line) = true) (hs : ∀ env, starEach (e :: es) env = (false, eval e env) :: starEach es env) (hplain : ∀ env, (backTo cpos (starEach es env)).any (·.1) = false) :
    SE S W (.Call (.Attribute o name apos) (e :: es) [] cpos) (eBm fo fl g) := fun X h =>
  PE.imp (pe_bm PySem.F.plainAttrs_list slot hty (hm X h) (ho X h) (ha X h) (hbase _) (hfew _) hline (hs _) (hplain _)) fun σ H Q q => by rw [← h.K]; exact tBM_of hr q
def boxL (L : Sto) (d : D) : Option (Nat × List D) := match d with
  | .loc n => (match L[n]? with
    | some (.lst xs) => some (n, xs)
    | _ => none)
  | _ => none
theorem box_at {G : Gb} {w : Wd} {L : Sto} {H : Hp} {v : V} {d : D} {n : Nat} {xs : List D} (R : Rel G w L H) (h : Den G w v d) (e : boxL L d = some (n, xs)) : ∃ a vs, v = .ref a ∧ w.φ[n]? = some a ∧ H a = some (.lst vs) ∧ DenL G w vs xs := by
  cases h with
  | @loc n a hn =>
    dsimp only [boxL] at e
    split at e
    · rename_i ys hy
      cases e
      obtain ⟨o, h1, h2⟩ := R.box _ _ _ hn hy
      cases h2 with
      | lst r => exact ⟨a, _, rfl, hn, h1, r⟩
    · cases e
  | _ => cases e
def gAppend (d : D) (ds : List D) (L : Sto) : Res D := match ds, boxL L d with
  | [y], some (n, xs) => if xs.length < 16777216 then .ok .non (L.set n (.lst (xs ++ [y]))) else .bad
  | _, _ => .bad
theorem gAppend_ok {G : Gb} : RmD G rAppend gAppend := by
  intro w L H x xs d ds Q E R dx dxs p
  unfold gAppend at p
  split at p
  · rename_i y n ys hb
    split at p
    · rename_i hz
      obtain ⟨a, vs, rfl, hn, ha, r⟩ := box_at R dx hb
      cases dxs with
      | cons h t =>
        cases t
        exact ⟨a, vs, _, rfl, rfl, ha, by rw [r.length]; exact lineLt hz, p w _ _ (.refl w) (R.put hn (.lst (r.snoc h))) .non⟩
    · exact p.elim
  · exact p.elim
theorem se_append (ho : SE S W o fo) (ha : SA S W [e] fl) (hbase : ∀ env, attributeBase o "append" env (eval o env) = eval o env := by intro _; rfl)
    (hfew : ∀ env, ((backTo cpos (starEach [e] env)).all (fun x => !x.1) && (backToKw cpos (keywordEach [] env)).all (fun x => x.1.isSome) && decide (([e] : List Expr).length + ([] : List Keyword).length + (if ([] : List Keyword).isEmpty then 0 else 1) < 30)) = true := by intro _; rfl)
    (hline : (apos.endLine == cpos.line) = true := by rfl) (hs : ∀ env, starEach [e] env = (false, eval e env) :: starEach [] env := by intro _; rfl) (hplain : ∀ env, (backTo cpos (starEach [] env)).any (·.1) = false := by intro _; rfl) :
    SE S W (.Call (.Attribute o "append" apos) [e] [] cpos) (eBm fo fl gAppend) := se_bm PySem.F.slot_list_append PySem.F.type_list_append (fun X h => mt_append) gAppend_ok ho ha hbase hfew hline hs hplain
end
section
variable {S : Sc} {W : WX} {a b e c o i : Expr} {es : List Expr} {fa fb fc f fo fi fx fk fv : EF} {fl : AF} {pos p apos cpos : Pos}
theorem PS.or {X : Cx} {e : Stmt} {t u : TS} (h : PS X e t) (k : PS X e u) : PS X e (fun D σ H => t D σ H ∨ u D σ H) := ⟨fun pins s σ H D I q => q.elim (h.run pins s σ H D I) (k.run pins s σ H D I)⟩
def putAt (d k v : D) (L : Sto) : Option Sto := match d with
  | .loc n => (match L[n]? with
    | some (.lst xs) => (match k with
      | .int i => (ixN xs.length i).map fun j => L.set n (.lst (xs.set j v))
      | _ => none)
    | some (.dK kvs) => (match dKey k with
      | some key => if kvs.length < 16777216 then some (L.set n (.dK (putD kvs key v))) else none
      | none => none)
    | _ => none)
  | _ => none
def sPut (fv fo fi : EF) : SF := fun ρ L => sBind (fv ρ L) ρ fun v L1 => sBind (fo ρ L1) ρ fun d L2 => sBind (fi ρ L2) ρ fun k L3 => match putAt d k v L3 with
  | some L' => .nx ρ L'
  | none => .bad
theorem putAt_cases {G : Gb} {w : Wd} {L L' : Sto} {H : Hp} {x y z : V} {d k v : D} (R : Rel G w L H) (dx : Den G w x d) (dy : Den G w y k) (dz : Den G w z v) (e : putAt d k v L = some L') :
    (∃ n, d = .loc n ∧ ∃ xs, L[n]? = some (.lst xs)) ∧ (∃ p xs i j H', x = .ref p ∧ y = .int i ∧ H p = some (.lst xs) ∧ ixN xs.length i = some j ∧ H' = upd H p (.lst (xs.set j z)) ∧ Rel G w L' H') ∨
    (∃ n, d = .loc n ∧ ∃ xs, L[n]? = some (.dK xs)) ∧ ∃ a H', x = .ref a ∧ DPut H a y z H' ∧ Rel G w L' H' := by
  cases dx with
  | @loc n a hn =>
    dsimp only [putAt] at e
    split at e
    · rename_i xs hxs
      split at e
      · rename_i i
        cases dy
        obtain ⟨j, hj, rfl⟩ := Option.map_eq_some_iff.mp e
        obtain ⟨ob, h1, h2⟩ := R.box _ _ _ hn hxs
        cases h2 with
        | lst r =>
          rw [← r.length] at hj
          exact .inl ⟨⟨n, rfl, xs, hxs⟩, a, _, i, j, _, rfl, rfl, h1, hj, rfl, R.put hn (.lst (r.set dz j))⟩
      · cases e
    · rename_i kvs hxs
      split at e
      · rename_i key hkey
        split at e
        · rename_i hz
          cases e
          obtain ⟨ob, h1, h2⟩ := R.box _ _ _ hn hxs
          cases h2 with
          | dK r =>
            rw [dy.key hkey]
            exact .inr ⟨⟨n, rfl, kvs, hxs⟩, a, _, rfl, DPut.k h1 (by rw [r.length]; exact lineLt hz), R.put hn (.dK (r.put dz))⟩
        · cases e
      · cases e
    · cases e
  | _ => cases e
theorem ss_put (hv : SE S W e fv) (ho : SE S W o fo) (hi : SE S W i fi) {spos : Pos}
    (hs : ∀ env, swapsWithSole [.Subscript o i spos] e pos.line env = pure false := by intro _; rfl) (hw : ∀ env, swappedStores [.Subscript o i spos] e env = pure none := by intro _; rfl)
    (h1 : ∀ env, (assignEach [.Subscript o i spos] env).map (·.2) = [assign (.Subscript o i spos) env] := by intro _; rfl)
    (ha : ∀ env v, assign (.Subscript o i spos) env v = (do
      let ov ← holding [v] (eval o env)
      let iv ← holding [v, ov] (eval i env)
      standAt spos
      holding [v, ov, iv] (setItem ov iv v)
      release [v, ov, iv] []) := by intro _ _; rfl)
    (hs2 : ∀ env, swapsWith e (some (.Subscript o i spos)) pos.line env = pure false := by intro _; rfl) :
    SS S W (.Assign [.Subscript o i spos] e pos) (sPut fv fo fi) := fun X h =>
  PS.imp (PS.or (ps_asg (hv X h) (pg_sub (ho X h) (hi X h) set_list (ha _)) (hs _) (hw _) (h1 _)) (ps_dput (by have := h.units; omega) (ho X h) (hi X h) (hv X h) (hs2 _))) fun D σ H ⟨w, ρ, L, R, e, p⟩ => by
    unfold sPut at p
    cases q1 : fv ρ L with
    | bad => rw [q1] at p; exact p.elim
    | err c x L1 => rw [q1] at p; exact .inl ⟨w, ρ, L, R, e, by rw [q1]; exact fun w1 H1 dx l R1 x1 C m => p w1 σ H1 dx l R1 (e.le l) x1 C m⟩
    | ok v L1 =>
      rw [q1, sBind_ok] at p
      cases q2 : fo ρ L1 with
      | bad => rw [q2] at p; exact p.elim
      | err c x L2 =>
        rw [q2] at p
        exact .inl ⟨w, ρ, L, R, e, by rw [q1]; exact fun w1 H1 u l1 R1 d1 => ⟨w1, ρ, L1, R1, e.le l1, by rw [q2]; exact fun w2 H2 dx l R2 x2 C m => p w2 σ H2 dx (l1.trans l) R2 ((e.le l1).le l) x2 C m⟩⟩
      | ok d L2 =>
        rw [q2, sBind_ok] at p
        cases q3 : fi ρ L2 with
        | bad => rw [q3] at p; exact p.elim
        | err c x L3 =>
          rw [q3] at p
          exact .inl ⟨w, ρ, L, R, e, by rw [q1]; exact fun w1 H1 u l1 R1 d1 => ⟨w1, ρ, L1, R1, e.le l1, by rw [q2]; exact fun w2 H2 u2 l2 R2 d2 => ⟨w2, ρ, L2, R2, (e.le l1).le l2, by
            rw [q3]; exact fun w3 H3 dx l R3 x3 C m => p w3 σ H3 dx ((l1.trans l2).trans l) R3 (((e.le l1).le l2).le l) x3 C m⟩⟩⟩
        | ok k L3 =>
          rw [q3, sBind_ok] at p
          cases q4 : putAt d k v L3 with
          | none => rw [q4] at p; exact p.elim
          | some L' =>
            rw [q4] at p
            by_cases hl : ∃ n, d = .loc n ∧ ∃ xs, L3[n]? = some (.lst xs)
            · refine .inl ⟨w, ρ, L, R, e, by rw [q1]; exact fun w1 H1 u l1 R1 d1 => ⟨w1, ρ, L1, R1, e.le l1, by rw [q2]; exact fun w2 H2 u2 l2 R2 d2 => ⟨w2, ρ, L2, R2, (e.le l1).le l2, by
                rw [q3]
                intro w3 H3 u3 l3 R3 d3
                rcases putAt_cases R3 (d2.le l3) d3 (d1.le (l2.trans l3)) q4 with ⟨_, pa, xs, ii, j, H', e1, e2, e3, e4, e5, R'⟩ | ⟨⟨n, e1, xs, e2⟩, _⟩
                · subst e5
                  exact ⟨pa, xs, ii, j, e1, e2, e3, e4, p w3 σ _ ((l1.trans l2).trans l3) R' (((e.le l1).le l2).le l3)⟩
                · obtain ⟨n', e3, ys, e4⟩ := hl
                  rw [e1] at e3; cases e3
                  rw [e2] at e4; cases e4⟩⟩⟩
            · refine .inr ⟨w, ρ, L, R, e, by rw [q1]; exact fun w1 H1 u l1 R1 d1 => ⟨w1, ρ, L1, R1, e.le l1, by rw [q2]; exact fun w2 H2 u2 l2 R2 d2 => ⟨w2, ρ, L2, R2, (e.le l1).le l2, by
                rw [q3]
                intro w3 H3 u3 l3 R3 d3
                rcases putAt_cases R3 (d2.le l3) d3 (d1.le (l2.trans l3)) q4 with ⟨z, _⟩ | ⟨_, a, H', e1, e2, R'⟩
                · exact absurd z hl
                · exact ⟨a, H', e1, e2, p w3 σ _ ((l1.trans l2).trans l3) R' (((e.le l1).le l2).le l3)⟩⟩⟩⟩
def dOut (box : Bool) (ds : List (Key × D)) (L : Sto) : Res D := if box = true then .ok (.loc L.length) (L ++ [.dK ds]) else .ok (.dK ds) L
def eDict0 (box : Bool) : EF := fun _ L => dOut box [] L
theorem dOut_go {G : Gb} {w : Wd} {L : Sto} {H : Hp} {vs : List (Key × V)} {xs : List (Key × D)} {Q : VK} {E : XK} {box : Bool} (p : Post G (Den G) w (dOut box xs L) Q E) (R : Rel G w L H) (d : DenK G w vs xs) (q : Addr) (hq : H q = none) : Q (.ref q) (upd H q (.dK vs)) := by
  unfold dOut at p
  split at p
  · obtain ⟨R2, l2⟩ := R.newB (o := .dK vs) (c := .dK xs) hq (.dK (DenK.le (w := w) (w' := ⟨w.F, w.φ ++ [q], w.prv⟩) ⟨⟨fun _ _ _ r => r, fun n a e => (List.getElem?_append_left (getElem?_lt e)).trans e, fun _ _ r => r⟩, rfl⟩ d))
    refine p _ _ _ l2 R2 (.loc ?_)
    show (w.φ ++ [q])[L.length]? = some q
    rw [← R.len, List.getElem?_append_right (Nat.le_refl _)]
    simp
  · obtain ⟨R2, l2⟩ := R.newF (o := .dK vs) hq
    exact p _ _ _ l2 R2 (.dK upd_same (d.le l2))
theorem se_dict0 (box : Bool) : SE S W (.Dict [] [] pos) (eDict0 box) := fun X h => PE.imp pe_dnewK fun σ H Q ⟨w, ρ, L, R, e, p⟩ => fun q hq => dOut_go p R .nil q hq
abbrev PF := Env' → Sto → Res (List (D × D))
def prsF : List (EF × EF) → PF
  | [] => fun _ L => .ok [] L
  | (fk, fv) :: r => fun ρ L => (fk ρ L).bind fun k L1 => (fv ρ L1).bind fun v L2 => (prsF r ρ L2).bind fun ps L3 => .ok ((k, v) :: ps) L3
inductive DenP (G : Gb) (w : Wd) : List (V × V) → List (D × D) → Prop where
  | nil : DenP G w [] []
  | cons {x y : V} {d e : D} {ps : List (V × V)} {qs : List (D × D)} (h : Den G w x d) (k : Den G w y e) (t : DenP G w ps qs) : DenP G w ((x, y) :: ps) ((d, e) :: qs)
def keyPs : List (D × D) → Option (List (Key × D))
  | [] => some []
  | (k, v) :: r => match dKey k, keyPs r with
    | some k, some r => some ((k, v) :: r)
    | _, _ => none
def mergeD (kvs more : List (Key × D)) : List (Key × D) := more.foldl (fun acc kv => putD acc kv.1 kv.2) kvs
def eDisp (box : Bool) (fs : List (EF × EF)) : EF := fun ρ L => (prsF fs ρ L).bind fun ps L1 => match keyPs ps with
  | some kds => if kds.length ≤ 15 then dOut box (mergeD [] kds) L1 else .bad
  | none => .bad
theorem OD.getD {G : Gb} {w : Wd} {ov : Option V} {od : Option D} {x : V} {d : D} (h : OD G w ov od) (hx : Den G w x d) : Den G w (ov.getD x) (od.getD d) := by
  cases h with
  | none => exact hx
  | some h => exact h
end
abbrev CS := Env' → D → Sto → Res D
open Classical in
noncomputable def cGo (src : List (Nat × D)) (tg : GF) (t : TF) (step : CS) (ρ : Env') : List D → D → Sto → Res D
  | [], c, L => .ok c L
  | d :: ds, c, L => match tg d ρ with
    | none => .bad
    | some ρ1 => match t ρ1 L with
      | .ok true L1 => (match step ρ1 c L1 with
        | .ok c' L2 => if srcOk L2 src then cGo src tg t step ρ ds c' L2 else .bad
        | _ => .bad)
      | .ok false L1 => if srcOk L1 src then cGo src tg t step ρ ds c L1 else .bad
      | _ => .bad
def stepD (fk fv : EF) : CS := fun ρ c L => match c, fk ρ L with
  | .dK kvs, .ok k L1 => (match dKey k, fv ρ L1 with
    | some key, .ok v L2 => if kvs.length < 16777216 then .ok (.dK (putD kvs key v)) L2 else .bad
    | _, _ => .bad)
  | _, _ => .bad
def boxOut (box : Bool) (c : D) (L : Sto) : Res D := if box = true then .ok (.loc L.length) (L ++ [c]) else .ok c L
noncomputable def eComp (box : Bool) (own : List Nat) (init : D) (it : IF) (tg : GF) (t : TF) (step : CS) : EF := fun ρ L => match it ρ L with
  | .ok its L1 => (cGo its.src tg t step (wipeE ρ own) its.ds init L1).bind (boxOut box)
  | .err c p L1 => .err c p L1
  | .bad => .bad
noncomputable def eCompO (out : D → Sto → Res D) (own : List Nat) (init : D) (it : IF) (tg : GF) (t : TF) (step : CS) : EF := fun ρ L => match it ρ L with
  | .ok its L1 => (cGo its.src tg t step (wipeE ρ own) its.ds init L1).bind out
  | .err c p L1 => .err c p L1
  | .bad => .bad
abbrev TB := St → Hp → (Hp → Prop) → Prop
def StepOk (G : Gb) (Dd : Addr) (B : TB) (step : CS) : Prop := ∀ (w : Wd) (ρ : Env') (σ : St) (L : Sto) (H : Hp) (c : D) (o : HO) (c' : D) (L' : Sto) (Nx : Hp → Prop), Rel G w L H → EnvR G w σ ρ → w.prv Dd = some o → BoxD G w o c → step ρ c L = .ok c' L' →
  (∀ w' H' o', w.le0 w' → w'.prv = upd w.prv Dd o' → Rel G w' L' H' → BoxD G w' o' c' → Nx H') → B σ H Nx
def bStepD (tk tv : TE) (Dd : Addr) : TB := fun σ H Nx => tk σ H fun y H4 => tv σ H4 fun z H5 => ∃ kvs k, y = kV k ∧ H5 Dd = some (.dK kvs) ∧ kvs.length < sizeLine ∧ Nx (upd H5 Dd (.dK (putK kvs k z)))
section
variable {G : Gb} {Dd : Addr}
theorem stepD_ok {fk fv : EF} : StepOk G Dd (bStepD (tR G (Den G) W0 fk) (tR G (Den G) W0 fv) Dd) (stepD fk fv) := by
  intro w ρ σ L H c o c' L' Nx R e hp hb hs hN
  unfold stepD at hs
  split at hs
  · rename_i kds k L1 q
    split at hs
    · rename_i key v L2 hk q2
      split at hs
      · rename_i hz
        cases hs
        refine ⟨w, ρ, L, R, e, ?_⟩
        rw [q]
        intro w1 H1 u l1 R1 d1
        refine ⟨w1, ρ, L1, R1, e.le l1, ?_⟩
        rw [q2]
        intro w2 H2 z l2 R2 d2
        cases hb with
        | @dK vs ds r =>
          have hp2 : w2.prv Dd = some (.dK vs) := by rw [l2.same, l1.same]; exact hp
          have l12 := l1.trans l2
          refine ⟨vs, key, d1.key hk, (R2.prv _ _ hp2).1, by rw [r.length]; exact lineLt hz, hN ⟨w2.F, w2.φ, upd w2.prv Dd (.dK (putK vs key z))⟩ _ (.dK (putK vs key z)) (l12.tole0.trans (Wd.prv_le _ _)) (by rw [l12.same]) (R2.putP hp2) (.dK (((r.le l12).put d2).le0 (Wd.prv_le _ _)))⟩
      · cases hs
    · cases hs
  · cases hs
theorem loop_ok {B : TB} {step : CS} (hB : StepOk G Dd B step) {its : Its} {J : It} {w1 : Wd} {L1 : Sto} {H1 : Hp} {o : HO} {c c' : D} {L' : Sto} {σ : St} {ρ : Env'} {own : List Nat} {ft : GF} {t : TF} {Nx : Hp → Prop}
    (io : ItOk G w1 its.src J its.ds) (R1 : Rel G w1 L1 H1) (so : srcOk L1 its.src) (hp : w1.prv Dd = some o) (hb : BoxD G w1 o c) (ew : EnvR G w1 (wipe σ own) (wipeE ρ own)) (hgo : cGo its.src ft t step (wipeE ρ own) its.ds c L1 = .ok c' L')
    (hN : ∀ w' H' o', w1.le0 w' → w'.prv = upd w1.prv Dd o' → Rel G w' L' H' → BoxD G w' o' c' → Nx H') :
    ∃ W : Nat → Nat → Hp → Prop, (∃ m, W 0 m H1) ∧ ∀ i m H, W i m H → (J.stop i H ∧ Nx H) ∨ (J.go i H ∧ ∃ Nx1 : Hp → Prop, (∀ H', Nx1 H' → ∃ m', m' < m ∧ W (i + 1) m' H') ∧ ∀ x H', J.yld i H x H' →
      tG G own ft x (wipe σ own) H' fun σ2 H2 => wipe σ2 own = wipe σ own ∧ tR G eqR W0 t σ2 H2 fun b H3 => if b = true then B σ2 H3 Nx1 else Nx1 H3) := by
  refine ⟨fun i m H => ∃ (w2 : Wd) (L2 : Sto) (o2 : HO) (c2 : D), w1.le0 w2 ∧ w2.prv = upd w1.prv Dd o2 ∧ Rel G w2 L2 H ∧ srcOk L2 its.src ∧ BoxD G w2 o2 c2 ∧ i ≤ its.ds.length ∧ m = its.ds.length - i ∧ cGo its.src ft t step (wipeE ρ own) (its.ds.drop i) c2 L2 = .ok c' L', ?_, ?_⟩
  · refine ⟨its.ds.length, w1, L1, o, c, .refl _, ?_, R1, so, hb, Nat.zero_le _, by simp, hgo⟩
    funext a
    unfold upd
    split
    · rename_i h; rw [h]; exact hp
    · rfl
  · rintro i m H ⟨w2, L2, o2, c2, l2, pv2, R2, so2, hb2, hi, rfl, p2⟩
    obtain ⟨k1, k2⟩ := io w2 L2 H l2 R2 so2 i
    by_cases hlt : i < its.ds.length
    · have hd : its.ds[i]? = some its.ds[i] := List.getElem?_eq_getElem hlt
      obtain ⟨g1, g2⟩ := k1 _ hd
      rw [List.drop_eq_getElem_cons hlt] at p2
      refine .inr ⟨g1, fun H => ∃ (w2 : Wd) (L2 : Sto) (o2 : HO) (c2 : D), w1.le0 w2 ∧ w2.prv = upd w1.prv Dd o2 ∧ Rel G w2 L2 H ∧ srcOk L2 its.src ∧ BoxD G w2 o2 c2 ∧ cGo its.src ft t step (wipeE ρ own) (its.ds.drop (i + 1)) c2 L2 = .ok c' L',
        fun H' ⟨w2, L2, o2, c2, x1, x2, x3, x4, x5, x6⟩ => ⟨its.ds.length - (i + 1), by omega, w2, L2, o2, c2, x1, x2, x3, x4, x5, hlt, rfl, x6⟩, fun x H' y => ?_⟩
      obtain ⟨w3, l3, R3, d3⟩ := g2 x H' y
      unfold cGo at p2
      cases qt : ft its.ds[i] (wipeE ρ own) with
      | none => simp only [qt] at p2; cases p2
      | some ρ3 =>
        simp only [qt] at p2
        have l13 : w1.le0 w3 := l2.trans l3.tole0
        refine ⟨w3, wipeE ρ own, L2, _, ρ3, R3, ew.le0 l13, d3, qt, fun σ3 e3 hw => ⟨hw.trans wipe_idem, w3, ρ3, L2, R3, e3, ?_⟩⟩
        cases qq : t ρ3 L2 with
        | bad => simp only [qq] at p2; cases p2
        | err _ _ _ => simp only [qq] at p2; cases p2
        | ok b L3 =>
          intro w4 H4 b' l4 R4 hb'
          subst hb'
          have pv4 : w4.prv = upd w1.prv Dd o2 := by rw [l4.same, l3.same]; exact pv2
          cases b' with
          | false =>
            simp only [qq] at p2
            rw [if_neg (by decide)]
            split at p2
            · rename_i hso
              exact ⟨w4, L3, o2, c2, l13.trans l4.tole0, pv4, R4, hso, (hb2.le0 l3.tole0).le0 l4.tole0, p2⟩
            · cases p2
          | true =>
            simp only [qq] at p2
            rw [if_pos rfl]
            cases qs : step ρ3 c2 L3 with
            | bad => simp only [qs] at p2; cases p2
            | err _ _ _ => simp only [qs] at p2; cases p2
            | ok c3 L4 =>
              simp only [qs] at p2
              split at p2
              · rename_i hso
                refine hB w4 ρ3 σ3 L3 H4 c2 o2 c3 L4 _ R4 (e3.le l4) (by rw [pv4]; exact upd_same) ((hb2.le0 l3.tole0).le0 l4.tole0) qs fun w5 H5 o5 l5 pv5 R5 hb5 => ?_
                exact ⟨w5, L4, o5, c3, (l13.trans l4.tole0).trans l5, by rw [pv5, pv4, upd_upd], R5, hso, hb5, p2⟩
              · cases p2
    · have hd : i = its.ds.length := by omega
      rw [List.drop_eq_nil_of_le (by omega)] at p2
      unfold cGo at p2
      cases p2
      exact .inl ⟨k2 hd, hN w2 H o2 l2 pv2 R2 hb2⟩
theorem ItOk.mono {w0 w : Wd} (l : w0.le0 w) {s : List (Nat × D)} {J : It} {ds : List D} (h : ItOk G w0 s J ds) : ItOk G w s J ds := fun w' L' H' l' R' so' i => h w' L' H' (l.trans l') R' so' i
end
section
variable {S : Sc} {W : WX} {a b e c tg iter elt tg1 iter1 kx vx : Expr} {es ifs ifs1 : List Expr} {fa fb f fk fv : EF} {pos : Pos}
theorem tTop_gen {out : D → Sto → Res D} {Qx : Addr → Hp → Prop} {own : List Nat} {fi : IF} {ft : GF} {t : TF} {init : D} {oi : HO} {step : CS} {B : Addr → TB} {σ : St} {H : Hp} {Q : VK} (hB : ∀ Dd, StepOk S.g Dd (B Dd) step) (hi : ∀ w, BoxD S.g w oi init)
    (q : tR S.g (Den S.g) W (eCompO out own init fi ft t step) σ H Q)
    (hout : ∀ (w0 w : Wd) (L : Sto) (H : Hp) (o : HO) (c : D) (Dd : Addr), Post S.g (Den S.g) w0 (out c L) Q (fun c dx H' => W c dx σ H') → Rel S.g w L H → w0.le0 w → w.prv Dd = some o → (∀ a u, w0.prv a = some u → a ≠ Dd ∧ w.prv a = some u) → BoxD S.g w o c → Qx Dd H) :
    tI S.g W fi σ H fun J H1 => ∀ D, H1 D = none → ∃ W1 : Nat → Nat → Hp → Prop, (∃ m, W1 0 m (upd H1 D oi)) ∧ ∀ i m H, W1 i m H →
      (J.stop i H ∧ Qx D H) ∨ (J.go i H ∧ ∃ Nx : Hp → Prop, (∀ H', Nx H' → ∃ m', m' < m ∧ W1 (i + 1) m' H') ∧ ∀ x H', J.yld i H x H' → tG S.g own ft x (wipe σ own) H' fun σ2 H2 => wipe σ2 own = wipe σ own ∧ tR S.g eqR W0 t σ2 H2 fun b H3 =>
        if b = true then B D σ2 H3 Nx else Nx H3) := by
  obtain ⟨w, ρ, L, R, e, p⟩ := q
  refine ⟨w, ρ, L, R, e, ?_⟩
  unfold eCompO at p
  cases q : fi ρ L with
  | bad => rw [q] at p; exact p
  | err c x L1 => rw [q] at p; exact p
  | ok its L1 =>
    rw [q] at p
    dsimp only at p
    intro w1 H1 J l1 R1 so io Dd hD
    have ew := (e.le l1).wipe own
    have R2 := R1.newP (o := oi) hD (hi w1).nt
    have l2 : w1.le0 ⟨w1.F, w1.φ, upd w1.prv Dd oi⟩ := Wd.prv_le _ _
    cases qg : cGo its.src ft t step (wipeE ρ own) its.ds init L1 with
    | bad => rw [qg] at p; exact p.elim
    | err _ _ _ =>
      exfalso
      revert qg
      generalize init = c0
      generalize L1 = Lz
      intro qg
      have : ∀ (ds : List D) (c : D) (L : Sto) (x : Str) (pp : List (Str × D)) (L' : Sto), cGo its.src ft t step (wipeE ρ own) ds c L ≠ .err x pp L' := by
        intro ds
        induction ds with
        | nil => intro c L x pp L' h; unfold cGo at h; cases h
        | cons d ds ih =>
          intro c L x pp L' h
          unfold cGo at h
          split at h
          · cases h
          · split at h
            · split at h
              · split at h
                · exact ih _ _ _ _ _ h
                · cases h
              · cases h
            · split at h
              · exact ih _ _ _ _ _ h
              · cases h
            · cases h
      exact this _ _ _ _ _ _ qg
    | ok c' L' =>
      rw [qg] at p
      refine loop_ok (hB Dd) (io.mono l2) R2 so upd_same (hi _) (ew.le0 l2) qg fun w' H' o' l' pv' R' hb' => ?_
      have p1 := Post.le l1 p
      refine hout _ _ _ _ _ _ _ p1 R' (l2.trans l') (by rw [pv']; exact upd_same) (fun a u h => ?_) hb'
      have na : a ≠ Dd := fun z => by rw [z] at h; rw [(R1.prv _ _ h).1] at hD; cases hD
      exact ⟨na, by rw [pv', upd_ne na]; show upd w1.prv Dd oi a = some u; rw [upd_ne na]; exact h⟩
def tLock (td : TE) : TE := fun σ H Q => td σ H fun x H1 => ∃ d u, x = .ref d ∧ H1 d = some u ∧ Mut (some u) ∧ ∀ od, Q x (upd H1 d (.frz od u))
theorem pe_lock {X : Cx} {e : Expr} {td : TE} (he : PE X e td) : PE X e (tLock td) := ⟨fun pins s σ H Q I h => thn (he.run pins s σ H _ I h) fun v s1 ⟨x, H1, I1, rx, d, u, ex, hd, mu, q⟩ => by
  obtain ⟨od, I2⟩ := I1.lock hd mu
  exact ⟨x, _, I2, rx, q od⟩⟩
def lockOut (c : D) (L : Sto) : Res D := match c with
  | .dK kvs => .ok (.dF kvs) L
  | .dT kvs => .ok (.dG kvs) L
  | _ => .bad
theorem lock_end {G : Gb} {w0 w : Wd} {L : Sto} {H : Hp} {o : HO} {c : D} {Q : VK} {E : XK} {Dd : Addr} (p : Post G (Den G) w0 (lockOut c L) Q E) (R : Rel G w L H) (l : w0.le0 w) (hp : w.prv Dd = some o)
    (hq : ∀ a u, w0.prv a = some u → a ≠ Dd ∧ w.prv a = some u) (hb : BoxD G w o c) : ∃ d u, V.ref Dd = .ref d ∧ H d = some u ∧ Mut (some u) ∧ ∀ od, Q (.ref Dd) (upd H d (.frz od u)) := by
  unfold lockOut at p
  cases hb with
  | @dK vs ds r =>
    refine ⟨Dd, _, rfl, (R.prv _ _ hp).1, trivial, fun od => ?_⟩
    obtain ⟨Rz, lz⟩ := R.outQ (o' := .frz od (.dK vs)) hp w0.prv hq
    exact p _ _ _ ⟨l.trans lz, rfl⟩ Rz (.dF upd_same (r.le0 lz))
  | @dT vs ds r =>
    refine ⟨Dd, _, rfl, (R.prv _ _ hp).1, trivial, fun od => ?_⟩
    obtain ⟨Rz, lz⟩ := R.outQ (o' := .frz od (.dT vs)) hp w0.prv hq
    exact p _ _ _ ⟨l.trans lz, rfl⟩ Rz (.dG upd_same (r.le0 lz))
  | _ => exact p.elim
theorem se_dcF {fi : IF} {ft : GF} {t : TF} {scope : Scope} (own : List (Str × Nat)) (hN : S.N.Nodup) (hi : SI S W tg iter fi) (ok : blkC S.N S.sc scope own = true)
    (hg : SG (S.blk scope) W0 (own.map (·.2)) tg ft) (ht : STs (S.blk scope) W0 ifs t) (hk : SE (S.blk scope) W0 kx fk) (hv : SE (S.blk scope) W0 vx fv) (hs : ∀ env x, foldedSetIterable iter env x = pure x := by intro _ _; rfl) :
    SE S W (.DictComp kx vx [⟨tg, iter, ifs, 0⟩] scope pos) (eCompO lockOut (own.map (·.2)) (.dK []) fi ft t (stepD fk fv)) := fun X h =>
  PE.imp (pe_lock (pe_dc (own := own) h.calm (by rw [← h.N]; exact hN) (hi X h) (blkOk_by (by rw [← h.N, ← h.sc]; exact ok)) (fun s H C cl fp => hg _ (h.blk s H C cl fp)) (fun s H C cl fp => ht _ (h.blk s H C cl fp)) (fun s H C cl fp => hk _ (h.blk s H C cl fp)) (fun s H C cl fp => hv _ (h.blk s H C cl fp)) (hs _)))
    fun σ H Q q => tTop_gen (B := bStepD (tR S.g (Den S.g) W0 fk) (tR S.g (Den S.g) W0 fv)) (fun _ => stepD_ok) (fun _ => .dK .nil) q fun _ _ _ _ _ _ _ p R l hp hq hb => lock_end p R l hp hq hb
end
structure CompDen (comp : Expr) : Prop where
  loop : ∀ (prog : Program) (w : World) (k : Nat) (it acc : Value) (env : Env), (model prog w).den (.compLoop comp k it acc env) = (compTurn comp k it acc env).onRaise (fun x => do noteFrame x env; theTreesLotGoes x)
  start : ∀ (prog : Program) (w : World) (k : Nat) (it acc : Value) (env : Env), (model prog w).den (.compStart comp k it acc env) = (compStart comp k it acc env).onRaise (fun x => do noteFrame x env; standAt theWindowsPlace)
  loopA : ∀ (A : Around) (k : Nat) (it acc : Value) (env : Env), A.under (.compLoop comp k it acc env) = A
  startA : ∀ (A : Around) (k : Nat) (it acc : Value) (env : Env), A.under (.compStart comp k it acc env) = A
section
variable {S : Sc} {W : WX} {kx vx elt tg iter tg1 iter1 tg2 iter2 : Expr} {ifs ifs1 ifs2 : List Expr} {f fk fv : EF} {pos : Pos}
end
structure FnX (gd : Bool) (P : Program) (w : World) (K : PySem.W.Frag) (mg : Str → Option Value) (base : Heap) (CX : CXT) (k : Nat) (f : Addr) (fd : FuncData) (ps : List Str) (sp : Sp) : Prop where
  len : ∀ vs H Q E, sp vs H Q E → vs.length = ps.length
  run : ∀ (A : Around) (outer : List Env) (s : Shared) (H : Hp) (args : Args) (us : List Value) (vs : List V) (Q : VK) (E : XK), Room k A → (gd = true → A.guards = some []) → Env0 P w K mg base A outer s H → BindsTo s fd args (ps.zip us) → Vals vs us → sp vs H Q E →
    codeAny (model P w) A (.call (.ref f) args) (CR CX outer P w H s Q E) s
section
variable {P : Program} {w : World} {K : PySem.W.Frag} {mg : Str → Option Value} {base : Heap} {CX : CXT} {k : Nat} {f : Addr} {fd : FuncData} {ps : List Str} {sp : Sp} {gd : Bool}
theorem FnX.ok (F : FnX false P w K mg base CX k f fd ps sp) : FnOk P w K mg base CX k f fd ps sp := ⟨F.len, fun A outer s H args us vs Q E hr e0 hb r q => F.run A outer s H args us vs Q E hr (fun z => nomatch z) e0 hb r q⟩
theorem FnX.of (F : FnOk P w K mg base CX k f fd ps sp) : FnX gd P w K mg base CX k f fd ps sp := ⟨F.len, fun A outer s H args us vs Q E hr _ e0 hb r q => F.run A outer s H args us vs Q E hr e0 hb r q⟩
theorem FnX.mono (F : FnX gd P w K mg base CX k f fd ps sp) {j : Nat} (h : k ≤ j) : FnX gd P w K mg base CX j f fd ps sp := ⟨F.len, fun A outer s H args us vs Q E hr => F.run A outer s H args us vs Q E (hr.mono h)⟩
theorem fnX_of {x qual : Str} {params : Arguments} {body : List Stmt} {scope : Scope} {dvs : List V} {kws : List (Str × V)} {N : List Str} (F : FunD K x qual params body scope dvs kws f fd) (S : FnScope N ps scope) (len : ∀ vs H Q E, sp vs H Q E → vs.length = ps.length)
    (hbody : ∀ (cdv : Value) (A : Around) (outer : List Env) (s : Shared) (H : Hp) (vs : List V) (Q : VK) (E : XK), Room k (A.deeper (envOfC qual scope s.heap.objs.size f cdv)) → (gd = true → A.guards = some []) → fd.code = cdv → sp vs H Q E →
      ∃ t, PSs (cxOf CX P w K mg base N qual scope f cdv A outer s H E) body t ∧ t { nx := fun _ H' => Q .non H', rt := Q } (L2.start N vs) H) : FnX gd P w K mg base CX (k + 1) f fd ps sp := by
  obtain ⟨oc, od, dV, kV, doc, pm, an, cdv, ct, osl, rfl, lk, hcd, _, _⟩ := F.ex
  exact ⟨len, fun A outer s H args us vs Q E hr hg e0 hb r q => LamX.run_ofS lk hcd S hr e0 hb r (len _ _ _ _ q) fun hr' => hbody cdv A outer s H vs Q E hr' hg rfl q⟩
end
section
variable {X : Cx} {CX : CXT} {k : Nat} {f : Addr} {fd : FuncData} {ps : List Str} {sp : Sp} {dvs : List V} {ds : List Value} {E : St → XK} {x : Str} {p pos : Pos} {e : Expr} {es : List Expr} {t : TA} {gd : Bool}
theorem run_fnX {pins : List (Addr × Obj)} {σ : L2.St} {H : Hp} {s : Shared} {Q : VK} {us : List Value} {vs : List V} (F : FnX gd X.prog X.w X.K X.mg X.base CX k f fd ps sp) (hr : Room k X.A) (hgd : gd = true → X.A.guards = some [])
    (hb : Binds X.K fd ps ds) (hd : Vals dvs ds) (hx : PassesAt CX X σ (E σ)) (I : Inv X pins σ H s) (r : Vals vs us) (h : sp (vs ++ dvs) H Q (E σ)) : wpAny (model X.prog X.w) X.A (call (.ref f) us) (EP X pins σ Q) X.xe s := by
  have rr : Vals (vs ++ dvs) (us ++ ds) := r.append hd
  have lh : (us ++ ds).length = ps.length := rr.length.symm.trans (F.len _ _ _ _ h)
  have run := F.run X.A X.stack s H ⟨us, []⟩ _ _ Q (E σ) hr hgd I.env0 (hb s us I.kIn lh) rr h
  refine wpAny_call (codeAny_mono run fun z s' hz => ?_)
  match z, hz with
  | .error er, hz => exact hx pins H s er s' I hz
  | .ok (.ret u), hz => exact I.after hz
  | .ok .next, hz => exact hz.elim
  | .ok .brk, hz => exact hz.elim
  | .ok .cont, hz => exact hz.elim
theorem pe_callX (F : FnX gd X.prog X.w X.K X.mg X.base CX k f fd ps sp) (hr : Room k X.A) (hgd : gd = true → X.A.guards = some []) (hg : Gl X x) (hm : X.mg x = some (.ref f)) (hk : PySem.W.keepIn X.K (.ref f) = true) (hb : Binds X.K fd ps ds) (hd : Vals dvs ds)
    (hx : ∀ σ, PassesAt CX X σ (E σ)) (ha : PA X (e :: es) t) (hdb : (x == ("__debug__" : Str)) = false) (he : starEach (e :: es) X.env = (false, eval e X.env) :: starEach es X.env) (hpl : (backTo pos (starEach es X.env)).any (·.1) = false) :
    PE X (.Call (.Name x p) (e :: es) [] pos) (tCallSD sp dvs E t) :=
  ⟨fun pins s σ H Q I h => wpAny_Call_Name_kw (ld_glob I hg hm (PySem.W.callWith_K (h₀ := X.base) I.ok.mod.kin hk (thn (ha.run pos pins s σ H _ I h) fun us s1 ⟨vs, H1, J, r, q⟩ => ⟨J.kIn, run_fnX F hr hgd hb hd (hx σ) J r q⟩) he hpl) hdb)⟩
end
def spD (G : Gb) (n : Nat) (m : List D → Sto → Res D) : Sp := fun vs H Q E => vs.length = n ∧ ∃ w L ds, Rel G w L H ∧ DenL G w vs ds ∧ Post G (Den G) w (m ds L) Q E
structure FnIs (gd : Bool) (G : Gb) (x : Str) (n k : Nat) (m : List D → Sto → Res D) (dd : List D) : Prop where
  ex : ∃ (f : Addr) (fd : FuncData) (ps : List Str) (ds : List Value) (dvs : List V), G.mg x = some (.ref f) ∧ PySem.W.keepIn G.K (.ref f) = true ∧ Binds G.K fd ps ds ∧ Vals dvs ds ∧ (∀ w, DenL G w dvs dd) ∧
    FnX gd G.P G.w G.K G.mg G.base (L2.CX G.P G.w) k f fd ps (spD G n m)
def eCall (n : Nat) (m : List D → Sto → Res D) (dd : List D) (fl : AF) : EF := fun ρ L => (fl ρ L).bind fun ds L1 => if (ds ++ dd).length = n then m (ds ++ dd) L1 else .bad
section
variable {S : Sc} {W : WX} {a b e c o i : Expr} {es : List Expr} {fl : AF} {pos p : Pos} {x : Str} {n k : Nat} {m : List D → Sto → Res D} {dd : List D} {gd : Bool}
theorem se_call (F : FnIs gd S.g x n k m dd) (hk : k ≤ S.k) (ha : SA S W (e :: es) fl) (hg : Glb S x := by rfl) (hdb : (x == ("__debug__" : Str)) = false := by decide)
    (he : ∀ env, starEach (e :: es) env = (false, eval e env) :: starEach es env := by intro _; rfl) (hpl : ∀ env, (backTo pos (starEach es env)).any (·.1) = false := by intro _; rfl) (hgd : gd = true → S.gd = true := by first | (intro z; cases z; done) | (intro _; rfl)) :
    SE S W (.Call (.Name x p) (e :: es) [] pos) (eCall n m dd fl) := fun X h => by
  obtain ⟨f, fd, ps, ds, dvs, hm, hkp, hb, hd, hdd, F⟩ := F.ex
  rw [h.P, h.w, h.K, h.mg, h.base] at F
  refine PE.imp (pe_callX (x := x) (E := WE W) F (h.room.mono hk) (fun z => h.gd (hgd z)) (by show X.env.scope.names.lookup _ = _; rw [← h.sc]; exact hg) (by rw [← h.mg]; exact hm) (by rw [← h.K]; exact hkp) (by rw [← h.K]; exact hb) hd (fun σ => L2.passAt h.takes σ) (ha X h) hdb (he _) (hpl _)) fun σ H Q ⟨w, ρ, L, R, e, p⟩ => ?_
  refine ⟨w, ρ, L, R, e, (Post.bind (rel := DenL S.g) p).imp (fun vs H1 ⟨w1, xs, L1, l1, R1, d1, p1⟩ => ?_) fun _ _ _ z => z⟩
  split at p1
  · rename_i hn
    have hl : (vs ++ dvs).length = n := by rw [← hn]; exact (d1.append (hdd w1)).length
    exact ⟨hl, w1, L1, xs ++ dd, R1, d1.append (hdd w1), p1⟩
  · exact p1.elim
end
def fin : SRes → Res D
  | .nx _ L => .ok .non L
  | .rt d L => .ok d L
  | .err c p _ L => .err c p L
  | _ => .bad
def startE (N : Nat) (ds : List D) : Env' := ds.map some ++ List.replicate (N - ds.length) none
theorem env_start {G : Gb} {w : Wd} {N : List Str} {vs : List V} {ds : List D} (h : DenL G w vs ds) : EnvR G w (L2.start N vs) (startE N.length ds) := by
  unfold L2.start startE
  rw [← h.length]
  refine ⟨by simp [h.length], fun i d q => ?_⟩
  by_cases hi : i < ds.length
  · rw [List.getElem?_append_left (by simpa using hi)] at q
    rw [List.getElem?_map] at q
    cases hd : ds[i]? with
    | none => rw [hd] at q; cases q
    | some d' =>
      rw [hd] at q
      cases q
      obtain ⟨v, hv, dv⟩ := h.get hd
      refine ⟨v, ?_, dv⟩
      rw [List.getElem?_append_left (by rw [List.length_map]; exact getElem?_lt hv), List.getElem?_map, hv] <;> rfl
  · rw [List.getElem?_append_right (by simpa using hi)] at q
    exfalso
    have := List.mem_of_getElem? q
    have := List.eq_of_mem_replicate this
    cases this
def mOf (N : Nat) (g : SF) : List D → Sto → Res D := fun ds L => fin (g (startE N ds) L)
noncomputable def mDrop (N : Nat) (g : SF) : List D → Sto → Res D := fun ds L => dropR L (mOf N g ds L)
section
variable {G : Gb} {x qual : Str} {params : Arguments} {body : List Stmt} {scope : Scope} {dvs : List V} {kws : List (Str × V)} {f : Addr} {fd : FuncData} {N ps : List Str} {k : Nat} {g : SF} {m : List D → Sto → Res D} {gd : Bool} {lm : Option Str}
def LmOk (G : Gb) (qual q : Str) (fd : FuncData) : Prop := ∃ c P, fd.code = .ref c ∧ LamX.TabB G.base G.mg c P ∧ (P, some ((qual ++ ".<locals>.") ++ q)) ∈ G.tabs
theorem fin_post {w : Wd} {r : SRes} {Q : VK} {E : XK} (p : Post G (Den G) w (fin r) Q E) : PostS G w r { nx := fun _ H' => Q .non H', rt := Q } (fun c d _ H => E c d H) := by
  cases r with
  | nx ρ L => exact fun w1 σ H l R e => p w1 H .non l R .non
  | rt d L => exact fun w1 v H l R h => p w1 H v l R h
  | err c q ρ L => exact fun w1 σ H dx l R e x C m => p w1 H dx l R x C m
  | bk ρ L => exact p.elim
  | ct ρ L => exact p.elim
  | bad => exact p
theorem fn_body (F : FunD G.K x qual params body scope dvs kws f fd) (Sc0 : FnScope N ps scope) (hb : ∀ W, SSs ⟨G, N, scope, fun _ => true, k, gd, true, lm⟩ W body g)
    (hm : ∀ w L H ds Q E, Rel G w L H → Post G (Den G) w (m ds L) Q E → Post G (Den G) w (mOf N.length g ds L) Q E) (hlm : ∀ q, lm = some q → LmOk G qual q fd) :
    FnX gd G.P G.w G.K G.mg G.base (L2.CX G.P G.w) (k + 1) f fd ps (spD G ps.length m) := by
  refine fnX_of F Sc0 (fun vs H Q E h => h.1) fun cdv A outer s H vs Q E hr hgd ecd ⟨hl, w, L, ds, R, d, p⟩ => ?_
  have hX : Sc.Has ⟨G, N, scope, fun _ => true, k, gd, true, lm⟩ (fun c d _ H => E c d H) (cxOf (L2.CX G.P G.w) G.P G.w G.K G.mg G.base N qual scope f cdv A outer s H E) :=
    ⟨rfl, rfl, rfl, rfl, rfl, rfl, rfl, rfl, rfl, hr, hgd, fun _ => ⟨rfl, rfl⟩, fun q z => (hlm q z).elim fun c ⟨P, e, tb, hm⟩ => ⟨c, P, ecd.symm.trans e, tb, hm⟩, takes_of rfl rfl rfl rfl, passes_of rfl⟩
  refine ⟨_, hb _ _ hX, w, startE N.length ds, L, R, env_start d, fin_post (hm w L H ds Q E R p)⟩
theorem fnIs_plain (F : FunD G.K x qual params body scope dvs kws f fd) (Sc0 : FnScope N ps scope) (hb : ∀ W, SSs ⟨G, N, scope, fun _ => true, k, gd, true, lm⟩ W body g) {y : Str} (hy : G.mg y = some (.ref f)) {us : List Value} {dd : List D}
    (hB : Binds G.K fd ps us) (hd : Vals dvs us) (hdd : ∀ w, DenL G w dvs dd) (hlm : ∀ q, lm = some q → LmOk G qual q fd) : FnIs gd G y ps.length (k + 1) (mOf N.length g) dd :=
  ⟨f, fd, ps, us, dvs, hy, F.kp, hB, hd, hdd, fn_body F Sc0 hb (fun _ _ _ _ _ _ _ p => p) hlm⟩
theorem fnIs_drop (F : FunD G.K x qual params body scope dvs kws f fd) (Sc0 : FnScope N ps scope) (hb : ∀ W, SSs ⟨G, N, scope, fun _ => true, k, gd, true, lm⟩ W body g) {y : Str} (hy : G.mg y = some (.ref f)) {us : List Value} {dd : List D}
    (hB : Binds G.K fd ps us) (hd : Vals dvs us) (hdd : ∀ w, DenL G w dvs dd) (hlm : ∀ q, lm = some q → LmOk G qual q fd) : FnIs gd G y ps.length (k + 1) (mDrop N.length g) dd :=
  ⟨f, fd, ps, us, dvs, hy, F.kp, hB, hd, hdd, fn_body F Sc0 hb (fun w L H ds Q E R p => Post.drop R p) hlm⟩
end
theorem FnIs.imp {gd : Bool} {G : Gb} {x : Str} {n k : Nat} {m m' : List D → Sto → Res D} {dd : List D} (F : FnIs gd G x n k m dd) (h : ∀ ds L, ds.length = n → m' ds L = .bad ∨ m' ds L = m ds L) : FnIs gd G x n k m' dd := by
  obtain ⟨f, fd, ps, ds, dvs, h1, h2, h3, h4, h5, F⟩ := F.ex
  refine ⟨f, fd, ps, ds, dvs, h1, h2, h3, h4, h5, ⟨fun vs H Q E q => ?_, fun A outer s H args us vs Q E hr hgd e0 hb r q => ?_⟩⟩
  · obtain ⟨hl, w, L, ds, R, d, p⟩ := q
    refine F.len vs H Q E ⟨hl, w, L, ds, R, d, ?_⟩
    rcases h ds L (d.length.symm.trans hl) with z | z
    · rw [z] at p; exact p.elim
    · rw [z] at p; exact p
  · obtain ⟨hl, w, L, ds, R, d, p⟩ := q
    refine F.run A outer s H args us vs Q E hr hgd e0 hb r ⟨hl, w, L, ds, R, d, ?_⟩
    rcases h ds L (d.length.symm.trans hl) with z | z
    · rw [z] at p; exact p.elim
    · rw [z] at p; exact p
section
variable {S : Sc} {W : WX} {a b c e c o : Expr} {es : List Expr} {fa fb fc f : EF} {fl : AF} {pos p : Pos}
def sPar (i j : Nat) (fl : AF) : SF := fun ρ L => match fl ρ L with
  | .ok [d, e] L1 => .nx ((ρ.set i (some d)).set j (some e)) L1
  | .err c p L1 => .err c p ρ L1
  | _ => .bad
theorem se_cst {x : Str} {v : V} {d : D} (hm : ∃ u, S.g.mg x = some u ∧ RelV v u) (hd : ∀ w, Den S.g w v d) (hg : Glb S x := by rfl) (hdb : (x == ("__debug__" : Str)) = false := by decide) : SE S W (.Name x pos) (eC d) := fun X h => by
  obtain ⟨u, h1, h2⟩ := hm
  exact se_glob (W := W) hg h1 h2 hd hdb X h
end
section
variable {prog : Program} {w : World} {A : Around} {E : Value → Shared → Prop} {s : Shared}
theorem collectT {t : Addr} {vs : List Value} {Q : List Value → Shared → Prop} (ht : IsTup s.heap t vs.toArray) (hz : vs.length ≤ sizeLine)
    (h : Q vs { s with heap := (s.heap.push (seqObj "list" #[] 0)).update s.heap.objs.size (Obj.mapSeq (· ++ vs.toArray)) }) : wpAny (model prog w) A (collect (.ref t)) Q E s := by
  obtain ⟨ob, hob, hcls, n, hdat⟩ := ht
  have hob' : (s.heap.push (seqObj "list" #[] 0)).get? t = some ob := Heap.get?_push_of_some _ hob
  have hnew : (s.heap.push (seqObj "list" #[] 0)).get? s.heap.objs.size = some (seqObj "list" #[] 0) := Heap.get?_push_size _ rfl
  unfold collect
  refine wpAny_bind (wpAny_runValue (codeAny_builtin entry_proto_collect' ?_))
  show wpAny _ _ (do again (.builtin "list.__iadd__" ⟨[← newList [], .ref t], []⟩)) _ _ s
  refine wpAny_bind (wpAny_newList (wpAny_pure ⟨Code.quiet_builtin _ (by decide +kernel), codeAny_builtin entry_list_iadd' ?_⟩))
  show wpAny _ _ (Builtin.List.listExtendWith (.ref s.heap.objs.size) (.ref t) (.ref s.heap.objs.size)) _ _ { s with heap := s.heap.push (seqObj "list" #[] 0) }
  unfold Builtin.List.listExtendWith
  refine wpAny_bind (wpAny_typeOf (T := "tuple") ⟨ob, hob', hcls⟩ ?_)
  have hty : (Value.type "tuple" == Value.type "tuple") = true := by rfl
  rw [if_pos (by rw [hty]; simp)]
  refine wpAny_bind (listItems_at hob' hdat (wpAny_bind (listItems_at (xs := #[]) (n := 0) hnew rfl ?_)))
  rw [if_neg (by simp)]
  refine wpAny_bind (listUpdate_at (xs := #[]) (n := 0) hnew rfl ?_ (Nat.zero_le _) (by show (#[] ++ vs.toArray).size ≤ sizeLine + 1; simp only [Array.size_append, List.size_toArray, List.length_nil]; omega))
  refine wpAny_pure ?_
  show wpAny (model prog w) A (do
    let o ← load s.heap.objs.size
    match o.data with
    | .seq xs _ => pure xs.toList
    | _ => unsupported "internal:collect") Q E { s with heap := (s.heap.push (seqObj "list" #[] 0)).update s.heap.objs.size (Obj.mapSeq (· ++ vs.toArray)) }
  refine wpAny_bind (wpAny_load (get?_update_seq hnew _) ?_)
  show wpAny _ _ (pure ((#[] : Array Value) ++ vs.toArray).toList) Q E _
  have he : ((#[] : Array Value) ++ vs.toArray).toList = vs := by simp
  rw [he]
  exact wpAny_pure h
theorem sortedT {t : Addr} {vs : List Value} {ltv : Value → Value → Bool} {Q : Value → Shared → Prop} (O : SrtO.Swo ltv) (ht : IsTup s.heap t vs.toArray) (hz : vs.length ≤ sizeLine)
    (hS : 2 ≤ vs.length → ∀ (h₁ : Heap) (a : Addr), SrtO.SortableO prog w A.in1.in1 { s with heap := h₁ } a vs ltv)
    (h : ∀ out : List Value, SrtO.Srtd ltv out → SrtO.Stb ltv out vs → Q (.ref (s.heap.objs.size + 1)) { s with heap := sortedAll s.heap vs out.toArray }) :
    wpAny (model prog w) A (call (.builtin "sorted") [.ref t]) Q E s := by
  refine Calls.call_function_entry kind_sorted plain_sorted entry_sorted (args_sorted1 _) ?_
  unfold Builtin.«sorted»
  refine wpAny_bind (m := checkCount "sorted" 1 1 _) (wpAny_pure (wpAny_bind (collectT ht hz (wpAny_bind (wpAny_newList ?_ hz)))))
  have hsz : ((s.heap.push (seqObj "list" #[] 0)).update s.heap.objs.size (Obj.mapSeq (· ++ vs.toArray))).objs.size = s.heap.objs.size + 1 := (Heap.size_update _ _ _).trans (size_push' _ _)
  generalize hh : (s.heap.push (seqObj "list" #[] 0)).update s.heap.objs.size (Obj.mapSeq (· ++ vs.toArray)) = h1 at hsz ⊢
  have hoL : (h1.push (seqObj "list" vs.toArray 0)).get? (s.heap.objs.size + 1) = some (seqObj "list" vs.toArray 0) := by rw [← hsz]; exact Heap.get?_push_size _ rfl
  show wpAny _ _ _ _ _ { s with heap := h1.push (seqObj "list" vs.toArray 0) }
  rw [hsz]
  refine wpAny_bind (wpAny_holding (wpAny_call_entry slot_list_sort ⟨_, hoL, rfl⟩ entry_list_sort (SrtO.list_sort_ord O hoL hz (fun h2 => hS h2 _ _) fun out hs hb => ⟨_, rfl, ?_⟩) (args_list_sort _)))
  subst hh
  exact wpAny_pure ⟨_, rfl, h out hs hb⟩
end
def rSortedTI (K : PySem.W.Frag) : List V → Hp → VK → Prop := fun vs H Q => ∃ (a : Addr) (ns : List Int), vs = [V.ref a] ∧ SqT K H a (ns.map V.int) ∧ ∀ (ms : List Int) (p : Addr), ms.Perm ns → ms.Pairwise (· ≤ ·) → H p = none → Q (.ref p) (upd H p (.lst (ms.map V.int)))
theorem cr_sortedTI {X : Cx} : CallR X (.builtin "sorted") (rSortedTI X.K) := by
  intro pins s σ H vs us Q I r h
  obtain ⟨a, ns, rfl, hs, q⟩ := h
  obtain ⟨its, rv, hl, hz⟩ := I.tuple hs
  rw [Vals.ref1 r]
  have hi := rv.ints
  have hzz := hz
  rw [List.length_map] at hzz
  refine sortedT SrtO.swo_int hl (by rw [← rv.length]; exact hz) (fun h2 _ _ => SrtO.ints_sortable hi h2) fun out h1 h2 => ?_
  obtain ⟨k1, k2, k3⟩ := SrtO.ints_out hi h1 h2
  obtain ⟨ep, he'⟩ := PyProof.Rows.sortedAll_at s.heap its out.toArray
  have hlen : ((out.map SrtO.iv).map V.int).length ≤ sizeLine := by rw [List.length_map, k2.length_eq]; exact hzz
  have new : ObjOk X.prog X.w (upd H (s.heap.objs.size + 1) (.lst ((out.map SrtO.iv).map V.int))) (sortedAll s.heap its out.toArray) (s.heap.objs.size + 1) (.lst ((out.map SrtO.iv).map V.int)) := ⟨hlen, out, ep, vals_of_ints k1, he'⟩
  exact ⟨.ref _, _, I.laid (t' := s.toks) (fun _ _ => PyProof.Rows.sortedAll_old) (Nat.le_succ _) new, rfl, q _ _ k2 k3 (I.hok.fresh (Nat.le_succ _))⟩
section
variable {S : Sc} {W : WX} {e : Expr} {es : List Expr} {fl : AF} {pos p : Pos}
def gSort (box : Bool) (ds : List D) (L : Sto) : Res D := match ds with
  | [d] => (match seqOf L d with
    | some (xs, _) => (match dInts xs with
      | some ns => lstOut box ((srtI ns).map D.int) L
      | none => .bad)
    | none => .bad)
  | _ => .bad
def rSortU2 (K : PySem.W.Frag) : List V → Hp → VK → Prop := fun vs H Q => rSortedI K vs H Q ∨ rSortedTI K vs H Q
theorem gSort_ok {G : Gb} (box : Bool) : RnD G (rSortU2 G.K) (gSort box) := by
  intro w L H x ds Q E R dx p
  unfold gSort at p
  split at p
  · cases dx with
    | cons h t =>
      cases t
      split at p
      · rename_i xs s hx
        split at p
        · rename_i ns hn
          obtain ⟨k, a, vs, rfl, hq, r⟩ := seq_now R h hx
          have := r.ints hn
          subst this
          have go : ∀ (ms : List Int) (q : Addr), ms.Perm ns → ms.Pairwise (· ≤ ·) → H q = none → Q (.ref q) (upd H q (.lst (ms.map V.int))) := fun ms q h1 h2 hq => by
            rw [srtI_unique h1 h2]
            exact lstOut_go p R (.of_ints _) q hq
          cases k with
          | true => exact .inl ⟨a, ns, rfl, hq, go⟩
          | false => exact .inr ⟨a, ns, rfl, hq, go⟩
        · exact p.elim
      · exact p.elim
  · exact p.elim
theorem se_sort (box : Bool) (B : Bl S.g) (ha : SA S W (e :: es) fl) (hg : Glb S "sorted" := by rfl) (he : ∀ env, starEach (e :: es) env = (false, eval e env) :: starEach es env := by intro _; rfl) (hpl : ∀ env, (backTo pos (starEach es env)).any (·.1) = false := by intro _; rfl) :
    SE S W (.Call (.Name "sorted" p) (e :: es) [] pos) (en (gSort box) fl) := fun X h =>
  se_callB (id := "sorted") (r := rSortU2 S.g.K) (fun X h => by rw [h.K]; exact cr_sortedI.or cr_sortedTI) (gSort_ok box) B.sorted (by decide +kernel) ha hg (by decide) (by decide) he hpl X h
end
section
variable {L : Sto} {i j k : Int} {xs ys ds : List D}
theorem kC : gAdd (.int i) (.int j) L = .ok (.int (i + j)) L := rfl
theorem kD : gSub (.int i) (.int j) L = .ok (.int (i - j)) L := rfl
theorem gMul_int (h : (-(2 ^ 64) < i ∧ i < 2 ^ 64) ∨ (-(2 ^ 64) < j ∧ j < 2 ^ 64)) : gMul (.int i) (.int j) L = .ok (.int (i * j)) L := if_pos h
theorem gDiv_int (h : 0 < j) (h2 : j < 2 ^ 64) : gDiv (.int i) (.int j) L = .ok (.int (i / j)) L := if_pos ⟨h, by omega⟩
theorem gMod_int (h : 0 < j) : gMod (.int i) (.int j) L = .ok (.int (i % j)) L := if_pos h
theorem kE : gNeg (.int i) L = .ok (.int (-i)) L := rfl
theorem kF : gLt (.int i) (.int j) L = .ok (.bl (decide (i < j))) L := rfl
theorem kG : gLe (.int i) (.int j) L = .ok (.bl (decide (i ≤ j))) L := rfl
theorem kH : gGt (.int i) (.int j) L = .ok (.bl (decide (j < i))) L := rfl
theorem kJ : gGe (.int i) (.int j) L = .ok (.bl (decide (j ≤ i))) L := rfl
theorem kK : gLtI (.int i) (.int j) L = .ok (.bl (decide (i < j))) L := rfl
theorem kZ : seqOf L (.tg xs) = some (xs, []) := rfl
theorem lA : seqOf L (.tup xs) = some (xs, []) := rfl
theorem lB : seqOf L (.lst xs) = some (xs, []) := rfl
theorem lC : seqOf L (.ro xs) = some (xs, []) := rfl
theorem seqOf_loc {n : Nat} (h : L[n]? = some (.lst xs)) : seqOf L (.loc n) = some (xs, [(n, .lst xs)]) := by simp only [seqOf, h]
theorem lD : sqlOf L (.lst xs) = some xs := rfl
theorem lE : sqlOf L (.ro xs) = some xs := rfl
theorem sqlOf_loc {n : Nat} (h : L[n]? = some (.lst xs)) : sqlOf L (.loc n) = some xs := by simp only [sqlOf, lstOf, h]
theorem boxL_loc {n : Nat} (h : L[n]? = some (.lst xs)) : boxL L (.loc n) = some (n, xs) := by simp only [boxL, h]
theorem kL : gLen [.tg xs] L = .ok (.int xs.length) L := rfl
theorem kM : gLen [.tup xs] L = .ok (.int xs.length) L := rfl
theorem kN : gLen [.lst xs] L = .ok (.int xs.length) L := rfl
theorem kO : gLen [.ro xs] L = .ok (.int xs.length) L := rfl
theorem kP {kvs : List (Key × D)} : gLen [.dK kvs] L = .ok (.int kvs.length) L := rfl
theorem dInts_map : ∀ ns : List Int, dInts (ns.map D.int) = some ns
  | [] => rfl
  | n :: ns => by show (dInts (ns.map D.int)).map _ = _; rw [dInts_map ns]; rfl
theorem dBls_map : ∀ ns : List Bool, dBls (ns.map D.bl) = some ns
  | [] => rfl
  | n :: ns => by show (dBls (ns.map D.bl)).map _ = _; rw [dBls_map ns]; rfl
theorem kQ : gInt [.int i] L = .ok (.int i) L := rfl
theorem kR {b : Bool} : gInt [.bl b] L = .ok (.int (if b then 1 else 0)) L := rfl
theorem gAbs_int : gAbs [.int i] L = .ok (.int (if i < 0 then -i else i)) L := rfl
theorem gTuple_lst (h : xs.length ≤ 16777216) : gTuple [.lst xs] L = .ok (.tg xs) L := by unfold gTuple; simp only [lD, newTG, if_pos h]
theorem kW : gTuple [.tg xs] L = .ok (.tg xs) L := rfl
theorem kX : gTuple [.tup xs] L = .ok (.tup xs) L := rfl
theorem kY : lstOut false xs L = .ok (.lst xs) L := rfl
theorem kS : gMax [.int i, .int j] L = .ok (.int (max i j)) L := by
  show Res.ok (D.int (if j > i then j else i)) L = _
  congr 2
  split <;> omega
theorem kU : gMin [.int i, .int j] L = .ok (.int (min i j)) L := by
  show Res.ok (D.int (if j < i then j else i)) L = _
  congr 2
  split <;> omega
end
section
variable {src : List (Nat × D)} {tg : GF} {t : TF} {f : EF} {body : SF} {ρ : Env'} {L : Sto}
theorem srcOk_nil : srcOk L [] := fun _ h => nomatch h
theorem lcGo_pure {α : Type} (enc : α → D) (p : α → Bool) (y : α → D) (hs : srcOk L src) : ∀ (xs : List α) (acc : List D), acc.length + xs.length ≤ 16777216 →
    (∀ a ∈ xs, ∃ ρ1, tg (enc a) ρ = some ρ1 ∧ t ρ1 L = .ok (p a) L ∧ (p a = true → f ρ1 L = .ok (y a) L)) → lcGo src tg t f ρ (xs.map enc) acc L = .ok (acc ++ (xs.filter p).map y) L
  | [], acc, _, _ => by simp [lcGo]
  | a :: xs, acc, hl, h => by
    obtain ⟨ρ1, h1, h2, h3⟩ := h a (List.mem_cons_self)
    have hr := fun acc hl => lcGo_pure enc p y hs xs acc hl fun b hb => h b (List.mem_cons_of_mem _ hb)
    rw [List.length_cons] at hl
    rw [List.map_cons, lcGo, h1]
    dsimp only
    rw [h2]
    cases hp : p a with
    | true =>
      dsimp only
      rw [h3 hp]
      dsimp only
      rw [if_pos ⟨by omega, hs⟩, hr _ (by rw [List.length_append, List.length_singleton]; omega)]
      simp [List.filter_cons, hp]
    | false =>
      dsimp only
      rw [if_pos hs, hr _ (by omega)]
      simp [List.filter_cons, hp]
theorem lcGo_map {α : Type} (enc : α → D) (y : α → D) (hs : srcOk L src) (xs : List α) (acc : List D) (hl : acc.length + xs.length ≤ 16777216)
    (h : ∀ a ∈ xs, ∃ ρ1, tg (enc a) ρ = some ρ1 ∧ f ρ1 L = .ok (y a) L) : lcGo src tg tTrue f ρ (xs.map enc) acc L = .ok (acc ++ xs.map y) L := by
  have e := lcGo_pure (t := tTrue) (f := f) (tg := tg) (ρ := ρ) enc (fun _ => true) y hs xs acc hl fun a ha => let ⟨ρ1, h1, h2⟩ := h a ha; ⟨ρ1, h1, rfl, fun _ => h2⟩
  rw [e, List.filter_eq_self.mpr fun _ _ => rfl]
theorem lcGo_inv {α : Type} (enc : α → D) (I : Sto → Prop) (P : α → D → Prop) (hs : ∀ L, I L → srcOk L src) : ∀ (xs : List α) (acc : List D) (L : Sto), I L → acc.length + xs.length ≤ 16777216 →
    (∀ a ∈ xs, ∀ L, I L → ∃ ρ1 y L', tg (enc a) ρ = some ρ1 ∧ f ρ1 L = .ok y L' ∧ I L' ∧ P a y) → ∃ ys L', lcGo src tg tTrue f ρ (xs.map enc) acc L = .ok (acc ++ ys) L' ∧ I L' ∧ ys.length = xs.length ∧ ∀ (i : Nat) a y, xs[i]? = some a → ys[i]? = some y → P a y
  | [], acc, L, hI, _, _ => ⟨[], L, by simp [lcGo], hI, rfl, fun i a y h => by simp at h⟩
  | a :: xs, acc, L, hI, hl, h => by
    obtain ⟨ρ1, y, L1, h1, h2, h3, h4⟩ := h a (List.mem_cons_self) L hI
    rw [List.length_cons] at hl
    obtain ⟨ys, L2, e, i2, l2, p2⟩ := lcGo_inv enc I P hs xs (acc ++ [y]) L1 h3 (by rw [List.length_append, List.length_singleton]; omega) fun b hb => h b (List.mem_cons_of_mem _ hb)
    refine ⟨y :: ys, L2, ?_, i2, by simp [l2], fun i b z hb hz => ?_⟩
    · rw [List.map_cons, lcGo, h1]
      dsimp only [tTrue]
      rw [h2]
      dsimp only
      rw [if_pos ⟨by omega, hs _ h3⟩, e]
      simp
    · cases i with
      | zero => simp at hb hz; subst hb hz; exact h4
      | succ i => exact p2 i b z (by simpa using hb) (by simpa using hz)
theorem forGo_inv (xs : List D) (I : Nat → Env' → Sto → Prop) (step : ∀ i d ρ L, xs[i]? = some d → I i ρ L → ∃ ρ1 ρ2 L2, tg d ρ = some ρ1 ∧ body ρ1 L = .nx ρ2 L2 ∧ srcOk L2 src ∧ I (i + 1) ρ2 L2) :
    ∀ (n : Nat) (i : Nat) (ρ : Env') (L : Sto), xs.length - i = n → i ≤ xs.length → I i ρ L → ∃ ρ' L', forGo tg body src (xs.drop i) ρ L = .nx ρ' L' ∧ I xs.length ρ' L'
  | 0, i, ρ, L, hn, hi, h => by
    have e : i = xs.length := by omega
    rw [List.drop_eq_nil_of_le (by omega)]
    exact ⟨ρ, L, by simp [forGo], by rw [← e]; exact h⟩
  | n + 1, i, ρ, L, hn, hi, h => by
    have hlt : i < xs.length := by omega
    obtain ⟨ρ1, ρ2, L2, h1, h2, h3, h4⟩ := step i xs[i] ρ L (List.getElem?_eq_getElem hlt) h
    obtain ⟨ρ', L', e, hI⟩ := forGo_inv xs I step n (i + 1) ρ2 L2 (by omega) (by omega) h4
    refine ⟨ρ', L', ?_, hI⟩
    rw [List.drop_eq_getElem_cons hlt, forGo]
    simp only [h1, h2, if_pos h3, e]
theorem sFor_inv {fi : IF} {its : Its} {L1 : Sto} (hi : fi ρ L = .ok its L1) (I : Nat → Env' → Sto → Prop) (h0 : I 0 ρ L1) (step : ∀ i d ρ L, its.ds[i]? = some d → I i ρ L → ∃ ρ1 ρ2 L2, tg d ρ = some ρ1 ∧ body ρ1 L = .nx ρ2 L2 ∧ srcOk L2 its.src ∧ I (i + 1) ρ2 L2) :
    ∃ ρ' L', sFor fi tg body ρ L = .nx ρ' L' ∧ I its.ds.length ρ' L' := by
  obtain ⟨ρ', L', e, h⟩ := forGo_inv its.ds I step its.ds.length 0 ρ L1 (by omega) (Nat.zero_le _) h0
  refine ⟨ρ', L', ?_, h⟩
  unfold sFor
  rw [hi]
  simpa using e
end
section
variable {it : IF} {tg : GF} {t : TF} {f : EF} {own : List Nat} {ρ : Env'} {L L1 L2 : Sto} {box : Bool}
theorem eLc_at {its : Its} {ds : List D} (hi : it ρ L = .ok its L1) (h : lcGo its.src tg t f (wipeE ρ own) its.ds [] L1 = .ok ds L2) : eLc box own it tg t f ρ L = lstOut box ds L2 := by
  unfold eLc; rw [hi]; dsimp only; rw [h]; rfl
theorem eLc_map {α : Type} (xs : List α) (enc : α → D) (y : α → D) {src : List (Nat × D)} (hi : it ρ L = .ok ⟨xs.map enc, src⟩ L1) (hs : srcOk L1 src) (hl : xs.length ≤ 16777216)
    (h : ∀ a ∈ xs, ∃ ρ1, tg (enc a) (wipeE ρ own) = some ρ1 ∧ f ρ1 L1 = .ok (y a) L1) : eLc box own it tg tTrue f ρ L = lstOut box (xs.map y) L1 := by
  refine eLc_at hi ?_
  have := lcGo_map (src := src) (tg := tg) (f := f) (ρ := wipeE ρ own) enc y hs xs [] (by simpa using hl) h
  simpa using this
theorem eLc_filter {α : Type} (xs : List α) (enc : α → D) (p : α → Bool) (y : α → D) {src : List (Nat × D)} (hi : it ρ L = .ok ⟨xs.map enc, src⟩ L1) (hs : srcOk L1 src) (hl : xs.length ≤ 16777216)
    (h : ∀ a ∈ xs, ∃ ρ1, tg (enc a) (wipeE ρ own) = some ρ1 ∧ t ρ1 L1 = .ok (p a) L1 ∧ (p a = true → f ρ1 L1 = .ok (y a) L1)) : eLc box own it tg t f ρ L = lstOut box ((xs.filter p).map y) L1 := by
  refine eLc_at hi ?_
  have := lcGo_pure (src := src) (tg := tg) (t := t) (f := f) (ρ := wipeE ρ own) enc p y hs xs [] (by simpa using hl) h
  simpa using this
theorem eLc_inv {α : Type} (xs : List α) (enc : α → D) (I : Sto → Prop) (P : α → D → Prop) {src : List (Nat × D)} (hi : it ρ L = .ok ⟨xs.map enc, src⟩ L1) (hs : ∀ L, I L → srcOk L src) (hl : xs.length ≤ 16777216) (h0 : I L1)
    (h : ∀ a ∈ xs, ∀ L, I L → ∃ ρ1 y L', tg (enc a) (wipeE ρ own) = some ρ1 ∧ f ρ1 L = .ok y L' ∧ I L' ∧ P a y) :
    ∃ ys L', eLc box own it tg tTrue f ρ L = lstOut box ys L' ∧ I L' ∧ ys.length = xs.length ∧ ∀ (i : Nat) a y, xs[i]? = some a → ys[i]? = some y → P a y := by
  obtain ⟨ys, L', e, h1, h2, h3⟩ := lcGo_inv (src := src) (tg := tg) (f := f) (ρ := wipeE ρ own) enc I P hs xs [] L1 h0 (by simpa using hl) h
  exact ⟨ys, L', eLc_at hi (by simpa using e), h1, h2, h3⟩
end
theorem gAll_map {α : Type} {L : Sto} (xs : List α) (p : α → Bool) : gAll [.lst (xs.map fun x => D.bl (p x))] L = .ok (.bl (xs.all p)) L := by
  have e : xs.map (fun x => D.bl (p x)) = (xs.map p).map D.bl := by rw [List.map_map]; rfl
  rw [e]
  unfold gAll
  simp only [lD, dBls_map]
  rw [List.all_map]; rfl
mutual
def eqD : D → D → Bool
  | .non, .non => true
  | .bl a, .bl b => a == b
  | .bl a, .int j => (if a then 1 else 0) == j
  | .int i, .bl b => i == (if b then 1 else 0)
  | .int i, .int j => i == j
  | .str x, .str y => x == y
  | .tup xs, .tup ys => eqDL xs ys
  | .tg xs, .tup ys => eqDL xs ys
  | .tup xs, .tg ys => eqDL xs ys
  | .tg xs, .tg ys => eqDL xs ys
  | .lst xs, .lst ys => eqDL xs ys
  | .ro xs, .lst ys => eqDL xs ys
  | .lst xs, .ro ys => eqDL xs ys
  | .ro xs, .ro ys => eqDL xs ys
  | _, _ => false
def eqDL : List D → List D → Bool
  | [], [] => true
  | x :: xs, y :: ys => eqD x y && eqDL xs ys
  | _, _ => false
end
mutual
def okD : Nat → D → Bool
  | _, .non => true
  | _, .bl _ => true
  | _, .int _ => true
  | _, .str s => PyData.strOk s
  | n + 1, .tup xs => okDL n xs
  | n + 1, .tg xs => okDL n xs
  | n + 1, .lst xs => okDL n xs
  | n + 1, .ro xs => okDL n xs
  | _, _ => false
def okDL : Nat → List D → Bool
  | _, [] => true
  | n, x :: xs => okD n x && okDL n xs
end
theorem okDL_all {n : Nat} : ∀ {xs : List D}, okDL n xs = xs.all (okD n)
  | [] => rfl
  | x :: xs => by rw [okDL, okDL_all, List.all_cons]
theorem toPyL_cons {d : D} {ds : List D} {p : PyData} {ps : List PyData} (h1 : toPy d = some p) (h2 : toPyL ds = some ps) : toPyL (d :: ds) = some (p :: ps) := by simp only [toPyL, h1, h2]
theorem okL_py {n : Nat} (ih : ∀ d, okD n d = true → ∃ p, toPy d = some p ∧ p.canLay0 = true ∧ p.depth ≤ n + 1) : ∀ ds : List D, okDL n ds = true → ∃ ps, toPyL ds = some ps ∧ PyData.canLayAll0 ps = true ∧ PyData.depthAll ps ≤ n + 1
  | [], _ => ⟨[], rfl, rfl, by simp [PyData.depthAll]⟩
  | d :: ds, h => by
    rw [okDL] at h
    obtain ⟨p, h1, h2, h3⟩ := ih d (and2 h).1
    obtain ⟨ps, k1, k2, k3⟩ := okL_py ih ds (and2 h).2
    refine ⟨p :: ps, toPyL_cons h1 k1, and2' h2 k2, ?_⟩
    simp only [PyData.depthAll]
    omega
theorem ok_py : ∀ (n : Nat) (d : D), okD n d = true → ∃ p, toPy d = some p ∧ p.canLay0 = true ∧ p.depth ≤ n + 1 := by
  intro n
  induction n with
  | zero =>
    intro d h
    cases d <;> first
      | exact absurd h Bool.false_ne_true
      | exact ⟨_, rfl, rfl, by simp [PyData.depth]⟩
      | exact ⟨_, rfl, h, by simp [PyData.depth]⟩
  | succ n ih =>
    intro d h
    cases d <;> first
      | exact absurd h Bool.false_ne_true
      | exact ⟨_, rfl, rfl, by simp [PyData.depth]⟩
      | exact ⟨_, rfl, h, by simp [PyData.depth]⟩
      | (rename_i xs
         obtain ⟨ps, h1, h2, h3⟩ := okL_py ih xs h
         first
           | (refine ⟨.tuple ps, ?_, h2, ?_⟩
              · exact (congrArg (Option.map PyData.tuple) h1 : _)
              · simp only [PyData.depth]; omega)
           | (refine ⟨.list ps, ?_, h2, ?_⟩
              · exact (congrArg (Option.map PyData.list) h1 : _)
              · simp only [PyData.depth]; omega))
theorem eqL_py {n : Nat} (ih : ∀ d e p q, okD n d = true → toPy d = some p → toPy e = some q → PyData.eqv p q = eqD d e) : ∀ (ds es : List D) (ps qs : List PyData), okDL n ds = true → toPyL ds = some ps → toPyL es = some qs → PyData.eqvAll ps qs = eqDL ds es
  | [], es, ps, qs, _, h1, h2 => by
    cases h1
    cases es with
    | nil => cases h2; rfl
    | cons e es =>
      simp only [toPyL] at h2
      split at h2
      · cases h2; rfl
      · cases h2
  | d :: ds, es, ps, qs, h, h1, h2 => by
    rw [okDL] at h
    simp only [toPyL] at h1
    split at h1
    · rename_i p ps' hp hps
      cases h1
      cases es with
      | nil => cases h2; rfl
      | cons e es =>
        simp only [toPyL] at h2
        split at h2
        · rename_i q qs' hq hqs
          cases h2
          show (PyData.eqv p q && PyData.eqvAll ps' qs') = (eqD d e && eqDL ds es)
          rw [ih d e p q (and2 h).1 hp hq, eqL_py ih ds es ps' qs' (and2 h).2 hps hqs]
        · cases h2
    · cases h1
theorem eq_py : ∀ (n : Nat) (d e : D) (p q : PyData), okD n d = true → toPy d = some p → toPy e = some q → PyData.eqv p q = eqD d e := by
  have flat : ∀ (d e : D) (p q : PyData), (match d with | .tup _ => False | .tg _ => False | .lst _ => False | .ro _ => False | _ => True) → toPy d = some p → toPy e = some q → PyData.eqv p q = eqD d e := by
    intro d e p q hf h1 h2
    cases d <;> first
      | exact hf.elim
      | (cases h1
         cases e <;> first
           | (cases h2; rfl)
           | (obtain ⟨ps, _, rfl⟩ := Option.map_eq_some_iff.mp h2; rfl)
           | cases h2
         done)
      | (cases h1; done)
  intro n
  induction n with
  | zero =>
    intro d e p q h h1 h2
    cases d <;> first
      | exact absurd h Bool.false_ne_true
      | exact flat _ e p q True.intro h1 h2
  | succ n ih =>
    intro d e p q h h1 h2
    cases d <;> first
      | exact absurd h Bool.false_ne_true
      | exact flat _ e p q True.intro h1 h2
      | (obtain ⟨ps, k1, rfl⟩ := Option.map_eq_some_iff.mp h1
         cases e <;> first
           | (cases h2; rfl)
           | (obtain ⟨qs, k2, rfl⟩ := Option.map_eq_some_iff.mp h2
              first
                | exact eqL_py ih _ _ ps qs h k1 k2
                | rfl)
           | cases h2)
theorem gEqB_ev {L : Sto} {d e : D} (h1 : okD 60 (seen L d) = true) (h2 : okD 60 (seen L e) = true) : gEqB L d e = some (eqD (seen L d) (seen L e)) := by
  obtain ⟨p, a1, a2, a3⟩ := ok_py 60 _ h1
  obtain ⟨q, b1, b2, b3⟩ := ok_py 60 _ h2
  unfold gEqB
  rw [a1, b1]
  dsimp only
  have s1 : SeqAt.shaped p = true := and2' a2 (decide_eq_true (by omega))
  have s2 : SeqAt.shaped q = true := and2' b2 (decide_eq_true (by omega))
  rw [if_pos ⟨s1, s2⟩, eq_py 60 _ _ p q h1 a1 b1]
theorem gEq_ev {L : Sto} {d e : D} (h1 : okD 60 (seen L d) = true) (h2 : okD 60 (seen L e) = true) : gEq d e L = .ok (.bl (eqD (seen L d) (seen L e))) L := by unfold gEq; rw [gEqB_ev h1 h2]
theorem gNe_ev {L : Sto} {d e : D} (h1 : okD 60 (seen L d) = true) (h2 : okD 60 (seen L e) = true) : gNe d e L = .ok (.bl (!eqD (seen L d) (seen L e))) L := by unfold gNe; rw [gEqB_ev h1 h2]
theorem okDL_ints (n : Nat) : ∀ r : List Int, okDL n (r.map .int) = true
  | [] => by simp [okDL]
  | x :: r => by
    rw [List.map_cons, okDL, okDL_ints n r]
    cases n <;> rfl
theorem frz_loc {L1 : Sto} {n m : Nat} {c : D} (hm : n ≤ m) (hc : L1[m]? = some c) (hb : c.bel n = true) : frz L1 n 12 (.loc m) = some c := by
  have e : D.bel n (.loc m) = false := decide_eq_false (by omega)
  unfold frz
  rw [e, if_neg (by decide)]
  dsimp only
  rw [hc]
  exact frz_bel hb
theorem drop_last {L : Sto} {c : D} (hb : c.bel L.length = true) : dropR L (.ok (.loc L.length) (L ++ [c])) = .ok c L := by
  have ht : TakeOk L (L ++ [c]) := ⟨by simp, fun n x hn h => .inl (by rwa [List.getElem?_append_left hn] at h)⟩
  rw [dropR_ok ht (frz_loc (Nat.le_refl _) (by simp) hb)]
  simp
theorem drop_val {L L1 : Sto} {d : D} (ht : TakeOk L L1) (hb : d.bel L.length = true) : dropR L (.ok d L1) = .ok d (L1.take L.length) := dropR_ok ht (frz_bel hb)
theorem belL_ints (n : Nat) : ∀ r : List Int, belL n (r.map .int) = true
  | [] => rfl
  | x :: r => by rw [List.map_cons, belL, belL_ints n r]; rfl
theorem flat_rep {α : Type} (n : Nat) (x : α) : (List.replicate n [x]).flatten = List.replicate n x := by
  induction n with
  | zero => rfl
  | succ n ih => rw [List.replicate_succ, List.flatten_cons, ih, List.replicate_succ]; rfl
theorem takeOk_app {L : Sto} {cs : List D} : TakeOk L (L ++ cs) := ⟨by simp, fun n x hn h => .inl (by rwa [List.getElem?_append_left hn] at h)⟩
section
variable {src : List (Nat × D)} {tg : GF} {t : TF} {f fk fv : EF} {step : CS} {ρ : Env'} {L : Sto}
theorem length_putD {κ : Type} [DecidableEq κ] (kvs : List (κ × D)) (k : κ) (v : D) : (putD kvs k v).length ≤ kvs.length + 1 := by
  unfold putD
  split
  · rw [List.length_map]; omega
  · rw [List.length_append]; simp
theorem length_mergeD : ∀ (more kvs : List (Key × D)), (mergeD kvs more).length ≤ kvs.length + more.length
  | [], kvs => Nat.le_refl _
  | m :: more, kvs => by
    show (mergeD (putD kvs m.1 m.2) more).length ≤ _
    have h1 := length_mergeD more (putD kvs m.1 m.2)
    have h2 := length_putD kvs m.1 m.2
    rw [List.length_cons]
    omega
theorem mergeD_append (kvs a b : List (Key × D)) : mergeD kvs (a ++ b) = mergeD (mergeD kvs a) b := List.foldl_append
theorem cGo_dict {α : Type} (enc : α → D) (ps : α → List (Key × D)) (hs : srcOk L src) : ∀ (xs : List α) (kvs : List (Key × D)), kvs.length + (xs.flatMap ps).length ≤ 16777216 →
    (∀ a ∈ xs, ∀ kvs : List (Key × D), kvs.length + (ps a).length ≤ 16777216 → ∃ ρ1, tg (enc a) ρ = some ρ1 ∧ step ρ1 (.dK kvs) L = .ok (.dK (mergeD kvs (ps a))) L) → cGo src tg tTrue step ρ (xs.map enc) (.dK kvs) L = .ok (.dK (mergeD kvs (xs.flatMap ps))) L
  | [], kvs, _, _ => by simp [cGo, mergeD]
  | a :: xs, kvs, hl, h => by
    rw [List.flatMap_cons, List.length_append] at hl
    obtain ⟨ρ1, h1, h2⟩ := h a (List.mem_cons_self) kvs (by omega)
    have hm := length_mergeD (ps a) kvs
    have hr := cGo_dict enc ps hs xs (mergeD kvs (ps a)) (by omega) fun b hb => h b (List.mem_cons_of_mem _ hb)
    rw [List.map_cons, cGo]
    simp only [h1, tTrue, h2, if_pos hs]
    rw [hr, List.flatMap_cons, mergeD_append]
theorem stepD_at {kvs : List (Key × D)} {k v : D} {key : Key} (h : fk ρ L = .ok k L) (hk : dKey k = some key) (hv : fv ρ L = .ok v L) (hl : kvs.length < 16777216) : stepD fk fv ρ (.dK kvs) L = .ok (.dK (putD kvs key v)) L := by
  unfold stepD
  simp only [h, hk, hv, if_pos hl]
theorem eComp_at {it : IF} {own : List Nat} {its : Its} {c c' : D} {box : Bool} (h : it ρ L = .ok its L) (hc : cGo its.src tg t step (wipeE ρ own) its.ds c L = .ok c' L) : eComp box own c it tg t step ρ L = boxOut box c' L := by
  unfold eComp
  simp only [h, hc, Res.bind_ok]
end
theorem putD_new {κ : Type} [DecidableEq κ] {kvs : List (κ × D)} {k : κ} {v : D} (h : k ∉ kvs.map (·.1)) : putD kvs k v = kvs ++ [(k, v)] := by
  unfold putD
  rw [if_neg]
  intro e
  obtain ⟨x, hx, hk⟩ := List.any_eq_true.mp e
  exact h (List.mem_map.mpr ⟨x, hx, of_decide_eq_true hk⟩)
theorem mergeD_new : ∀ {more kvs : List (Key × D)}, ((kvs ++ more).map (·.1)).Nodup → mergeD kvs more = kvs ++ more
  | [], kvs, _ => by simp [mergeD]
  | (k, v) :: more, kvs, h => by
    show mergeD (putD kvs k v) more = _
    have hk : k ∉ kvs.map (·.1) := fun hm => by
      rw [List.map_append, List.nodup_append] at h
      exact h.2.2 k hm k (by simp) rfl
    rw [putD_new hk, mergeD_new (by rw [List.append_assoc]; exact h), List.append_assoc]
    rfl
def CXA (P : Program) : CXT := fun outer H s E u s' => ∃ w, L2.CX P w outer H s E u s'
theorem cxa_none {P : Program} (H : Hp) (s : Shared) (e : Value) (s' : Shared) (h : CXA P [] H s (fun _ _ _ => False) e s') : False := by
  obtain ⟨w, a, B, H', cls, d, _, _, _, _, _, _, _, h⟩ := h
  exact h
theorem fnX_any {gd : Bool} {P : Program} {w : World} {K : PySem.W.Frag} {mg : Str → Option Value} {base : Heap} {k : Nat} {f : Addr} {fd : FuncData} {ps : List Str} {sp sp' : Sp} (F : FnX gd P w K mg base (L2.CX P w) k f fd ps sp) (h : ∀ vs H Q E, sp' vs H Q E → sp vs H Q E) :
    FnX gd P w K mg base (CXA P) k f fd ps sp' := ⟨fun vs H Q E q => F.len vs H Q E (h vs H Q E q), fun A outer s H args us vs Q E hr hgd e0 hb r q => codeAny_mono (F.run A outer s H args us vs Q E hr hgd e0 hb r (h vs H Q E q)) fun r s' hq => by
  cases r with
  | ok fl => cases fl <;> exact hq
  | error e => exact ⟨w, hq⟩⟩
theorem law_sp {G : Gb} {m : List D → Sto → Res D} {ns : List Int} {H : Hp} {a : Addr} (hS : SqL G.K H a (ns.map V.int)) (hT : ∀ p ∈ G.tabs, H p.1 = some (.tbl #[])) (ht : ∃ L, m [.ro (ns.map .int)] [] = .ok (.bl true) L) : spD G 1 m [.ref a] H (fun v _ => v = .bl true) (fun _ _ _ => False) := by
  obtain ⟨L, e⟩ := ht
  have keep : ∀ b u, H b = some u → (∀ ps, u ≠ .tbl ps) → (if b ∈ G.tabs.map (·.1) then none else H b) = some u := fun b u e n => by
    by_cases z : b ∈ G.tabs.map (·.1)
    · obtain ⟨p, hp, rfl⟩ := List.mem_map.mp z
      rw [hT p hp] at e
      exact (n _ (Option.some.inj e).symm).elim
    · rw [if_neg z]; exact e
  have hS' : SqL G.K (fun b => if b ∈ G.tabs.map (·.1) then none else H b) a (ns.map V.int) := by
    rcases hS with (h | ⟨o, h⟩) | h
    · exact .inl (.inl (keep a _ h fun _ z => nomatch z))
    · exact .inl (.inr ⟨o, keep a _ h fun _ z => nomatch z⟩)
    · exact .inr h
  refine ⟨rfl, ⟨fun b => if b ∈ G.tabs.map (·.1) then none else H b, [], fun _ => none⟩, [], [.ro (ns.map .int)], ⟨fun b u e => ?_, rfl, List.nodup_nil, (fun _ h => nomatch h), (fun n a c h => ?_), (fun _ _ h => nomatch h), (fun p hp => ?_), (fun _ _ h => nomatch h)⟩, .cons (.ro hS' (.of_ints ns)) .nil, ?_⟩
  · have e' : (if b ∈ G.tabs.map (·.1) then none else H b) = some u := e
    split at e'
    · cases e'
    · exact e'
  · simp at h
  · refine ⟨if_pos (List.mem_map.mpr ⟨p, hp, rfl⟩), (fun z => nomatch z), rfl, #[], hT p hp, trivial, fun q _ pos cv z => ?_⟩
    simp [codeAmong] at z
  · rw [e]
    intro w' H' v _ _ d
    cases d
    rfl
section
variable {P : Program} {w : World} {K : PySem.W.Frag} {mg mb : Str → Option Value} {CX : CXT} {k : Nat} {fa a : Addr} {cs : List (Addr × Addr)} {fd : FuncData} {x : Str} {sp : Sp} {s₁ : Shared} {vs : List Value} {ns : List Int}
theorem call_core (KX : K.In s₁.heap) (hns : s₁.heap.Ns mainGlobals mg) (hb : s₁.heap.Ns builtinsNs mb) (hbb : ∀ x : Str, x ≠ "__name__" → mb x = bootBuiltins x) (hlim : s₁.heap.NoLimit) (hg : s₁.gens = #[])
    (isT : ∀ b ∈ cs.map (·.2), s₁.heap.get? b = some { cls := .none, data := .fields #[] }) (nT : ∀ b ∈ cs.map (·.2), K.lookup b = none) (C : ∀ p ∈ cs, PySem.W.CodeHd s₁.heap p.1 p.2)
    (hbm : ∃ (bm : Addr) (ob : Obj), mg "__builtins__" = some (.ref bm) ∧ bm ≠ builtinsNs ∧ s₁.heap.get? bm = some ob ∧ ob.cls = .type "module" ∧ ob.dict = some builtinsNs ∧ ob.data = .plain)
    (ha : s₁.heap.get? a = some { cls := .type "list", data := .seq vs.toArray }) (hr : Room k callerA)
    (F : ∀ base : Heap, K.In base → base.Ns mainGlobals mg → (∀ p ∈ cs, LamX.TabB base mg p.1 p.2) → FnX true P w K mg base CX k fa fd [x] sp) (hbind : ∀ (s : Shared) (u : Value), BindsTo s fd ⟨[u], []⟩ [(x, u)])
    (hCX : ∀ H e s', CX [] H s₁ (fun _ _ _ => False) e s' → False) (H : Hp) (hok : HOk P w H s₁.heap) (hH : ∀ b ∈ cs.map (·.2), H b = some (.tbl #[]))
    (only : ∀ b u, H b = some u → b ∈ cs.map (·.2) ∨ (b = a ∧ K.lookup a = none ∧ ∃ o xs, u = .frz o (.lst xs))) (hsp : sp [.ref a] H (fun v _ => v = .bl true) fun _ _ _ => False) :
    codeAny (model P w) callerA (.call (.ref fa) ⟨[.ref a], []⟩) (fun r s' => r = .ok (.ret (.bool true)) ∧ OldK s₁.heap s'.heap ∧ s'.os = s₁.os ∧ AllBare s'.gens) s₁ := by
  have free : ∀ {b : Addr} {o : Obj}, s₁.heap.get? b = some o → (∀ vs n, o.data ≠ .seq vs n) → o.data ≠ .fields #[] → H b = none := fun {b o} e h1 h2 => by
    cases q : H b with
    | none => rfl
    | some u =>
      exfalso
      rcases only b u q with hm | ⟨rfl, _⟩
      · exact h2 (by cases (isT b hm).symm.trans e; rfl)
      · exact h1 _ _ (by cases ha.symm.trans e; rfl)
  have base : ∀ {b : Addr} {o : Obj}, s₁.heap.get? b = some o → H b = none → (hidT s₁.heap H).get? b = some o := fun e n => hidT_get e n
  have ofDict : ∀ {b : Addr} {m : Str → Option Value}, s₁.heap.Ns b m → (hidT s₁.heap H).Ns b m := fun {b m} ⟨o, es, ep, e, d, r⟩ => ⟨o, es, ep, base e (free e (fun vs n z => by rw [d] at z; cases z) fun z => by rw [d] at z; cases z), d, r⟩
  have KB : K.In (hidT s₁.heap H) := fun b o e => base (KX b o e) (by
    cases q : H b with
    | none => rfl
    | some u =>
      exfalso
      rcases only b u q with hm | ⟨rfl, n, _⟩
      · rw [nT b hm] at e; cases e
      · rw [n] at e; cases e)
  have M : L2.Mod K mg (hidT s₁.heap H) := ⟨KB, ofDict hns, ⟨mb, ofDict hb, hbb⟩, by obtain ⟨mc, h1, h2⟩ := hlim; exact ⟨mc, ofDict h1, h2⟩⟩
  have TB : ∀ p ∈ cs, LamX.TabB (hidT s₁.heap H) mg p.1 p.2 := fun p hp => by
    have tp := isT p.2 (List.mem_map.mpr ⟨p, hp, rfl⟩)
    have plainNot : ∀ {b : Addr} {o : Obj}, s₁.heap.get? b = some o → o.data = .plain → b ≠ p.2 := fun {b o} e d z => by rw [z, tp] at e; cases e; cases d
    constructor
    · obtain ⟨o, us, file, tf, flags, tg, inF, text, tt, e1, r1, r2, r3, r⟩ := C p hp
      exact ⟨o, us, file, tf, flags, tg, inF, text, tt, base e1 (free e1 (fun vs n z => by rw [r2] at z; cases z) fun z => by rw [r2] at z; cases z; simp at r3), r1, r2, r3, r⟩
    · obtain ⟨bm, ob, b1, b2, b3, b4, b5, b6⟩ := hbm
      refine ⟨bm, ob, b1, b2, fun z => ?_, plainNot b3 b6, base b3 (free b3 (fun vs n z => by rw [b6] at z; cases z) fun z => by rw [b6] at z; cases z), b4, b5, b6⟩
      obtain ⟨o, es, ep, e, hd, _⟩ := hns
      rw [z, e] at b3
      cases b3
      rw [hd] at b6
      cases b6
    · intro z
      obtain ⟨o, es, ep, e, hd, _⟩ := hns
      rw [z, tp] at e
      cases e
      cases hd
  have E0 : Env0 P w K mg (hidT s₁.heap H) callerA [] s₁ H := ⟨rfl, M, fun _ _ e => of_hidT e, Nat.le_of_eq (hidT_size _ _), trivial, (fun _ z => nomatch z), hok, .of_eq hg⟩
  refine codeAny_mono ((F _ KB (ofDict hns) TB).run callerA [] s₁ H ⟨[.ref a], []⟩ [.ref a] [.ref a] _ _ hr (fun _ => rfl) E0 (hbind s₁ (.ref a)) (.cons rfl .nil) hsp) fun r s' h => ?_
  match r, h with
  | .error e, h => exact (hCX H e s' h).elim
  | .ok .next, h => exact h.elim
  | .ok .brk, h => exact h.elim
  | .ok .cont, h => exact h.elim
  | .ok (.ret u), h =>
    obtain ⟨v, H', os, bare, un, hok', rv, q⟩ := h
    obtain rfl : v = .bl true := q
    obtain rfl : u = Value.bool true := rv
    have same : ∀ b o, b ∉ cs.map (·.2) → s₁.heap.get? b = some o → s'.heap.get? b = some o := fun b o nb e => by
      cases q : H b with
      | none => exact un.keep b o e q (fun z => nomatch z) (fun z => nomatch z)
      | some t =>
        rcases only b t q with hm | ⟨_, _, ob, xs, rfl⟩
        · exact (nb hm).elim
        · have e1 := (hok b _ q).1
          have e2 := (hok' b _ (un.frzs b ob _ q)).1
          rw [e] at e1
          cases e1
          exact e2
    have more : ∀ b ∈ cs.map (·.2), ∃ m : Array Value, s'.heap.get? b = some { cls := .none, data := .fields m } := fun b hm => by
      obtain ⟨m, z⟩ := un.tbls b #[] (hH b hm)
      exact ⟨_, hok' b _ z⟩
    refine ⟨rfl, ⟨fun b o e => ?_, fun b o e => ?_⟩, os, bare⟩
    · by_cases hm : b ∈ cs.map (·.2)
      · obtain ⟨m, z⟩ := more b hm
        obtain ⟨p, hp, rfl⟩ := List.mem_map.mp hm
        have tp := isT p.2 hm
        cases tp.symm.trans e
        exact .inr (.inl ⟨((C p hp).tab tp).isCodeTable, rfl, #[], m, rfl, by rw [Array.empty_append]; exact z⟩)
      · exact .inl (same b o hm e)
    · by_cases hm : b ∈ cs.map (·.2)
      · obtain ⟨m, z⟩ := more b hm
        exact ⟨_, z⟩
      · exact ⟨o, same b o hm e⟩
end
theorem walk_ofG {l : PySem.W.OpenLaw} {n k : Nat} {q : Program} {loose : List Str} {XP : (Str → Option Value) → Heap → Prop} {YP : World → Heap → Prop} {d : DefRec} {CX : CXT} {x : Str} (hn : l.most = some n) (hn2 : n ≤ sizeLine) (hdf : d.params.defaults = []) (hr : Room k callerA)
    (F : ∀ (w : World) (mg : Str → Option Value) (fa : Addr) (h : Heap), YP w h → h.Ns mainGlobals mg → mg d.name = some (.ref fa) → ∃ (K : PySem.W.Frag) (fd : FuncData) (cs : List (Addr × Addr)) (sp : Sp), K.In h ∧
      (∀ p ∈ cs, h.get? p.2 = some { cls := .none, data := .fields #[] }) ∧ (∀ p ∈ cs, K.lookup p.2 = none) ∧ (∀ p ∈ cs, PySem.W.CodeHd h p.1 p.2) ∧ (∀ (s : Shared) (u : Value), BindsTo s fd ⟨[u], []⟩ [(x, u)]) ∧
      (∀ (H : Hp) (a : Addr) (ns : List Int), ns.length ≤ n → (∀ p ∈ cs, H p.2 = some (.tbl #[])) → SqL K H a (ns.map V.int) → sp [.ref a] H (fun v _ => v = .bl true) fun _ _ _ => False) ∧
      ∀ base : Heap, K.In base → base.Ns mainGlobals mg → (∀ p ∈ cs, LamX.TabB base mg p.1 p.2) → FnX true l.prog w K mg base CX k fa fd [x] sp)
    (hCX : ∀ (H : Hp) (s : Shared) (e : Value) (s' : Shared), CX [] H s (fun _ _ _ => False) e s' → False) : PySem.W.WalkO q loose XP YP l.row.toRowW d [] (fun f vs => PySem.call f vs) := by
  refine Att.attach_call hn hdf fun w s₀ s₁ mg mb fa o pm cd doc a vs ns G Y ho hd hcd hmg hobj hints hlen hg => ?_
  obtain ⟨K, fd, cs, sp, KX, hT, nT, C, hb, hsp, hF⟩ := F w mg fa _ Y G.T.g hmg
  have rv := vals_ints hints
  have lv := hints.length
  have isT : ∀ b ∈ cs.map (·.2), s₁.heap.get? b = some { cls := .none, data := .fields #[] } := fun b hm => by
    obtain ⟨p, hp, rfl⟩ := List.mem_map.mp hm
    exact hT p hp
  have noK : ∀ b ∈ cs.map (·.2), K.lookup b = none := fun b hm => by
    obtain ⟨p, hp, rfl⟩ := List.mem_map.mp hm
    exact nT p hp
  have aT : a ∉ cs.map (·.2) := fun z => by
    cases congrArg Obj.data (Option.some.inj ((isT a z).symm.trans hobj))
  have hl : ns.length ≤ sizeLine := Nat.le_trans hlen hn2
  have go := call_core KX G.T.g G.T.b G.T.builtins G.T.nolimit hg isT noK C G.T.bmain hobj hr hF hb (fun H e s' => hCX H s₁ e s')
  have mem : ∀ p ∈ cs, p.2 ∈ cs.map (·.2) := fun p hp => List.mem_map.mpr ⟨p, hp, rfl⟩
  have tabOk : ∀ {H : Hp} b, b ∈ cs.map (·.2) → ObjOk l.prog w H s₁.heap b (.tbl #[]) := fun b hm => isT b hm
  cases hk : K.lookup a with
  | some o =>
    have e := KX a o hk
    rw [hobj] at e
    cases e
    refine go (fun b => if b ∈ cs.map (·.2) then some (.tbl #[]) else none) (fun b u z => ?_) (fun b hm => if_pos hm) (fun b u z => ?_) (hsp _ a ns hlen (fun p hp => if_pos (mem p hp)) (.inr ⟨_, vs.toArray, _, hk, rfl, rfl, rfl, by rw [List.size_toArray, lv]; exact hl, by simpa using rv⟩))
    · have z' : (if b ∈ cs.map (·.2) then some (HO.tbl #[]) else none) = some u := z
      split at z'
      · rename_i hm
        cases z'
        exact tabOk b hm
      · cases z'
    · have z' : (if b ∈ cs.map (·.2) then some (HO.tbl #[]) else none) = some u := z
      split at z'
      · rename_i hm
        exact .inl hm
      · cases z'
  | none =>
    refine go (fun b => if b = a then some (.frz { cls := .type "list", data := .seq vs.toArray } (.lst (ns.map V.int))) else if b ∈ cs.map (·.2) then some (.tbl #[]) else none) (fun b u z => ?_) (fun b hm => (if_neg fun z : b = a => aT (z ▸ hm)).trans (if_pos hm)) (fun b u z => ?_)
      (hsp _ a ns hlen (fun p hp => (if_neg fun z : p.2 = a => aT (z ▸ mem p hp)).trans (if_pos (mem p hp))) (.inl (.inr ⟨_, if_pos rfl⟩)))
    · have z' : (if b = a then some (HO.frz { cls := .type "list", data := .seq vs.toArray } (.lst (ns.map V.int))) else if b ∈ cs.map (·.2) then some (.tbl #[]) else none) = some u := z
      split at z'
      · rename_i hb
        cases z'
        rw [hb]
        exact ⟨hobj, by rw [List.length_map]; exact hl, vs, _, rv, hobj⟩
      · split at z'
        · rename_i hm
          cases z'
          exact tabOk b hm
        · cases z'
    · have z' : (if b = a then some (HO.frz { cls := .type "list", data := .seq vs.toArray } (.lst (ns.map V.int))) else if b ∈ cs.map (·.2) then some (.tbl #[]) else none) = some u := z
      split at z'
      · rename_i hb
        cases z'
        exact .inr ⟨hb, hk, _, _, rfl⟩
      · split at z'
        · rename_i hm
          exact .inl hm
        · cases z'
section
variable {ρ ρ1 : Env'} {L L1 L2 : Sto} {d e v : D} {r : SRes} {q : Res D} {f g : SF} {t u : TF} {fa fb : EF} {fl : AF} {ds : List D} {i n N : Nat} {b : Bool}
theorem ev_seq (h : f ρ L = .nx ρ1 L1) (k : g ρ1 L1 = r) : sSeq f g ρ L = r := by unfold sSeq; rw [h]; exact k
theorem ev_seqR (h : f ρ L = .rt d L1) : sSeq f g ρ L = .rt d L1 := by unfold sSeq; rw [h]
theorem ev_if_t (h : t ρ L = .ok true L1) (k : f ρ L1 = r) : sIf t f g ρ L = r := by unfold sIf; rw [h]; exact k
theorem ev_if_f (h : t ρ L = .ok false L1) (k : g ρ L1 = r) : sIf t f g ρ L = r := by unfold sIf; rw [h]; exact k
theorem ev_skip (h : t ρ L = .ok false L1) : sIf t f sSkip ρ L = .nx ρ L1 := ev_if_f h rfl
theorem ev_set (h : fa ρ L = .ok d L1) : sSet i fa ρ L = .nx (ρ.set i (some d)) L1 := by unfold sSet; rw [h]; rfl
theorem ev_ret (h : fa ρ L = .ok d L1) : sRet fa ρ L = .rt d L1 := by unfold sRet; rw [h]; rfl
theorem ev_m {F : SF} (h : F (startE N ds) L = .rt d L1) : mOf N F ds L = .ok d L1 := by unfold mOf; rw [h]; rfl
theorem ev_var (h : ρ[i]? = some (some d)) : eVar i ρ L = .ok d L := by unfold eVar; rw [h]
theorem ev_e2 {k : D → D → Sto → Res D} (h : fa ρ L = .ok d L1) (h2 : fb ρ L1 = .ok e L2) : e2 k fa fb ρ L = k d e L2 := by unfold e2; rw [h, Res.bind_ok, h2, Res.bind_ok]
theorem ev_en {k : List D → Sto → Res D} (h : fl ρ L = .ok ds L1) : en k fl ρ L = k ds L1 := by unfold en; rw [h]; rfl
theorem ev_cons (h : fa ρ L = .ok d L1) (h2 : fl ρ L1 = .ok ds L2) : aCons fa fl ρ L = .ok (d :: ds) L2 := by unfold aCons; rw [h, Res.bind_ok, h2]; rfl
theorem ev_one (h : fa ρ L = .ok d L1) : aCons fa aNil ρ L = .ok [d] L1 := ev_cons h rfl
theorem ev_call {m : List D → Sto → Res D} (h : fl ρ L = .ok ds L1) (hn : ds.length = n) : eCall n m [] fl ρ L = m ds L1 := by
  unfold eCall; rw [h]; dsimp only [Res.bind]; rw [List.append_nil, if_pos hn]
theorem ev_asB (h : fa ρ L = .ok (.bl b) L1) : asB (fa ρ L) = .ok b L1 := by rw [h]; rfl
end
def insAt (L : Sto) (d : D) : Option (Str × List (Str × D)) := match d with
  | .ins c fs => some (c, fs)
  | .loc n => (match L[n]? with
    | some (.ins c fs) => some (c, fs)
    | _ => none)
  | _ => none
theorem ins_at {G : Gb} {w : Wd} {L : Sto} {H : Hp} {v : V} {d : D} {c : Str} {gs : List (Str × D)} (R : Rel G w L H) (h : Den G w v d) (e : insAt L d = some (c, gs)) :
    ∃ a C dx fs, v = .ref a ∧ H a = some (.ins C dx fs) ∧ G.mg c = some (.ref C) ∧ DenF G w fs gs := by
  cases h with
  | ins hq m r => cases e; exact ⟨_, _, _, _, rfl, R.sub _ _ hq, m, r⟩
  | @loc n a hn =>
    dsimp only [insAt] at e
    split at e
    · rename_i c' fs' hy
      cases e
      obtain ⟨o, h1, h2⟩ := R.box n a _ hn hy
      cases h2 with
      | ins m r => exact ⟨_, _, _, _, rfl, h1, m, r⟩
    · cases e
  | _ => cases e
theorem DenF.look {G : Gb} {w : Wd} (f : Str) : ∀ {fs : List (Str × V)} {gs : List (Str × D)} {d : D}, DenF G w fs gs → gs.lookup f = some d → ∃ v, fs.lookup f = some v ∧ Den G w v d
  | _, _, _, .nil, e => by cases e
  | _, _, d, .cons (k := k) (d := d') h t, e => by
    by_cases hk : f = k
    · subst hk
      rw [List.lookup_cons_self] at e
      cases e
      exact ⟨_, List.lookup_cons_self, h⟩
    · have hb : (f == k) = false := beq_eq_false_iff_ne.mpr hk
      rw [List.lookup_cons, hb] at e
      obtain ⟨v, h1, h2⟩ := DenF.look f t e
      exact ⟨v, by rw [List.lookup_cons, hb]; exact h1, h2⟩
def putFD (f : Str) (v : D) : List (Str × D) → List (Str × D)
  | [] => [(f, v)]
  | (g, x) :: r => if g = f then (g, v) :: r else (g, x) :: putFD f v r
theorem DenF.put {G : Gb} {w : Wd} {f : Str} {v : V} {d : D} (h : Den G w v d) : ∀ {fs : List (Str × V)} {gs : List (Str × D)}, DenF G w fs gs → DenF G w (putF f v fs) (putFD f d gs)
  | _, _, .nil => .cons h .nil
  | _, _, .cons (k := k) a t => by
    unfold putF putFD
    split
    · exact .cons h t
    · exact .cons a (DenF.put h t)
theorem DenF.length {G : Gb} {w : Wd} : ∀ {fs : List (Str × V)} {gs : List (Str × D)}, DenF G w fs gs → fs.length = gs.length
  | _, _, .nil => rfl
  | _, _, .cons a t => by rw [List.length_cons, List.length_cons, DenF.length t]
def FldOk (G : Gb) (c f : Str) : Prop := ∃ C, G.mg c = some (.ref C) ∧ Cls G.K C ∧ NoAttr G.K C f
def gFld (c f : Str) (d : D) (L : Sto) : Res D := match insAt L d with
  | some (c', fs) => if c' = c then (match fs.lookup f with
    | some x => .ok x L
    | none => .bad) else .bad
  | none => .bad
def eFld (c f : Str) (fa : EF) : EF := fun ρ L => (fa ρ L).bind (gFld c f)
section
variable {S : Sc} {W : WX} {a b e o value : Expr} {es : List Expr} {fa fb fv fo : EF} {fl : AF} {pos p pos' apos : Pos}
theorem se_fld {c f : Str} (F : FldOk S.g c f) (ha : SE S W a fa) (hb : ∀ env : Env, attributeBase a f env (eval a env) = eval a env := by intro _; rfl) : SE S W (.Attribute a f pos) (eFld c f fa) := fun X h =>
  PE.imp (pe_fld (ha X h) (hb _)) fun σ H Q ⟨w, ρ, L, R, e, p⟩ => by
    refine ⟨w, ρ, L, R, e, (Post.bind (rel := Den S.g) p).imp (fun v H1 ⟨w1, d, L1, l1, R1, d1, p1⟩ => ?_) fun _ _ _ z => z⟩
    unfold gFld at p1
    split at p1
    · rename_i c' gs hi
      split at p1
      · rename_i hc
        subst hc
        split at p1
        · rename_i x hx
          obtain ⟨a, C, dx, fs, rfl, h1, m, r⟩ := ins_at R1 d1 hi
          obtain ⟨C', m', cl, na⟩ := F
          rw [m] at m'
          cases m'
          obtain ⟨y, l, dy⟩ := r.look f hx
          exact ⟨a, C, dx, fs, y, rfl, h1, by rw [← h.K]; exact cl, by rw [← h.K]; exact na, l, Post.ok p1 (.refl _) R1 dy⟩
        · exact p1.elim
      · exact p1.elim
    · exact p1.elim
def gFldPut (c f : Str) (y d : D) (L : Sto) : Option Sto := match d with
  | .loc n => (match L[n]? with
    | some (.ins c' fs) => if c' = c ∧ fs.length < 1000 then some (L.set n (.ins c (putFD f y fs))) else none
    | _ => none)
  | _ => none
def sFldPut (c f : Str) (fv fo : EF) : SF := fun ρ L => sBind (fv ρ L) ρ fun y L1 => sBind (fo ρ L1) ρ fun d L2 => match gFldPut c f y d L2 with
  | some L3 => .nx ρ L3
  | none => .bad
theorem ss_fld {c f : Str} (F : FldOk S.g c f) (hv : SE S W value fv) (ho : SE S W o fo) (hs : ∀ env : Env, swapsWith value (some (.Attribute o f pos')) pos.line env = pure false := by intro _; rfl) :
    SS S W (.Assign [.Attribute o f pos'] value pos) (sFldPut c f fv fo) := fun X h =>
  PS.imp (ps_fld (ho X h) (hv X h) (hs _)) fun D σ H ⟨w, ρ, L, R, e, p⟩ => by
    refine ⟨w, ρ, L, R, e, (PostS.bind e p).imp (fun y H1 ⟨w1, d1, L1, l1, R1, y1, p1⟩ => ?_) fun _ _ _ z => z⟩
    refine ⟨w1, ρ, L1, R1, e.le l1, (PostS.bind (e.le l1) p1).imp (fun x H2 ⟨w2, d2, L2, l2, R2, x2, p2⟩ => ?_) fun _ _ _ z => z⟩
    split at p2
    · rename_i L3 h3
      unfold gFldPut at h3
      split at h3
      · rename_i n
        split at h3
        · rename_i c' fs hn
          split at h3
          · rename_i hc
            obtain ⟨hc, hl⟩ := hc
            subst hc
            cases h3
            cases x2 with
            | @loc n a hp =>
              obtain ⟨ob, h1, h2⟩ := R2.box _ a _ hp hn
              cases h2 with
              | @ins C dx c vs gs m r =>
                obtain ⟨C', m', cl, na⟩ := F
                rw [m] at m'
                cases m'
                exact ⟨a, C, dx, vs, rfl, h1, by rw [← h.K]; exact cl, by rw [← h.K]; exact na, by rw [r.length]; exact hl, p2 _ _ _ (.refl _) (R2.put hp (.ins m (r.put (y1.le l2)))) ((e.le l1).le l2)⟩
          · cases h3
        · cases h3
      · cases h3
    · exact p2.elim
end
def tMk (C : Addr) (sp : Sp) (dvs : List V) (E : St → XK) (t : TA) : TE := fun σ H Q => t σ H fun vs H1 => ∀ x dx, H1 x = none → H1 dx = none → dx ≠ x →
  sp (.ref x :: (vs ++ dvs)) (upd (upd H1 dx (.own x)) x (.ins C dx [])) (fun v H2 => v = .non ∧ Q (.ref x) H2) (E σ)
theorem make_guards {A : Around} {C : Addr} {us : List Value} {kw : List (Str × Value)} : (A.under (.builtin "type.__call__" ⟨.ref C :: us, kw⟩)).guards = A.guards := by
  have e : Code.guards (.builtin "type.__call__" ⟨.ref C :: us, kw⟩) = [] := by simp [Code.guards, Code.isGuard, guardIds]
  have h : ∀ (A : Around) (c : Code), (A.under c).guards = pushGuards c.guards A.guards := fun A c => by unfold Around.under; rfl
  rw [h, e]
  cases A.guards <;> rfl
section
variable {gd : Bool} {X : Cx} {k : Nat} {f C : Addr} {fd : FuncData} {ps : List Str} {sp : Sp} {dvs : List V} {ds : List Value} {E : St → XK} {x : Str} {p pos : Pos} {e : Expr} {es : List Expr} {t : TA}
theorem run_mk {pins : List (Addr × Obj)} {σ : St} {H : Hp} {s : Shared} {Q : VK} {us : List Value} {vs : List V} (M : Mk X.K C f) (F : FnX gd X.prog X.w X.K X.mg X.base (L2.CX X.prog X.w) k f fd ps sp) (hr : Room (k + 1) X.A) (hgd : gd = true → X.A.guards = some []) (hb : Binds X.K fd ps ds) (hd : Vals dvs ds)
    (hx : PassesAt (L2.CX X.prog X.w) X σ (E σ)) (I : Inv X pins σ H s) (r : Vals vs us)
    (h : ∀ x dx, H x = none → H dx = none → dx ≠ x → sp (.ref x :: (vs ++ dvs)) (upd (upd H dx (.own x)) x (.ins C dx [])) (fun v H2 => v = .non ∧ Q (.ref x) H2) (E σ)) :
    wpAny (model X.prog X.w) X.A (call (.ref C) us) (EP X pins σ Q) X.xe s := by
  have n0 := I.hok.fresh (Nat.le_refl _)
  have n1 := I.hok.fresh (Nat.le_succ _)
  have hne : s.heap.objs.size ≠ s.heap.objs.size + 1 := Nat.ne_of_lt (Nat.lt_succ_self _)
  have hq := h _ _ n1 n0 hne
  have J := Inv.made (C := C) I
  have rr : Vals (V.ref (s.heap.objs.size + 1) :: (vs ++ dvs)) (Value.ref (s.heap.objs.size + 1) :: (us ++ ds)) := .cons rfl (r.append hd)
  have hl : (Value.ref (s.heap.objs.size + 1) :: us ++ ds).length = ps.length := (rr.length.symm.trans (F.len _ _ _ _ hq) : _)
  have hrun := F.run _ X.stack _ _ ⟨Value.ref (s.heap.objs.size + 1) :: us, []⟩ (Value.ref (s.heap.objs.size + 1) :: (us ++ ds)) _ _ (E σ) (hr.make C us []) (fun z => make_guards.trans (hgd z)) (J.env0.make C us []) (hb _ (Value.ref (s.heap.objs.size + 1) :: us) J.kIn hl) rr hq
  refine wpAny_call (make_map (f := f) I.kIn M.makes M.init (beq_iff_eq.mp M.fn) (codeAny_mono hrun fun z s' hz => ?_))
  cases z with
  | error er => exact hx pins _ _ er s' J hz
  | ok fl =>
    cases fl with
    | ret u =>
      obtain ⟨v, H', K, rv, ev, q⟩ := J.after hz
      subst ev
      exact ⟨rv, ⟨V.ref (s.heap.objs.size + 1), H', K, rfl, q⟩⟩
    | next => exact hz.elim
    | brk => exact hz.elim
    | cont => exact hz.elim
theorem pe_mk (M : Mk X.K C f) (F : FnX gd X.prog X.w X.K X.mg X.base (L2.CX X.prog X.w) k f fd ps sp) (hr : Room (k + 1) X.A) (hgd : gd = true → X.A.guards = some []) (hg : Gl X x) (hm : X.mg x = some (.ref C)) (hb : Binds X.K fd ps ds) (hd : Vals dvs ds) (hx : ∀ σ, PassesAt (L2.CX X.prog X.w) X σ (E σ))
    (ha : PA X (e :: es) t) (hdb : (x == ("__debug__" : Str)) = false) (he : starEach (e :: es) X.env = (false, eval e X.env) :: starEach es X.env) (hpl : (backTo pos (starEach es X.env)).any (·.1) = false) :
    PE X (.Call (.Name x p) (e :: es) [] pos) (tMk C sp dvs E t) := by
  refine ⟨fun pins s σ H Q I h => wpAny_Call_Name_kw (ld_glob I hg hm ?_ hdb)⟩
  refine PySem.W.callWith_K (h₀ := X.base) I.ok.mod.kin M.kp (thn (ha.run pos pins s σ H _ I h) fun us s1 ⟨vs, H1, J, r, q⟩ => ⟨J.kIn, run_mk M F hr hgd hb hd (hx σ) J r q⟩) he hpl
end
structure MkIs (gd : Bool) (G : Gb) (c : Str) (n k : Nat) (m : List D → Sto → Res D) (dd : List D) : Prop where
  ex : ∃ (C f : Addr) (fd : FuncData) (ps : List Str) (ds : List Value) (dvs : List V), G.mg c = some (.ref C) ∧ Mk G.K C f ∧ Binds G.K fd ps ds ∧ Vals dvs ds ∧ (∀ w, DenL G w dvs dd) ∧
    FnX gd G.P G.w G.K G.mg G.base (L2.CX G.P G.w) k f fd ps (spD G n m)
def mMake (c : Str) (m : List D → Sto → Res D) : List D → Sto → Res D := fun ds L => match m (.loc L.length :: ds) (L ++ [.ins c []]) with
  | .ok d L1 => (match d with
    | .non => .ok (.loc L.length) L1
    | _ => .bad)
  | .err x p L1 => .err x p L1
  | .bad => .bad
noncomputable def mMakeV (c : Str) (m : List D → Sto → Res D) : List D → Sto → Res D := fun ds L => dropR L (mMake c m ds L)
def eMk (n : Nat) (m : List D → Sto → Res D) (dd : List D) (fl : AF) : EF := fun ρ L => (fl ρ L).bind fun ds L1 => if (ds ++ dd).length + 1 = n then m (ds ++ dd) L1 else .bad
section
variable {S : Sc} {W : WX} {a b e c o : Expr} {es : List Expr} {fl : AF} {pos p : Pos} {x : Str} {n k : Nat} {m : List D → Sto → Res D} {dd : List D} {gd : Bool}
theorem Rel.fresh {G : Gb} {w : Wd} {L : Sto} {H : Hp} (R : Rel G w L H) {p : Addr} {o : HO} (hp : H p = none) : Rel G w L (upd H p o) := by
  have ne0 : ∀ a u, w.F a = some u → a ≠ p := fun a u e z => by
    have h := R.sub a u e
    rw [z, hp] at h
    cases h
  refine ⟨fun a u e => (upd_ne (ne0 a u e)).trans (R.sub a u e), R.len, R.nd, R.free, fun n a c e1 e2 => ?_, fun a u e => ?_, R.tab.step (fun q a b c ⟨ps, d⟩ => ⟨a, b, c, upd_ne fun z => by rw [z, hp] at d; cases d⟩) (fun c u e => e), R.nt⟩
  · obtain ⟨ob, h1, h2⟩ := R.box n a c e1 e2
    exact ⟨ob, by rw [upd_ne (ne_of_none h1 hp)]; exact h1, h2⟩
  · obtain ⟨h1, h2, h3⟩ := R.prv a u e
    exact ⟨by rw [upd_ne (ne_of_none h1 hp)]; exact h1, h2, h3⟩
theorem make_post {G : Gb} {w : Wd} {L : Sto} {H : Hp} {vs : List V} {ds : List D} {C : Addr} {Q : VK} {E : XK} (R : Rel G w L H) (d : DenL G w vs ds) (hm : G.mg x = some (.ref C)) (hl : ds.length + 1 = n) (p : Post G (Den G) w (mMake x m ds L) Q E)
    (y dy : Addr) (hy : H y = none) (hdy : H dy = none) (ne : dy ≠ y) : spD G n m (.ref y :: vs) (upd (upd H dy (.own y)) y (.ins C dy [])) (fun v H2 => v = .non ∧ Q (.ref y) H2) E := by
  have R1 : Rel G w L (upd H dy (.own y)) := R.fresh hdy
  have hy1 : upd H dy (.own y) y = none := by rw [upd_ne (Ne.symm ne)]; exact hy
  obtain ⟨R2, l2⟩ := R1.newB (o := .ins C dy []) (c := .ins x []) hy1 (.ins hm .nil)
  have at_ : (w.φ ++ [y])[L.length]? = some y := by
    rw [← R.len, List.getElem?_append_right (Nat.le_refl _)]
    simp
  refine ⟨by rw [List.length_cons, d.length]; exact hl, _, _, .loc L.length :: ds, R2, .cons (.loc at_) (d.le l2), ?_⟩
  unfold mMake at p
  cases q : m (.loc L.length :: ds) (L ++ [.ins x []]) with
  | bad => rw [q] at p; exact p
  | err c z L1 =>
    rw [q] at p
    exact fun w2 H2 dx l R3 ex C m => p w2 H2 dx (l2.trans l) R3 ex C m
  | ok r L1 =>
    rw [q] at p
    cases r with
    | non =>
      intro w2 H2 v l R3 dv
      cases dv
      exact ⟨rfl, p w2 H2 (.ref y) (l2.trans l) R3 (.loc (l.pre _ _ at_))⟩
    | _ => exact p.elim
theorem se_makeG {m' : List D → Sto → Res D} (F : MkIs gd S.g x n k m dd) (hk : k + 1 ≤ S.k) (ha : SA S W (e :: es) fl) (hg : Glb S x) (hdb : (x == ("__debug__" : Str)) = false)
    (he : ∀ env, starEach (e :: es) env = (false, eval e env) :: starEach es env) (hpl : ∀ env, (backTo pos (starEach es env)).any (·.1) = false) (hgd : gd = true → S.gd = true)
    (hm' : ∀ (w : Wd) (L : Sto) (H : Hp) (ds : List D) (Q : VK) (E : XK), Rel S.g w L H → Post S.g (Den S.g) w (m' ds L) Q E → Post S.g (Den S.g) w (mMake x m ds L) Q E) :
    SE S W (.Call (.Name x p) (e :: es) [] pos) (eMk n m' dd fl) := fun X h => by
  obtain ⟨C, f, fd, ps, ds, dvs, hm, hM, hb, hd, hdd, F⟩ := F.ex
  have hm0 := hm
  rw [h.P, h.w, h.K, h.mg, h.base] at F
  refine PE.imp (pe_mk (x := x) (E := WE W) (by rw [← h.K]; exact hM) F (h.room.mono hk) (fun z => h.gd (hgd z)) (by show X.env.scope.names.lookup _ = _; rw [← h.sc]; exact hg) (by rw [← h.mg]; exact hm) (by rw [← h.K]; exact hb) hd (fun σ => L2.passAt h.takes σ) (ha X h) hdb (he _) (hpl _)) fun σ H Q ⟨w, ρ, L, R, e, p⟩ => ?_
  refine ⟨w, ρ, L, R, e, (Post.bind (rel := DenL S.g) p).imp (fun vs H1 ⟨w1, xs, L1, l1, R1, d1, p1⟩ => ?_) fun _ _ _ z => z⟩
  split at p1
  · rename_i hn
    exact fun y dy hy hdy ne => make_post R1 (d1.append (hdd w1)) hm0 hn (hm' _ _ _ _ _ _ R1 p1) y dy hy hdy ne
  · exact p1.elim
theorem se_makeV (F : MkIs gd S.g x n k m dd) (hk : k + 1 ≤ S.k) (ha : SA S W (e :: es) fl) (hg : Glb S x := by rfl) (hdb : (x == ("__debug__" : Str)) = false := by decide)
    (he : ∀ env, starEach (e :: es) env = (false, eval e env) :: starEach es env := by intro _; rfl) (hpl : ∀ env, (backTo pos (starEach es env)).any (·.1) = false := by intro _; rfl) (hgd : gd = true → S.gd = true := by first | (intro z; cases z; done) | (intro _; rfl)) :
    SE S W (.Call (.Name x p) (e :: es) [] pos) (eMk n (mMakeV x m) dd fl) := se_makeG F hk ha hg hdb he hpl hgd fun w L H ds Q E R p => Post.drop R p
end
def spSl2 (C : Addr) : Sp := fun vs H Q E => ∃ a dx u v, vs = [.ref a, u, v] ∧ H a = some (.ins C dx []) ∧ dx ≠ a ∧ ∀ H', H' = SlX.slH H a C dx [some u, some v] → Q .non H'
theorem sl2_ok {P : Program} {w : World} {K : PySem.W.Frag} {mg : Str → Option Value} {base : Heap} {x qual : Str} {params : Arguments} {body : List Stmt} {scope : Scope} {f C p q : Addr} {fd : FuncData} {n1 n2 n3 f1 f2 : Str} {p1 p2 p3 p4 p5 p6 p7 p8 : Pos}
    (F : FunD K x qual params body scope [] [] f fd) (Sc0 : FnScope [n1, n2, n3] [n1, n2, n3] scope)
    (hb : body = [.Assign [.Attribute (.Name n1 p1) f1 p2] (.Name n2 p3) p4, .Assign [.Attribute (.Name n1 p5) f2 p6] (.Name n3 p7) p8]) (c : SlX.SCls K C) (s1 : SlX.Slot1 K C f1 p 0) (s2 : SlX.Slot1 K C f2 q 1)
    (d1 : (n1 == ("__debug__" : Str)) = false ∧ (n1 == ("__classdict__" : Str)) = false := by decide) (d2 : (n2 == ("__debug__" : Str)) = false ∧ (n2 == ("__classdict__" : Str)) = false := by decide) (d3 : (n3 == ("__debug__" : Str)) = false ∧ (n3 == ("__classdict__" : Str)) = false := by decide) :
    FnOk P w K mg base (L2.CX P w) 1 f fd [n1, n2, n3] (spSl2 C) := by
  refine F.ok Sc0 (fun vs H Q E h => by obtain ⟨a, dx, u, v, rfl, _⟩ := h; rfl) fun cdv A outer s H vs Q E hr h => ?_
  have vis : ∀ y ∈ [n1, n2, n3], Vis scope y := fun y hy => (Sc0.par y hy).elim (fun z => .inl z) fun z => .inr (.inl z)
  subst hb
  refine ⟨_, pss_cons (SlX.ps_sl (pe_var (i := 0) rfl (vis n1 (by simp)) d1.1 d1.2) (pe_var (i := 1) rfl (vis n2 (by simp)) d2.1 d2.2)) (pss_one (SlX.ps_sl (pe_var (i := 0) rfl (vis n1 (by simp)) d1.1 d1.2) (pe_var (i := 2) rfl (vis n3 (by simp)) d3.1 d3.2))), ?_⟩
  obtain ⟨a, dx, u, v, rfl, ha, ne, k⟩ := h
  refine ⟨u, rfl, .ref a, rfl, a, C, dx, p, [], 0, rfl, .inl ⟨ha, rfl⟩, c, s1, ?_⟩
  refine ⟨v, rfl, .ref a, rfl, a, C, dx, q, _, 1, rfl, SlX.slH_slt ne, c, s2, ?_⟩
  exact k _ (SlX.slH_twice ne)
structure SlIs (G : Gb) (c : Str) : Prop where
  ex : ∃ (C f : Addr) (fd : FuncData) (ps : List Str), G.mg c = some (.ref C) ∧ Mk G.K C f ∧ Binds G.K fd ps [] ∧ FnOk G.P G.w G.K G.mg G.base (L2.CX G.P G.w) 1 f fd ps (spSl2 C)
def gSl2 (c : Str) (ds : List D) (L : Sto) : Res D := if ds.length = 2 then .ok (.sl c ds) L else .bad
section
variable {S : Sc} {W : WX} {a b e o : Expr} {es : List Expr} {fa : EF} {fl : AF} {pos p : Pos} {c f : Str}
theorem Rel.at_H {G : Gb} {w : Wd} {L : Sto} {H H' : Hp} (R : Rel G w L H) (h : H = H') : Rel G w L H' := h ▸ R
theorem se_sl2 (F : SlIs S.g c) (hk : 2 ≤ S.k) (ha : SA S W (e :: es) fl) (hg : Glb S c := by rfl) (hdb : (c == ("__debug__" : Str)) = false := by decide)
    (he : ∀ env, starEach (e :: es) env = (false, eval e env) :: starEach es env := by intro _; rfl) (hpl : ∀ env, (backTo pos (starEach es env)).any (·.1) = false := by intro _; rfl) :
    SE S W (.Call (.Name c p) (e :: es) [] pos) (en (gSl2 c) fl) := fun X h => by
  obtain ⟨C, f, fd, ps, hm, hM, hb, F⟩ := F.ex
  have hm0 := hm
  rw [h.P, h.w, h.K, h.mg, h.base] at F
  refine PE.imp (pe_mk (x := c) (E := WE W) (by rw [← h.K]; exact hM) (FnX.of (gd := false) F) (h.room.mono hk) (fun z => nomatch z) (by show X.env.scope.names.lookup _ = _; rw [← h.sc]; exact hg) (by rw [← h.mg]; exact hm) (by rw [← h.K]; exact hb) .nil (fun σ => L2.passAt h.takes σ) (ha X h) hdb (he _) (hpl _)) fun σ H Q ⟨w, ρ, L, R, e, p⟩ => ?_
  refine ⟨w, ρ, L, R, e, (Post.bind (rel := DenL S.g) p).imp (fun vs H1 ⟨w1, xs, L1, l1, R1, d1, p1⟩ => ?_) fun _ _ _ z => z⟩
  unfold gSl2 at p1
  split at p1
  · rename_i hl
    intro y dy hy hdy ne
    obtain ⟨d, e, rfl⟩ : ∃ d e, xs = [d, e] := by
      match xs, hl with
      | [d, e], _ => exact ⟨d, e, rfl⟩
    obtain ⟨u, v, rfl⟩ : ∃ u v, vs = [u, v] := by
      have hv : vs.length = 2 := d1.length
      match vs, hv with
      | [u, v], _ => exact ⟨u, v, rfl⟩
    · refine ⟨y, dy, u, v, rfl, upd_same, ne, ?_⟩
      rintro H' rfl
      obtain ⟨R2, l2⟩ := R1.newF (o := .xd []) hdy
      have hy2 : upd H1 dy (.xd []) y = none := by rw [upd_ne (Ne.symm ne)]; exact hy
      obtain ⟨R3, l3⟩ := R2.newF (o := SlX.SlO y C dy [some u, some v]) hy2
      refine ⟨rfl, Post.ok p1 (l2.trans l3) (R3.at_H ?_) (.sl (vs := [u, v]) (dx := dy) ?_ ?_ hm0 (d1.le (l2.trans l3)))⟩
      · funext b
        unfold SlX.slH
        by_cases h1 : b = y
        · subst h1; rw [upd_same, upd_same]
        · rw [upd_ne h1, upd_ne h1]
          by_cases h2 : b = dy
          · subst h2; rw [upd_same, upd_same]
          · rw [upd_ne h2, upd_ne h2, upd_ne h1, upd_ne h2]
      · exact upd_same
      · show upd (upd w1.F dy (.xd [])) y _ dy = _
        rw [upd_ne ne, upd_same]
  · exact p1.elim
def SltOk (G : Gb) (c f : Str) (i : Nat) : Prop := ∃ C p, G.mg c = some (.ref C) ∧ SlX.SCls G.K C ∧ SlX.Slot1 G.K C f p i
def gSlt (c : Str) (i : Nat) (d : D) (L : Sto) : Res D := match d with
  | .sl c' xs => if c' = c then (match xs[i]? with
    | some x => .ok x L
    | none => .bad) else .bad
  | _ => .bad
theorem se_slt {i : Nat} (F : SltOk S.g c f i) (ha : SE S W a fa) (hb : ∀ env : Env, attributeBase a f env (eval a env) = eval a env := by intro _; rfl) : SE S W (.Attribute a f pos) (e1 (gSlt c i) fa) := fun X h =>
  PE.imp (SlX.pe_sl (ha X h) (hb _)) fun σ H Q ⟨w, ρ, L, R, e, p⟩ => by
    refine ⟨w, ρ, L, R, e, (Post.bind (rel := Den S.g) p).imp (fun v H1 ⟨w1, d, L1, l1, R1, d1, p1⟩ => ?_) fun _ _ _ z => z⟩
    unfold gSlt at p1
    split at p1
    · rename_i c' xs
      split at p1
      · rename_i hc
        subst hc
        split at p1
        · rename_i x hx
          cases d1 with
          | @sl a C dx _ vs _ hq hd m r =>
            obtain ⟨C', q, m', cl, s1⟩ := F
            rw [m] at m'
            cases m'
            obtain ⟨y, hy, dy⟩ := r.get hx
            refine ⟨a, C, dx, q, vs.map some, i, y, rfl, .inr ⟨R1.sub _ _ hq, R1.sub _ _ hd⟩, by rw [← h.K]; exact cl, by rw [← h.K]; exact s1, ?_, Post.ok p1 (.refl _) R1 dy⟩
            rw [List.getElem?_map, hy]
            rfl
        · exact p1.elim
      · exact p1.elim
    · exact p1.elim
end
def clsOf (L : Sto) (d : D) : Option (Str × Bool) := match d with
  | .ins c _ => some (c, false)
  | .sl c _ => some (c, true)
  | .loc n => (match L[n]? with
    | some (.ins c _) => some (c, false)
    | _ => none)
  | _ => none
structure ClsT (G : Gb) (cs : List (Str × Bool)) : Prop where
  one : ∀ q ∈ cs, ∃ C, G.mg q.1 = some (.ref C) ∧ SlX.SIsi G.K C ∧ (q.2 = false → Cls G.K C) ∧ (q.2 = true → SlX.SCls G.K C) ∧ (∀ T : Tc, PySem.W.kitOne G.K (.ref C) (.type T.name) = some false) ∧ ∀ t : Ty, PySem.W.kitOne G.K (.type t.name) (.ref C) = some false
  two : ∀ q ∈ cs, ∀ r ∈ cs, ∀ C C', G.mg q.1 = some (.ref C) → G.mg r.1 = some (.ref C') → PySem.W.kitOne G.K (.ref C) (.ref C') = some (decide (q.1 = r.1))
def gIsiK (cs : List (Str × Bool)) (T : Tc) (d : D) (L : Sto) : Res D := match tyOfL L d with
  | some t => .ok (.bl (isiB t T)) L
  | none => (match clsOf L d with
    | some q => if q ∈ cs then .ok (.bl false) L else .bad
    | none => .bad)
def gIsiO (cs : List (Str × Bool)) (c2 : Str) (d : D) (L : Sto) : Res D := match tyOfL L d with
  | some t => .ok (.bl false) L
  | none => (match clsOf L d with
    | some q => if q ∈ cs then .ok (.bl (decide (q.1 = c2))) L else .bad
    | none => .bad)
theorem callR_or {X : Cx} {f : Value} {r1 r2 : List V → Hp → VK → Prop} (h1 : CallR X f r1) (h2 : CallR X f r2) : CallR X f (fun xs H Q => r1 xs H Q ∨ r2 xs H Q) := fun pins s σ H xs us Q I r h => h.elim (h1 pins s σ H xs us Q I r) (h2 pins s σ H xs us Q I r)
section
variable {S : Sc} {W : WX} {a b e o : Expr} {es : List Expr} {fa f : EF} {fl : AF} {pos p : Pos}
theorem isi_own {G : Gb} {w : Wd} {L : Sto} {H : Hp} {v cv : V} {d : D} {q : Str × Bool} {cs : List (Str × Bool)} {u : Value} {b0 : Bool} {Q : VK} (T : ClsT G cs) (R : Rel G w L H) (h : Den G w v d) (e : clsOf L d = some q) (hq : q ∈ cs)
    (cv' : ClsV cv u) (hr : RelV cv u) (hk : ∀ C, G.mg q.1 = some (.ref C) → PySem.W.kitOne G.K (.ref C) u = some b0) (k : Q (.bl b0) H) : rIsi G.K [v, cv] H Q ∨ SlX.rIsiSl G.K u [v, cv] H Q := by
  obtain ⟨C, m, is, k1, k2, _, _⟩ := T.one q hq
  have hk2 := hk C m
  cases h with
  | @ins a C' dx c fs gs hi m' r =>
    cases e
    rw [m] at m'
    cases m'
    exact .inl ⟨.ref a, cv, .ref C, u, b0, rfl, cv', .base (.ins (R.sub _ _ hi) (k1 rfl) is.ca is.cn is.ct is.cm), hk2, k⟩
  | @sl a C' dx c vs ds hi hd m' r =>
    cases e
    rw [m] at m'
    cases m'
    exact .inr ⟨a, C, dx, vs.map some, cv, b0, rfl, hr, fun w hw => cv'.eq hw, .inr ⟨R.sub _ _ hi, R.sub _ _ hd⟩, k2 rfl, is, hk2, k⟩
  | @loc n a hn =>
    dsimp only [clsOf] at e
    split at e
    · rename_i c' fs' hy
      cases e
      obtain ⟨o, h1, h2⟩ := R.box n a _ hn hy
      cases h2 with
      | ins m' r =>
        rw [m] at m'
        cases m'
        exact .inl ⟨.ref a, cv, .ref C, u, b0, rfl, cv', .base (.ins h1 (k1 rfl) is.ca is.cn is.ct is.cm), hk2, k⟩
    · cases e
  | _ => cases e
theorem se_isiK {cs : List (Str × Bool)} (CT : ClsT S.g cs) (T : Tc) {x : Str} {pT : Pos} (B : Bl S.g) (hm : S.g.mg x = none) (hx : bootBuiltins x = some (.type T.name)) (ha : SE S W e f) (hg : Glb S "isinstance" := by rfl) (hgT : Glb S x := by rfl)
    (he : ∀ env, starEach [e, .Name x pT] env = (false, eval e env) :: starEach [.Name x pT] env := by intro _; rfl)
    (he2 : ∀ env, starEach [.Name x pT] env = (false, eval (.Name x pT) env) :: starEach [] env := by intro _; rfl)
    (hpl : ∀ env, (backTo pos (starEach [.Name x pT] env)).any (·.1) = false := by intro _; rfl) (hn : x ≠ "__name__" := by decide) (hd : (x == ("__debug__" : Str)) = false := by decide) :
    SE S W (.Call (.Name "isinstance" p) [e, .Name x pT] [] pos) (e1 (gIsiK cs T) f) := fun X h =>
  PE.imp (pe_callB (callR_or (call_isi (X := X)) (SlX.call_isiSl (X := X) (.type T.name))) (by show X.env.scope.names.lookup _ = _; rw [← h.sc]; exact hg) (by rw [← h.mg]; exact B.isinstance) (by decide +kernel)
    (pa_cons (ha X h) (pa_cons (pe_bltn (v := .ty T.name) (by show X.env.scope.names.lookup _ = _; rw [← h.sc]; exact hgT) (by rw [← h.mg]; exact hm) hx rfl hn hd) pa_nil (he2 _)) (he _)) (by decide) (by decide) (he _) (hpl _)) fun σ H Q ⟨w, ρ, L, R, e, p⟩ =>
    ⟨w, ρ, L, R, e, (Post.bind (rel := Den S.g) p).imp (fun v H1 ⟨w1, d, L1, l1, R1, d1, p1⟩ => by
      unfold gIsiK at p1
      split at p1
      · rename_i t ht
        exact .inl ⟨_, _, _, _, isiB t T, rfl, .ty _, by rw [← h.K]; exact ty_at R1 d1 ht, kit_ty (isiB_ok t T), Post.ok p1 (.refl _) R1 (.bl _)⟩
      · split at p1
        · rename_i q hq
          split at p1
          · rename_i hc
            have k := isi_own (cv := .ty T.name) (u := .type T.name) (b0 := false) (Q := Q) CT R1 d1 hq hc (.ty _) rfl (fun C m => by
              obtain ⟨C', m', _, _, _, k, _⟩ := CT.one q hc
              rw [m] at m'; cases m'; exact k T) (Post.ok p1 (.refl _) R1 (.bl _))
            rw [h.K] at k
            exact k
          · exact p1.elim
        · exact p1.elim) fun _ _ _ z => z⟩
theorem se_isiO {cs : List (Str × Bool)} (CT : ClsT S.g cs) {x : Str} {s : Bool} {pT : Pos} (B : Bl S.g) (hxc : (x, s) ∈ cs) (ha : SE S W e f) (hg : Glb S "isinstance" := by rfl) (hgT : Glb S x := by rfl)
    (he : ∀ env, starEach [e, .Name x pT] env = (false, eval e env) :: starEach [.Name x pT] env := by intro _; rfl)
    (he2 : ∀ env, starEach [.Name x pT] env = (false, eval (.Name x pT) env) :: starEach [] env := by intro _; rfl)
    (hpl : ∀ env, (backTo pos (starEach [.Name x pT] env)).any (·.1) = false := by intro _; rfl) (hd : (x == ("__debug__" : Str)) = false := by decide) :
    SE S W (.Call (.Name "isinstance" p) [e, .Name x pT] [] pos) (e1 (gIsiO cs x) f) := fun X h => by
  obtain ⟨C, m, is, k1, k2, kT, kt⟩ := CT.one _ hxc
  refine PE.imp (pe_callB (callR_or (call_isi (X := X)) (SlX.call_isiSl (X := X) (.ref C))) (by show X.env.scope.names.lookup _ = _; rw [← h.sc]; exact hg) (by rw [← h.mg]; exact B.isinstance) (by decide +kernel)
    (pa_cons (ha X h) (pa_cons (pe_glob (v := .ref C) (u := .ref C) (by show X.env.scope.names.lookup _ = _; rw [← h.sc]; exact hgT) (by rw [← h.mg]; exact m) rfl hd) pa_nil (he2 _)) (he _)) (by decide) (by decide) (he _) (hpl _)) fun σ H Q ⟨w, ρ, L, R, e, p⟩ =>
    ⟨w, ρ, L, R, e, (Post.bind (rel := Den S.g) p).imp (fun v H1 ⟨w1, d, L1, l1, R1, d1, p1⟩ => by
      unfold gIsiO at p1
      split at p1
      · rename_i t ht
        exact .inl ⟨_, _, _, _, false, rfl, .own _, by rw [← h.K]; exact ty_at R1 d1 ht, by rw [← h.K]; exact kt t, Post.ok p1 (.refl _) R1 (.bl _)⟩
      · split at p1
        · rename_i q hq
          split at p1
          · rename_i hc
            have k := isi_own (cv := .ref C) (u := .ref C) (b0 := decide (q.1 = x)) (Q := Q) CT R1 d1 hq hc (.own _) rfl (fun C' m' => CT.two q hc _ hxc C' C m' m) (Post.ok p1 (.refl _) R1 (.bl _))
            rw [h.K] at k
            exact k
          · exact p1.elim
        · exact p1.elim) fun _ _ _ z => z⟩
end
def it5 : Nat → Nat → Nat
  | 0, y => y
  | n + 1, y => it5 n (5 * y + 1)
theorem it5_add : ∀ a b y : Nat, it5 (a + b) y = it5 b (it5 a y)
  | 0, b, y => by rw [Nat.zero_add]; rfl
  | a + 1, b, y => by rw [Nat.succ_add]; exact it5_add a b _
theorem it5_out (n y : Nat) : it5 (n + 1) y = 5 * it5 n y + 1 := it5_add n 1 y
theorem odd_mul {a b : Nat} (ha : a % 2 = 1) (hb : b % 2 = 1) : (a * b) % 2 = 1 := by rw [Nat.mul_mod, ha, hb]
theorem stride5 : ∀ k : Nat, ∃ s, s % 2 = 1 ∧ ∀ y, it5 (2 ^ k) y = y + 2 ^ k * (s * (4 * y + 1))
  | 0 => ⟨1, rfl, fun y => by show 5 * y + 1 = _; omega⟩
  | k + 1 => by
    obtain ⟨s, hs, h⟩ := stride5 k
    refine ⟨s * (1 + 2 * (2 ^ k * s)), odd_mul hs (by omega), fun y => ?_⟩
    have e : (2 : Nat) ^ (k + 1) = 2 ^ k + 2 ^ k := by rw [Nat.pow_succ]; omega
    rw [e, it5_add, h, h]
    generalize 2 ^ k = p
    generalize ew : 4 * y + 1 = w
    have e1 : 4 * (y + p * (s * w)) + 1 = w + 4 * (p * (s * w)) := by omega
    rw [e1]
    have e2 : p * (s * (w + 4 * (p * (s * w)))) = p * (s * w) + 4 * (p * (s * (p * (s * w)))) := by
      rw [Nat.mul_add s, Nat.mul_add p]
      congr 1
      rw [Nat.mul_left_comm s 4, Nat.mul_left_comm p 4]
    have e3 : (p + p) * (s * (1 + 2 * (p * s)) * w) = p * (s * w) + p * (s * w) + 4 * (p * (s * (p * (s * w)))) := by
      have f : s * (1 + 2 * (p * s)) * w = s * w + 2 * (s * (p * (s * w))) := by
        rw [Nat.mul_add, Nat.mul_one, Nat.add_mul, Nat.mul_left_comm s 2, Nat.mul_assoc 2, Nat.mul_assoc s, Nat.mul_assoc p]
      rw [f, Nat.add_mul, Nat.mul_add, Nat.mul_left_comm p 2]
      omega
    rw [e2, e3]
    omega
theorem half_mod (x j p : Nat) (hp : 0 < p) (h : x % p = j % p) : x % (p * 2) = j % (p * 2) ∨ (x + p) % (p * 2) = j % (p * 2) := by
  have d : (x + p) / p = x / p + 1 := Nat.add_div_right x hp
  rw [Nat.mod_mul, Nat.mod_mul, Nat.mod_mul, d, Nat.add_mod_right, h]
  have a := Nat.mod_two_eq_zero_or_one (x / p)
  have b := Nat.mod_two_eq_zero_or_one (j / p)
  rcases a with a | a <;> rcases b with b | b
  · left; rw [a, b]
  · right; rw [b, show (x / p + 1) % 2 = 1 by omega]
  · right; rw [b, show (x / p + 1) % 2 = 0 by omega]
  · left; rw [a, b]
theorem reach5 : ∀ (k i j : Nat), ∃ n, n < 2 ^ k ∧ it5 n i % 2 ^ k = j % 2 ^ k
  | 0, i, j => ⟨0, Nat.one_pos, by simp [Nat.mod_one]⟩
  | k + 1, i, j => by
    obtain ⟨n, hn, e⟩ := reach5 k i j
    have hp : 0 < 2 ^ k := Nat.pow_pos (by decide)
    rw [Nat.pow_succ]
    rcases half_mod _ j _ hp e with q | q
    · exact ⟨n, by omega, q⟩
    · refine ⟨n + 2 ^ k, by omega, ?_⟩
      obtain ⟨s, hs, h⟩ := stride5 k
      rw [it5_add, h, ← q]
      have o : (s * (4 * it5 n i + 1)) % 2 = 1 := odd_mul hs (by omega)
      generalize s * (4 * it5 n i + 1) = u at o
      obtain ⟨v, rfl⟩ : ∃ v, u = 2 * v + 1 := ⟨u / 2, by omega⟩
      have e2 : it5 n i + 2 ^ k * (2 * v + 1) = it5 n i + 2 ^ k + 2 ^ k * 2 * v := by
        rw [Nat.mul_add, Nat.mul_one, ← Nat.mul_assoc]; omega
      rw [e2, Nat.add_mul_mod_self_left]
def PwM (m : Nat) : Prop := ∃ k, 3 ≤ k ∧ k ≤ 13 ∧ m + 1 = 2 ^ k
theorem PwM.le {m : Nat} (h : PwM m) : m ≤ 8191 := by
  obtain ⟨k, _, h2, e⟩ := h
  have : 2 ^ k ≤ 2 ^ 13 := Nat.pow_le_pow_right (by decide) h2
  omega
theorem PwM.ge {m : Nat} (h : PwM m) : 7 ≤ m := by
  obtain ⟨k, h1, _, e⟩ := h
  have : 2 ^ 3 ≤ 2 ^ k := Nat.pow_le_pow_right (by decide) h1
  omega
theorem lcg_it {m i : Nat} (hi : i ≤ m) : ∀ n, lcgI m i n = it5 n i % (m + 1)
  | 0 => (Nat.mod_eq_of_lt (Nat.lt_succ_of_le hi)).symm
  | n + 1 => by
    show (lcgI m i n * 5 + 1) % (m + 1) = _
    rw [lcg_it hi n, it5_out, Nat.mul_comm 5, Nat.add_mod, Nat.mul_mod, Nat.mod_mod, ← Nat.mul_mod, ← Nat.add_mod]
theorem run_hit {m : Nat} (hm : PwM m) (h : Int) {j : Nat} (hj : j ≤ m) : ∃ n, n ≤ m + 12 ∧ runI m (SetTable.bits h) n = j := by
  obtain ⟨k, _, _, e⟩ := hm
  obtain ⟨n, hn, q⟩ := reach5 k (runI m (SetTable.bits h) 12) j
  rw [← e] at hn q
  refine ⟨12 + n, by omega, ?_⟩
  rw [runI_tail (bits_lt h), lcg_it (runI_le _ _ _), q]
  exact Nat.mod_eq_of_lt (Nat.lt_succ_of_le hj)
theorem way_in (m : Nat) (h : Int) (k : Nat) : way m h k ≤ m := by
  have b : SetTable.bits h % (m + 1) ≤ m := Nat.le_of_lt_succ (Nat.mod_lt _ (Nat.succ_pos _))
  have r := runEnd_bd b
  have q := nth_in (m := m) k (runAt m (SetTable.bits h % (m + 1)) (SetTable.bits h)) (show SetTable.bits h % (m + 1) + (SetTable.runEnd m (SetTable.bits h % (m + 1)) - SetTable.bits h % (m + 1)) ≤ m by omega)
  exact Nat.le_trans (Nat.le_add_right _ _) q
def Fst (m : Nat) (S : List Nat) (h : Int) (j : Nat) : Prop := ∃ k, way m h k = j ∧ ∀ c, c < k → way m h c ∈ S
theorem Fst.mono {m : Nat} {S T : List Nat} {h : Int} {j : Nat} (f : Fst m S h j) (st : ∀ x ∈ S, x ∈ T) : Fst m T h j := by
  obtain ⟨k, e, a⟩ := f
  exact ⟨k, e, fun c hc => st _ (a c hc)⟩
structure TabG (t : SetTable) (hs : List Int) : Prop where
  up : Ris t.place.toList
  none : t.dummies = #[]
  size : t.place.toList.length = hs.length
  pw : PwM t.mask
  inn : ∀ x ∈ t.place.toList, x ≤ t.mask
  fst : ∀ p ∈ hs.zip t.place.toList, Fst t.mask t.place.toList p.1 p.2
theorem zip_ins {α β : Type} {xs : List α} {ys : List β} (hl : xs.length = ys.length) (p : Nat) (x : α) (y : β) {z : α × β} (hz : z ∈ (xs.take p ++ x :: xs.drop p).zip (ys.take p ++ y :: ys.drop p)) : z = (x, y) ∨ z ∈ xs.zip ys := by
  rw [List.zip_append (by rw [List.length_take, List.length_take, hl])] at hz
  have all : ∀ {z}, z ∈ (xs.take p).zip (ys.take p) ∨ z ∈ (xs.drop p).zip (ys.drop p) → z ∈ xs.zip ys := fun {z} h => by
    have e : xs.zip ys = (xs.take p).zip (ys.take p) ++ (xs.drop p).zip (ys.drop p) := by
      rw [← List.zip_append (by rw [List.length_take, List.length_take, hl]), List.take_append_drop, List.take_append_drop]
    rw [e]
    exact List.mem_append.mpr h
  rcases List.mem_append.mp hz with q | q
  · exact .inr (all (.inl q))
  · rw [List.zip_cons_cons] at q
    rcases List.mem_cons.mp q with q | q
    · exact .inl q
    · exact .inr (all (.inr q))
theorem TabG.more {t : SetTable} {hs : List Int} (T : TabG t hs) {h : Int} {k : Nat} (no : way t.mask h k ∉ t.place.toList) (all : ∀ c, c < k → way t.mask h c ∈ t.place.toList) {p : Nat} (hp : p = SetTable.below t.place (way t.mask h k)) :
    p ≤ hs.length ∧ TabG (t.put (way t.mask h k)).1 (hs.take p ++ h :: hs.drop p) ∧ (t.put (way t.mask h k)).1.fill = hs.length + 1 := by
  obtain ⟨c1, _, _⟩ := below_cut T.up (way t.mask h k)
  have hpl : p ≤ t.place.toList.length := by rw [hp, Array.length_toList]; exact c1
  have pl : (t.put (way t.mask h k)).1.place.toList = t.place.toList.take p ++ way t.mask h k :: t.place.toList.drop p := by rw [hp]; exact put_place t _
  have dm : (t.put (way t.mask h k)).1.dummies = #[] := put_dm T.none _
  have mem : ∀ x, x ∈ (t.put (way t.mask h k)).1.place.toList ↔ x = way t.mask h k ∨ x ∈ t.place.toList := fun x => by rw [pl]; exact mem_ins
  have len : (t.put (way t.mask h k)).1.place.toList.length = hs.length + 1 := by rw [pl, len_ins _ hpl, T.size]
  have not : t.place[SetTable.below t.place (way t.mask h k)]? ≠ some (way t.mask h k) := fun e => no (List.mem_of_getElem? (by rw [Array.getElem?_toList]; exact e))
  refine ⟨by rw [← T.size]; exact hpl, ⟨ris_insert T.up not, dm, ?_, T.pw, fun x hx => ?_, fun z hz => ?_⟩, ?_⟩
  · rw [len, len_ins _ (by rw [← T.size]; exact hpl)]
  · rcases (mem x).mp hx with e | m
    · rw [e]; exact way_in _ _ _
    · exact T.inn x m
  · have up : ∀ x ∈ t.place.toList, x ∈ (t.put (way t.mask h k)).1.place.toList := fun x m => (mem x).mpr (.inr m)
    rw [pl] at hz
    rcases zip_ins T.size.symm p h (way t.mask h k) hz with e | m
    · rw [e]
      exact ⟨k, rfl, fun c hc => up _ (all c hc)⟩
    · exact (T.fst z m).mono up
  · unfold SetTable.fill
    rw [dm, ← Array.length_toList, len]
    rfl
structure OwnG (m : Nat) (hs : List Int) (ow : Array (Option Nat)) : Prop where
  size : ow.size = m + 1
  what : ∀ j k, j ≤ m → oAt ow j = some k → ∃ h, hs[k]? = some h ∧ ∃ c, way m h c = j ∧ ∀ d, d < c → oAt ow (way m h d) ≠ none
  has : ∀ k, k < hs.length → ∃ j, j ≤ m ∧ oAt ow j = some k
  few : ∃ S : List Nat, S.length = hs.length ∧ ∀ j, j ≤ m → oAt ow j ≠ none → j ∈ S
theorem OwnG.base (m : Nat) : OwnG m [] (Array.replicate (m + 1) none) :=
  ⟨Array.size_replicate, fun j k hj e => (nomatch (oAt_init hj).symm.trans e), fun _ h => (Nat.not_lt_zero _ h).elim, [], rfl, fun j hj e => (e (oAt_init hj)).elim⟩
theorem some_of_ne {α : Type} {o : Option α} (h : o ≠ none) : o.isNone = false := by
  cases o with
  | none => exact absurd rfl h
  | some _ => rfl
theorem OwnG.next {m : Nat} (hm : PwM m) {hs : List Int} {ow : Array (Option Nat)} (O : OwnG m hs ow) (hl : hs.length ≤ m) (h : Int) :
    ∃ j, SetTable.layClean.free m ow (SetTable.turns m) (SetTable.bits h % (m + 1)) (SetTable.bits h) = some j ∧ OwnG m (hs ++ [h]) (ow.setIfInBounds j (some hs.length)) := by
  obtain ⟨S, hS, inS⟩ := O.few
  obtain ⟨j0, h0, no⟩ := st_missing S (m + 1) (by omega)
  have f0 : oAt ow j0 = none := Classical.not_not.mp fun z => no (inS j0 (Nat.le_of_lt_succ h0) z)
  obtain ⟨n, hn, e0⟩ := run_hit hm h (Nat.le_of_lt_succ h0)
  have w0 : way m h (off m (SetTable.bits h % (m + 1)) (SetTable.bits h) n) = j0 := by
    show (nth m (runAt m (SetTable.bits h % (m + 1)) (SetTable.bits h)) (off m (SetTable.bits h % (m + 1)) (SetTable.bits h) n)).j = j0
    rw [nth_off, itL_run]
    exact e0
  obtain ⟨K, k1, k2, k3⟩ := st_least (p := fun k => oAt ow (way m h k) = none) _ (show oAt ow (way m h (off m (SetTable.bits h % (m + 1)) (SetTable.bits h) n)) = none by rw [w0]; exact f0)
  have fr := free_spec m ow (SetTable.turns m) n (SetTable.bits h % (m + 1)) (SetTable.bits h) K (by unfold SetTable.turns; omega) k1 (fun c hc => some_of_ne (k3 c hc)) (by
    have k2' : oAt ow (nth m (runAt m (SetTable.bits h % (m + 1)) (SetTable.bits h)) K).j = none := k2
    rw [k2']; rfl)
  have jm := way_in m h K
  have self : oAt (ow.setIfInBounds (way m h K) (some hs.length)) (way m h K) = some hs.length := oAt_set_self _ (by rw [O.size]; exact Nat.lt_succ_of_le jm)
  have kept : ∀ {i}, oAt ow i ≠ none → oAt (ow.setIfInBounds (way m h K) (some hs.length)) i ≠ none := fun {i} hi => by
    by_cases c : i = way m h K
    · rw [c, self]; exact fun z => nomatch z
    · rwa [oAt_set_ne _ c]
  refine ⟨way m h K, fr, by rw [Array.size_setIfInBounds]; exact O.size, fun j k hj e => ?_, fun k hk => ?_, way m h K :: S, by rw [List.length_cons, List.length_append, hS]; rfl, fun j hj e => ?_⟩
  · by_cases c : j = way m h K
    · subst c
      rw [self] at e
      cases e
      exact ⟨h, by simp, K, rfl, fun d hd => kept (k3 d hd)⟩
    · rw [oAt_set_ne _ c] at e
      obtain ⟨h', a, q, b1, b2⟩ := O.what j k hj e
      exact ⟨h', by rw [List.getElem?_append_left (List.getElem?_eq_some_iff.mp a).1]; exact a, q, b1, fun d hd => kept (b2 d hd)⟩
  · by_cases c : k = hs.length
    · rw [c]; exact ⟨_, jm, self⟩
    · rw [List.length_append, List.length_singleton] at hk
      obtain ⟨j, hj, e⟩ := O.has k (by omega)
      refine ⟨j, hj, ?_⟩
      rw [oAt_set_ne _ fun z => by rw [z, k2] at e; cases e]
      exact e
  · by_cases c : j = way m h K
    · rw [c]; exact List.mem_cons_self ..
    · rw [oAt_set_ne _ c] at e
      exact List.mem_cons_of_mem _ (inS j hj e)
abbrev r0 (m : Nat) (h : Int) : SetTable.Probe := runAt m (SetTable.bits h % (m + 1)) (SetTable.bits h)
section
variable {P : Program} {w : World} {A : Around} {E : Value → Shared → Prop} {s : Shared}
structure SetG (P : Program) (w : World) (h : Heap) (a : Addr) (L : List (Addr × List Int)) (es : Array (Int × Value)) (ep : Nat) (t : SetTable) : Prop where
  obj : ∃ o, h.get? a = some o ∧ o.ExactSet ∧ o.data = .set es ep t
  rw' : es.toList = rowsOf P w L
  tab : TabG t (L.map fun p => thash P w p.2)
  nd : (L.map (·.2)).Nodup
  isT : ∀ p ∈ L, IsT P w h p.2 p.1
  plain : t.plain = true
  led : w.params.followText "set-order" = true ∨ t.led = true
  room : L.length * 5 < t.mask * 3
variable {a : Addr} {L : List (Addr × List Int)} {es : Array (Int × Value)} {ep : Nat} {t : SetTable}
theorem SetG.len (R : SetG P w s.heap a L es ep t) : es.size = L.length := by
  rw [← Array.length_toList, R.rw']
  exact List.length_map _
theorem SetG.few (R : SetG P w s.heap a L es ep t) : L.length < 5000 := by
  have := R.room
  have := R.tab.pw.le
  omega
end
structure SetG0 (P : Program) (w : World) (h : Heap) (a : Addr) (L : List (Addr × List Int)) : Prop where
  ex : ∃ (es : Array (Int × Value)) (ep : Nat) (t : SetTable), (∃ o, h.get? a = some o ∧ o.ExactSet ∧ o.data = .set es ep t) ∧ es.toList = rowsOf P w L ∧ TabG t (L.map fun p => thash P w p.2) ∧ (L.map (·.2)).Nodup ∧ t.plain = true ∧
    (w.params.followText "set-order" = true ∨ t.led = true) ∧ L.length * 5 < t.mask * 3
  few : L.length ≤ 2000
abbrev P2 := Int × Int
def leP (p q : P2) : Bool := decide (p.1 < q.1) || (decide (p.1 = q.1) && decide (p.2 ≤ q.2))
def srtP (ps : List P2) : List P2 := ps.mergeSort leP
theorem srtP_perm (ps : List P2) : (srtP ps).Perm ps := List.mergeSort_perm ps leP
def ddup {α : Type} [DecidableEq α] : List α → List α
  | [] => []
  | p :: r => if p ∈ r then ddup r else p :: ddup r
theorem mem_ddup {α : Type} [DecidableEq α] {x : α} : ∀ {r : List α}, x ∈ ddup r ↔ x ∈ r
  | [] => Iff.rfl
  | p :: r => by
    unfold ddup
    split
    · rename_i h
      rw [mem_ddup, List.mem_cons]
      exact ⟨.inr, fun k => k.elim (fun e => e ▸ h) id⟩
    · rw [List.mem_cons, List.mem_cons, mem_ddup]
theorem nodup_ddup {α : Type} [DecidableEq α] : ∀ r : List α, (ddup r).Nodup
  | [] => List.nodup_nil
  | p :: r => by
    unfold ddup
    split
    · exact nodup_ddup r
    · rename_i h
      exact List.nodup_cons.mpr ⟨fun k => h (mem_ddup.mp k), nodup_ddup r⟩
theorem ddup_perm {α : Type} [DecidableEq α] {ms ns : List α} (hn : ms.Nodup) (h : ∀ x, x ∈ ms ↔ x ∈ ns) : ms.Perm (ddup ns) :=
  (List.perm_ext_iff_of_nodup hn (nodup_ddup ns)).mpr fun x => (h x).trans mem_ddup.symm
def setP (ps : List P2) : List P2 := srtP (ddup ps)
def pairD (p : P2) : D := .tup [.int p.1, .int p.2]
def l2 (p : P2) : List Int := [p.1, p.2]
abbrev Chk := PySem.W.Frag → Bool
def fa (f : He.Fa) : Chk := fun K => f.ok K
def obsZ (ck : List Chk) (fn : List He.DefD) (K : PySem.W.Frag) : He.AlD := ((ck.all fun f => f K) && fn.all fun d => d.ok K, fn.map fun d => He.fnW K d.at_)
def SaysZ (ck : List Chk) (fn : List He.DefD) (K : PySem.W.Frag) : Prop := obsZ ck fn K = He.valD fn
section
variable {ck : List Chk} {fn : List He.DefD} {K : PySem.W.Frag}
theorem SaysZ.all (c : SaysZ ck fn K) : ((ck.all fun f => f K) && fn.all fun d => d.ok K) = true := congrArg (fun z : He.AlD => z.1) c
theorem SaysZ.chk (c : SaysZ ck fn K) (i : Nat) {f : Chk} (h : ck[i]? = some f := by rfl) : f K = true := List.all_eq_true.mp (and2 c.all).1 f (List.mem_of_getElem? h)
theorem SaysZ.def_ (c : SaysZ ck fn K) (i : Nat) {d : He.DefD} (h : fn[i]? = some d := by rfl) : ∃ fd, FunD K d.name d.qual d.params d.body d.scope (d.dvs K) (d.kws K) (He.fAd K d.at_) fd := by
  have h2 := List.all_eq_true.mp (and2 c.all).2 d (List.mem_of_getElem? h)
  have e : fn.map (fun d => He.fnW K d.at_) = fn.map He.DefD.val := congrArg (fun z : He.AlD => z.2) c
  have e2 : He.fnW K d.at_ = d.val := by
    have z : (fn.map fun d => He.fnW K d.at_)[i]? = (fn.map He.DefD.val)[i]? := by rw [e]
    rw [List.getElem?_map, List.getElem?_map, h] at z
    exact Option.some.inj z
  exact He.DefD.funD e2 h2
end
section
variable {K : PySem.W.Frag} {h : Heap} {mg : Str → Option Value} {P : Program} {w : World} {base : Heap} {tb : List (Addr × Option Str)}
theorem fldOk_of (X : K.In h) (Gn : h.Ns mainGlobals mg) {c f : Str} (h1 : fa (.glo c) K = true) (h2 : fa (.cls c) K = true) (h3 : fa (.noat c f) K = true) : FldOk ⟨P, w, K, mg, base, tb⟩ c f := ⟨He.ga K c, He.glo_ok X Gn h1, He.cls_ok h2, He.noat_ok h3⟩
def eqV (a b : Option Value) : Bool := decide (a = b)
def eqB (a b : Option Bool) : Bool := decide (a = b)
def chkSC (c : Str) : Chk := fun K => PySem.W.plainGet K (He.ga K c) Str.empty && (PySem.W.isClsIn K (He.ga K c) && (PySem.W.plainOver K (He.ga K c) && He.eqO (PySem.W.findIn K (.ref (He.ga K c)) "__setattr__") (some (some (.builtin "object.__setattr__")))))
theorem chkSC_ok {c : Str} (e : chkSC c K = true) : SlX.SCls K (He.ga K c) := by
  obtain ⟨h1, e⟩ := and2 e
  obtain ⟨h2, e⟩ := and2 e
  obtain ⟨h3, e⟩ := and2 e
  exact ⟨h1, h2, h3, He.eqO_ok e⟩
def chkS1 (c f : Str) (i : Nat) : Chk := fun K => He.eqO (PySem.W.findIn K (.ref (He.ga K c)) f) (some (some (.ref (He.ma K (He.ga K c) f)))) && (He.eqO (PySem.W.specialIn K (.ref (He.ma K (He.ga K c) f)) "__get__") (some (some (.builtin "member_descriptor.__get__"))) &&
  (eqB (PySem.W.takesIn K (.ref (He.ma K (He.ga K c) f))) (some true) && (eqV (PySem.W.typeIn K (.ref (He.ma K (He.ga K c) f))) (some (.type "member_descriptor")) && decide (PySem.W.slotIn K (He.ma K (He.ga K c) f) (He.ga K c) = some i))))
theorem chkS1_ok {c f : Str} {i : Nat} (hi : i < 1000) (e : chkS1 c f i K = true) : SlX.Slot1 K (He.ga K c) f (He.ma K (He.ga K c) f) i := by
  obtain ⟨h1, e⟩ := and2 e
  obtain ⟨h2, e⟩ := and2 e
  obtain ⟨h3, e⟩ := and2 e
  obtain ⟨h4, e⟩ := and2 e
  exact ⟨He.eqO_ok h1, He.eqO_ok h2, of_decide_eq_true h3, of_decide_eq_true h4, of_decide_eq_true e, hi⟩
theorem sltOk_of (X : K.In h) (Gn : h.Ns mainGlobals mg) {c f : Str} {i : Nat} (hi : i < 1000) (h1 : fa (.glo c) K = true) (h2 : chkSC c K = true) (h3 : chkS1 c f i K = true) : SltOk ⟨P, w, K, mg, base, tb⟩ c f i := ⟨He.ga K c, _, He.glo_ok X Gn h1, chkSC_ok h2, chkS1_ok hi h3⟩
def tcAll : List Tc := [.int, .bl, .str, .tup, .lst, .dict]
def tyAll : List Ty := [.non, .bl, .int, .str, .tup, .lst, .dict]
def chkI1 (q : Str × Bool) : Chk := fun K => fa (.glo q.1) K && (He.eqO (PySem.W.findIn K (.ref (He.ga K q.1)) "__class__") (some (some (.builtin "object.__class__"))) && (He.eqO (PySem.W.specialIn K (.builtin "object.__class__") "__get__") (some (some (.builtin "getset_descriptor.__get__"))) &&
  (eqB (PySem.W.takesIn K (.builtin "object.__class__")) (some true) && (eqB (PySem.W.mroIn K (He.ga K q.1) (.type "object")) (some true) && ((if q.2 then chkSC q.1 K else fa (.cls q.1) K) && ((tcAll.all fun T => eqB (PySem.W.kitOne K (.ref (He.ga K q.1)) (.type T.name)) (some false)) &&
  tyAll.all fun t => eqB (PySem.W.kitOne K (.type t.name) (.ref (He.ga K q.1))) (some false)))))))
def chkT (cs : List (Str × Bool)) : Chk := fun K => (cs.all fun q => chkI1 q K) && cs.all fun q => cs.all fun r => eqB (PySem.W.kitOne K (.ref (He.ga K q.1)) (.ref (He.ga K r.1))) (some (decide (q.1 = r.1)))
theorem clsT_of (X : K.In h) (Gn : h.Ns mainGlobals mg) {cs : List (Str × Bool)} (e : chkT cs K = true) : ClsT ⟨P, w, K, mg, base, tb⟩ cs := by
  obtain ⟨e1, e2⟩ := and2 e
  have glo : ∀ q ∈ cs, mg q.1 = some (.ref (He.ga K q.1)) := fun q hq => He.glo_ok X Gn (and2 (List.all_eq_true.mp e1 q hq)).1
  refine ⟨fun q hq => ?_, fun q hq r hr C C' h1 h2 => ?_⟩
  · obtain ⟨h1, k⟩ := and2 (List.all_eq_true.mp e1 q hq)
    obtain ⟨h2, k⟩ := and2 k
    obtain ⟨h3, k⟩ := and2 k
    obtain ⟨h4, k⟩ := and2 k
    obtain ⟨h5, k⟩ := and2 k
    obtain ⟨h6, k⟩ := and2 k
    obtain ⟨h7, k⟩ := and2 k
    refine ⟨He.ga K q.1, glo q hq, ⟨He.eqO_ok h2, He.eqO_ok h3, of_decide_eq_true h4, of_decide_eq_true h5⟩, fun hb => ?_, fun hb => ?_, fun T => ?_, fun t => ?_⟩
    · rw [hb, if_neg (by decide)] at h6
      exact He.cls_ok h6
    · rw [hb, if_pos rfl] at h6
      exact chkSC_ok h6
    · exact of_decide_eq_true (List.all_eq_true.mp h7 T (by cases T <;> simp [tcAll]))
    · exact of_decide_eq_true (List.all_eq_true.mp k t (by cases t <;> simp [tyAll]))
  · have k := of_decide_eq_true (List.all_eq_true.mp (List.all_eq_true.mp e2 q hq) r hr)
    have g1 := glo q hq
    have g2 := glo r hr
    dsimp only at h1 h2
    rw [g1] at h1
    rw [g2] at h2
    cases h1
    cases h2
    exact k
def EmpT (K : PySem.W.Frag) (a : Addr) : Prop := ∃ (o : Obj) (its : Array Value) (n : Nat), K.lookup a = some o ∧ o.cls = .type "tuple" ∧ o.dict = none ∧ o.data = .seq its n ∧ its.size ≤ sizeLine ∧ Vals [] its.toList
def chkE (at_ : PySem.W.Frag → Addr) : Chk := fun K => match K.lookup (at_ K) with
  | some ⟨.type c, none, .seq its _, _⟩ => decide (c = "tuple") && its.toList.isEmpty
  | _ => false
theorem chkE_ok {at_ : PySem.W.Frag → Addr} (e : chkE at_ K = true) : EmpT K (at_ K) := by
  unfold chkE at e
  split at e
  · rename_i c its n sl hq
    obtain ⟨h1, h2⟩ := and2 e
    have hi : its.toList = [] := List.isEmpty_iff.mp h2
    refine ⟨_, its, n, hq, congrArg Value.type (of_decide_eq_true h1), rfl, rfl, ?_, by rw [hi]; exact .nil⟩
    have : its.size = 0 := by rw [← Array.length_toList, hi]; rfl
    rw [this]
    exact Nat.zero_le _
  · cases e
theorem den_emp {G : Gb} {a : Addr} (e : EmpT G.K a) (w : Wd) : Den G w (.ref a) (.tg []) := .tg (.inr e) .nil
end
def inCls (s : Stmt) (j : Nat) : Stmt := match s with
  | .ClassDef _ _ _ b _ _ _ _ _ _ _ => b.getD j (.Pass ⟨0, 0, 0, 0⟩)
  | _ => .Pass ⟨0, 0, 0, 0⟩
def aStar (f : EF) (g : AF) : AF := fun ρ L => (f ρ L).bind fun d L1 => match seqOf L1 d with
  | some (xs, _) => (g ρ L1).bind fun ds L2 => .ok (xs ++ ds) L2
  | none => .bad
section
variable {S : Sc} {W : WX} {e : Expr} {es : List Expr} {f : EF} {g : AF} {p : Pos}
theorem sa_star (he : SE S W e f) (hr : SA S W es g) (hs : ∀ env, starEach (.Starred e p :: es) env = (true, eval e env) :: starEach es env := by intro _; rfl) : SA S W (.Starred e p :: es) (aStar f g) := fun X h =>
  PA.imp (StX.pa_star (he X h) (hr X h) (hs _)) fun σ H Q ⟨w, ρ, L, R, e, q⟩ => ⟨w, ρ, L, R, e, (Post.bind (rel := Den S.g) q).imp (fun x H1 ⟨w1, d, L1, l1, R1, d1, p1⟩ => by
    split at p1
    · rename_i xs s hq
      obtain ⟨k, a, vs, rfl, hv, r⟩ := seq_now R1 d1 hq
      refine ⟨a, vs, rfl, ?_, w1, ρ, L1, R1, e.le l1, (Post.bind (rel := DenL S.g) p1).imp (fun ys H2 ⟨w2, ds, L2, l2, R2, d2, p2⟩ => Post.ok p2 (Wd.le.refl _) R2 ((r.le l2).append d2)) fun _ _ _ z => z⟩
      rw [← h.K]
      cases k with
      | true => exact .inr hv
      | false => exact .inl hv
    · exact p1.elim) fun _ _ _ z => z⟩
end
structure MetIs (gd : Bool) (G : Gb) (c x : Str) (n k : Nat) (m : List D → Sto → Res D) (dd : List D) : Prop where
  ex : ∃ (C f : Addr) (fd : FuncData) (ps : List Str) (ds : List Value) (dvs : List V), G.mg c = some (.ref C) ∧ Cls G.K C ∧ Meth G.K C x f ∧ Binds G.K fd ps ds ∧ Vals dvs ds ∧ (∀ w, DenL G w dvs dd) ∧
    FnX gd G.P G.w G.K G.mg G.base (L2.CX G.P G.w) k f fd ps (spD G n m)
section
variable {gd : Bool} {S : Sc} {W : WX} {e o : Expr} {es : List Expr} {fo : EF} {fl : AF} {pos apos : Pos} {c x : Str} {n k : Nat} {m : List D → Sto → Res D} {dd : List D}
structure PrpIs (G : Gb) (c x : Str) (k : Nat) (m : List D → Sto → Res D) : Prop where
  ex : ∃ (C p g : Addr) (fd : FuncData) (ps : List Str), G.mg c = some (.ref C) ∧ Cls G.K C ∧ PropOf G.K C x p g ∧ Binds G.K fd ps [] ∧ FnOk G.P G.w G.K G.mg G.base (L2.CX G.P G.w) k g fd ps (spD G 1 m)
def okR : Res D → Res D
  | .ok d L => .ok d L
  | _ => .bad
theorem okR_post {G : Gb} {w : Wd} {r : Res D} {Q : VK} {E E' : XK} (p : Post G (Den G) w (okR r) Q E) : Post G (Den G) w r Q E' := by
  cases r with
  | ok d L => exact p
  | err _ _ _ => exact p.elim
  | bad => exact p.elim
end
end DS
set_option Elab.async false
set_option linter.all false
set_option maxRecDepth 100000
set_option maxHeartbeats 4000000
namespace PySem.W
open PySem
section
variable {A : Around} {E : Value → Shared → Prop} {s : Shared} {K : Frag} {x C f : Addr} {ox : Obj} {od : Option Obj} {name : Str}
end
end PySem.W
namespace DS
open PySem PySem.Spec L2
open PyProof.Rows hiding St
structure OpIs (G : Gb) (c : Str) (nm : String) (k : Nat) (m : List D → Sto → Res D) : Prop where
  ex : ∃ (C f : Addr) (fd : FuncData) (ps : List Str), G.mg c = some (.ref C) ∧ PySem.W.selfFirst G.K C = true ∧ PySem.W.findIn G.K (.ref C) (PySem.dunder nm) = some (some (.ref f)) ∧ PySem.W.isFn G.K (.ref f) = true ∧
    Binds G.K fd ps [] ∧ FnOk G.P G.w G.K G.mg G.base (L2.CX G.P G.w) k f fd ps (spD G 2 m)
structure SpcIs (G : Gb) (c x : Str) (k : Nat) (m : List D → Sto → Res D) : Prop where
  ex : ∃ (C f : Addr) (fd : FuncData) (ps : List Str), G.mg c = some (.ref C) ∧ PySem.W.findIn G.K (.ref C) x = some (some (.ref f)) ∧ PySem.W.isFn G.K (.ref f) = true ∧ Binds G.K fd ps [] ∧ FnOk G.P G.w G.K G.mg G.base (L2.CX G.P G.w) k f fd ps (spD G 1 m)
structure CMtIs (G : Gb) (c x : Str) (n k : Nat) (m : List D → Sto → Res D) : Prop where
  ex : ∃ (C : Addr) (mc : Value) (p g : Addr) (fd : FuncData) (ps : List Str), G.mg c = some (.ref C) ∧ ClX.CRead G.K C mc ∧ ClX.CMet G.K C mc x p g ∧ Binds G.K fd ps [] ∧ FnOk G.P G.w G.K G.mg G.base (L2.CX G.P G.w) k g fd ps (spD G n m)
inductive Way where
  | glo (x : Str) | met (c x : Str) | prp (c x : Str) | cmt (c x : Str)
def recAd (K : PySem.W.Frag) (p : Addr) (T : String) : Addr := match PySem.W.recIn K p T with
  | some (.ref g :: _) => g
  | _ => 0
def Way.ad (K : PySem.W.Frag) : Way → Addr
  | .glo x => He.ga K x
  | .met c x => He.ma K (He.ga K c) x
  | .prp c x => recAd K (He.ma K (He.ga K c) x) "property"
  | .cmt c x => recAd K (He.ma K (He.ga K c) x) "classmethod"
structure DefZ where
  way : Way
  d : He.DefD
def fnAt (K : PySem.W.Frag) (a : Addr) : He.FnW := match K.lookup a with
  | some ⟨_, _, .func fd, _⟩ => some (fd.name, fd.qualname, fd.params, fd.body, fd.scope, fd.globals, fd.closure, fd.builtins)
  | _ => none
def DefZ.ok (K : PySem.W.Frag) (z : DefZ) : Bool := PySem.W.keepIn K (.ref (z.way.ad K)) && (match K.lookup (z.way.ad K) with
  | some ⟨_, _, .func fd, _⟩ => PySem.W.codeIn K fd.code z.d.qual && (He.dflB K fd.defaults (z.d.dvs K) && He.kwdB K fd.kwdefaults (z.d.kws K))
  | _ => false)
theorem DefZ.funD {K : PySem.W.Frag} {z : DefZ} (e : fnAt K (z.way.ad K) = z.d.val) (c : z.ok K = true) : ∃ fd, FunD K z.d.name z.d.qual z.d.params z.d.body z.d.scope (z.d.dvs K) (z.d.kws K) (z.way.ad K) fd := by
  obtain ⟨kp, c2⟩ := and2 c
  unfold fnAt at e
  generalize hq : K.lookup (z.way.ad K) = q at e c2
  match q, hq with
  | none, _ => cases c2
  | some ⟨oc, od, .func ⟨n1, n2, n3, n4, n5, n6, n7, n8, n9, n10, n11, n12, n13, n14, n15⟩, osl⟩, hq =>
    have e2 : (some (n1, n2, n3, n4, n5, n6, n7, n15) : He.FnW) = some (z.d.name, z.d.qual, z.d.params, .stmts z.d.body, z.d.scope, mainGlobals, [], builtinsNs) := e
    simp only [Option.some.injEq, Prod.mk.injEq] at e2
    obtain ⟨h1, h2, h3, h4, h5, h6, h7, h8⟩ := e2
    subst h1 h2 h3 h4 h5 h6 h7 h8
    obtain ⟨k1, k2⟩ := and2 (show (PySem.W.codeIn K n13 z.d.qual && (He.dflB K n8 (z.d.dvs K) && He.kwdB K n9 (z.d.kws K))) = true from c2)
    obtain ⟨k3, k4⟩ := and2 k2
    exact ⟨_, ⟨oc, od, n8, n9, n10, n11, n12, n13, n14, osl, rfl, hq, k1, He.dflB_ok k3, He.kwdB_ok k4⟩, kp⟩
def obsY (ck : List Chk) (fn : List DefZ) (K : PySem.W.Frag) : He.AlD := ((ck.all fun f => f K) && fn.all fun d => d.ok K, fn.map fun d => fnAt K (d.way.ad K))
def valY (fn : List DefZ) : He.AlD := (true, fn.map fun z => z.d.val)
def SaysY (ck : List Chk) (fn : List DefZ) (K : PySem.W.Frag) : Prop := obsY ck fn K = valY fn
section
variable {ck : List Chk} {fn : List DefZ} {K : PySem.W.Frag}
theorem SaysY.all (c : SaysY ck fn K) : ((ck.all fun f => f K) && fn.all fun d => d.ok K) = true := congrArg (fun z : He.AlD => z.1) c
theorem SaysY.chk (c : SaysY ck fn K) (i : Nat) {f : Chk} (h : ck[i]? = some f := by rfl) : f K = true := List.all_eq_true.mp (and2 c.all).1 f (List.mem_of_getElem? h)
theorem SaysY.def_ (c : SaysY ck fn K) (i : Nat) {z : DefZ} (h : fn[i]? = some z := by rfl) : ∃ fd, FunD K z.d.name z.d.qual z.d.params z.d.body z.d.scope (z.d.dvs K) (z.d.kws K) (z.way.ad K) fd := by
  have h2 := List.all_eq_true.mp (and2 c.all).2 z (List.mem_of_getElem? h)
  have e : fn.map (fun d => fnAt K (d.way.ad K)) = fn.map fun z => z.d.val := congrArg (fun z : He.AlD => z.2) c
  refine DefZ.funD ?_ h2
  have y : (fn.map fun d => fnAt K (d.way.ad K))[i]? = (fn.map fun z => z.d.val)[i]? := by rw [e]
  rw [List.getElem?_map, List.getElem?_map, h] at y
  exact Option.some.inj y
end
section
variable {K : PySem.W.Frag} {h : Heap} {mg : Str → Option Value} {P : Program} {w : World} {base : Heap}
end
end DS
set_option Elab.async false
set_option linter.all false
set_option maxRecDepth 100000
set_option maxHeartbeats 4000000
namespace PySem.W
open PySem
section
variable {prog : Program} {w : World} {A : Around} {E : Value → Shared → Prop} {s : Shared} {K : Frag} {x C f : Addr} {ox : Obj} {od : Option Obj} {b tb : Value}
end
end PySem.W
namespace DS
open PySem PySem.Spec L2
open PyProof.Rows hiding St
structure OwnIs (gd : Bool) (G : Gb) (c x : Str) (n k : Nat) (m : List D → Sto → Res D) : Prop where
  ex : ∃ (C f : Addr) (fd : FuncData) (ps : List Str), G.mg c = some (.ref C) ∧ PySem.W.findIn G.K (.ref C) x = some (some (.ref f)) ∧ PySem.W.isFn G.K (.ref f) = true ∧ PySem.W.fnIn G.K f = true ∧ Binds G.K fd ps [] ∧
    FnX gd G.P G.w G.K G.mg G.base (L2.CX G.P G.w) k f fd ps (spD G n m)
section
variable {X : Cx} {gd : Bool} {k : Nat} {C f : Addr} {fd : FuncData} {ps : List Str} {sp : Sp} {pins : List (Addr × Obj)} {σ : L2.St} {H : Hp} {s : Shared}
def insH (C : Addr) (x : V) (H : Hp) : Prop := ∃ a dx fs, x = .ref a ∧ H a = some (.ins C dx fs)
theorem insH.at {x : V} {v : Value} (h : insH C x H) (I : Inv X pins σ H s) (r : RelV x v) : ∃ a ox od, x = .ref a ∧ v = .ref a ∧ PySem.W.InstAt s.heap a ox C od := by
  obtain ⟨a, dx, fs, rfl, ha⟩ := h
  cases (show v = Value.ref a from r)
  obtain ⟨mA, O, _, _, _, _⟩ := ins_get I.hok ha
  obtain ⟨od, J, _⟩ := O.look
  exact ⟨a, _, od, rfl, rfl, J⟩
end
structure EqC (G : Gb) (c : Str) : Prop where
  ex : ∃ C, G.mg c = some (.ref C) ∧ PySem.W.findIn G.K (.ref C) "__ne__" = some (some (.builtin "object.__ne__")) ∧ PySem.W.mroIn G.K C (.type "object") = some true ∧ ∀ t : Ty, PySem.W.notFirst G.K C (.type t.name) = true
section
variable {S : Sc} {W : WX} {gd : Bool} {a b e : Expr} {es : List Expr} {fa fb : EF} {fl : AF} {pos p : Pos} {c : Str} {k : Nat} {m : List D → Sto → Res D}
section
variable {cs : List (Str × Bool)} (CT : ClsT S.g cs) (F : OwnIs gd S.g c "__eq__" 2 k m) (N : EqC S.g c) (hc : (c, false) ∈ cs) (hk : k + 1 ≤ S.k) (ha : SE S W a fa) (hb : SE S W b fb)
include CT F N hc hk ha hb
end
end
end DS
set_option Elab.async false
set_option linter.all false
set_option maxRecDepth 100000
set_option maxHeartbeats 4000000
namespace DS
open PySem PySem.W PySem.Spec L2
open PyProof.Rows hiding St
def exBody (n1 n2 f : Str) (p : Fin 10 → Pos) : List Stmt :=
  [.Expr (.Call (.Attribute (.Call (.Name "super" (p 0)) [] [] (p 1)) "__init__" (p 2)) [.Name n2 (p 3)] [] (p 4)) (p 5), .Assign [.Attribute (.Name n1 (p 6)) f (p 7)] (.Name n2 (p 8)) (p 9)]
structure ExText (n1 n2 f : Str) (p : Fin 10 → Pos) (scope : Scope) (params : Arguments) : Prop where
  kind : scope.kind = .function
  co : scope.isCoroutine = false
  gen : scope.isGenerator = false
  nocell : ∀ x ∈ scope.names, x.2 ≠ .cell
  sup : scope.names.lookup ("super" : Str) = some .globalImplicit
  cls : scope.names.lookup ("__class__" : Str) = some .free
  l1 : scope.names.lookup n1 = some .local
  l2 : scope.names.lookup n2 = some .local
  ne : n1 ≠ n2
  d1 : (n1 == ("__debug__" : Str)) = false
  d2 : (n2 == ("__debug__" : Str)) = false
  head : ∃ ar, (params.posonlyargs ++ params.args).head? = some ar ∧ ar.arg = n1
  sw0 : ∀ env, swapsWith (.Call (.Attribute (.Call (.Name "super" (p 0)) [] [] (p 1)) "__init__" (p 2)) [.Name n2 (p 3)] [] (p 4)) none (p 5).line env = pure false
  sw1 : ∀ env, swapsWith (.Name n2 (p 8)) (some (.Attribute (.Name n1 (p 6)) f (p 7))) (p 9).line env = pure false
  pl : ∃ pl : Env → Sem Bool, ∀ env : Env, eval (.Call (.Attribute (.Call (.Name "super" (p 0)) [] [] (p 1)) "__init__" (p 2)) [.Name n2 (p 3)] [] (p 4)) env = (do
      let ov ← attributeBase (.Call (.Name "super" (p 0)) [] [] (p 1)) "__init__" env (eval (.Call (.Name "super" (p 0)) [] [] (p 1)) env)
      standAt (p 2).atName
      let (f, first) ← holding [ov] (getMethod ov "__init__" (pl env))
      callWith (p 4) f first (backTo (p 4) (starEach [.Name n2 (p 3)] env)) [])
  st : ∀ env : Env, starEach [.Name n2 (p 3)] env = (false, eval (.Name n2 (p 3)) env) :: starEach [] env
structure ExI (P : Program) (K : Frag) (C fI cc cda : Addr) (n1 n2 f : Str) (p : Fin 10 → Pos) (params : Arguments) (scope : Scope) (bmB : List Value) (B newId initId : String) : Prop where
  over : excOver K C bmB = true
  ini : excInitIn K C bmB newId = true
  hd : hasDictIn K C = true
  tk : takerIn K C f = some none
  sa : findIn K (.ref C) "__setattr__" = some (some (.builtin "object.__setattr__"))
  su : ks_superIn K C C "__init__" = some (some (.builtin initId))
  sB : subIn K (.ref C) (.type B) = some true
  sC : mroIn K C (.ref C) = some true
  op : nsIn K cStatics "thirdparty.any" = some none
  fn : ∃ oc od fd sl, K.lookup fI = some ⟨oc, od, .func fd, sl⟩ ∧ fd.params = params ∧ fd.body = .stmts (exBody n1 n2 f p) ∧ fd.scope = scope ∧ fd.globals = mainGlobals ∧ fd.closure = [(("__class__" : Str), cc)] ∧ fd.builtins = builtinsNs ∧ fd.code = .ref cda ∧ codeIn K (.ref cda) fd.qualname = true ∧
    ∀ (s : Shared) (u v : Value), BindsTo s fd ⟨[u, v], []⟩ [(n1, u), (n2, v)]
  file : ∃ a b vs sl file tf, K.lookup cda = some ⟨a, b, .fields vs, sl⟩ ∧ vs[2]? = some (.str file tf) ∧ ((P.main.file : Str) == file) = true
  cell : ∃ cl cld csl, K.lookup cc = some ⟨cl, cld, .cell (some (.ref C)), csl⟩
  init : findIn K (.ref C) "__init__" = some (some (.ref fI))
  isfn : isFn K (.ref fI) = true
  exc : subIn K (.ref C) (.type "BaseException") = some true
  ty : typeIn K (.ref C) = some (.type "type")
  kp : keepIn K (.ref C) = true
  top : (P.main.scope.names.lookup ("super" : Str)).isSome = false
section
variable {prog : Program} {w : World} {A : Around} {s : Shared} {K : Frag} {C fI cc cda e t : Addr} {n1 n2 f : Str} {p : Fin 10 → Pos} {params : Arguments} {scope : Scope} {bmB : List Value} {B newId initId : String} {R : Result → Shared → Prop} {v : Value} {mg mb : Str → Option Value}
theorem ns_of {h h' : Heap} {L : Addr} {m : Str → Option Value} (k : ∀ b o, b ≠ e → h.get? b = some o → h'.get? b = some o) (ne : L ≠ e) (n : h.Ns L m) : h'.Ns L m := by
  obtain ⟨o, es, ep, a, b, c⟩ := n
  exact ⟨o, es, ep, k _ _ ne a, b, c⟩
theorem exi_run (T : ExI prog K C fI cc cda n1 n2 f p params scope bmB B newId initId) (X0 : ExText n1 n2 f p scope params) (SF : StoreFacts B bmB "object.__setattr__" "object") (FB : ExcBaseFacts B newId initId bmB) (KF : KxsFacts B initId)
    (hroom : A.depth < recursionLimit) (X : K.In s.heap) (hlim : s.heap.NoLimit) (hg : s.heap.Ns mainGlobals mg) (hgs : mg ("super" : Str) = none) (hb : s.heap.Ns builtinsNs mb) (hbs : mb ("super" : Str) = some (.type "super")) (he : s.heap.get? e = some (excObj C t none .none)) (hKe : K.lookup e = none)
    (hR : ∀ (h' : Heap) (tk : Nat) (dx t1 : Addr), (∀ b o, b ≠ e → s.heap.get? b = some o → h'.get? b = some o) → s.heap.objs.size ≤ dx → h'.get? e = some (excObj C t1 (some dx) .none) → h'.Ns1 dx (fun y => if y = f then some v else none) → R (.ok (.ret .none)) { s with heap := h', toks := tk }) :
    codeAny (model prog w) A (.call (.ref fI) ⟨[.ref e, v], []⟩) R s := by
  obtain ⟨oc, od, fd, sl, lk, e1, e2, e3, e4, e5, e6, e7, e8, hbind⟩ := T.fn
  obtain ⟨fa, fb, vs, fsl, file, tf, lc, hvs, hfile⟩ := T.file
  obtain ⟨cl, cld, csl, lcell⟩ := T.cell
  obtain ⟨ar, har, harg⟩ := X0.head
  obtain ⟨pl, hpl⟩ := X0.pl
  obtain ⟨nm, N', qn, bs, bm, hdct, sn, sub, ab, col, dd, k0, k1, k2, k3, k5, hC, hT⟩ := excInit_of X T.ini
  have leL : e < s.heap.objs.size := Heap.lt_size he
  have LneE : s.heap.objs.size ≠ e := Nat.ne_of_gt leL
  have gne : (mainGlobals : Addr) ≠ e := fun z => by
    obtain ⟨o, es, ep, a, b, _⟩ := hg
    rw [z, he] at a
    cases a
    cases b
  have bne : (builtinsNs : Addr) ≠ e := fun z => by
    obtain ⟨o, es, ep, a, b, _⟩ := hb
    rw [z, he] at a
    cases a
    cases b
  have Cne : C ≠ e := fun z => by
    rw [z, he] at hC
    cases hC
  refine ks_codeAny_call_defAt (binds := [(n1, .ref e), (n2, v)]) hroom (X _ _ lk) rfl hlim (by rw [e7]; exact codeRec_of X e8) e2 (hbind _ _ _) (by rw [e3]; exact X0.nocell) (by
    rw [e3]
    intro x hx
    rcases List.mem_cons.mp hx with rfl | hx
    · exact X0.l1
    · rcases List.mem_cons.mp hx with rfl | hx
      · exact X0.l2
      · cases hx) (fun h₀ hns keep => ?_) (by rw [e3]; exact X0.co) (by rw [e3]; exact X0.gen) (by rw [e3]; exact X0.kind)
  obtain ⟨env, henv⟩ : ∃ env, env = callEnv fd s.heap.objs.size fI := ⟨_, rfl⟩
  rw [← henv]
  have hsc : env.scope = scope := by rw [henv, ← e3]; rfl
  have hloc : env.locals = s.heap.objs.size := by rw [henv]; rfl
  have hglob : env.globals = mainGlobals := by rw [henv, ← e4]; rfl
  have hbl : env.builtins = builtinsNs := by rw [henv, ← e6]; rfl
  have hcells : env.cells = [(("__class__" : Str), cc)] := by rw [henv, ← e5]; rfl
  have hfu : env.func = some fI := by rw [henv]; rfl
  have hco : env.code = .ref cda := by rw [henv, ← e7]; rfl
  have hk : env.scope.kind = .function := by rw [hsc]; exact X0.kind
  have kf : ∀ y, env.kindOf y = scope.names.lookup y := fun y => by rw [← hsc]; rfl
  have m1 : (fun x => List.lookup x [(n1, Value.ref e), (n2, v)].reverse) n1 = some (.ref e) := by
    have hb' : (n1 == n2) = false := beq_eq_false_iff_ne.mpr X0.ne
    show List.lookup n1 [(n2, v), (n1, Value.ref e)] = _
    rw [List.lookup_cons, hb', List.lookup_cons_self]
  have m2 : (fun x => List.lookup x [(n1, Value.ref e), (n2, v)].reverse) n2 = some v := by
    show List.lookup n2 [(n2, v), (n1, Value.ref e)] = _
    rw [List.lookup_cons_self]
  have X1 : K.In h₀ := X.keeps keep
  obtain ⟨oD, hD1, hD2⟩ : ∃ oD, h₀.get? C = some oD ∧ oD.data = .cls ⟨nm, bs, .ref C :: bm, N', qn, hdct, sn, sub, ab, col, false⟩ := ⟨_, keep _ _ hC, rfl⟩
  refine ks_wpAt_execs_cons (ks_wpAt_Expr_any (ks_wpAt_MethodCall (pl := pl env) (ks_wpAt_super_base (by rw [kf]; exact X0.sup) (by rw [kf]; exact X0.cls) (by decide) hfu (X1 _ _ lk) rfl (by rw [e1]; exact har) hco (X1 _ _ lc) rfl hvs hfile T.top ?_) (hpl env)) (by unfold interactive; rw [hk] <;> rfl) (X0.sw0 env))
  refine ks_loadName_global hk (by rw [kf]; exact X0.sup) (Calls.loadGlobal_builtin (mg := mg) (mb := mb) (by rw [hglob]; exact ns_of (e := e) (fun b o _ => keep b o) gne hg) hgs (by rw [hbl]; exact ns_of (e := e) (fun b o _ => keep b o) bne hb) hbs ⟨rfl, ?_⟩)
  refine wpAny_loadName_free hk (by rw [kf]; exact X0.cls) (by rw [hcells] <;> rfl) ⟨_, X1 _ _ lcell, rfl⟩ ?_
  rw [harg]
  refine wpAny_loadName_local hk (by rw [kf]; exact X0.l1) (by rw [hloc]; exact hns) m1 ?_
  refine ks_wpAny_isType_cls hD1 hD2 ⟨rfl, ?_⟩
  refine ks_wpAny_call_super hD1 hD2 (keep _ _ he) rfl (fun c z => by cases z) (looks_mroIn X1 T.sC) fun h1 hso k1' => ?_
  have X2 : K.In h1 := X1.keeps k1'
  have I2 : InstAt h1 e (excObj C t none .none) C none := ⟨k1' _ _ (keep _ _ he), rfl, rfl, trivial⟩
  obtain ⟨cd, hcd⟩ : ∃ cd, clsIn K C = some cd := Option.isSome_iff_exists.mp (by obtain ⟨cd, hc, _⟩ := any_some T.hd; rw [hc]; rfl)
  have hsu := T.su
  unfold ks_superIn at hsu
  rw [hcd] at hsu
  refine kxs_getMethod KF hso (looks_opaque X2 T.op) (l₀ := cd.mro) (fun A Q E s k q => wpAny_bind ((looks_clsIn X2 hcd) A _ E s k (wpAny_pure q))) rfl X2 hsu (I2.type.andThen (looks_subIn X2 T.sB)) (Ne.symm Cne) (by decide) ?_
  have k12 : ∀ b o, s.heap.get? b = some o → (h1.push (kxs_mw initId e)).get? b = some o := fun b o z => Heap.get?_push_of_some _ (k1' _ _ (keep _ _ z))
  have hns1 : h1.Ns s.heap.objs.size fun x => List.lookup x [(n1, Value.ref e), (n2, v)].reverse := by
    obtain ⟨o, es, ep, a, b, c⟩ := hns
    exact ⟨o, es, ep, k1' _ _ a, b, c⟩
  have hnsL : (h1.push (kxs_mw initId e)).Ns s.heap.objs.size fun x => List.lookup x [(n1, Value.ref e), (n2, v)].reverse := by
    obtain ⟨o, es, ep, a, b, c⟩ := hns1
    exact ⟨o, es, ep, Heap.get?_push_of_some _ a, b, c⟩
  have hmw : (h1.push (kxs_mw initId e)).get? h1.objs.size = some (kxs_mw initId e) := Heap.get?_push_at rfl rfl
  rw [X0.st env]
  refine kxs_callWith (i := initId) (x := e) rfl (Calls.evalArgs_plain (Calls.spliced_cons (wpAny_Name (wpAny_loadName_local hk (by rw [kf]; exact X0.l2) (by rw [hloc]; exact hnsL) m2 (Calls.spliced_nil ⟨hmw, ?_⟩)) X0.d2)))
  have he2 : (h1.push (kxs_mw initId e)).get? e = some (excObj C t none .none) := k12 _ _ he
  have hC2 := k12 _ _ hC
  refine wpAny_call (codeAny_of_tree ?_)
  show wpAny _ _ (callAny (.ref h1.objs.size) _) _ _ _
  simp only [callAny]
  refine wpAny_bind (wpAny_load hmw ?_)
  simp only [kxs_mw, show (Value.type "method-wrapper" == Value.type "method" || Value.type "method-wrapper" == Value.type "builtin_function_or_method" || Value.type "method-wrapper" == Value.type "method-wrapper") = true by decide, if_true]
  refine KFB.if_so (by decide) ?_
  refine wpAny_bind (check_bound_init FB.toExcCallFacts hC2 he2 rfl ?_)
  refine wpAny_bind (wpAny_pure (wpAny_pure ?_))
  refine ⟨plainId_quiet FB.init.plain _, codeAny_builtin FB.initEntry ?_⟩
  refine exc_init_tree (cls := .ref C) (t0 := t) (dv := none) (c2 := .none) (c3 := .none) (b4 := .bool false) he2 (by show 1 ≤ sizeLine; rw [sizeLine_eq]; omega) fun h3 k3' e3' _ => ?_
  have k13 : ∀ b o, b ≠ e → s.heap.get? b = some o → h3.get? b = some o := fun b o n z => k3' b o n (k12 b o z)
  have X3 : K.In h3 := fun b o z => k13 b o (fun y => by rw [y, hKe] at z; cases z) (X b o z)
  have hns3 : h3.Ns s.heap.objs.size fun x => List.lookup x [(n1, Value.ref e), (n2, v)].reverse := ns_of (e := e) k3' LneE hnsL
  refine ks_wpAt_execs_cons (ks_wpAt_Assign_Attr (wpAt_of_wpAny (wpAny_Name (wpAny_loadName_local hk (by rw [kf]; exact X0.l2) (by rw [hloc]; exact hns3) m2 (wpAny_Name (wpAny_loadName_local hk (by rw [kf]; exact X0.l1) (by rw [hloc]; exact hns3) m1 ?_) X0.d1)) X0.d2)) (X0.sw1 env))
  have I3 : InstAt h3 e (excObj C (h1.push (kxs_mw initId e)).objs.size none .none) C none := ⟨e3', rfl, rfl, trivial⟩
  refine set_plain (od := none) X3 I3 T.sa (osa_openX (od := none) SF X3 I3 T.over T.tk fun b => ?_)
  have hdC : cd.hasDict = true := by
    obtain ⟨cd', hc', hd'⟩ := any_some T.hd
    rw [hcd] at hc'
    cases hc'
    exact hd'
  refine wpAny_bind (wpAny_pure (wpAny_bind (instanceDict_exc e3' (looks_clsIn X3 hcd) hdC ?_)))
  have hxs : e ≠ h3.objs.size := Nat.ne_of_lt (Heap.lt_size e3')
  refine HandSPX.store_in_new ?_ fun h4 tk4 hn4 hs4 => ?_
  · exact ⟨_, #[], _, (Heap.get?_update_ne _ _ _ _ hxs.symm).trans (Heap.get?_push_at rfl rfl), rfl, fun e he => absurd he (by simp), fun _ => rfl⟩
  · refine wpAt_of_wpAny (wpAny_execs_nil ?_)
    refine hR h4 tk4 h3.objs.size (h1.push (kxs_mw initId e)).objs.size (fun b o hb ho => ?_) ?_ ?_ hn4
    · have q := k13 b o hb ho
      exact (hs4.2 b (Nat.ne_of_lt (Heap.lt_size q))).trans ((Heap.get?_update_ne _ _ _ _ hb).trans (Heap.get?_push_of_some _ q))
    · obtain ⟨o, es, ep, a, _⟩ := hns3
      exact Nat.le_of_lt (Heap.lt_size a)
    · exact (hs4.2 e hxs).trans (Heap.get?_update_self _ (Heap.get?_push_of_some _ e3') rfl)
end
section
variable {X : Cx} {C fI cc cda : Addr} {n1 n2 f x : Str} {p : Fin 10 → Pos} {params : Arguments} {scope : Scope} {bmB : List Value} {B newId initId : String} {e : Expr} {te : TE} {q1 pos : Pos}
theorem pmk_exi (T : ExI X.prog X.K C fI cc cda n1 n2 f p params scope bmB B newId initId) (X0 : ExText n1 n2 f p scope params) (SF : StoreFacts B bmB "object.__setattr__" "object") (FB : ExcBaseFacts B newId initId bmB) (KF : KxsFacts B initId) (hg : Gl X x) (hm : X.mg x = some (.ref C))
    (hsup : X.mg ("super" : Str) = none) (hr : Room 1 X.A) (he : PE X e te) (hdb : (x == ("__debug__" : Str)) = false) (hs : starEach [e] X.env = (false, eval e X.env) :: starEach [] X.env) :
    PMk X (.Call (.Name x q1) [e] [] pos) (fun σ H Q => te σ H fun v H1 => ∀ dd, H1 dd = none → Q (.ref C) (some dd) (upd H1 dd (.xd [(f, v)]))) := by
  intro pins s σ H Q I h
  have ha : PA X [e] (tCons te tNil) := pa_cons he pa_nil hs
  refine wpAny_Call_Name_kw (ld_glob I hg hm ?_ hdb)
  refine PySem.W.callWith_K (h₀ := X.base) I.ok.mod.kin T.kp (thn (ha.run pos pins s σ H (fun vs H1 => match vs with
    | [v] => ∀ dd, H1 dd = none → Q (.ref C) (some dd) (upd H1 dd (.xd [(f, v)]))
    | _ => False) I h) fun us s1 ⟨vs, H1, I1, r1, hq⟩ => ⟨I1.kIn, ?_⟩) hs (by rfl)
  obtain ⟨v, rfl⟩ : ∃ v, vs = [v] := by
    match vs, hq with
    | [v], _ => exact ⟨v, rfl⟩
    | [], hq => exact hq.elim
    | _ :: _ :: _, hq => exact hq.elim
  obtain ⟨u, rfl, ru⟩ := r1.one
  obtain ⟨hp, g, dr, tk, os⟩ := s1
  obtain ⟨nm, N', qn, bs, bm, hdct, sn, sub, ab, col, dd, k0, k1, k2, k3, k5, hC, hT⟩ := excInit_of I1.kIn T.ini
  have kk : ∀ b o, hp.get? b = some o → ((hp.push (kdv_tup [u])).push (HandSPX.excO C hp.objs.size)).get? b = some o := fun b o z => Heap.get?_push_of_some _ (Heap.get?_push_of_some _ z)
  have hget : ((hp.push (kdv_tup [u])).push (HandSPX.excO C hp.objs.size)).get? (hp.objs.size + 1) = some (HandSPX.excO C hp.objs.size) := by heap_get
  obtain ⟨mb, hb1, hb2⟩ := I1.ok.mod.blt
  have bkeep : ∀ b o, X.base.get? b = some o → ((hp.push (kdv_tup [u])).push (HandSPX.excO C hp.objs.size)).get? b = some o := fun b o z => kk b o (I1.bk b o z)
  have hKe : X.K.lookup (hp.objs.size + 1) = none := by
    cases q : X.K.lookup (hp.objs.size + 1) with
    | none => rfl
    | some o => exact absurd (Heap.lt_size (I1.kIn _ _ q)) (Nat.not_lt.mpr (Nat.le_succ _))
  refine wpAny_call (HandSPX.call_own FB hT hC (looks_findIn I1.kIn T.init) (fun self => bind_fn I1.kIn self (beq_iff_eq.mp T.isfn)) (by show 1 ≤ sizeLine; rw [sizeLine_eq]; omega)
    (exi_run T X0 SF FB KF (hr.make C [u] []).depth (I1.kIn.keeps kk) (I1.nolimit.keeps kk) (I1.ok.mod.glob.keeps bkeep) hsup (hb1.keeps bkeep) ((hb2 _ (by decide)).trans (by decide +kernel)) hget hKe fun h' tk' dx t1 k le e' n => ?_))
  refine ⟨rfl, ?_⟩
  have na : H1 (hp.objs.size + 1) = none := I1.hok.fresh (Nat.le_succ _)
  have hdx1 : hp.objs.size + 1 < dx := by
    have z : (hp.push (kdv_tup [u])).objs.size = hp.objs.size + 1 := Heap.size_push ..
    have z2 : ((hp.push (kdv_tup [u])).push (HandSPX.excO C hp.objs.size)).objs.size = hp.objs.size + 1 + 1 := by rw [Heap.size_push, z]
    have le' : ((hp.push (kdv_tup [u])).push (HandSPX.excO C hp.objs.size)).objs.size ≤ dx := le
    omega
  have nd : H1 dx = none := I1.hok.fresh (show hp.objs.size ≤ dx by omega)
  have nda : dx ≠ hp.objs.size + 1 := Nat.ne_of_gt hdx1
  have kold : ∀ b o, hp.get? b = some o → h'.get? b = some o := fun b o z => k b o (Nat.ne_of_lt (Nat.lt_succ_of_lt (Heap.lt_size z))) (kk b o z)
  have at_ : ∀ b u, H1 b = some u → upd (upd H1 (hp.objs.size + 1) (exo (hp.objs.size + 1) C (some dx))) dx (exd dx [(f, v)]) b = some u := fun b u z => by rw [upd_ne (ne_of_none z nd), upd_ne (ne_of_none z na)]; exact z
  have eH : upd (del (upd (upd H1 (hp.objs.size + 1) (exo (hp.objs.size + 1) C (some dx))) dx (exd dx [(f, v)])) (hp.objs.size + 1)) dx (.xd [(f, v)]) = upd H1 dx (.xd [(f, v)]) := by
    funext b
    by_cases h1 : b = dx
    · rw [h1, upd_same, upd_same]
    · rw [upd_ne h1, upd_ne h1]
      by_cases h2 : b = hp.objs.size + 1
      · rw [h2, del_same, na]
      · rw [del_ne h2, upd_ne h1, upd_ne h2]
  refine mk_end (g1 := g) (d1 := dr) (t1 := tk) (os1 := os) (a := hp.objs.size + 1) (hp := hp) (hp2 := (hp.push (kdv_tup [u])).push (HandSPX.excO C hp.objs.size)) (H1 := H1) (H2 := upd (upd H1 (hp.objs.size + 1) (exo (hp.objs.size + 1) C (some dx))) dx (exd dx [(f, v)])) (fs := [(f, v)]) (raises_own T.exc T.ty) I1 (Nat.le_succ _) kk ?_ ?_ rfl I1.bare (by rw [upd_ne (Ne.symm nda), upd_same]) upd_same nd (by rw [eH]; exact hq dx nd)
  · have nb : ∀ b o, ((hp.push (kdv_tup [u])).push (HandSPX.excO C hp.objs.size)).get? b = some o → b ≠ dx := fun b o z y => by
      have := Heap.lt_size z
      rw [y] at this
      exact absurd this (Nat.not_lt.mpr le)
    have nA : ∀ b, upd H1 (hp.objs.size + 1) (exo (hp.objs.size + 1) C none) b = none → b ≠ hp.objs.size + 1 := fun b z y => by rw [y, upd_same] at z; cases z
    have old : ∀ b u, upd H1 (hp.objs.size + 1) (exo (hp.objs.size + 1) C none) b = some u → (∀ d', u ≠ exo (hp.objs.size + 1) C d') → H1 b = some u := fun b u z y => by
      by_cases hb : b = hp.objs.size + 1
      · rw [hb, upd_same] at z
        exact absurd (Option.some.inj z).symm (y none)
      · rwa [upd_ne hb] at z
    exact { keep := fun b o z n _ _ => k b o (nA b n) z
            slot := fun b o z n _ _ => ⟨o.slots, k b o (nA b n) z⟩
            free := fun b o z n _ => by rw [upd_ne (nb b o z), upd_ne (nA b n)]; rwa [upd_ne (nA b n)] at n
            there := fun b o z _ => by
              by_cases hb : b = hp.objs.size + 1
              · rw [hb]; exact ⟨_, e'⟩
              · exact ⟨o, k b o hb z⟩
            tups := fun b xs z => at_ b _ (old b _ z fun d' y => exo_tup y.symm)
            frzs := fun b o u z => at_ b _ (old b _ z fun d' y => exo_frz y.symm)
            tbls := fun b ps z => ⟨#[], by rw [Array.append_empty]; exact at_ b _ (old b _ z fun d' y => exo_tbl y.symm)⟩ }
  · intro b o z
    by_cases h1 : b = dx
    · rw [h1, upd_same] at z
      cases z
      rw [h1]
      refine exd_ok n fun g => ?_
      have := relO_put (f := f) ru (fs := []) (mA := fun _ => none) (fun g => by simp [RelO]) g
      exact this
    · rw [upd_ne h1] at z
      by_cases h2 : b = hp.objs.size + 1
      · rw [h2, upd_same] at z
        cases z
        rw [h2]
        exact exo_ok e'
      · rw [upd_ne h2] at z
        exact (I1.hok b o z).stay (fun c v' _ y => kold c v' y) (fun c y => at_ c _ y) fun c xs y => at_ c _ y
end
def rReprD (K : PySem.W.Frag) : List V → Hp → VK → Prop := fun xs H Q => (∃ x p, xs = [x] ∧ Dp K H x p ∧ p.showable = true ∧ p.hasDict = false ∧ p.shown.length ≤ sizeLine ∧ p.depth ≤ 50 ∧ Q (.str p.shown) H) ∨ ∃ a, xs = [V.ref a] ∧ Rd H a (.dK []) ∧ Q (.str (PyData.dict []).shown) H
theorem call_reprD {X : Cx} (hg : X.A.guards = some []) (hu : X.A.units + 60 < cLine) : CallR X (.builtin "repr") (rReprD X.K) := by
  intro pins s σ H xs us Q I r hq
  rcases hq with ⟨x, p, e, hp, h1, h2, h3, h4, q⟩ | ⟨a, e, hd, q⟩
  rotate_left
  · subst e
    rw [Vals.ref1 r]
    obtain ⟨_, lo, vs, rel, o, es, ep, ho, hex, hdat, _, hp, _⟩ := dk_rd I.hok hd
    cases rel
    have em : es.toList = [] := by
      generalize es.toList = l at hp
      cases hp
      rfl
    have rd : Reads s.heap (.ref a) (.dict []) (a :: ([] ++ [])) := .dict ho hex.1 hdat (by rw [em]; exact .nil) (by rw [em]; exact .nil)
    have dp : (PyData.dict []).depth ≤ 50 := by decide +kernel
    have hu2 : X.A.units + ((PyData.dict []).depth + 1) < cLine := by omega
    exact repr_of_reads' rd (by decide +kernel) (fun _ z => by
      rw [List.append_nil, List.mem_singleton] at z
      rw [← z] at lo
      exact absurd lo (by simp)) hg hu2 (fun _ _ z => z) (fun h' t tk k => ⟨.str (PyData.dict []).shown, H, I.kept (t' := tk) k, ⟨t, rfl⟩, q⟩) (by decide +kernel)
  subst e
  obtain ⟨u, rfl, ru⟩ := r.one
  obtain ⟨as, rd⟩ := Dp.reads I p x u hp ru
  have fin : ∀ (t : Tok) (tk : Nat), EP X pins σ Q (.str p.shown t) { s with toks := tk } := fun t tk => ⟨.str p.shown, H, I.tok tk, ⟨t, rfl⟩, q⟩
  have big : ∀ a, u = .ref a → wpAny (model X.prog X.w) X.A (call (.builtin "repr") [u]) (EP X pins σ Q) X.xe s := fun a ea => by
    subst ea
    exact repr_of_reads' rd h1 (PyData.noDict_hsm h2) hg (by omega) (fun _ _ z => z) (fun h' t tk k => ⟨.str p.shown, H, I.kept (t' := tk) k, ⟨t, rfl⟩, q⟩) h3
  cases rd with
  | none => exact PySem.P.repr_of_none (fin _ _)
  | bool b => exact PySem.P.repr_of_bool (by cases b <;> exact fin _ _)
  | int i t => exact PySem.P.repr_of_int (of_decide_eq_true h1) (fin _ _)
  | str x t => exact PySem.P.repr_of_str (fin _ _) h3
  | list a b c d => exact big _ rfl
  | tuple a b c d => exact big _ rfl
  | dict a b c d e => exact big _ rfl
def gReprP (p : PyData) (L : Sto) : Res D := if p.showable = true ∧ p.hasDict = false ∧ p.shown.length ≤ 16777216 ∧ p.depth ≤ 50 then .ok (.str p.shown) L else .bad
def gRepr1 (d : D) (L : Sto) : Res D := match toPy (seen L d) with
  | some p => gReprP p L
  | none => (match seen L d with
    | .dK [] => .ok (.str (PyData.dict []).shown) L
    | _ => .bad)
def gRepr (ds : List D) (L : Sto) : Res D := match ds with
  | [d] => gRepr1 d L
  | _ => .bad
theorem gRepr_ok {G : Gb} : RnD G (rReprD G.K) gRepr := by
  intro w L H x ds Q E R dx p
  unfold gRepr at p
  split at p
  · rename_i d
    unfold gRepr1 at p
    split at p
    · rename_i q hq
      unfold gReprP at p
      split at p
      · rename_i hc
        cases dx with
        | cons h t =>
          cases t
          exact .inl ⟨_, q, rfl, h.pySeen R hq, hc.1, hc.2.1, lineLe hc.2.2.1, hc.2.2.2, Post.ok p (.refl w) R (.str _)⟩
      · exact p.elim
    · split at p
      · rename_i hs
        cases dx with
        | cons h t =>
          cases t
          have e : d = .dK [] := by
            unfold seen at hs
            revert hs
            split
            · intro z; cases z
            · exact id
          subst e
          cases h with
          | dK ha rr =>
            cases rr
            exact .inr ⟨_, rfl, .inl (R.sub _ _ ha), Post.ok p (.refl w) R (.str _)⟩
      · exact p.elim
  · exact p.elim
def gStr (ds : List D) (L : Sto) : Res D := match ds with
  | [.int i] => if i.natAbs.log2 < 1920 then .ok (.str (toString i)) L else .bad
  | [.str x] => .ok (.str x) L
  | _ => .bad
def rStrU : List V → Hp → VK → Prop := fun xs H Q => (∃ i, xs = [.int i] ∧ i.natAbs.log2 < 1920 ∧ Q (.str (toString i)) H) ∨ ∃ a, xs = [.str a] ∧ Q (.str a) H
theorem gStr_ok {G : Gb} : RnD G rStrU gStr := by
  intro w L H x ds Q E R dx p
  unfold gStr at p
  split at p
  · split at p
    · rename_i hc
      cases dx with
      | cons h t =>
        cases t
        cases h
        exact .inl ⟨_, rfl, hc, Post.ok p (.refl w) R (.str _)⟩
    · exact p.elim
  · cases dx with
    | cons h t =>
      cases t
      cases h
      exact .inr ⟨_, rfl, Post.ok p (.refl w) R (.str _)⟩
  · exact p.elim
theorem call_strU {X : Cx} : CallR X (.type "str") rStrU := fun pins s σ H xs us Q I r h => h.elim (call_str_int pins s σ H xs us Q I r) (SkE.call_str_str pins s σ H xs us Q I r)
theorem se_str' {S : Sc} {W : WX} {e : Expr} {es : List Expr} {fl : AF} {pos p : Pos} (B : Bl S.g) (ha : SA S W (e :: es) fl) (hg : Glb S "str" := by rfl) (he : ∀ env, starEach (e :: es) env = (false, eval e env) :: starEach es env := by intro _; rfl) (hpl : ∀ env, (backTo pos (starEach es env)).any (·.1) = false := by intro _; rfl) :
    SE S W (.Call (.Name "str" p) (e :: es) [] pos) (en gStr fl) := fun X h =>
  se_callT (T := "str") (r := rStrU) (fun X h => call_strU) gStr_ok B.str (by decide +kernel) ha hg (by decide) (by decide) he hpl X h
end DS
namespace L2
open PySem PySem.Spec PyProof.Rows
abbrev Sute := Addr → Value → Option Addr → TS
def Ends.bare (D : Ends) (i : Nat) : Ends := { nx := fun σ H => D.nx (σ.set i none) H, rt := D.rt, bk := fun σ H => D.bk (σ.set i none) H, ct := fun σ H => D.ct (σ.set i none) H }
def asTS (as : Option Nat) (ts : Sute) (D : Ends) (a : Addr) (cls : Value) (d : Option Addr) (σ : St) (H : Hp) : Prop := match as with
  | none => ts a cls d D σ H
  | some i => ts a cls d (D.bare i) (σ.set i (some (.ref a))) H
def wMix (K : PySem.W.Frag) (Wout : WX) (D : Ends) : List (Value × Option Nat × Sute) → WX
  | [] => Wout
  | q :: r => fun cls d σ H => ∃ b, PySem.W.exmOne K cls q.1 = some b ∧ (b = true → ∀ a, H a = none → asTS q.2.1 q.2.2 D a cls d σ H) ∧ (b = false → wMix K Wout D r cls d σ H)
inductive HdsM (X : Cx) : List ExceptHandler → List (Value × Option Nat × Sute) → Prop
  | nil : HdsM X [] []
  | bare {x : Str} {c : Value} {ts : Sute} {b₀ : Stmt} {suite : List Stmt} {np pos' : Pos} {hds : List ExceptHandler} {l : List (Value × Option Nat × Sute)} (hc : Names X x c)
      (hsu : ∀ (a : Addr) (oe : Obj) (cls : Value) (d : Option Addr) (pn : List (Addr × Obj)), Zc cls d oe → (∃ vs, oe.data = .fields vs) → PSs (X.suite a ((a, oe) :: pn)) (b₀ :: suite) (ts a cls d)) (r : HdsM X hds l) :
      HdsM X (.ExceptHandler (some (.Name x np)) none (b₀ :: suite) pos' :: hds) ((c, none, ts) :: l)
  | as_ {x n : Str} {i : Nat} {c : Value} {ts : Sute} {b₀ : Stmt} {suite : List Stmt} {np pos' : Pos} {hds : List ExceptHandler} {l : List (Value × Option Nat × Sute)} (hc : Names X x c) (hi : X.N[i]? = some n) (hln : X.env.kindOf n = some .local)
      (hsu : ∀ (a : Addr) (oe : Obj) (cls : Value) (d : Option Addr) (pn : List (Addr × Obj)), Zc cls d oe → (∃ vs, oe.data = .fields vs) → PSs (X.suite a ((a, oe) :: pn)) (b₀ :: suite) (ts a cls d)) (r : HdsM X hds l) :
      HdsM X (.ExceptHandler (some (.Name x np)) (some n) (b₀ :: suite) pos' :: hds) ((c, some i, ts) :: l)
section
variable {X : Cx} {body : List Stmt} {h₀ : ExceptHandler} {hds : List ExceptHandler} {l : List (Value × Option Nat × Sute)} {pos : Pos} {tb : WX → TS} {Wout : WX}
theorem suite_end {pins : List (Addr × Obj)} {a : Addr} {oe : Obj} {D : Ends} {i : Nat} {n : Str} {pos' : Pos} (ok : X.Ok) (hN : X.N.Nodup) (hi : X.N[i]? = some n) (hln : X.env.kindOf n = some .local) {f : Flow} {s6 : Shared}
    (h : SP (X.suite a ((a, oe) :: (X.pn ++ pins))) [] (D.bare i) f s6) : wpAny (model X.prog X.w) X.A (do bindName X.env n .none; unbindBehindTheSuite X.env n pos') (fun _ s7 => SP X pins D f s7) X.xe s6 := by
  match f, h with
  | .next, ⟨σ6, H6, J, q⟩ => exact gone_ok (J.unsuite ok) hN hi hln fun s7 J7 => ⟨_, _, J7, q⟩
  | .brk, ⟨σ6, H6, J, q⟩ => exact gone_ok (J.unsuite ok) hN hi hln fun s7 J7 => ⟨_, _, J7, q⟩
  | .cont, ⟨σ6, H6, J, q⟩ => exact gone_ok (J.unsuite ok) hN hi hln fun s7 J7 => ⟨_, _, J7, q⟩
  | .ret u, ⟨v6, σ6, H6, J, rv, q⟩ => exact gone_ok (J.unsuite ok) hN hi hln fun s7 J7 => ⟨_, _, _, J7, rv, q⟩
theorem suite_out {pins : List (Addr × Obj)} {a : Addr} {oe : Obj} {D : Ends} (ok : X.Ok) {f : Flow} {s6 : Shared} (h : SP (X.suite a ((a, oe) :: (X.pn ++ pins))) [] D f s6) : SP X pins D f s6 := by
  match f, h with
  | .next, ⟨σ6, H6, J, q⟩ => exact ⟨_, _, J.unsuite ok, q⟩
  | .brk, ⟨σ6, H6, J, q⟩ => exact ⟨_, _, J.unsuite ok, q⟩
  | .cont, ⟨σ6, H6, J, q⟩ => exact ⟨_, _, J.unsuite ok, q⟩
  | .ret u, ⟨v6, σ6, H6, J, rv, q⟩ => exact ⟨_, _, _, J.unsuite ok, rv, q⟩
theorem ps_try_mix (hs : X.stack = X.env :: X.outer) (hf : X.env.frame = some X.env.locals) (hN : X.N.Nodup) (tk : Takes X Wout) (hh : HdsM X (h₀ :: hds) l)
    (hb : ∀ (W : WX) (pn : List (Addr × Obj)) (xe : Value → Shared → Prop), Takes (X.tr pn xe) W → PassesOwn (model X.prog X.w) X.A X.env xe → PSs (X.tr pn xe) body (tb W)) : PS X (.Try body (h₀ :: hds) [] [] pos) (fun D σ H => tb (wMix X.K Wout D l) D σ H) := by
  refine ⟨fun pins s σ H D I h => wpAny_Try_except ?_⟩
  have ok := I.ok
  have hfr : X.A.frames = some (X.env :: X.outer) := ok.frames.trans (congrArg some hs)
  refine wpAny_mono ((hb (wMix X.K Wout D l) (X.pn ++ pins) (fun e s₁ => wpAny (model X.prog X.w) X.A (noteFrame e X.env) (fun _ s₂ => wpAny (model X.prog X.w) X.A (setFlight e none) (fun _ s₃ =>
      wpAny (model X.prog X.w) X.A (handleBy e X.env (h₀ :: hds)) (SP X pins D) X.xe s₃) X.xe s₂) X.xe s₁) (fun u s' flown => ?caught) PassesOwn.looking).run [] s σ H D (I.toTry _) h) (fun f s1 hsp => ?quiet) fun e s1 he => he
  case quiet =>
    match f, hsp with
    | .next, ⟨σ', H', J, q⟩ => exact wpAny_execs_nil ⟨σ', H', J.ofTry ok, q⟩
    | .brk, ⟨σ', H', J, q⟩ => exact ⟨σ', H', J.ofTry ok, q⟩
    | .cont, ⟨σ', H', J, q⟩ => exact ⟨σ', H', J.ofTry ok, q⟩
    | .ret u, ⟨v, σ', H', J, r, q⟩ => exact ⟨v, σ', H', J.ofTry ok, r, q⟩
  case caught =>
    obtain ⟨a, B, sI, pins', σ', H', cls, d, rfl, J', nb, up, sky, na, os, ag, wish⟩ := flown
    have J : Inv X pins σ' H' sI := J'.ofTry ok
    refine Sky.land Zc.steady hfr hf (show Sky B (X.env :: X.outer) a (Zc cls d) X.env.locals s'.heap from hs ▸ sky) fun h3 fl3 up3 => ?_
    have J3 : Inv X pins σ' H' { s' with heap := h3 } := J.landed nb fl3.1 (up.trans up3) os ag
    obtain ⟨oe3, vs3, he3, hz3, hd3⟩ := fl3.there
    have nfr : a ∉ frs (X.env :: X.outer) := fun hm => by
      obtain ⟨_, o', e', hnf⟩ := fl3.2.2.1.mem hm
      rw [he3] at e'
      cases e'
      exact hnf _ hd3
    have nL : a ≠ X.env.locals := fun z => nfr (List.mem_filterMap.mpr ⟨X.env, List.mem_cons_self, hf.trans (congrArg some z.symm)⟩)
    have nF : a ∉ X.fs := fun hm => by
      obtain ⟨e, he, q⟩ := List.mem_filterMap.mp hm
      exact nfr (List.mem_filterMap.mpr ⟨e, List.mem_cons_of_mem _ he, q⟩)
    have S3 := J3.suite he3 hd3 na nL nF
    have go : ∀ {hs' : List ExceptHandler} {l' : List (Value × Option Nat × Sute)}, HdsM X hs' l' → wMix X.K Wout D l' cls d σ' H' → wpAny (model X.prog X.w) X.A (handleBy (.ref a) X.env hs') (SP X pins D) X.xe { s' with heap := h3 } := by
      intro hs' l' hk
      have ask : ∀ {x : Str} {c : Value} {np : Pos} {b : Bool} {Q : Bool → Shared → Prop} {E1 E2 : Value → Shared → Prop}, Names X x c → PySem.W.exmOne X.K cls c = some b → Q b { s' with heap := h3 } →
          wpAny (model X.prog X.w) (X.A.mark (some (.ref a))) (eval (.Name x np) X.env) (fun t s₄ => wpAny (model X.prog X.w) (X.A.mark (some (.ref a))) (excMatches (.ref a) t) Q E1 s₄) E2 { s' with heap := h3 } := by
        intro x c np b Q E1 E2 hc hb1 q
        have LT : PySem.W.Looks (model X.prog X.w) h3 (typeOf (.ref a)) cls := fun A Q E s k q => wpAny_typeOf_ref (k _ _ he3) (by rw [hz3.1]; exact q)
        have fin := (PySem.W.exm_one (M := model X.prog X.w) J3.kIn LT hb1).here (A := X.A.mark (some (.ref a))) (E := E1) (s := { s' with heap := h3 }) q
        obtain ⟨hg, hdbg, hm | ⟨hm, hv, hnn⟩⟩ := hc
        · exact ld_glob (X := X.suite a ((a, oe3) :: (X.pn ++ pins))) S3 hg hm fin hdbg
        · exact ld_blt (X := X.suite a ((a, oe3) :: (X.pn ++ pins))) S3 hg hm hv fin hnn hdbg
      induction hk with
      | nil =>
        intro wo
        refine wpAny_handleBy_nil ?_
        obtain ⟨k1, k2, k3, oe, vs, T, oT, ts', he, hz, hd, h1, hr⟩ := id fl3
        unfold PySem.passOn
        refine wpAny_bind (wpAny_field he hd h1 ?_)
        rw [if_neg (show ¬ ((Value.ref T == Value.none) = true) from by simp)]
        have on : wpAny (model X.prog X.w) X.A (setFlight (.ref a) X.env.frame) (fun _ s4 => wpAny (model X.prog X.w) X.A (throw (.ref a) : Sem Flow) (SP X pins D) X.xe s4) X.xe { s' with heap := h3 } := by
          rw [hf]
          exact HandSPX.setFlight_upZ fl3 fun h4 hh4 up4 => wpAny_throw (tk _ _ ⟨a, B, sI, pins, σ', H', cls, d, rfl, J, nb, (up.trans up3).trans up4, .inr (.inr (by rw [hs]; exact hh4)), na, os, ag, wo⟩)
        first
          | exact wpAny_bind (wpAny_pure (wpAny_bind on))
          | exact wpAny_bind on
      | bare hc hsu r ih =>
        intro ⟨b, hb1, hyes, hno⟩
        refine wpAny_handleBy_cons (codeAny_handlers_test (ask hc hb1 ?_)) (by intro q; cases q)
        cases b with
        | false => exact ih (hno rfl)
        | true =>
          refine codeAny_handlers_suite (HandSPX.lands_againZ fl3 fun h4 fl4 up4 => ?_)
          have J4 : Inv X pins σ' H' { s' with heap := h4 } := J.landed nb fl4.1 ((up.trans up3).trans up4) os ag
          obtain ⟨oe4, vs4, he4, hz4, hd4⟩ := fl4.there
          exact wpAny_mono ((hsu a oe4 cls d (X.pn ++ pins) hz4 ⟨_, hd4⟩).run [] _ _ H' _ (J4.suite he4 hd4 na nL nF) (hyes rfl a na)) (fun f s6 hsp => suite_out ok hsp) fun _ _ z => False.elim z
      | as_ hc hi hln hsu r ih =>
        intro ⟨b, hb1, hyes, hno⟩
        refine wpAny_handleBy_cons (codeAny_handlers_test (ask hc hb1 ?_)) (by intro q; cases q)
        cases b with
        | false => exact ih (hno rfl)
        | true =>
          refine codeAny_handlers_suite_as (HandSPX.lands_againZ fl3 fun h4 fl4 up4 => ?_)
          have J4 : Inv X pins σ' H' { s' with heap := h4 } := J.landed nb fl4.1 ((up.trans up3).trans up4) os ag
          obtain ⟨oe4, vs4, he4, hz4, hd4⟩ := fl4.there
          refine store_ok (X := X.suite a ((a, oe4) :: (X.pn ++ pins))) (v := .ref a) (J4.suite he4 hd4 na nL nF) hN hi (.inl hln) rfl (fun s5 S5 => ?_) (.inr hln)
          exact wpAny_mono ((hsu a oe4 cls d (X.pn ++ pins) hz4 ⟨_, hd4⟩).run [] s5 _ H' _ S5 (hyes rfl a na)) (fun f s6 hsp => suite_end ok hN hi hln hsp) fun _ _ z => False.elim z
    exact go hh wish
end
end L2
set_option Elab.async false
set_option linter.all false
set_option maxRecDepth 100000
set_option maxHeartbeats 4000000
namespace LamY
open PySem PySem.Spec PyProof.Rows L2 LamX
structure LamT (sc scope : Scope) (ys : List Str) : Prop where
  kind : scope.kind = .function
  co : scope.isCoroutine = false
  gen : scope.isGenerator = false
  nocell : ∀ y ∈ scope.names, y.2 ≠ .cell
  own : ∀ y ∈ scope.names, y.2 = .local → y.1 ∈ ys
  par : ∀ y ∈ ys, scope.names.lookup y = some .local
  free : ∀ y ∈ scope.names, y.2 = .free → sc.names.lookup y.1 = some .cell ∨ sc.names.lookup y.1 = some .free
def lamTB (sc scope : Scope) (ys : List Str) : Bool := (decide (scope.kind = .function) && (!scope.isCoroutine && !scope.isGenerator)) && ((scope.names.all fun y => !decide (y.2 = .cell) && ((!decide (y.2 = .local) || decide (y.1 ∈ ys)) &&
  (!decide (y.2 = .free) || (decide (sc.names.lookup y.1 = some .cell) || decide (sc.names.lookup y.1 = some .free))))) && ys.all fun y => decide (scope.names.lookup y = some .local))
theorem lamT_by {sc scope : Scope} {ys : List Str} (h : lamTB sc scope ys = true) : LamT sc scope ys := by
  unfold lamTB at h
  simp only [Bool.and_eq_true, Bool.or_eq_true, Bool.not_eq_true', decide_eq_true_eq, decide_eq_false_iff_not, List.all_eq_true] at h
  obtain ⟨⟨h1, h2, h3⟩, h4, h5⟩ := h
  exact ⟨h1, h2, h3, fun y hy => (h4 y hy).1, fun y hy e => (h4 y hy).2.1.elim (fun n => absurd e n) id, h5, fun y hy e => (h4 y hy).2.2.elim (fun n => absurd e n) id⟩
abbrev lamO (q : Str) (params : Arguments) (body : Expr) (scope : Scope) (clos : List (Str × Addr)) (dV doc pm cv ctv : Value) : Obj := { cls := .type "function", data := .func (PySem.W.kdv_fn "<lambda>" q params (.expr body) scope clos dV doc pm cv ctv) }
section
variable {M : Model} {A : Around} {E : Value → Shared → Prop} {s : Shared} {params : Arguments} {body : Expr} {scope : Scope} {pos : Pos} {Q : Value → Shared → Prop} {env : Env}
theorem lam_eval0 (hdef : defaultsOf params env = ([], [])) (h : wpAny M A (makeTail "<lambda>" (env.qual ++ "<lambda>") params (.expr body) scope env .none .none none pos pos.line) Q E s) : wpAny M A (eval (.Lambda params body scope pos) env) Q E s :=
  PySem.W.kla_eval hdef (by rw [makeFunction_eq]; simp only [List.zip_nil_right, List.filterMap_nil, List.isEmpty_nil, if_true, pure_bind]; exact h)
end
section
variable {X : Cx} {pins : List (Addr × Obj)} {σ : L2.St} {H : Hp} {s : Shared}
def Made (P c' : Addr) (q : Str) (H H1 : Hp) : Prop := H1 = H ∨ (H c' = none ∧ ∃ ps ps' : Array Value, H P = some (.tbl ps) ∧ TriplesOk ps'.toList ∧ H1 = upd (upd H P (.tbl ps')) c' (CodeO c' q) ∧ ∀ (pos : Pos) (cv : Value), codeAmong pos ps'.toList = some cv → codeAmong pos ps.toList = some cv ∨ cv = .ref c')
theorem lam_tail {c P : Addr} {params : Arguments} {body : Expr} {scope : Scope} {pos : Pos} {dV : Value} {E : Value → Shared → Prop} {Q : Value → Shared → Prop} (I : Inv X pins σ H s) (TB : TabB X.base X.mg c P) (hcode : X.env.code = .ref c) (hT : TabS H P (X.env.qual ++ "<lambda>"))
    (hfree : ∀ y ∈ scope.names, y.2 = .free → ∃ c, X.env.cells.lookup y.1 = some c)
    (h : ∀ (f c' : Addr) (doc pm ctv : Value) (H1 : Hp) (s' : Shared), Inv X pins σ H1 s' → Made P c' (X.env.qual ++ "<lambda>") H H1 → (∀ b o, b ≠ P → s.heap.get? b = some o → s'.heap.get? b = some o) → s'.heap.get? f = some (lamO (X.env.qual ++ "<lambda>") params body scope (cloFrom X.env.cells scope.names []) dV doc pm (.ref c') ctv) →
      H1 f = none → f ∉ frs X.stack → H1 c' = some (CodeO c' (X.env.qual ++ "<lambda>")) → Q (.ref f) s') :
    wpAny (model X.prog X.w) X.A (makeTail "<lambda>" (X.env.qual ++ "<lambda>") params (.expr body) scope X.env dV .none none pos pos.line) Q E s := by
  obtain ⟨ps, hP, ht, ha⟩ := hT
  have bP : s.heap.BuiltinsAt X.mg P := TB.bm.keeps I.bk
  have oP : s.heap.get? P = some { cls := .none, data := .fields ps } := I.hok P _ hP
  have away : ∀ f, s.heap.objs.size ≤ f → f ∉ frs X.stack := fun f hf z => by
    rcases List.mem_cons.mp (I.stkSub _ z) with e | e
    · exact Nat.lt_irrefl _ (Nat.lt_of_lt_of_le (e ▸ I.lt : f < s.heap.objs.size) hf)
    · exact I.nofs hf e
  cases hc : codeAmong pos ps.toList with
  | some cv =>
    obtain ⟨c', rfl, hco⟩ := ha pos cv hc
    refine PySem.W.kdv_makeTailHit (mg := X.mg) (closure_ok hfree) I.ok.glob (I.mod.glob.keeps I.bk) hcode (TB.code.keeps I.bk) oP ht hc bP fun ctv doc h' tk hx hsz => ?_
    exact h h'.objs.size c' doc ((X.mg "__name__").getD .none) ctv H _ (I.kept fun b o e => Heap.get?_push_of_some _ (hx b o e)) (.inl rfl) (fun b o _ e => Heap.get?_push_of_some _ (hx b o e)) (Heap.get?_push_size _ rfl) (I.hok.fresh hsz) (away _ hsz) hco
  | none =>
    refine PySem.W.kdv_makeTail (mg := X.mg) (closure_ok hfree) I.ok.glob (I.mod.glob.keeps I.bk) hcode (TB.code.keeps I.bk) oP ht hc TB.gP bP fun c' ctv doc h' tk hx hge hlt hrec htb => ?_
    obtain ⟨c2, oc, vs, t, e2, hoc, hd, hv⟩ := hrec
    cases e2
    have hsz : s.heap.objs.size ≤ h'.objs.size := Nat.le_trans hge (Nat.le_of_lt hlt)
    have nC : H c' = none := I.hok.fresh hge
    have neP : ∀ b, s.heap.objs.size ≤ b → b ≠ P := fun b hb z => by
      have := Heap.lt_size oP
      rw [← z] at this
      exact Nat.lt_irrefl _ (Nat.lt_of_lt_of_le this hb)
    have eL : (ps ++ #[rawInt pos.line, rawInt pos.col, .ref c']).toList = ps.toList ++ [rawInt pos.line, rawInt pos.col, .ref c'] := by simp
    have J := inv_table (t' := tk) (more := #[rawInt pos.line, rawInt pos.col, .ref c']) (h' := h'.push (lamO (X.env.qual ++ "<lambda>") params body scope (cloFrom X.env.cells scope.names []) dV doc ((X.mg "__name__").getD .none) (.ref c') ctv)) I hP
      (fun b o hb e => Heap.get?_push_of_some _ (hx b o hb e)) (Heap.get?_push_of_some _ htb) hge ⟨oc, vs, t, Heap.get?_push_of_some _ hoc, hd, hv⟩
    refine h h'.objs.size c' doc ((X.mg "__name__").getD .none) ctv _ _ J (.inr ⟨nC, ps, _, hP, by rw [eL]; exact PySem.TriplesOk_snoc _ _ _ _ ht, rfl, fun p' cv z => ?_⟩) (fun b o hb e => Heap.get?_push_of_some _ (hx b o hb e)) (Heap.get?_push_size _ rfl) ?_ (away _ hsz) upd_same
    · rw [eL] at z
      exact among_app _ ht z
    · rw [upd_ne (Nat.ne_of_gt hlt), upd_ne (neP _ hsz)]
      exact I.hok.fresh hsz
end
section
variable {X : Cx} {pins : List (Addr × Obj)} {σ : L2.St} {H HZ : Hp} {s s1 : Shared}
theorem lam_start {A : Around} {outer : List Env} {E : XK} {scope : Scope} {ys : List Str} {f c' : Addr} {h₁ : Heap} {tk : Nat} {m : Str → Option Value} (I : Inv X pins σ H s) (L : LamT X.env.scope scope ys) (e0 : Env0 X.prog X.w X.K X.mg X.base A outer s1 HZ) (hd : A.handled = none)
    (wp : List Nat) (hwp : ∀ (i : Nat) (y : Str) (v : V), X.N[i]? = some y → (wipe σ wp)[i]? = some (some v) → y ∉ ys) (un : Un (frs X.stack) [] H HZ s.heap s1.heap) (hns : h₁.Ns s1.heap.objs.size m) (kp : ∀ b o, s1.heap.get? b = some o → h₁.get? b = some o) :
    Inv (lamCx X A outer s1 HZ E scope f c') [] (wipe σ wp) HZ { s1 with heap := h₁, toks := tk } := by
  have has : ∀ y ∈ scope.names, y.2 = .free → ∃ c, X.env.cells.lookup y.1 = some c := fun y hy e => (L.free y hy e).elim (fun k => I.ok.has _ (.inl k)) fun k => I.ok.has _ (.inr k)
  have cm : ∀ {y c}, (cloFrom X.env.cells scope.names []).lookup y = some c → X.env.cells.lookup y = some c := fun {y c} e => by
    rcases cloFrom_mem (PySem.mem_of_lookup e) with hm | ⟨h1, h2⟩
    · exact nomatch hm
    · obtain ⟨c1, hc⟩ := has _ h1 rfl
      have hc' : X.env.cells.lookup y = some c1 := hc
      rw [hc'] at h2
      rw [hc', h2]
      rfl
  have look : ∀ {y}, scope.names.lookup y = some .free → ∃ c, (cloFrom X.env.cells scope.names []).lookup y = some c := fun {y} hl => mem_lookup (cloFrom_has (cells := X.env.cells) (acc := []) (PySem.mem_of_lookup hl))
  have cellK : ∀ {c : Addr} {v : Option Value}, H c = none → s.heap.IsCell c v → h₁.IsCell c v := fun {c v} n ⟨o, ho, hd⟩ => by
    obtain ⟨sl, q⟩ := un.any ho n (by simp)
    exact ⟨_, kp _ _ q, hd⟩
  have noA : ∀ b : Addr, b ∉ (lamCx X A outer s1 HZ E scope f c').ex := fun b z => nomatch (show b ∈ ([] : List Addr) from z)
  refine ⟨⟨e0.mod, L.kind, rfl, rfl, Nat.le_refl _, fun y z c e1 e2 => I.ok.inj y z c (cm e1) (cm e2), fun y hy => ?_, fun y c z _ => ?_, fun _ => hd, Around.frames_deeper e0.frames, .inr ⟨rfl, rfl⟩, fun b z => absurd z (noA b), e0.bs, e0.bsz, fun b _ _ => noA b,
      fun b z => absurd z (noA b), e0.funs, e0.frf⟩, rfl, e0.bare, Un.kept kp, ⟨_, hns, fun i y v e1 e2 e3 => ?_⟩, fun y c e => ?_, e0.hok.fresh (Nat.le_refl _), fun y c e => ?_, (fun q hq => nomatch (show q ∈ ([] : List (Addr × Obj)) ++ [] from hq)), e0.hok.kept kp, by rw [wipe_length]; exact I.len⟩
  · rcases (show scope.names.lookup y = some .cell ∨ scope.names.lookup y = some .free from hy) with hy | hy
    · exact absurd rfl (L.nocell _ (PySem.mem_of_lookup hy))
    · exact look hy
  · exact nomatch (show false = true from z)
  · rcases (show Vis scope y from e3) with k | k | k
    · exact absurd (L.own _ (PySem.mem_of_lookup k) rfl) (hwp i y v e1 e2)
    · exact absurd rfl (L.nocell _ (PySem.mem_of_lookup k))
    · obtain ⟨m', hn, hl⟩ := I.loc
      have e2' : σ[i]? = some (some v) := by
        by_cases hi : i ∈ wp
        · rw [DS.wipe_get hi] at e2
          split at e2 <;> cases e2
        · rwa [wipe_out hi] at e2
      have hvis : Vis X.env.scope y := (L.free _ (PySem.mem_of_lookup k) rfl).elim (fun k => .inr (.inl k)) (fun k => .inr (.inr k))
      obtain ⟨w', r, q⟩ := hl i y v e1 e2' hvis
      obtain ⟨c2, h2⟩ := look k
      refine ⟨w', r, .inr ⟨.inr k, c2, h2, ?_⟩⟩
      have c1 := cm h2
      rcases q with ⟨k', _⟩ | ⟨_, c3, e', z⟩
      · have k1 : X.env.scope.names.lookup y = some .local := k'
        rcases L.free _ (PySem.mem_of_lookup k) rfl with k2 | k2 <;> exact nomatch (show some NameKind.local = some _ from k1.symm.trans k2)
      · rw [c1] at e'
        cases e'
        exact cellK (I.freeC y _ c1) z
  · obtain ⟨w', z⟩ := I.cell y c (cm e)
    exact ⟨w', cellK (I.freeC y c (cm e)) z⟩
  · obtain ⟨v, o, ho, hd⟩ := I.cell y c (cm e)
    exact un.free c o ho (I.freeC y c (cm e)) (by simp)
theorem pe_actY {CXg : CXT} {Eg : XK} {Ng : List Str} {qg : Str} {sg : Scope} {g f c' : Addr} {cdg dV doc pm ctv : Value} {params : Arguments} {body : Expr} {scope : Scope} {ys : List Str} {bs : List (Str × Value)} {k i : Nat} {a : Str} {pn : List (Addr × Obj)} {xe : Value → Shared → Prop} {W : WX} {tb : XK → TE} {p1 p2 : Pos}
    (I : Inv X pins σ H s) (L : LamT X.env.scope scope ys) (wp : List Nat) (hwp : ∀ (i : Nat) (y : Str) (v : V), X.N[i]? = some y → (wipe σ wp)[i]? = some (some v) → y ∉ ys)
    (hf : s.heap.get? f = some (lamO (X.env.qual ++ "<lambda>") params body scope (cloFrom X.env.cells scope.names []) dV doc pm (.ref c') ctv)) (hfn : H f = none) (hfr : f ∉ frs X.stack)
    (hbs : bs.map (·.1) = ys) (hbind : ∀ s' : Shared, (∀ b o, s.heap.get? b = some o → H b = none → b ∉ frs X.stack → s'.heap.get? b = some o) → BindsTo s' (PySem.W.kdv_fn "<lambda>" (X.env.qual ++ "<lambda>") params (.expr body) scope (cloFrom X.env.cells scope.names []) dV doc pm (.ref c') ctv) ⟨[], []⟩ bs)
    (tk : Takes ((cxOf CXg X.prog X.w X.K X.mg X.base Ng qg sg g cdg X.A X.stack s H Eg).tr pn xe) W) (hr : Room (k + 1) (X.A.deeper (envOfC qg sg s.heap.objs.size g cdg)))
    (hbody : ∀ (A : Around) (outer : List Env) (s : Shared) (H : Hp) (E : XK), Room k (A.deeper (lamEnv X scope s.heap.objs.size f c')) → A.guards = X.A.guards → PE (lamCx X A outer s H E scope f c') body (tb E))
    (hN : Ng[i]? = some a) (hv : Vis sg a) (hd : (a == ("__debug__" : Str)) = false) (hcd : (a == ("__classdict__" : Str)) = false) :
    PE ((cxOf CXg X.prog X.w X.K X.mg X.base Ng qg sg g cdg X.A X.stack s H Eg).tr pn xe) (.Call (.Name a p1) [] [] p2)
      (fun σZ HZ Q => σZ[i]? = some (some (.ref f)) ∧ HZ c' = some (CodeO c' (X.env.qual ++ "<lambda>")) ∧ tb (WE W σZ) (wipe σ wp) HZ Q) := by
  refine ⟨fun pinsZ sZ σZ HZ Q IZ ⟨hs, hc, ht⟩ => ?_⟩
  refine wpAny_Call_Name_kw (thn ((pe_var (pos := p1) (i := i) hN hv hd hcd).run pinsZ sZ σZ HZ (fun v H1 => v = .ref f ∧ H1 = HZ) IZ ⟨.ref f, hs, rfl, rfl⟩) fun u s1 ⟨v, H1, I1, r1, ev, eH⟩ => ?_)
  subst ev
  rw [eH] at I1
  obtain rfl : u = Value.ref f := r1
  have un : Un (frs X.stack) [] H HZ s.heap s1.heap := I1.base
  have kept : ∀ b o, s.heap.get? b = some o → H b = none → b ∉ frs X.stack → s1.heap.get? b = some o := fun b o e n m => un.keep b o e n m (by simp)
  have of1 := kept f _ hf hfn hfr
  refine PySem.W.callWith_F0 ⟨_, _, _, _, of1⟩ ?_
  obtain ⟨⟨oc, vs, t, hoc, hdc, hvc⟩, _, _⟩ := I1.hok c' _ hc
  have rc : codeAny (model X.prog X.w) (X.A.deeper (envOfC qg sg s.heap.objs.size g cdg)) (.call (.ref f) ⟨[], []⟩) (CR (L2.CX X.prog X.w) (envOfC qg sg s.heap.objs.size g cdg :: X.stack) X.prog X.w HZ s1 Q (WE W σZ)) s1 := by
    refine PySem.W.kla_callFunE hr.depth of1 rfl L.co L.gen rfl ⟨c', oc, vs, t, rfl, hoc, hdc, hvc⟩ (hbind s1 kept _ _ _ _ ?_)
    refine wpAny_newFunctionEnv L.nocell (fun y hy => L.par _ (hbs ▸ List.mem_map.mpr ⟨y, hy, rfl⟩)) (fun h₁ hns hsb => ⟨I1.nolimit.fresh _ hsb, ?_⟩) L.kind
    have kp : ∀ b o, s1.heap.get? b = some o → h₁.get? b = some o := fun b o e => hsb.extBut b o (Nat.ne_of_lt (Heap.lt_size e)) (Heap.get?_push_of_some _ e)
    have J := lam_start (E := WE W σZ) (f := f) (c' := c') (tk := s1.toks + bs.length) I L I1.env0 hr.hd wp hwp un hns kp
    refine PySem.W.kla_codeExpr (wpAny_mono ((hbody _ _ s1 HZ (WE W σZ) (hr.deeper _) rfl).run [] _ _ HZ Q J ht) (fun v s' ⟨w', H', J', rv, q⟩ => ?_) fun e s' hq => hq)
    exact ⟨w', H', J'.os, J'.bare, J'.base, J'.hok, rv, q⟩
  refine wpAny_call (codeAny_mono rc fun r s' hq => ?_)
  match r, hq with
  | .error e, hq => exact L2.passAt tk σZ pinsZ HZ s1 e s' I1 hq
  | .ok (.ret u), hq => exact I1.after hq
  | .ok .next, hq => exact hq.elim
  | .ok .brk, hq => exact hq.elim
  | .ok .cont, hq => exact hq.elim
end
end LamY
set_option Elab.async false
set_option linter.all false
set_option maxRecDepth 100000
set_option maxHeartbeats 4000000
namespace DS
open PySem PySem.Spec L2
open PyProof.Rows hiding St
structure ExcIs (G : Gb) (c : Str) : Prop where
  ex : ∃ (C : Addr) (bmB : List Value) (B newId initId : String), G.mg c = some (.ref C) ∧ ExcBaseFacts B newId initId bmB ∧ PySem.W.excIn G.K C bmB newId = true ∧ PySem.W.keepIn G.K (.ref C) = true ∧ PySem.W.subIn G.K (.ref C) (.type "BaseException") = some true ∧ PySem.W.typeIn G.K (.ref C) = some (.type "type")
structure ExfIs (G : Gb) (c f : Str) : Prop where
  ex : ∃ (C fI cc cda : Addr) (n1 n2 : Str) (p : _root_.Fin 10 → Pos) (params : Arguments) (scope : Scope) (bmB : List Value) (B newId initId : String), G.mg c = some (.ref C) ∧ ExI G.P G.K C fI cc cda n1 n2 f p params scope bmB B newId initId ∧ ExText n1 n2 f p scope params ∧ StoreFacts B bmB "object.__setattr__" "object" ∧
    ExcBaseFacts B newId initId bmB ∧ PySem.W.KxsFacts B initId
  sup : G.mg ("super" : Str) = none
def sRaise0 (c : Str) (f : EF) : SF := fun ρ L => sBind (f ρ L) ρ fun _ L1 => .err c [] ρ L1
def sRaiseF (c fld : Str) (f : EF) : SF := fun ρ L => sBind (f ρ L) ρ fun d L1 => .err c [(fld, d)] ρ L1
section
variable {S : Sc} {W : WX} {e : Expr} {f : EF} {c fld : Str} {pos p q : Pos}
theorem ss_raise0 (F : ExcIs S.g c) (he : SE S W e f) (hg : Glb S c := by rfl) (hs : ∀ env, starEach [e] env = (false, eval e env) :: starEach [] env := by intro _; rfl) (hdb : (c == ("__debug__" : Str)) = false := by decide) :
    SS S W (.Raise (some (.Call (.Name c p) [e] [] q)) none pos) (sRaise0 c f) := fun X h => by
  obtain ⟨C, bmB, B, newId, initId, hm, FB, h1, h2, h3, h4⟩ := F.ex
  have hm0 := hm
  rw [h.K] at h1 h2 h3 h4
  rw [h.mg] at hm
  refine PS.imp (ps_raise h.calm h.takes (SkE.pmk_own1 FB h1 hm h2 (raises_own h3 h4) (by show X.env.scope.names.lookup _ = _; rw [← h.sc]; exact hg) (he X h) (hs _) hdb)) fun D σ H ⟨w, ρ, L, R, e, p⟩ => ?_
  exact ⟨w, ρ, L, R, e, (PostS.bind (σ := σ) e p).imp (fun v H1 ⟨w1, d, L1, l1, R1, d1, p1⟩ => p1 w1 σ H1 none (.refl _) R1 (e.le l1) (.inl ⟨rfl, rfl⟩) C hm0) fun _ _ _ z => z⟩
theorem ss_raiseF (F : ExfIs S.g c fld) (hk : 1 ≤ S.k) (he : SE S W e f) (hg : Glb S c := by rfl) (hs : ∀ env, starEach [e] env = (false, eval e env) :: starEach [] env := by intro _; rfl) (hdb : (c == ("__debug__" : Str)) = false := by decide) :
    SS S W (.Raise (some (.Call (.Name c p) [e] [] q)) none pos) (sRaiseF c fld f) := fun X h => by
  obtain ⟨C, fI, cc, cda, n1, n2, pp, params, scope, bmB, B, newId, initId, hm, T, X0, SF, FB, KF⟩ := F.ex
  have hm0 := hm
  rw [h.P, h.K] at T
  rw [h.mg] at hm
  refine PS.imp (ps_raise h.calm h.takes (pmk_exi T X0 SF FB KF (by show X.env.scope.names.lookup _ = _; rw [← h.sc]; exact hg) hm (by rw [← h.mg]; exact F.sup) (h.room.mono hk) (he X h) hdb (hs _))) fun D σ H ⟨w, ρ, L, R, e, p⟩ => ?_
  refine ⟨w, ρ, L, R, e, (PostS.bind (σ := σ) e p).imp (fun v H1 ⟨w1, d, L1, l1, R1, d1, p1⟩ => ?_) fun _ _ _ z => z⟩
  intro dd hdd
  obtain ⟨R2, l2⟩ := R1.newF (o := .xd [(fld, v)]) hdd
  exact p1 _ σ _ (some dd) l2 R2 ((e.le l1).le l2) (.inr ⟨dd, _, rfl, upd_same, .cons (d1.le l2) .nil⟩) C hm0
end
structure ExcT (G : Gb) (xs : List (Str × List Str)) : Prop where
  one : ∀ q ∈ xs, ∃ C, G.mg q.1 = some (.ref C)
  two : ∀ q ∈ xs, ∀ r ∈ xs, ∀ C C', G.mg q.1 = some (.ref C) → G.mg r.1 = some (.ref C') → PySem.W.exmOne G.K (.ref C) (.ref C') = some (decide (r.1 ∈ q.2))
def isExc (xs : List (Str × List Str)) (c c' : Str) : Bool := match xs.lookup c with
  | some ss => decide (c' ∈ ss)
  | none => false
def hasExc (xs : List (Str × List Str)) (c : Str) : Bool := (xs.lookup c).isSome
theorem ExcT.at {G : Gb} {xs : List (Str × List Str)} (T : ExcT G xs) {c c' : Str} {C C' : Addr} (h1 : hasExc xs c = true) (h2 : hasExc xs c' = true) (m : G.mg c = some (.ref C)) (m' : G.mg c' = some (.ref C')) : PySem.W.exmOne G.K (.ref C) (.ref C') = some (isExc xs c c') := by
  obtain ⟨ss, e1⟩ := Option.isSome_iff_exists.mp h1
  obtain ⟨tt, e2⟩ := Option.isSome_iff_exists.mp h2
  have r := T.two _ (PySem.mem_of_lookup e1) _ (PySem.mem_of_lookup e2) C C' m m'
  unfold isExc
  rw [e1]
  exact r
abbrev HF := Str → List (Str × D) → EF
structure HdD where
  c : Str
  as : Option Nat
  f : HF
structure Sc.HasH (S : Sc) (X : Cx) : Prop where
  P : S.g.P = X.prog
  w : S.g.w = X.w
  K : S.g.K = X.K
  mg : S.g.mg = X.mg
  base : S.g.base = X.base
  N : S.N = X.N
  sc : S.sc = X.env.scope
  un : X.A.units + 70 < cLine
  gd : S.gd = true → X.A.guards = some []
theorem Sc.Has.hot {S : Sc} {W : WX} {X : Cx} (h : S.Has W X) : S.HasH X := ⟨h.P, h.w, h.K, h.mg, h.base, h.N, h.sc, by have := h.room.un; omega, h.gd⟩
def tRH (g : Gb) (i : Option Nat) (a : Addr) (cls : Value) (d : Option Addr) (f : HF) : TE := fun σ H Q => ∃ w ρ L c p, Rel g w L H ∧ EnvR g w σ ρ ∧ (∀ j, i = some j → σ[j]? = some (some (.ref a))) ∧ (∃ C, g.mg c = some (.ref C) ∧ cls = .ref C) ∧ ExcP g w H d p ∧
  Post g (Den g) w (f c p ρ L) Q fun _ _ _ => False
def SEH (S : Sc) (i : Option Nat) (e : Expr) (f : HF) : Prop := ∀ (X : Cx) (a : Addr) (oe : Obj) (cls : Value) (d : Option Addr) (pn : List (Addr × Obj)), S.HasH X → Zc cls d oe → (∃ vs, oe.data = .fields vs) → PE (X.suite a ((a, oe) :: pn)) e (tRH S.g i a cls d f)
def tRHA (g : Gb) (i : Option Nat) (a : Addr) (cls : Value) (d : Option Addr) (f : Str → List (Str × D) → AF) : TA := fun σ H Q => ∃ w ρ L c p, Rel g w L H ∧ EnvR g w σ ρ ∧ (∀ j, i = some j → σ[j]? = some (some (.ref a))) ∧ (∃ C, g.mg c = some (.ref C) ∧ cls = .ref C) ∧ ExcP g w H d p ∧
  Post g (DenL g) w (f c p ρ L) Q fun _ _ _ => False
def SAH (S : Sc) (i : Option Nat) (es : List Expr) (f : Str → List (Str × D) → AF) : Prop := ∀ (X : Cx) (a : Addr) (oe : Obj) (cls : Value) (d : Option Addr) (pn : List (Addr × Obj)), S.HasH X → Zc cls d oe → (∃ vs, oe.data = .fields vs) → PA (X.suite a ((a, oe) :: pn)) es (tRHA S.g i a cls d f)
theorem ExcP.le {G : Gb} {w w' : Wd} {H H' : Hp} {d : Option Addr} {p : List (Str × D)} (h : ExcP G w H d p) (l : w.le w') : ExcP G w' H' d p := by
  rcases h with h | ⟨a, fs, h1, h2, h3⟩
  · exact .inl h
  · exact .inr ⟨a, fs, h1, l.dir _ _ h2, h3.le l⟩
def XfIs (G : Gb) (c f : Str) : Prop := ∃ C, G.mg c = some (.ref C) ∧ XfC G.K C ∧ PySem.W.findIn G.K (.ref C) f = some none
section
variable {S : Sc} {i : Option Nat} {e a b : Expr} {f fa fb : HF} {pos p : Pos} {es : List Expr} {fl : Str → List (Str × D) → AF}
theorem seh_const {d : D} {v : V} (hp : ∀ X : Cx, PE X e (tC v)) (hd : ∀ G w, Den G w v d) : SEH S i e (fun _ _ => eC d) := fun X a oe cls dx pn h z hf =>
  PE.imp (hp _) fun σ H Q ⟨w, ρ, L, c, p, R, e, _, _, _, q⟩ => q.ok (.refl w) R (hd S.g w)
theorem seh_str {x : Str} {j : Nat} : SEH S i (.Constant (.str x) j pos) (fun _ _ => eC (.str x)) := seh_const (fun _ => pe_str) fun _ _ => .str x
def hFld (c0 fld : Str) : HF := fun c p _ L => if c = c0 then (match p.lookup fld with
  | some d => .ok d L
  | none => .bad) else .bad
theorem seh_fld (c0 : Str) {j : Nat} {x fld : Str} (T : XfIs S.g c0 fld) (hN : S.N[j]? = some x := by rfl) (hv : Vis S.sc x := by first | exact Or.inl rfl | exact Or.inr (Or.inl rfl) | exact Or.inr (Or.inr rfl))
    (hd : (x == ("__debug__" : Str)) = false := by decide) (hcd : (x == ("__classdict__" : Str)) = false := by decide) (hb : ∀ env : Env, attributeBase (.Name x p) fld env (eval (.Name x p) env) = eval (.Name x p) env := by intro _; rfl) :
    SEH S (some j) (.Attribute (.Name x p) fld pos) (hFld c0 fld) := fun X a oe cls dx pn h z hf => by
  obtain ⟨C, hm, hx, hno⟩ := T
  rw [h.K] at hx hno
  refine PE.imp (pe_xf (C := C) hx hno z hf (pe_var (X := X.suite a ((a, oe) :: pn)) (i := j) (by show X.N[j]? = _; rw [← h.N]; exact hN) (by show Vis X.env.scope x; rw [← h.sc]; exact hv) hd hcd) (hb _)) fun σ H Q ⟨w, ρ, L, c, pp, R, e, ha, ⟨C', m', ec⟩, ep, q⟩ => ?_
  unfold hFld at q
  split at q
  · rename_i hc
    subst hc
    rw [hm] at m'
    cases m'
    split at q
    · rename_i d hl
      rcases ep with ⟨rfl, _⟩ | ⟨dd, fs, rfl, h2, h3⟩
      · cases hl
      · obtain ⟨v, h4, h5⟩ := h3.look _ hl
        exact ⟨.ref a, ha j rfl, rfl, ec, dd, fs, v, rfl, R.sub _ _ h2, h4, q.ok (.refl w) R h5⟩
    · exact q.elim
  · exact q.elim
theorem seh_op {op : Operator} {r : R2} {g : D → D → Sto → Res D} (ho : ∀ X, S.HasH X → ∀ a pn, OpR (X.suite a pn) (binaryOp op) r) (hr : R2D S.g r g) (ha : SEH S i a fa) (hb : SEH S i b fb) : SEH S i (.BinOp a op b pos) (fun c p => e2 g (fa c p) (fb c p)) := fun X x oe cls dx pn h z hf =>
  PE.imp (pe_op (ho X h x _) (ha X x oe cls dx pn h z hf) (hb X x oe cls dx pn h z hf)) fun σ H Q ⟨w, ρ, L, c, p, R, e, hi, hc, ep, q⟩ => by
    refine ⟨w, ρ, L, c, p, R, e, hi, hc, ep, (Post.bind (rel := Den S.g) q).imp (fun u H1 ⟨w1, d, L1, l1, R1, d1, p1⟩ => ?_) fun _ _ _ z => z⟩
    refine ⟨w1, ρ, L1, c, p, R1, e.le l1, hi, hc, ep.le l1, (Post.bind (rel := Den S.g) p1).imp (fun y H2 ⟨w2, d', L2, l2, R2, d2, p2⟩ => ?_) fun _ _ _ z => z⟩
    exact hr w2 L2 H2 u y d d' Q _ R2 (d1.le l2) d2 p2
theorem seh_add (ha : SEH S i a fa) (hb : SEH S i b fb) : SEH S i (.BinOp a .Add b pos) (fun c p => e2 gAdd (fa c p) (fb c p)) := fun X x oe cls dx pn h z hf =>
  seh_op (r := rAddU S.g.K) (fun Y hY x pn => by rw [hY.K]; exact op_addU (X := Y.suite x pn)) gAdd_ok ha hb X x oe cls dx pn h z hf
theorem sah_nil : SAH S i [] (fun _ _ => aNil) := fun X a oe cls dx pn h z hf => PA.imp pa_nil fun σ H Q ⟨w, ρ, L, c, p, R, e, _, _, _, q⟩ => Post.ok q (.refl w) R .nil
theorem sah_cons (he : SEH S i e f) (hr : SAH S i es fl) (hs : ∀ env, starEach (e :: es) env = (false, eval e env) :: starEach es env := by intro _; rfl) : SAH S i (e :: es) (fun c p => aCons (f c p) (fl c p)) := fun X a oe cls dx pn h z hf =>
  PA.imp (pa_cons (he X a oe cls dx pn h z hf) (hr X a oe cls dx pn h z hf) (hs _)) fun σ H Q ⟨w, ρ, L, c, p, R, e, hi, hc, ep, q⟩ => by
    refine ⟨w, ρ, L, c, p, R, e, hi, hc, ep, (Post.bind (rel := Den S.g) q).imp (fun u H1 ⟨w1, d, L1, l1, R1, d1, p1⟩ => ?_) fun _ _ _ z => z⟩
    refine ⟨w1, ρ, L1, c, p, R1, e.le l1, hi, hc, ep.le l1, (Post.bind (rel := DenL S.g) p1).imp (fun y H2 ⟨w2, ds, L2, l2, R2, d2, p2⟩ => ?_) fun _ _ _ z => z⟩
    exact Post.ok p2 (.refl _) R2 (.cons (d1.le l2) d2)
theorem seh_en {g : List D → Sto → Res D} {r : List V → Hp → VK → Prop} (hr : RnD S.g r g) {X : Cx} {x : Addr} {cls : Value} {dx : Option Addr} {σ : L2.St} {H : Hp} {Q : VK} (q : tRH S.g i x cls dx (fun c p => en g (fl c p)) σ H Q) : tRHA S.g i x cls dx fl σ H fun vs H1 => r vs H1 Q := by
  obtain ⟨w, ρ, L, c, p, R, e, hi, hc, ep, q⟩ := q
  exact ⟨w, ρ, L, c, p, R, e, hi, hc, ep, (Post.bind (rel := DenL S.g) q).imp (fun u H1 ⟨w1, d, L1, l1, R1, d1, p1⟩ => hr w1 L1 H1 u d Q _ R1 d1 p1) fun _ _ _ z => z⟩
theorem seh_repr (B : Bl S.g) (ha : SAH S i (e :: es) fl) (hgd : S.gd = true := by rfl) (hg : Glb S "repr" := by rfl) (he : ∀ env, starEach (e :: es) env = (false, eval e env) :: starEach es env := by intro _; rfl) (hpl : ∀ env, (backTo pos (starEach es env)).any (·.1) = false := by intro _; rfl) :
    SEH S i (.Call (.Name "repr" p) (e :: es) [] pos) (fun c p => en gRepr (fl c p)) := fun X x oe cls dx pn h z hf =>
  PE.imp (pe_callB (X := X.suite x ((x, oe) :: pn)) (id := "repr") (r := rReprD S.g.K) (by rw [h.K]; exact call_reprD (X := X.suite x ((x, oe) :: pn)) (h.gd hgd) (by have := h.un; show X.A.units + 60 < cLine; omega)) (by show X.env.scope.names.lookup _ = _; rw [← h.sc]; exact hg) (by show X.mg _ = _; rw [← h.mg]; exact B.repr) (by decide +kernel)
    (ha X x oe cls dx pn h z hf) (by decide) (by decide) (he _) (hpl _)) fun σ H Q q => seh_en (X := X) gRepr_ok q
theorem seh_strC (B : Bl S.g) (ha : SAH S i (e :: es) fl) (hg : Glb S "str" := by rfl) (he : ∀ env, starEach (e :: es) env = (false, eval e env) :: starEach es env := by intro _; rfl) (hpl : ∀ env, (backTo pos (starEach es env)).any (·.1) = false := by intro _; rfl) :
    SEH S i (.Call (.Name "str" p) (e :: es) [] pos) (fun c p => en gStr (fl c p)) := fun X x oe cls dx pn h z hf =>
  PE.imp (pe_callTy (X := X.suite x ((x, oe) :: pn)) (T := "str") (r := rStrU) call_strU (by show X.env.scope.names.lookup _ = _; rw [← h.sc]; exact hg) (by show X.mg _ = _; rw [← h.mg]; exact B.str) (by decide +kernel)
    (ha X x oe cls dx pn h z hf) (by decide) (by decide) (he _) (hpl _)) fun σ H Q q => seh_en (X := X) gStr_ok q
end
structure Cl where
  c : Str
  as : Option Nat
  to : Option Nat
  f : HF
def OwnE (S : Sc) (x : Str) : Prop := Glb S x ∧ (x == ("__debug__" : Str)) = false
inductive HdJ (S : Sc) : List ExceptHandler → List Cl → Prop
  | nil : HdJ S [] []
  | ret {x : Str} {np p1 pos' : Pos} {e : Expr} {f : HF} {hds : List ExceptHandler} {l : List Cl} (hx : OwnE S x) (he : SEH S none e f) (r : HdJ S hds l) : HdJ S (.ExceptHandler (some (.Name x np)) none [.Return (some e) p1] pos' :: hds) (⟨x, none, none, f⟩ :: l)
  | as_ {x n : Str} {i : Nat} {np p1 pos' : Pos} {e : Expr} {f : HF} {hds : List ExceptHandler} {l : List Cl} (hx : OwnE S x) (hi : S.N[i]? = some n) (hl : S.sc.names.lookup n = some .local) (he : SEH S (some i) e f) (r : HdJ S hds l) :
      HdJ S (.ExceptHandler (some (.Name x np)) (some n) [.Return (some e) p1] pos' :: hds) (⟨x, some i, none, f⟩ :: l)
  | set {x y : Str} {j : Nat} {np p1 py pos' : Pos} {e : Expr} {f : HF} {hds : List ExceptHandler} {l : List Cl} (hx : OwnE S x) (hj : S.N[j]? = some y) (hl : S.sc.names.lookup y = some .local) (hs : ∀ env, swapsWith e (some (.Name y py)) p1.line env = pure false) (he : SEH S none e f) (r : HdJ S hds l) :
      HdJ S (.ExceptHandler (some (.Name x np)) none [.Assign [.Name y py] e p1] pos' :: hds) (⟨x, none, some j, f⟩ :: l)
def Cl.run (q : Cl) (c : Str) (p : List (Str × D)) (ρ : Env') (L : Sto) : SRes := match q.as with
  | none => (match q.f c p ρ L with
    | .ok d L1 => (match q.to with
      | none => .rt d L1
      | some j => .nx (ρ.set j (some d)) L1)
    | _ => .bad)
  | some i => if i < ρ.length then (match q.f c p (ρ.set i none) L, q.to with
    | .ok d L1, none => .rt d L1
    | _, _ => .bad) else .bad
def pickH (xs : List (Str × List Str)) (c : Str) (p : List (Str × D)) (ρ : Env') (L : Sto) : List Cl → SRes
  | [] => .err c p ρ L
  | q :: r => if hasExc xs q.c = true then (if isExc xs c q.c = true then q.run c p ρ L else pickH xs c p ρ L r) else .bad
def Cl.ts (g : Gb) (q : Cl) : Sute := fun a cls d E σ H => tRH g q.as a cls d q.f σ H fun v H' => match q.to with
  | none => E.rt v H'
  | some j => E.nx (σ.set j (some v)) H'
theorem EnvR.setN {G : Gb} {w : Wd} {σ : L2.St} {ρ : Env'} (e : EnvR G w σ ρ) (i : Nat) (x : Option V) : EnvR G w (σ.set i x) (ρ.set i none) := by
  refine ⟨by rw [List.length_set, List.length_set, e.1], fun j y q => ?_⟩
  by_cases hj : i = j
  · subst hj
    by_cases hi : i < ρ.length
    · rw [List.getElem?_set_self hi] at q
      cases q
    · rw [List.getElem?_eq_none (by rw [List.length_set]; omega)] at q
      cases q
  · rw [List.getElem?_set_ne hj] at q
    obtain ⟨u, a, b⟩ := e.2 j y q
    exact ⟨u, by rw [List.getElem?_set_ne hj]; exact a, b⟩
section
variable {S : Sc} {W : WX} {X : Cx} {G : Gb}
def clM (G : Gb) (q : Cl) : Value × Option Nat × Sute := ((match G.mg q.c with
  | some v => v
  | none => .none), q.as, q.ts G)
theorem hds_of (h : S.HasH X) : ∀ {hds : List ExceptHandler} {l : List Cl}, X.N.Nodup → HdJ S hds l → (∀ q ∈ l, ∃ C, S.g.mg q.c = some (.ref C)) → HdsM X hds (l.map (clM S.g)) := by
  intro hds l hN hj
  have nm : ∀ {x : Str}, OwnE S x → (∃ C, S.g.mg x = some (.ref C)) → Names X x (match S.g.mg x with | some v => v | none => .none) := fun {x} hx ⟨C, hm⟩ => by
    refine ⟨by show X.env.scope.names.lookup _ = _; rw [← h.sc]; exact hx.1, hx.2, .inl ?_⟩
    rw [← h.mg, hm]
  induction hj with
  | nil => exact fun _ => .nil
  | ret hx he r ih =>
    intro hC
    refine .bare (nm hx (hC _ List.mem_cons_self)) (fun a oe cls d pn z hf => ?_) (ih fun q hq => hC q (List.mem_cons_of_mem _ hq))
    exact pss_one (PS.imp (ps_ret (he X a oe cls d pn h z hf)) fun D σ H q => q)
  | as_ hx hi hl he r ih =>
    intro hC
    refine .as_ (nm hx (hC _ List.mem_cons_self)) (by rw [← h.N]; exact hi) (by show X.env.scope.names.lookup _ = _; rw [← h.sc]; exact hl) (fun a oe cls d pn z hf => ?_) (ih fun q hq => hC q (List.mem_cons_of_mem _ hq))
    exact pss_one (PS.imp (ps_ret (he X a oe cls d pn h z hf)) fun D σ H q => q)
  | @set x y j np p1 py pos' e f hds l hx hj hl hs he r ih =>
    intro hC
    refine .bare (nm hx (hC _ List.mem_cons_self)) (fun a oe cls d pn z hf => ?_) (ih fun q hq => hC q (List.mem_cons_of_mem _ hq))
    exact pss_one (PS.imp (ps_set (X := X.suite a ((a, oe) :: pn)) (i := j) hN (by show X.N[j]? = _; rw [← h.N]; exact hj) (by show Loc X.env.scope _; rw [← h.sc]; exact .inl hl) (he X a oe cls d pn h z hf) (hs _) (.inr (by show X.env.scope.names.lookup _ = _; rw [← h.sc]; exact hl))) fun D σ H q => q)
theorem pick_wish {xs : List (Str × List Str)} (T : ExcT G xs) {D : Ends} {Wout : WX} {c : Str} {p : List (Str × DS.D)} {C : Addr} (hc : hasExc xs c = true) (hm : G.mg c = some (.ref C)) {w : Wd} {ρ : Env'} {L : Sto} {σ : L2.St} {H : Hp} {dx : Option Addr}
    (R : Rel G w L H) (e : EnvR G w σ ρ) (x : ExcP G w H dx p) : ∀ {l : List Cl}, (∀ q ∈ l, ∃ C, G.mg q.c = some (.ref C)) → PostS G w (pickH xs c p ρ L l) D Wout → wMix G.K Wout D (l.map (clM G)) (.ref C) dx σ H := by
  intro l
  induction l with
  | nil => exact fun _ q => q w σ H dx (.refl w) R e x C hm
  | cons q r ih =>
    intro hC hp
    obtain ⟨C', hm'⟩ := hC q List.mem_cons_self
    unfold pickH at hp
    split at hp
    · rename_i hq
      refine ⟨isExc xs c q.c, ?_, fun hb a ha => ?_, fun hb => ?_⟩
      · show PySem.W.exmOne G.K (.ref C) (clM G q).1 = _
        unfold clM
        rw [hm']
        exact T.at hc hq hm hm'
      · rw [if_pos hb] at hp
        obtain ⟨qc, qa, qt, qf⟩ := q
        unfold Cl.run at hp
        cases qa with
        | none =>
          show Cl.ts G ⟨qc, none, qt, qf⟩ a (.ref C) dx D σ H
          refine ⟨w, ρ, L, c, p, R, e, (fun j z => nomatch z), ⟨C, hm, rfl⟩, x, ?_⟩
          dsimp only at hp
          show Post G (Den G) w (qf c p ρ L) _ _
          cases hr : qf c p ρ L with
          | ok d L1 =>
            rw [hr] at hp
            intro w2 H2 v l2 R2 dv
            cases qt with
            | none => exact hp w2 v H2 l2 R2 dv
            | some j => exact hp w2 _ H2 l2 R2 ((e.le l2).set j dv)
          | err c2 p2 L1 => rw [hr] at hp; exact hp.elim
          | bad => rw [hr] at hp; exact hp.elim
        | some i =>
          show Cl.ts G ⟨qc, some i, qt, qf⟩ a (.ref C) dx (D.bare i) (σ.set i (some (.ref a))) H
          dsimp only at hp
          split at hp
          · rename_i hi
            refine ⟨w, ρ.set i none, L, c, p, R, e.setN i _, fun j z => ?_, ⟨C, hm, rfl⟩, x, ?_⟩
            · cases z
              exact List.getElem?_set_self (by rw [e.1]; exact hi)
            · show Post G (Den G) w (qf c p (ρ.set i none) L) _ _
              cases hr : qf c p (ρ.set i none) L with
              | ok d L1 =>
                rw [hr] at hp
                intro w2 H2 v l2 R2 dv
                cases qt with
                | none => exact hp w2 v H2 l2 R2 dv
                | some j => exact hp.elim
              | err c2 p2 L1 => rw [hr] at hp; exact hp.elim
              | bad => rw [hr] at hp; exact hp.elim
          · exact hp.elim
      · rw [if_neg (by rw [hb]; decide)] at hp
        exact ih (fun z hz => hC z (List.mem_cons_of_mem _ hz)) hp
    · exact hp.elim
theorem Sc.Has.tr {S : Sc} {W W2 : WX} {X : Cx} (h : S.Has W X) {pn : List (Addr × Obj)} {xe : Value → Shared → Prop} (tk : Takes (X.tr pn xe) W2) (ps : PassesOwn (model X.prog X.w) X.A X.env xe) : S.Has W2 (X.tr pn xe) :=
  ⟨h.P, h.w, h.K, h.mg, h.base, h.N, h.sc, h.fn, h.calm, h.room, h.gd, h.top, h.lm, tk, ps⟩
end
section
variable {G : Gb} {w : Wd} {L : Sto} {H : Hp} {P c' : Addr} {q : Str}
theorem tabS_of (R : Rel G w L H) (hP : (P, some q) ∈ G.tabs) : LamX.TabS H P q := by
  obtain ⟨_, _, _, ps, h1, h2, h3⟩ := R.tab _ hP
  refine ⟨ps, h1, h2, fun pos cv e => ?_⟩
  obtain ⟨c, e1, e2⟩ := h3 q rfl pos cv e
  exact ⟨c, e1, R.sub _ _ e2⟩
theorem Rel.tbl (R : Rel G w L H) (hP : (P, some q) ∈ G.tabs) (hu : ∀ p ∈ G.tabs, p.1 = P → p.2 = some q) {ps' : Array Value} (ht : TriplesOk ps'.toList) (hc : ∀ (pos : Pos) (cv : Value), codeAmong pos ps'.toList = some cv → ∃ c, cv = .ref c ∧ w.F c = some (LamX.CodeO c q)) :
    Rel G w L (upd H P (.tbl ps')) := by
  obtain ⟨n1, n2, n3, ps, h1, _, _⟩ := R.tab _ hP
  have other : ∀ b, b ≠ P → upd H P (.tbl ps') b = H b := fun b z => upd_ne z
  refine ⟨fun a o e => ?_, R.len, R.nd, R.free, fun n a c e1 e2 => ?_, fun a o e => ?_, fun p hp => ?_, R.nt⟩
  · rw [other a fun z => by rw [z] at e; rw [n1] at e; cases e]
    exact R.sub a o e
  · rw [other a fun z => n2 (z ▸ List.mem_of_getElem? e1)]
    exact R.box n a c e1 e2
  · rw [other a fun z => by rw [z] at e; rw [n3] at e; cases e]
    exact R.prv a o e
  · obtain ⟨m1, m2, m3, qs, k1, k2, k3⟩ := R.tab p hp
    by_cases z : p.1 = P
    · refine ⟨m1, m2, m3, ps', by rw [z]; exact upd_same, ht, fun q' e' pos cv hcv => ?_⟩
      rw [hu p hp z] at e'
      cases e'
      exact hc pos cv hcv
    · exact ⟨m1, m2, m3, qs, by rw [other _ z]; exact k1, k2, k3⟩
theorem Rel.made {H1 : Hp} (R : Rel G w L H) (m : LamY.Made P c' q H H1) (hP : (P, some q) ∈ G.tabs) (hu : ∀ p ∈ G.tabs, p.1 = P → p.2 = some q) : ∃ w', w.le w' ∧ Rel G w' L H1 := by
  rcases m with rfl | ⟨hc, ps, ps', hp, ht, rfl, hcs⟩
  · exact ⟨w, .refl w, R⟩
  · obtain ⟨R2, l2⟩ := R.newF (o := LamX.CodeO c' q) hc
    have ne : c' ≠ P := fun z => by rw [z, hp] at hc; cases hc
    obtain ⟨_, _, _, qs, k1, _, k3⟩ := R.tab _ hP
    have eq : qs = ps := by
      have z : H P = some (HO.tbl qs) := k1
      rw [hp] at z
      cases z
      rfl
    subst eq
    refine ⟨_, l2, ?_⟩
    have R3 := R2.tbl hP hu ht fun pos cv e => by
      rcases hcs pos cv e with k | k
      · obtain ⟨c, e1, e2⟩ := k3 q rfl pos cv k
        refine ⟨c, e1, ?_⟩
        have nc : c ≠ c' := fun z => by
          have := R.sub _ _ e2
          rw [z, hc] at this
          cases this
        exact (upd_ne nc).trans e2
      · exact ⟨c', k, upd_same⟩
    have sw : upd (upd H c' (LamX.CodeO c' q)) P (.tbl ps') = upd (upd H P (.tbl ps')) c' (LamX.CodeO c' q) := by
      funext b
      by_cases b1 : b = c'
      · rw [b1, upd_ne ne, upd_same, upd_same]
      · by_cases b2 : b = P
        · rw [b2, upd_same, upd_ne (fun z => ne z.symm), upd_same]
        · rw [upd_ne b2, upd_ne b1, upd_ne b1, upd_ne b2]
    rwa [sw] at R3
end
def fin2 (c : Str) : SRes → Res D
  | .nx _ L => .ok (.str c) L
  | .rt d L => .ok d L
  | .err c p _ L => .err c p L
  | _ => .bad
def mMet (xs : List (Str × List Str)) (l : List Cl) (c : Str) (n : Nat) (act : Sto → Res D) (L : Sto) : Res D := match act L with
  | .ok _ L1 => .ok (.str c) L1
  | .err e p L1 => if hasExc xs e = true then fin2 c (pickH xs e p (List.replicate n none) L1 l) else .bad
  | .bad => .bad
def Gives (G : Gb) (gd : Bool) (x a : Str) (sg : Scope) (Ng : List Str) (f : Addr) (cdg : Value) (body : List Stmt) (k : Nat) (TT : (Sto → Res D) → Sto → Res D) : Prop :=
  ∀ (A : Around) (outer : List Env) (s : Shared) (H : Hp) (fa c' : Addr) (q : Str) (Q : VK) (act : Sto → Res D) (tl : XK → Hp → VK → Prop) (w : Wd) (L : Sto), (gd = true → A.guards = some []) → Room k (A.deeper (envOfC x sg s.heap.objs.size f cdg)) →
    (∀ (W : WX) (pn : List (Addr × Obj)) (xe : Value → Shared → Prop) (p1 p2 : Pos), Takes ((cxOf C8.CX0 G.P G.w G.K G.mg G.base Ng x sg f cdg A outer s H C8.E0).tr pn xe) W →
      PE ((cxOf C8.CX0 G.P G.w G.K G.mg G.base Ng x sg f cdg A outer s H C8.E0).tr pn xe) (.Call (.Name a p1) [] [] p2) (fun σZ HZ Q => σZ[0]? = some (some (.ref fa)) ∧ HZ c' = some (LamX.CodeO c' q) ∧ tl (WE W σZ) HZ Q)) →
    (∀ (E : XK) (H' : Hp) (Q' : VK) (w' : Wd) (L' : Sto), w.le w' → Rel G w' L' H' → Post G (Den G) w' (act L') Q' E → tl E H' Q') → H c' = some (LamX.CodeO c' q) → Rel G w L H → Post G (Den G) w (TT act L) Q (fun _ _ _ => False) →
    ∃ t, PSs (cxOf C8.CX0 G.P G.w G.K G.mg G.base Ng x sg f cdg A outer s H C8.E0).nox body t ∧ t { nx := fun _ H' => Q .non H', rt := Q } (L2.start Ng [.ref fa]) H
theorem fin2_post {G : Gb} {w : Wd} {c : Str} {r : SRes} {Q : VK} {E : XK} {D0 : Ends} {W : WX} (hn : ∀ σ H, Q (.str c) H → D0.nx σ H) (hr : ∀ v H, Q v H → D0.rt v H) (hw : ∀ cls d σ H, E cls d H → W cls d σ H) (p : Post G (Den G) w (fin2 c r) Q E) : PostS G w r D0 W := by
  cases r with
  | nx ρ L => exact fun w1 σ H l R e => hn σ H (p w1 H _ l R (.str c))
  | rt d L => exact fun w1 v H l R h => hr v H (p w1 H v l R h)
  | err e q ρ L => exact fun w1 σ H dx l R en x C m => hw _ _ _ _ (p w1 H dx l R x C m)
  | bk ρ L => exact p.elim
  | ct ρ L => exact p.elim
  | bad => exact p.elim
theorem met_gives {G : Gb} {gd : Bool} {x a c : Str} {sg : Scope} {Ng : List Str} {f : Addr} {cdg : Value} {k : Nat} {xs : List (Str × List Str)} {h₀ : ExceptHandler} {hds : List ExceptHandler} {l : List Cl} {p1 p2 p3 p4 p5 p6 : Pos} {j : Nat}
    (T : ExcT G xs) (hN : Ng.Nodup) (h0 : Ng[0]? = some a) (hh : HdJ ⟨G, Ng, sg, fun _ => true, k, gd, true, none⟩ (h₀ :: hds) l) (hC : ∀ q ∈ l, ∃ C, G.mg q.c = some (.ref C)) (hs : ∀ env, swapsWith (.Call (.Name a p1) [] [] p2) none p3.line env = pure false := by intro _; rfl) :
    Gives G gd x a sg Ng f cdg [.Try [.Expr (.Call (.Name a p1) [] [] p2) p3] (h₀ :: hds) [] [] p4, .Return (some (.Constant (.str c) j p5)) p6] k (mMet xs l c Ng.length) := by
  intro A outer s H fa c' q Q act tl w L hgd hr hact htl hc R p
  have hot : Sc.HasH ⟨G, Ng, sg, fun _ => true, k, gd, true, none⟩ (cxOf C8.CX0 G.P G.w G.K G.mg G.base Ng x sg f cdg A outer s H C8.E0).nox := ⟨rfl, rfl, rfl, rfl, rfl, rfl, rfl, by have := hr.un; show (A.deeper _).units + 70 < cLine; omega, hgd⟩
  have st0 : (L2.start Ng [V.ref fa])[0]? = some (some (V.ref fa)) := rfl
  have len : (L2.start Ng [V.ref fa]).length = Ng.length := by
    have : 0 < Ng.length := getElem?_lt h0
    unfold L2.start
    simp
    omega
  have en : EnvR G w (L2.start Ng [V.ref fa]) (List.replicate Ng.length none) := by
    refine ⟨by rw [len, List.length_replicate], fun i d e => ?_⟩
    have := List.eq_of_mem_replicate (List.mem_of_getElem? e)
    cases this
  refine ⟨_, pss_cons (ps_try_mix (X := (cxOf C8.CX0 G.P G.w G.K G.mg G.base Ng x sg f cdg A outer s H C8.E0).nox) (Wout := fun _ _ _ _ => False) (l := l.map (clM G))
    (tb := fun W D σ H => ∃ L, Rel G w L H ∧ EnvR G w σ (List.replicate Ng.length none) ∧ σ[0]? = some (some (.ref fa)) ∧ H c' = some (LamX.CodeO c' q) ∧ PostS G w (match act L with
      | .ok _ L1 => .nx (List.replicate Ng.length none) L1
      | .err e p L1 => .err e p (List.replicate Ng.length none) L1
      | .bad => .bad) D W) rfl rfl hN LamX.takes0 (hds_of hot hN hh hC) fun W pn xe tk _ => ?_) (pss_one (ps_ret pe_str)), ?_⟩
  · refine ⟨fun pins s' σ H' D I ⟨L, R, e, e0, ec, p⟩ => ?_⟩
    refine (pss_one (ps_expr (pos := p3) (hact W pn xe p1 p2 tk) (hs _))).run pins s' σ H' D I ⟨e0, ec, htl _ _ _ w L (.refl w) R ?_⟩
    cases hr2 : act L with
    | ok d L1 =>
      rw [hr2] at p
      exact fun w1 H1 v l1 R1 _ => p w1 σ H1 l1 R1 (e.le l1)
    | err e2 p2 L1 =>
      rw [hr2] at p
      exact fun w1 H1 dx l1 R1 x1 C m => p w1 σ H1 dx l1 R1 (e.le l1) x1 C m
    | bad => rw [hr2] at p; exact p.elim
  · refine ⟨L, R, en, st0, hc, ?_⟩
    unfold mMet at p
    cases hr2 : act L with
    | ok d L1 =>
      rw [hr2] at p
      exact fun w1 σ1 H1 l1 R1 _ => p w1 H1 _ l1 R1 (.str c)
    | err e2 p2 L1 =>
      rw [hr2] at p
      dsimp only at p
      split at p
      · rename_i hx
        intro w1 σ1 H1 dx l1 R1 e1 x1 C hm
        exact pick_wish T hx hm R1 e1 x1 hC (PostS.le l1 (fin2_post (E := fun _ _ _ => False) (fun _ _ z => z) (fun _ _ z => z) (fun _ _ _ _ z => z.elim) p))
      · exact p.elim
    | bad => rw [hr2] at p; exact p.elim
structure LamIs (gd : Bool) (G : Gb) (x : Str) (k : Nat) (TT : (Sto → Res D) → Sto → Res D) : Prop where
  ex : ∃ (f : Addr) (oc dV kV doc pm cdv ct : Value) (an od : Option Addr) (osl : Array (Option Value)) (pg : Arguments) (bg : List Stmt) (sg : Scope) (Ng : List Str) (a : Str), G.mg x = some (.ref f) ∧ PySem.W.keepIn G.K (.ref f) = true ∧
    G.K.lookup f = some ⟨oc, od, .func (PySem.W.fnOf x x pg bg sg dV kV doc pm an cdv ct), osl⟩ ∧ PySem.W.codeIn G.K cdv x = true ∧ L2.Binds G.K (PySem.W.fnOf x x pg bg sg dV kV doc pm an cdv ct) [a] [] ∧ FnScope Ng [a] sg ∧ Ng[0]? = some a ∧ Vis sg a ∧
    (a == ("__debug__" : Str)) = false ∧ (a == ("__classdict__" : Str)) = false ∧ Gives G gd x a sg Ng f cdv bg k TT
def Sc.lam (S : Sc) (scope : Scope) (k : Nat) : Sc := ⟨S.g, S.N, scope, fun _ => false, k, S.gd, false, none⟩
theorem Sc.Has.lam {S : Sc} {W : WX} {X : Cx} (h : S.Has W X) {scope : Scope} {kb : Nat} {A : Around} {outer : List Env} {s : Shared} {H : Hp} {E : XK} {f c' : Addr} (hr : Room kb (A.deeper (LamX.lamEnv X scope s.heap.objs.size f c'))) (hg : A.guards = X.A.guards) :
    (S.lam scope kb).Has (fun c d _ H => E c d H) (LamX.lamCx X A outer s H E scope f c') :=
  ⟨h.P, h.w, h.K, h.mg, h.base, h.N, rfl, rfl, rfl, hr, fun z => hg.trans (h.gd z), (fun z => nomatch z), (fun _ z => nomatch z), takes_of rfl rfl rfl rfl, passes_of rfl⟩
def eLam (TT : (Sto → Res D) → Sto → Res D) (wp : List Nat) (fb : EF) : EF := fun ρ L => okR (TT (fun L' => fb (wipeE ρ wp) L') L)
section
variable {S : Sc} {W : WX} {gd : Bool} {x : Str} {k kb : Nat} {TT : (Sto → Res D) → Sto → Res D} {params : Arguments} {body : Expr} {scope : Scope} {fb : EF} {p lpos pos : Pos}
theorem se_lam0 (F : LamIs gd S.g x k TT) (hk : k + 1 ≤ S.k) (hkb : kb + 1 ≤ k) (hlm : S.lm = some "<lambda>") (hu : ∀ p ∈ S.g.tabs, ∀ r ∈ S.g.tabs, p.1 = r.1 → p.2 = r.2) (hL : LamY.lamTB S.sc scope [] = true)
    (hb : ∀ W, SE (S.lam scope kb) W body fb) (hgd : gd = true → S.gd = true) (hg : Glb S x := by rfl) (hdb : (x == ("__debug__" : Str)) = false := by decide)
    (hbind : ∀ (q : Str) (cl : List (Str × Addr)) (doc pm cv ctv : Value), bindArgs (PySem.W.kdv_fn "<lambda>" q params (.expr body) scope cl .none doc pm cv ctv) ⟨[], []⟩ = pure [] := by intros; rfl) (hdef : ∀ env, defaultsOf params env = ([], []) := by intro _; rfl) :
    SE S W (.Call (.Name x p) [.Lambda params body scope lpos] [] pos) (eLam TT [] fb) := fun X h => by
  obtain ⟨g, oc, dV, kV, doc0, pm0, cdv, ct, an, od, osl, pg, bg, sg, Ng, a, hm, hkp, lk, hcg, hB, Sg, hNg, hva, hd, hcd, hG⟩ := F.ex
  obtain ⟨c, P, hcode, TB, hmT⟩ := h.lm _ hlm
  have LT : LamY.LamT X.env.scope scope [] := by rw [← h.sc]; exact LamY.lamT_by hL
  refine ⟨fun pins s σ H Q I ⟨w, ρ, L, R, en, q⟩ => ?_⟩
  have hu' : ∀ p ∈ S.g.tabs, p.1 = P → p.2 = some (X.env.qual ++ "<lambda>") := fun p hp z => hu p hp _ hmT z
  refine wpAny_Call_Name_kw (ld_glob I (by show X.env.scope.names.lookup _ = _; rw [← h.sc]; exact hg) (by rw [← h.mg]; exact hm) ?_ hdb)
  refine PySem.W.callWith_K (h₀ := X.base) I.ok.mod.kin (by rw [← h.K]; exact hkp) ?_ (by rfl) (by rfl)
  show wpAny _ _ (spliced ((false, eval (.Lambda params body scope lpos) X.env) :: backTo pos (starEach [] X.env))) _ _ s
  refine Calls.spliced_cons (LamY.lam_eval0 (hdef _) (LamY.lam_tail I (by rw [← h.base, ← h.mg]; exact TB) hcode (tabS_of R hmT) (fun y hy e => (LT.free y hy e).elim (fun k => I.ok.has _ (.inl k)) fun k => I.ok.has _ (.inr k)) fun f c' doc pm ctv H1 s' I1 md kp hf hfn hfr hco => ?_))
  refine Calls.spliced_nil ⟨I1.kIn, ?_⟩
  obtain ⟨w1, l1, R1⟩ := R.made md hmT hu'
  have en1 := en.le l1
  have rc : codeAny (model X.prog X.w) X.A (.call (.ref g) ⟨[.ref f], []⟩) (CR C8.CX0 X.stack X.prog X.w H1 s' Q C8.E0) s' := by
    refine LamX.run_ofS (N := Ng) (ps := [a]) (us := [.ref f]) (vs := [.ref f]) (k := k) (by rw [← h.K]; exact lk) (by rw [← h.K]; exact hcg) Sg (h.room.mono hk) I1.env0 ((by rw [← h.K]; exact hB : L2.Binds X.K _ [a] []) s' [.ref f] I1.kIn rfl) (.cons rfl .nil) rfl fun hr' => ?_
    have hG2 := hG X.A X.stack s' H1 f c' (X.env.qual ++ "<lambda>") Q (fun L' => fb ρ L') (fun E HZ Q' => tR S.g (Den S.g) (fun c d _ H => E c d H) fb σ HZ Q') w1 L (fun z => h.gd (hgd z)) hr'
    rw [h.P, h.w, h.K, h.mg, h.base] at hG2
    obtain ⟨t', ht', hq'⟩ := hG2 (fun W2 pn xe p1 p2 tk => LamY.pe_actY (X := X) (i := 0) (k := kb) (bs := []) (ys := []) I1 LT [] (fun _ _ _ _ _ z => nomatch z) hf hfn hfr rfl (fun _ _ => BindsTo.of_eq (hbind _ _ _ _ _ _)) tk (hr'.mono hkb) (tb := fun E σ HZ Q' => tR S.g (Den S.g) (fun c d _ H => E c d H) fb σ HZ Q') (fun A outer s2 H2 E hr2 gg => hb _ _ (h.lam hr2 gg)) hNg hva hd hcd)
      (fun E H' Q' w' L' lw R' p' => ⟨w', ρ, L', R', en1.le lw, p'⟩) hco (by have z := R1; exact z) (Post.le l1 (okR_post q))
    exact ⟨t', ht'.nox, hq'⟩
  refine wpAny_call (codeAny_mono rc fun r s2 hq => ?_)
  match r, hq with
  | .error e, hq => exact (show False from hq).elim
  | .ok (.ret u), hq => exact I1.after hq
  | .ok .next, hq => exact hq.elim
  | .ok .brk, hq => exact hq.elim
  | .ok .cont, hq => exact hq.elim
end
section
variable {K : PySem.W.Frag} {h : Heap} {mg : Str → Option Value} {P : Program} {w : World} {base : Heap} {tb : List (Addr × Option Str)}
end
section
variable {X : Cx}
end
section
variable {X : Cx} {pins : List (Addr × Obj)} {σ : L2.St} {H : Hp} {s : Shared}
end
def codeAd (K : PySem.W.Frag) (z : DefZ) : Addr := match K.lookup (z.way.ad K) with
  | some ⟨_, _, .func fd, _⟩ => (match fd.code with
    | .ref c => c
    | _ => 0)
  | _ => 0
def tabAd (K : PySem.W.Frag) (c : Addr) : Addr := match K.lookup c with
  | some ⟨_, _, .fields vs, _⟩ => (match vs.getD 11 .none with
    | .ref P => P
    | _ => 0)
  | _ => 0
def cOf (K : PySem.W.Frag) (z : DefZ) : Addr × Addr := (codeAd K z, tabAd K (codeAd K z))
def codeB (K : PySem.W.Frag) (z : DefZ) : Bool := match K.lookup (z.way.ad K) with
  | some ⟨_, _, .func fd, _⟩ => decide (fd.code = .ref (codeAd K z))
  | _ => false
theorem codeB_ok {K : PySem.W.Frag} {z : DefZ} {oc : Value} {od : Option Addr} {fd : FuncData} {sl : Array (Option Value)} (h : codeB K z = true) (e : K.lookup (z.way.ad K) = some ⟨oc, od, .func fd, sl⟩) : fd.code = .ref (cOf K z).1 := by
  unfold codeB at h
  rw [e] at h
  exact of_decide_eq_true h
def onceB : List Addr → Bool
  | [] => true
  | a :: r => !(r.contains a) && onceB r
theorem onceB_ok : ∀ {l : List Addr}, onceB l = true → l.Nodup
  | [], _ => List.nodup_nil
  | a :: r, h => by
    obtain ⟨h1, h2⟩ := and2 h
    refine List.nodup_cons.mpr ⟨fun m => ?_, onceB_ok h2⟩
    rw [List.contains_iff_mem.mpr m] at h1
    cases h1
structure SaysL (ck : List Chk) (fn tf : List DefZ) (h : Heap) (K : PySem.W.Frag) : Prop where
  y : SaysY ck fn K
  hd : ∀ z ∈ tf, PySem.W.codeHdIn K (cOf K z).1 (cOf K z).2 = true
  cd : ∀ z ∈ tf, codeB K z = true
  out : ∀ z ∈ tf, K.lookup (cOf K z).2 = none
  empty : ∀ z ∈ tf, h.get? (cOf K z).2 = some { cls := .none, data := .fields #[] }
  once : (tf.map fun z => (cOf K z).2).Nodup
def lamsB (g : Addr → Option Obj) (tf : List DefZ) (K : PySem.W.Frag) : Bool := (tf.all fun z => (PySem.W.codeHdIn K (cOf K z).1 (cOf K z).2 && codeB K z) && (match g (cOf K z).2 with
  | some o => He.emptyTab o
  | none => false)) && onceB (tf.map fun z => (cOf K z).2)
def genNames : List Str := ["greedy", "odd_ring", "wood_apart", "free", "add", "core", "aside", "evened_in"]
def kindZ (z : DefZ) : Str := if genNames.contains z.d.name then "<genexpr>" else "<lambda>"
def tabsL (K : PySem.W.Frag) (tf : List DefZ) : List (Addr × Option Str) := tf.map fun z => ((cOf K z).2, some ((z.d.qual ++ ".<locals>.") ++ kindZ z))
theorem tabsL_fun {K : PySem.W.Frag} {tf : List DefZ} (h : (tf.map fun z => (cOf K z).2).Nodup) : ∀ p ∈ tabsL K tf, ∀ r ∈ tabsL K tf, p.1 = r.1 → p.2 = r.2 := by
  intro p hp r hr e
  obtain ⟨z, hz, rfl⟩ := List.mem_map.mp hp
  obtain ⟨y, hy, rfl⟩ := List.mem_map.mp hr
  have e' : (cOf K z).2 = (cOf K y).2 := e
  have same : ∀ {l : List DefZ}, (l.map fun z => (cOf K z).2).Nodup → z ∈ l → y ∈ l → z = y := by
    intro l
    induction l with
    | nil => exact fun _ h => nomatch h
    | cons a t ih =>
      intro hn h1 h2
      rw [List.map_cons] at hn
      obtain ⟨n1, n2⟩ := List.nodup_cons.mp hn
      rcases List.mem_cons.mp h1 with a1 | a1
      · rcases List.mem_cons.mp h2 with a2 | a2
        · rw [a1, a2]
        · exact absurd (List.mem_map.mpr ⟨y, a2, by rw [← e', a1]⟩) n1
      · rcases List.mem_cons.mp h2 with a2 | a2
        · exact absurd (List.mem_map.mpr ⟨z, a1, by rw [e', a2]⟩) n1
        · exact ih n2 a1 a2
  rw [same h hz hy]
theorem lmOk_of {P : Program} {w : World} {K : PySem.W.Frag} {mg : Str → Option Value} {base h : Heap} {ck : List Chk} {fn tf : List DefZ} (c : SaysL ck fn tf h K) {z : DefZ} (hz : z ∈ tf) (hT : LamX.TabB base mg (cOf K z).1 (cOf K z).2) {x : Str} {params : Arguments} {body : List Stmt} {scope : Scope} {dvs : List V} {kws : List (Str × V)} {fd : FuncData}
    (F : FunD K x z.d.qual params body scope dvs kws (z.way.ad K) fd) : LmOk ⟨P, w, K, mg, base, tabsL K tf⟩ z.d.qual (kindZ z) fd := by
  obtain ⟨oc, od, dV, kV, doc, pm, an, cdv, ct, osl, rfl, lk, _, _, _⟩ := F.ex
  exact ⟨_, _, codeB_ok (c.cd z hz) lk, hT, List.mem_map.mpr ⟨z, hz, rfl⟩⟩
structure ErZ where
  c : Str
  f : Str
  params : Arguments
  body : List Stmt
  scope : Scope
abbrev FnE := Option (Arguments × FuncBody × Scope × Addr × List Str × Addr)
def fnE (K : PySem.W.Frag) (a : Addr) : FnE := match K.lookup a with
  | some ⟨_, _, .func fd, _⟩ => some (fd.params, fd.body, fd.scope, fd.globals, fd.closure.map (·.1), fd.builtins)
  | _ => none
def ErZ.ini (z : ErZ) (K : PySem.W.Frag) : Addr := He.ma K (He.ga K z.c) "__init__"
def ErZ.val (z : ErZ) : FnE := some (z.params, .stmts z.body, z.scope, mainGlobals, ["__class__"], builtinsNs)
def erTail (file : Str) (K : PySem.W.Frag) (C fI : Addr) : Bool := match K.lookup fI with
  | some ⟨_, _, .func fd, _⟩ => (PySem.W.codeIn K fd.code fd.qualname && (decide (fd.defaults = .none) && decide (fd.kwdefaults = .none))) && ((match fd.code with
    | .ref cda => (match K.lookup cda with
      | some ⟨_, _, .fields vs, _⟩ => (match (vs[2]? : Option Value) with
        | some (Value.str fl _) => file == fl
        | _ => false)
      | _ => false)
    | _ => false) && (match fd.closure with
    | [(_, cc)] => (match K.lookup cc with
      | some ⟨_, _, .cell (some (.ref D)), _⟩ => decide (D = C)
      | _ => false)
    | _ => false))
  | _ => false
def chkEr (file : Str) (bmB : List Value) (B newId initId : String) (c f : Str) : Chk := fun K => (PySem.W.excOver K (He.ga K c) bmB && (PySem.W.excInitIn K (He.ga K c) bmB newId && PySem.W.hasDictIn K (He.ga K c))) && ((He.eqO (PySem.W.takerIn K (He.ga K c) f) (some none) &&
  (He.eqO (PySem.W.findIn K (.ref (He.ga K c)) "__setattr__") (some (some (.builtin "object.__setattr__"))) && He.eqO (PySem.W.ks_superIn K (He.ga K c) (He.ga K c) "__init__") (some (some (.builtin initId))))) && ((eqB (PySem.W.subIn K (.ref (He.ga K c)) (.type B)) (some true) &&
  (eqB (PySem.W.mroIn K (He.ga K c) (.ref (He.ga K c))) (some true) && He.eqO (PySem.W.nsIn K cStatics "thirdparty.any") (some none))) && ((erTail file K (He.ga K c) (He.ma K (He.ga K c) "__init__") && (He.eqO (PySem.W.findIn K (.ref (He.ga K c)) "__init__") (some (some (.ref (He.ma K (He.ga K c) "__init__")))) &&
  PySem.W.isFn K (.ref (He.ma K (He.ga K c) "__init__")))) && (eqB (PySem.W.subIn K (.ref (He.ga K c)) (.type "BaseException")) (some true) && (eqV (PySem.W.typeIn K (.ref (He.ga K c))) (some (.type "type")) && PySem.W.keepIn K (.ref (He.ga K c)))))))
section
variable {K : PySem.W.Frag} {h : Heap} {mg : Str → Option Value} {P : Program} {w : World} {base : Heap} {tb : List (Addr × Option Str)}
theorem erTail_ok {file : Str} {C fI : Addr} {z : ErZ} {n1 n2 : Str} (e : erTail file K C fI = true) (v : fnE K fI = z.val) (hf : file = P.main.file)
    (hb : ∀ fd : FuncData, fd.params = z.params → fd.defaults = .none → fd.kwdefaults = .none → ∀ (s : Shared) (u v : Value), BindsTo s fd ⟨[u, v], []⟩ [(n1, u), (n2, v)]) :
    ∃ cc cda, (∃ oc od fd sl, K.lookup fI = some ⟨oc, od, .func fd, sl⟩ ∧ fd.params = z.params ∧ fd.body = .stmts z.body ∧ fd.scope = z.scope ∧ fd.globals = mainGlobals ∧ fd.closure = [(("__class__" : Str), cc)] ∧ fd.builtins = builtinsNs ∧ fd.code = .ref cda ∧ PySem.W.codeIn K (.ref cda) fd.qualname = true ∧
      ∀ (s : Shared) (u v : Value), BindsTo s fd ⟨[u, v], []⟩ [(n1, u), (n2, v)]) ∧ (∃ a b vs sl file tf, K.lookup cda = some ⟨a, b, .fields vs, sl⟩ ∧ vs[2]? = some (.str file tf) ∧ ((P.main.file : Str) == file) = true) ∧ ∃ cl cld csl, K.lookup cc = some ⟨cl, cld, .cell (some (.ref C)), csl⟩ := by
  unfold erTail at e
  unfold fnE at v
  split at e
  · rename_i oc od fd sl lk
    rw [lk] at v
    have v2 : some (fd.params, fd.body, fd.scope, fd.globals, fd.closure.map (·.1), fd.builtins) = some (z.params, FuncBody.stmts z.body, z.scope, mainGlobals, [("__class__" : Str)], builtinsNs) := v
    simp only [Option.some.injEq, Prod.mk.injEq] at v2
    obtain ⟨v1, v2, v3, v4, v5, v6⟩ := v2
    obtain ⟨e1, e2⟩ := and2 e
    obtain ⟨a1, a2⟩ := and2 e1
    obtain ⟨a3, a4⟩ := and2 a2
    obtain ⟨b1, b2⟩ := and2 e2
    split at b1
    · rename_i cda hc
      split at b1
      · rename_i ca cb vs csl hcl
        split at b1
        · rename_i fl ft hvs
          split at b2
          · rename_i nm cc hcc
            split at b2
            · rename_i la lb D lsl hcell
              obtain rfl := of_decide_eq_true b2
              have hn : nm = ("__class__" : Str) := by
                rw [hcc] at v5
                simpa using v5
              exact ⟨cc, cda, ⟨oc, od, fd, sl, lk, v1, v2, v3, v4, by rw [hcc, hn], v6, hc, by rw [← hc]; exact a1, hb fd v1 (of_decide_eq_true a3) (of_decide_eq_true a4)⟩, ⟨ca, cb, vs, csl, fl, ft, hcl, hvs, by rw [← hf]; exact b1⟩, la, lb, lsl, hcell⟩
            · cases b2
          · cases b2
        · cases b1
      · cases b1
    · cases b1
  · cases e
theorem exfIs_of (X : K.In h) (Gn : h.Ns mainGlobals mg) {z : ErZ} {n1 n2 : Str} {p : _root_.Fin 10 → Pos} {file : Str} {bmB : List Value} {B newId initId : String} (g : fa (.glo z.c) K = true) (e : chkEr file bmB B newId initId z.c z.f K = true) (v : fnE K (z.ini K) = z.val)
    (hbody : z.body = exBody n1 n2 z.f p) (T : ExText n1 n2 z.f p z.scope z.params) (hf : file = P.main.file) (ht : (P.main.scope.names.lookup ("super" : Str)).isSome = false) (hs : mg ("super" : Str) = none)
    (hb : ∀ fd : FuncData, fd.params = z.params → fd.defaults = .none → fd.kwdefaults = .none → ∀ (s : Shared) (u v : Value), BindsTo s fd ⟨[u, v], []⟩ [(n1, u), (n2, v)])
    (SF : StoreFacts B bmB "object.__setattr__" "object") (FB : ExcBaseFacts B newId initId bmB) (KF : PySem.W.KxsFacts B initId) : ExfIs ⟨P, w, K, mg, base, tb⟩ z.c z.f := by
  obtain ⟨q1, e⟩ := and2 e
  obtain ⟨h1, q1⟩ := and2 q1
  obtain ⟨h2, h3⟩ := and2 q1
  obtain ⟨q2, e⟩ := and2 e
  obtain ⟨h4, q2⟩ := and2 q2
  obtain ⟨h5, h6⟩ := and2 q2
  obtain ⟨q3, e⟩ := and2 e
  obtain ⟨h7, q3⟩ := and2 q3
  obtain ⟨h8, h9⟩ := and2 q3
  obtain ⟨q4, e⟩ := and2 e
  obtain ⟨h10, q4⟩ := and2 q4
  obtain ⟨h11, h12⟩ := and2 q4
  obtain ⟨h13, e⟩ := and2 e
  obtain ⟨h14, h15⟩ := and2 e
  obtain ⟨cc, cda, f1, f2, f3⟩ := erTail_ok (P := P) h10 v hf hb
  obtain ⟨oc, od, fd, sl, lk, g1, g2, g3⟩ := f1
  rw [hbody] at g2
  exact ⟨⟨He.ga K z.c, He.ma K (He.ga K z.c) "__init__", cc, cda, n1, n2, p, z.params, z.scope, bmB, B, newId, initId, He.glo_ok X Gn g,
    ⟨h1, h2, h3, He.eqO_ok h4, He.eqO_ok h5, He.eqO_ok h6, of_decide_eq_true h7, of_decide_eq_true h8, He.eqO_ok h9, ⟨oc, od, fd, sl, lk, g1, g2, g3⟩, f2, f3, He.eqO_ok h11, h12, of_decide_eq_true h13, of_decide_eq_true h14, h15, ht⟩, T, SF, FB, KF⟩, hs⟩
def chkEx (bmB : List Value) (newId : String) (c : Str) : Chk := fun K => PySem.W.excIn K (He.ga K c) bmB newId && (PySem.W.keepIn K (.ref (He.ga K c)) && (eqB (PySem.W.subIn K (.ref (He.ga K c)) (.type "BaseException")) (some true) && eqV (PySem.W.typeIn K (.ref (He.ga K c))) (some (.type "type"))))
theorem excIs_of (X : K.In h) (Gn : h.Ns mainGlobals mg) {c : Str} {bmB : List Value} {B newId initId : String} (g : fa (.glo c) K = true) (e : chkEx bmB newId c K = true) (FB : ExcBaseFacts B newId initId bmB) : ExcIs ⟨P, w, K, mg, base, tb⟩ c := by
  obtain ⟨h1, e⟩ := and2 e
  obtain ⟨h2, e⟩ := and2 e
  obtain ⟨h3, h4⟩ := and2 e
  exact ⟨_, bmB, B, newId, initId, He.glo_ok X Gn g, FB, h1, h2, of_decide_eq_true h3, of_decide_eq_true h4⟩
def chkXs (xs : List (Str × List Str)) : Chk := fun K => (xs.all fun q => fa (.glo q.1) K) && xs.all fun q => xs.all fun r => eqB (PySem.W.exmOne K (.ref (He.ga K q.1)) (.ref (He.ga K r.1))) (some (decide (r.1 ∈ q.2)))
theorem excT_of (X : K.In h) (Gn : h.Ns mainGlobals mg) {xs : List (Str × List Str)} (e : chkXs xs K = true) : ExcT ⟨P, w, K, mg, base, tb⟩ xs := by
  obtain ⟨e1, e2⟩ := and2 e
  have glo : ∀ q ∈ xs, mg q.1 = some (.ref (He.ga K q.1)) := fun q hq => He.glo_ok X Gn (List.all_eq_true.mp e1 q hq)
  refine ⟨fun q hq => ⟨_, glo q hq⟩, fun q hq r hr C C' m m' => ?_⟩
  have k := of_decide_eq_true (List.all_eq_true.mp (List.all_eq_true.mp e2 q hq) r hr)
  have g1 := glo q hq
  have g2 := glo r hr
  dsimp only at m m'
  rw [g1] at m
  rw [g2] at m'
  cases m
  cases m'
  exact k
def chkXf (c f : Str) : Chk := fun K => L2.xfB K (He.ga K c) && He.eqO (PySem.W.findIn K (.ref (He.ga K c)) f) (some none)
theorem xfIs_of (X : K.In h) (Gn : h.Ns mainGlobals mg) {c f : Str} (g : fa (.glo c) K = true) (e : chkXf c f K = true) : XfIs ⟨P, w, K, mg, base, tb⟩ c f := by
  obtain ⟨h1, h2⟩ := and2 e
  exact ⟨_, He.glo_ok X Gn g, xfB_ok h1, He.eqO_ok h2⟩
end
theorem ers_at {K : PySem.W.Frag} {er : List ErZ} (v : er.map (fun z => fnE K (z.ini K)) = er.map ErZ.val) (i : Nat) {z : ErZ} (h : er[i]? = some z := by rfl) : fnE K (z.ini K) = z.val := by
  have y : (er.map fun z => fnE K (z.ini K))[i]? = (er.map ErZ.val)[i]? := by rw [v]
  rw [List.getElem?_map, List.getElem?_map, h] at y
  exact Option.some.inj y
theorem exc_has {G : Gb} {xs : List (Str × List Str)} (T : ExcT G xs) {l : List Cl} (h : ((l.map Cl.c).all fun c => hasExc xs c) = true) : ∀ q ∈ l, ∃ C, G.mg q.c = some (.ref C) := fun q hq => by
  have z := List.all_eq_true.mp h q.c (List.mem_map.mpr ⟨q, hq, rfl⟩)
  obtain ⟨ss, e⟩ := Option.isSome_iff_exists.mp z
  exact T.one (q.c, ss) (PySem.mem_of_lookup e)
theorem own_ok {S : Sc} {x : Str} (h1 : Glb S x := by rfl) (h2 : (x == ("__debug__" : Str)) = false := by decide) : OwnE S x := ⟨h1, h2⟩
def hRep (c f t : Str) : HF := fun c' p => e2 gAdd (eC (.str t)) (en gRepr (aCons (hFld c f c' p) aNil))
def hStr (c f t : Str) : HF := fun c' p => e2 gAdd (eC (.str t)) (en gStr (aCons (hFld c f c' p) aNil))
def hCon (t : Str) : HF := fun _ _ => eC (.str t)
theorem FnIs.up {gd gd' : Bool} {G : Gb} {x : Str} {n k k' : Nat} {m : List D → Sto → Res D} {dd : List D} (F : FnIs gd G x n k m dd) (h : k ≤ k') (hg : gd = gd' ∨ gd = false) : FnIs gd' G x n k' m dd := by
  obtain ⟨f, fd, ps, ds, dvs, h1, h2, h3, h4, h5, FX⟩ := F.ex
  rcases hg with rfl | rfl
  · exact ⟨f, fd, ps, ds, dvs, h1, h2, h3, h4, h5, FX.mono h⟩
  · exact ⟨f, fd, ps, ds, dvs, h1, h2, h3, h4, h5, FnX.of (FX.mono h).ok⟩
def k1 (g : D → Sto → Res D) (r : Res D) : Res D := r.bind g
def kn (g : List D → Sto → Res D) (r : Res (List D)) : Res D := r.bind g
def k2 (g : D → D → Sto → Res D) (fb : EF) (ρ : Env') (r : Res D) : Res D := r.bind fun d L1 => (fb ρ L1).bind fun e L2 => g d e L2
def k2' (g : D → D → Sto → Res D) (d : D) (r : Res D) : Res D := r.bind fun e L2 => g d e L2
def ka (g : AF) (ρ : Env') (r : Res D) : Res (List D) := r.bind fun d L1 => (g ρ L1).bind fun ds L2 => .ok (d :: ds) L2
def ka' (d : D) (r : Res (List D)) : Res (List D) := r.bind fun ds L2 => .ok (d :: ds) L2
def kc (n : Nat) (m : List D → Sto → Res D) (dd : List D) (r : Res (List D)) : Res D := r.bind fun ds L1 => if (ds ++ dd).length = n then m (ds ++ dd) L1 else .bad
def kmk (n : Nat) (m : List D → Sto → Res D) (dd : List D) (r : Res (List D)) : Res D := r.bind fun ds L1 => if (ds ++ dd).length + 1 = n then m (ds ++ dd) L1 else .bad
def kset (i : Nat) (ρ : Env') (r : Res D) : SRes := sBind r ρ fun d L1 => .nx (ρ.set i (some d)) L1
def kseq (g : SF) (r : SRes) : SRes := match r with
  | .nx ρ1 L1 => g ρ1 L1
  | r => r
def kif (f g : SF) (ρ : Env') (r : Res Bool) : SRes := sBindB r ρ fun k L1 => if k = true then f ρ L1 else g ρ L1
def kexp (ρ : Env') (r : Res D) : SRes := sBind r ρ fun _ L1 => .nx ρ L1
def kret (ρ : Env') (r : Res D) : SRes := sBind r ρ fun d L1 => .rt d L1
def ktru (r : Res D) : Res Bool := r.bind fun d L1 => match truD L1 d with
  | some k => .ok k L1
  | none => .bad
def knot (r : Res Bool) : Res Bool := r.bind fun c L1 => .ok (!c) L1
def kor (g : TF) (ρ : Env') (r : Res Bool) : Res Bool := r.bind fun c L1 => if c = true then .ok true L1 else g ρ L1
def kand (g : TF) (ρ : Env') (r : Res Bool) : Res Bool := r.bind fun c L1 => if c = true then g ρ L1 else .ok false L1
def keif (f g : EF) (ρ : Env') (r : Res Bool) : Res D := r.bind fun c L1 => if c = true then f ρ L1 else g ρ L1
def keand (g : EF) (ρ : Env') (r : Res D) : Res D := (asB r).bind fun c L1 => if c = true then g ρ L1 else .ok (.bl false) L1
def keor (g : EF) (ρ : Env') (r : Res D) : Res D := (asB r).bind fun c L1 => if c = true then .ok (.bl true) L1 else g ρ L1
def kenot (r : Res D) : Res D := (asB r).bind fun c L1 => .ok (.bl (!c)) L1
def ktup (r : Res (List D)) : Res D := r.bind newT
def ktupG (r : Res (List D)) : Res D := r.bind newTG
def klst (box : Bool) (r : Res (List D)) : Res D := r.bind fun ds L1 => if ds.length ≤ 16777216 then lstOut box ds L1 else .bad
def kput (fo fi : EF) (ρ : Env') (r : Res D) : SRes := sBind r ρ fun v L1 => sBind (fo ρ L1) ρ fun d L2 => sBind (fi ρ L2) ρ fun k L3 => match putAt d k v L3 with
  | some L4 => .nx ρ L4
  | none => .bad
def kput2 (v : D) (fi : EF) (ρ : Env') (r : Res D) : SRes := sBind r ρ fun d L2 => sBind (fi ρ L2) ρ fun k L3 => match putAt d k v L3 with
  | some L4 => .nx ρ L4
  | none => .bad
def kput3 (v d : D) (ρ : Env') (r : Res D) : SRes := sBind r ρ fun k L3 => match putAt d k v L3 with
  | some L4 => .nx ρ L4
  | none => .bad
def kput4 (ρ : Env') (o : Option Sto) : SRes := match o with
  | some L4 => .nx ρ L4
  | none => .bad
def kfp (c f : Str) (fo : EF) (ρ : Env') (r : Res D) : SRes := sBind r ρ fun y L1 => sBind (fo ρ L1) ρ fun d L2 => match gFldPut c f y d L2 with
  | some L3 => .nx ρ L3
  | none => .bad
def kfp2 (c f : Str) (y : D) (ρ : Env') (r : Res D) : SRes := sBind r ρ fun d L2 => match gFldPut c f y d L2 with
  | some L3 => .nx ρ L3
  | none => .bad
def kasg (g : GF) (ρ : Env') (r : Res D) : SRes := sBind r ρ fun d L1 => match g d ρ with
  | some ρ1 => .nx ρ1 L1
  | none => .bad
def kasg2 (L : Sto) (o : Option Env') : SRes := match o with
  | some ρ1 => .nx ρ1 L
  | none => .bad
def kpar (i j : Nat) (ρ : Env') (r : Res (List D)) : SRes := match r with
  | .ok [d, e] L1 => .nx ((ρ.set i (some d)).set j (some e)) L1
  | .err c p L1 => .err c p ρ L1
  | _ => .bad
def kbm (fl : AF) (g : D → List D → Sto → Res D) (ρ : Env') (r : Res D) : Res D := r.bind fun d L1 => if isL L1 d = true then (fl ρ L1).bind fun ds L2 => g d ds L2 else .bad
def kbm2 (g : D → List D → Sto → Res D) (d : D) (r : Res (List D)) : Res D := r.bind fun ds L2 => g d ds L2
section
variable {ρ ρ1 : Env'} {L L1 : Sto} {d e : D} {f g : SF} {t u : TF} {fa fb fo fi : EF} {fl : AF} {ds dd : List D} {i j n N : Nat} {b c : Bool} {g2 : D → D → Sto → Res D} {g1 : D → Sto → Res D} {gn : List D → Sto → Res D} {m : List D → Sto → Res D} {cl fn : Str} {p : List (Str × D)} {tg : GF} {gb : D → List D → Sto → Res D}
theorem aA : e1 g1 fa ρ L = k1 g1 (fa ρ L) := (rfl)
theorem aB : k1 g1 (.ok d L) = g1 d L := (rfl)
theorem aC : en gn fl ρ L = kn gn (fl ρ L) := (rfl)
theorem aD : kn gn (.ok ds L) = gn ds L := (rfl)
theorem aE : DS.e2 g2 fa fb ρ L = k2 g2 fb ρ (fa ρ L) := (rfl)
theorem aF : k2 g2 fb ρ (.ok d L) = k2' g2 d (fb ρ L) := (rfl)
theorem aG : k2' g2 d (.ok e L) = g2 d e L := (rfl)
theorem aH : aNil ρ L = .ok [] L := (rfl)
theorem aI : aCons fa fl ρ L = ka fl ρ (fa ρ L) := (rfl)
theorem aJ : ka fl ρ (.ok d L) = ka' d (fl ρ L) := (rfl)
theorem aK : ka' d (.ok ds L) = .ok (d :: ds) L := (rfl)
theorem aL : eCall n m dd fl ρ L = kc n m dd (fl ρ L) := (rfl)
theorem aM  : kc 0 m [] (.ok [] L) = m [] L := (rfl)
theorem aN  {a0 : D} : kc 1 m [] (.ok [a0] L) = m [a0] L := (rfl)
theorem aO  {a0 a1 : D} : kc 2 m [] (.ok [a0, a1] L) = m [a0, a1] L := (rfl)
theorem aP  {a0 a1 a2 : D} : kc 3 m [] (.ok [a0, a1, a2] L) = m [a0, a1, a2] L := (rfl)
theorem aQ  {a0 a1 a2 a3 : D} : kc 4 m [] (.ok [a0, a1, a2, a3] L) = m [a0, a1, a2, a3] L := (rfl)
theorem aR  {a0 a1 a2 a3 a4 : D} : kc 5 m [] (.ok [a0, a1, a2, a3, a4] L) = m [a0, a1, a2, a3, a4] L := (rfl)
theorem aS  {a0 a1 a2 a3 a4 a5 : D} : kc 6 m [] (.ok [a0, a1, a2, a3, a4, a5] L) = m [a0, a1, a2, a3, a4, a5] L := (rfl)
theorem aU  {a0 a1 a2 a3 a4 a5 a6 : D} : kc 7 m [] (.ok [a0, a1, a2, a3, a4, a5, a6] L) = m [a0, a1, a2, a3, a4, a5, a6] L := (rfl)
theorem aV  {a0 a1 a2 a3 a4 a5 a6 a7 : D} : kc 8 m [] (.ok [a0, a1, a2, a3, a4, a5, a6, a7] L) = m [a0, a1, a2, a3, a4, a5, a6, a7] L := (rfl)
theorem aW  : kmk 1 m [] (.ok [] L) = m [] L := (rfl)
theorem aX  {b0 : D} : kmk 2 m [b0] (.ok [] L) = m [b0] L := (rfl)
theorem aY  {b0 b1 : D} : kmk 3 m [b0, b1] (.ok [] L) = m [b0, b1] L := (rfl)
theorem aZ  {a0 : D} : kmk 2 m [] (.ok [a0] L) = m [a0] L := (rfl)
theorem bA  {a0 : D} {b0 : D} : kmk 3 m [b0] (.ok [a0] L) = m [a0, b0] L := (rfl)
theorem bB  {a0 : D} {b0 b1 : D} : kmk 4 m [b0, b1] (.ok [a0] L) = m [a0, b0, b1] L := (rfl)
theorem bC  {a0 a1 : D} : kmk 3 m [] (.ok [a0, a1] L) = m [a0, a1] L := (rfl)
theorem bD  {a0 a1 : D} {b0 : D} : kmk 4 m [b0] (.ok [a0, a1] L) = m [a0, a1, b0] L := (rfl)
theorem bE  {a0 a1 : D} {b0 b1 : D} : kmk 5 m [b0, b1] (.ok [a0, a1] L) = m [a0, a1, b0, b1] L := (rfl)
theorem bF  {a0 a1 a2 : D} : kmk 4 m [] (.ok [a0, a1, a2] L) = m [a0, a1, a2] L := (rfl)
theorem bG  {a0 a1 a2 : D} {b0 : D} : kmk 5 m [b0] (.ok [a0, a1, a2] L) = m [a0, a1, a2, b0] L := (rfl)
theorem bH  {a0 a1 a2 : D} {b0 b1 : D} : kmk 6 m [b0, b1] (.ok [a0, a1, a2] L) = m [a0, a1, a2, b0, b1] L := (rfl)
theorem bI  {a0 a1 a2 a3 : D} : kmk 5 m [] (.ok [a0, a1, a2, a3] L) = m [a0, a1, a2, a3] L := (rfl)
theorem bJ  {a0 a1 a2 a3 : D} {b0 : D} : kmk 6 m [b0] (.ok [a0, a1, a2, a3] L) = m [a0, a1, a2, a3, b0] L := (rfl)
theorem bK  {a0 a1 a2 a3 : D} {b0 b1 : D} : kmk 7 m [b0, b1] (.ok [a0, a1, a2, a3] L) = m [a0, a1, a2, a3, b0, b1] L := (rfl)
theorem bL : eMk n m dd fl ρ L = kmk n m dd (fl ρ L) := (rfl)
theorem bM : sSet i fa ρ L = kset i ρ (fa ρ L) := (rfl)
theorem bN : kset i ρ (.ok d L) = .nx (ρ.set i (some d)) L := (rfl)
theorem bO : sSeq f g ρ L = kseq g (f ρ L) := by unfold sSeq kseq; cases f ρ L <;> rfl
theorem bQ : kseq g (.nx ρ L) = g ρ L := (rfl)
theorem bR : kseq g (.rt d L) = .rt d L := (rfl)
theorem bS : kseq g (.err cl p ρ L) = .err cl p ρ L := (rfl)
theorem bT {P : Prop} [Decidable P] {x y : SRes} : kseq g (if P then x else y) = if P then kseq g x else kseq g y := by split <;> rfl
theorem bU : sIf t f g ρ L = kif f g ρ (t ρ L) := (rfl)
theorem bV : kif f g ρ (.ok b L) = if b = true then f ρ L else g ρ L := (rfl)
theorem bW : sExpr fa ρ L = kexp ρ (fa ρ L) := (rfl)
theorem bX : kexp ρ (.ok d L) = .nx ρ L := (rfl)
theorem bY : sRet fa ρ L = kret ρ (fa ρ L) := (rfl)
theorem bZ : kret ρ (.ok d L) = .rt d L := (rfl)
theorem cA : sRetN ρ L = .rt .non L := (rfl)
theorem cB : sSkip ρ L = .nx ρ L := (rfl)
theorem cC : tTru fa ρ L = ktru (fa ρ L) := (rfl)
theorem cD : ktru (.ok (.bl b) L) = .ok b L := (rfl)
theorem cE : tNotF t ρ L = knot (t ρ L) := (rfl)
theorem cF : knot (.ok b L) = .ok (!b) L := (rfl)
theorem cG : tOrF t u ρ L = kor u ρ (t ρ L) := (rfl)
theorem cH : kor u ρ (.ok b L) = if b = true then .ok true L else u ρ L := (rfl)
theorem cI : tAndF t u ρ L = kand u ρ (t ρ L) := (rfl)
theorem cJ : kand u ρ (.ok b L) = if b = true then u ρ L else .ok false L := (rfl)
theorem cK : (if b = true then Res.ok true L else Res.ok c L) = Res.ok (b || c) L := by cases b <;> rfl
theorem cL : (if b = true then Res.ok c L else Res.ok false L) = Res.ok (b && c) L := by cases b <;> rfl
theorem cO : (if b = true then Res.ok (D.bl true) L else Res.ok (D.bl c) L) = Res.ok (D.bl (b || c)) L := by cases b <;> rfl
theorem cP : (if b = true then Res.ok (D.bl c) L else Res.ok (D.bl false) L) = Res.ok (D.bl (b && c)) L := by cases b <;> rfl
theorem cQ : eIf t fa fb ρ L = keif fa fb ρ (t ρ L) := (rfl)
theorem cS : keif fa fb ρ (.ok b L) = if b = true then fa ρ L else fb ρ L := (rfl)
theorem cU : eAndF fa fb ρ L = keand fb ρ (fa ρ L) := (rfl)
theorem cV : keand fb ρ (.ok (.bl b) L) = if b = true then fb ρ L else .ok (.bl false) L := (rfl)
theorem cX : eOrF fa fb ρ L = keor fb ρ (fa ρ L) := (rfl)
theorem cY : keor fb ρ (.ok (.bl b) L) = if b = true then .ok (.bl true) L else fb ρ L := (rfl)
theorem cZ : eNotF fa ρ L = kenot (fa ρ L) := (rfl)
theorem dA : kenot (.ok (.bl b) L) = .ok (.bl (!b)) L := (rfl)
theorem dB : asB (.ok (.bl b) L) = .ok b L := (rfl)
theorem dC : tTrue ρ L = .ok true L := (rfl)
theorem dD : eC d ρ L = .ok d L := (rfl)
theorem dE : eTup fl ρ L = ktup (fl ρ L) := (rfl)
theorem dH : eTupG fl ρ L = ktupG (fl ρ L) := (rfl)
theorem dI {bx : Bool} : eLst bx fl ρ L = klst bx (fl ρ L) := (rfl)
theorem dJ  : ktup (.ok [] L) = .ok (.tup []) L := if_pos (e := Res.bad) (show 0 ≤ 16777216 by decide)
theorem dL  : ktupG (.ok [] L) = .ok (.tg []) L := if_pos (e := Res.bad) (show 0 ≤ 16777216 by decide)
theorem dM  : klst false (.ok [] L) = .ok (.lst []) L := if_pos (e := Res.bad) (show 0 ≤ 16777216 by decide)
theorem dN  : klst true (.ok [] L) = .ok (.loc L.length) (L ++ [.lst []]) := if_pos (e := Res.bad) (show 0 ≤ 16777216 by decide)
theorem dO  {a0 : D} : ktup (.ok [a0] L) = .ok (.tup [a0]) L := if_pos (e := Res.bad) (show 1 ≤ 16777216 by decide)
theorem dQ  {a0 : D} : ktupG (.ok [a0] L) = .ok (.tg [a0]) L := if_pos (e := Res.bad) (show 1 ≤ 16777216 by decide)
theorem dR  {a0 : D} : klst false (.ok [a0] L) = .ok (.lst [a0]) L := if_pos (e := Res.bad) (show 1 ≤ 16777216 by decide)
theorem dS  {a0 : D} : klst true (.ok [a0] L) = .ok (.loc L.length) (L ++ [.lst [a0]]) := if_pos (e := Res.bad) (show 1 ≤ 16777216 by decide)
theorem dU  {a0 a1 : D} : ktup (.ok [a0, a1] L) = .ok (.tup [a0, a1]) L := if_pos (e := Res.bad) (show 2 ≤ 16777216 by decide)
theorem dW  {a0 a1 : D} : ktupG (.ok [a0, a1] L) = .ok (.tg [a0, a1]) L := if_pos (e := Res.bad) (show 2 ≤ 16777216 by decide)
theorem dX  {a0 a1 : D} : klst false (.ok [a0, a1] L) = .ok (.lst [a0, a1]) L := if_pos (e := Res.bad) (show 2 ≤ 16777216 by decide)
theorem dY  {a0 a1 : D} : klst true (.ok [a0, a1] L) = .ok (.loc L.length) (L ++ [.lst [a0, a1]]) := if_pos (e := Res.bad) (show 2 ≤ 16777216 by decide)
theorem dZ  {a0 a1 a2 : D} : ktup (.ok [a0, a1, a2] L) = .ok (.tup [a0, a1, a2]) L := if_pos (e := Res.bad) (show 3 ≤ 16777216 by decide)
theorem eA  {a0 a1 a2 : D} : ktupG (.ok [a0, a1, a2] L) = .ok (.tg [a0, a1, a2]) L := if_pos (e := Res.bad) (show 3 ≤ 16777216 by decide)
theorem eB  {a0 a1 a2 : D} : klst false (.ok [a0, a1, a2] L) = .ok (.lst [a0, a1, a2]) L := if_pos (e := Res.bad) (show 3 ≤ 16777216 by decide)
theorem eD  {a0 a1 a2 : D} : klst true (.ok [a0, a1, a2] L) = .ok (.loc L.length) (L ++ [.lst [a0, a1, a2]]) := if_pos (e := Res.bad) (show 3 ≤ 16777216 by decide)
theorem eE  {a0 a1 a2 a3 : D} : ktup (.ok [a0, a1, a2, a3] L) = .ok (.tup [a0, a1, a2, a3]) L := if_pos (e := Res.bad) (show 4 ≤ 16777216 by decide)
theorem eF  {a0 a1 a2 a3 : D} : ktupG (.ok [a0, a1, a2, a3] L) = .ok (.tg [a0, a1, a2, a3]) L := if_pos (e := Res.bad) (show 4 ≤ 16777216 by decide)
theorem eG  {a0 a1 a2 a3 : D} : klst false (.ok [a0, a1, a2, a3] L) = .ok (.lst [a0, a1, a2, a3]) L := if_pos (e := Res.bad) (show 4 ≤ 16777216 by decide)
theorem eI  {a0 a1 a2 a3 : D} : klst true (.ok [a0, a1, a2, a3] L) = .ok (.loc L.length) (L ++ [.lst [a0, a1, a2, a3]]) := if_pos (e := Res.bad) (show 4 ≤ 16777216 by decide)
theorem eJ  {a0 a1 a2 a3 a4 : D} : ktup (.ok [a0, a1, a2, a3, a4] L) = .ok (.tup [a0, a1, a2, a3, a4]) L := if_pos (e := Res.bad) (show 5 ≤ 16777216 by decide)
theorem eK  {a0 a1 a2 a3 a4 : D} : ktupG (.ok [a0, a1, a2, a3, a4] L) = .ok (.tg [a0, a1, a2, a3, a4]) L := if_pos (e := Res.bad) (show 5 ≤ 16777216 by decide)
theorem eM  {a0 a1 a2 a3 a4 : D} : klst false (.ok [a0, a1, a2, a3, a4] L) = .ok (.lst [a0, a1, a2, a3, a4]) L := if_pos (e := Res.bad) (show 5 ≤ 16777216 by decide)
theorem eN  {a0 a1 a2 a3 a4 : D} : klst true (.ok [a0, a1, a2, a3, a4] L) = .ok (.loc L.length) (L ++ [.lst [a0, a1, a2, a3, a4]]) := if_pos (e := Res.bad) (show 5 ≤ 16777216 by decide)
theorem eO  {a0 a1 a2 a3 a4 a5 : D} : ktup (.ok [a0, a1, a2, a3, a4, a5] L) = .ok (.tup [a0, a1, a2, a3, a4, a5]) L := if_pos (e := Res.bad) (show 6 ≤ 16777216 by decide)
theorem eP  {a0 a1 a2 a3 a4 a5 : D} : ktupG (.ok [a0, a1, a2, a3, a4, a5] L) = .ok (.tg [a0, a1, a2, a3, a4, a5]) L := if_pos (e := Res.bad) (show 6 ≤ 16777216 by decide)
theorem eQ  {a0 a1 a2 a3 a4 a5 : D} : klst false (.ok [a0, a1, a2, a3, a4, a5] L) = .ok (.lst [a0, a1, a2, a3, a4, a5]) L := if_pos (e := Res.bad) (show 6 ≤ 16777216 by decide)
theorem eR  {a0 a1 a2 a3 a4 a5 : D} : klst true (.ok [a0, a1, a2, a3, a4, a5] L) = .ok (.loc L.length) (L ++ [.lst [a0, a1, a2, a3, a4, a5]]) := if_pos (e := Res.bad) (show 6 ≤ 16777216 by decide)
theorem eS  {a0 a1 a2 a3 a4 a5 a6 : D} : ktup (.ok [a0, a1, a2, a3, a4, a5, a6] L) = .ok (.tup [a0, a1, a2, a3, a4, a5, a6]) L := if_pos (e := Res.bad) (show 7 ≤ 16777216 by decide)
theorem eT  {a0 a1 a2 a3 a4 a5 a6 : D} : ktupG (.ok [a0, a1, a2, a3, a4, a5, a6] L) = .ok (.tg [a0, a1, a2, a3, a4, a5, a6]) L := if_pos (e := Res.bad) (show 7 ≤ 16777216 by decide)
theorem eU  {a0 a1 a2 a3 a4 a5 a6 : D} : klst false (.ok [a0, a1, a2, a3, a4, a5, a6] L) = .ok (.lst [a0, a1, a2, a3, a4, a5, a6]) L := if_pos (e := Res.bad) (show 7 ≤ 16777216 by decide)
theorem eV  {a0 a1 a2 a3 a4 a5 a6 : D} : klst true (.ok [a0, a1, a2, a3, a4, a5, a6] L) = .ok (.loc L.length) (L ++ [.lst [a0, a1, a2, a3, a4, a5, a6]]) := if_pos (e := Res.bad) (show 7 ≤ 16777216 by decide)
theorem eW  {a0 a1 a2 a3 a4 a5 a6 a7 : D} : ktup (.ok [a0, a1, a2, a3, a4, a5, a6, a7] L) = .ok (.tup [a0, a1, a2, a3, a4, a5, a6, a7]) L := if_pos (e := Res.bad) (show 8 ≤ 16777216 by decide)
theorem eX  {a0 a1 a2 a3 a4 a5 a6 a7 : D} : ktupG (.ok [a0, a1, a2, a3, a4, a5, a6, a7] L) = .ok (.tg [a0, a1, a2, a3, a4, a5, a6, a7]) L := if_pos (e := Res.bad) (show 8 ≤ 16777216 by decide)
theorem eY  {a0 a1 a2 a3 a4 a5 a6 a7 : D} : klst false (.ok [a0, a1, a2, a3, a4, a5, a6, a7] L) = .ok (.lst [a0, a1, a2, a3, a4, a5, a6, a7]) L := if_pos (e := Res.bad) (show 8 ≤ 16777216 by decide)
theorem eZ  {a0 a1 a2 a3 a4 a5 a6 a7 : D} : klst true (.ok [a0, a1, a2, a3, a4, a5, a6, a7] L) = .ok (.loc L.length) (L ++ [.lst [a0, a1, a2, a3, a4, a5, a6, a7]]) := if_pos (e := Res.bad) (show 8 ≤ 16777216 by decide)
theorem fA  {a0 a1 a2 a3 a4 a5 a6 a7 a8 : D} : ktup (.ok [a0, a1, a2, a3, a4, a5, a6, a7, a8] L) = .ok (.tup [a0, a1, a2, a3, a4, a5, a6, a7, a8]) L := if_pos (e := Res.bad) (show 9 ≤ 16777216 by decide)
theorem fB  {a0 a1 a2 a3 a4 a5 a6 a7 a8 : D} : ktupG (.ok [a0, a1, a2, a3, a4, a5, a6, a7, a8] L) = .ok (.tg [a0, a1, a2, a3, a4, a5, a6, a7, a8]) L := if_pos (e := Res.bad) (show 9 ≤ 16777216 by decide)
theorem fC  {a0 a1 a2 a3 a4 a5 a6 a7 a8 : D} : klst false (.ok [a0, a1, a2, a3, a4, a5, a6, a7, a8] L) = .ok (.lst [a0, a1, a2, a3, a4, a5, a6, a7, a8]) L := if_pos (e := Res.bad) (show 9 ≤ 16777216 by decide)
theorem fD  {a0 a1 a2 a3 a4 a5 a6 a7 a8 : D} : klst true (.ok [a0, a1, a2, a3, a4, a5, a6, a7, a8] L) = .ok (.loc L.length) (L ++ [.lst [a0, a1, a2, a3, a4, a5, a6, a7, a8]]) := if_pos (e := Res.bad) (show 9 ≤ 16777216 by decide)
theorem fE  {a0 a1 a2 a3 a4 a5 a6 a7 a8 a9 : D} : ktup (.ok [a0, a1, a2, a3, a4, a5, a6, a7, a8, a9] L) = .ok (.tup [a0, a1, a2, a3, a4, a5, a6, a7, a8, a9]) L := if_pos (e := Res.bad) (show 10 ≤ 16777216 by decide)
theorem fF  {a0 a1 a2 a3 a4 a5 a6 a7 a8 a9 : D} : ktupG (.ok [a0, a1, a2, a3, a4, a5, a6, a7, a8, a9] L) = .ok (.tg [a0, a1, a2, a3, a4, a5, a6, a7, a8, a9]) L := if_pos (e := Res.bad) (show 10 ≤ 16777216 by decide)
theorem fG  {a0 a1 a2 a3 a4 a5 a6 a7 a8 a9 : D} : klst false (.ok [a0, a1, a2, a3, a4, a5, a6, a7, a8, a9] L) = .ok (.lst [a0, a1, a2, a3, a4, a5, a6, a7, a8, a9]) L := if_pos (e := Res.bad) (show 10 ≤ 16777216 by decide)
theorem fH  {a0 a1 a2 a3 a4 a5 a6 a7 a8 a9 : D} : klst true (.ok [a0, a1, a2, a3, a4, a5, a6, a7, a8, a9] L) = .ok (.loc L.length) (L ++ [.lst [a0, a1, a2, a3, a4, a5, a6, a7, a8, a9]]) := if_pos (e := Res.bad) (show 10 ≤ 16777216 by decide)
theorem fJ  {a0 a1 a2 a3 a4 a5 a6 a7 a8 a9 a10 : D} : ktup (.ok [a0, a1, a2, a3, a4, a5, a6, a7, a8, a9, a10] L) = .ok (.tup [a0, a1, a2, a3, a4, a5, a6, a7, a8, a9, a10]) L := if_pos (e := Res.bad) (show 11 ≤ 16777216 by decide)
theorem fK  {a0 a1 a2 a3 a4 a5 a6 a7 a8 a9 a10 : D} : ktupG (.ok [a0, a1, a2, a3, a4, a5, a6, a7, a8, a9, a10] L) = .ok (.tg [a0, a1, a2, a3, a4, a5, a6, a7, a8, a9, a10]) L := if_pos (e := Res.bad) (show 11 ≤ 16777216 by decide)
theorem fM  {a0 a1 a2 a3 a4 a5 a6 a7 a8 a9 a10 : D} : klst false (.ok [a0, a1, a2, a3, a4, a5, a6, a7, a8, a9, a10] L) = .ok (.lst [a0, a1, a2, a3, a4, a5, a6, a7, a8, a9, a10]) L := if_pos (e := Res.bad) (show 11 ≤ 16777216 by decide)
theorem fN  {a0 a1 a2 a3 a4 a5 a6 a7 a8 a9 a10 : D} : klst true (.ok [a0, a1, a2, a3, a4, a5, a6, a7, a8, a9, a10] L) = .ok (.loc L.length) (L ++ [.lst [a0, a1, a2, a3, a4, a5, a6, a7, a8, a9, a10]]) := if_pos (e := Res.bad) (show 11 ≤ 16777216 by decide)
theorem fO  {a0 a1 a2 a3 a4 a5 a6 a7 a8 a9 a10 a11 : D} : ktup (.ok [a0, a1, a2, a3, a4, a5, a6, a7, a8, a9, a10, a11] L) = .ok (.tup [a0, a1, a2, a3, a4, a5, a6, a7, a8, a9, a10, a11]) L := if_pos (e := Res.bad) (show 12 ≤ 16777216 by decide)
theorem fP  {a0 a1 a2 a3 a4 a5 a6 a7 a8 a9 a10 a11 : D} : ktupG (.ok [a0, a1, a2, a3, a4, a5, a6, a7, a8, a9, a10, a11] L) = .ok (.tg [a0, a1, a2, a3, a4, a5, a6, a7, a8, a9, a10, a11]) L := if_pos (e := Res.bad) (show 12 ≤ 16777216 by decide)
theorem fQ  {a0 a1 a2 a3 a4 a5 a6 a7 a8 a9 a10 a11 : D} : klst false (.ok [a0, a1, a2, a3, a4, a5, a6, a7, a8, a9, a10, a11] L) = .ok (.lst [a0, a1, a2, a3, a4, a5, a6, a7, a8, a9, a10, a11]) L := if_pos (e := Res.bad) (show 12 ≤ 16777216 by decide)
theorem fR  {a0 a1 a2 a3 a4 a5 a6 a7 a8 a9 a10 a11 : D} : klst true (.ok [a0, a1, a2, a3, a4, a5, a6, a7, a8, a9, a10, a11] L) = .ok (.loc L.length) (L ++ [.lst [a0, a1, a2, a3, a4, a5, a6, a7, a8, a9, a10, a11]]) := if_pos (e := Res.bad) (show 12 ≤ 16777216 by decide)
theorem fS  {a0 a1 a2 a3 a4 a5 a6 a7 a8 a9 a10 a11 a12 : D} : ktup (.ok [a0, a1, a2, a3, a4, a5, a6, a7, a8, a9, a10, a11, a12] L) = .ok (.tup [a0, a1, a2, a3, a4, a5, a6, a7, a8, a9, a10, a11, a12]) L := if_pos (e := Res.bad) (show 13 ≤ 16777216 by decide)
theorem fT  {a0 a1 a2 a3 a4 a5 a6 a7 a8 a9 a10 a11 a12 : D} : ktupG (.ok [a0, a1, a2, a3, a4, a5, a6, a7, a8, a9, a10, a11, a12] L) = .ok (.tg [a0, a1, a2, a3, a4, a5, a6, a7, a8, a9, a10, a11, a12]) L := if_pos (e := Res.bad) (show 13 ≤ 16777216 by decide)
theorem fU  {a0 a1 a2 a3 a4 a5 a6 a7 a8 a9 a10 a11 a12 : D} : klst false (.ok [a0, a1, a2, a3, a4, a5, a6, a7, a8, a9, a10, a11, a12] L) = .ok (.lst [a0, a1, a2, a3, a4, a5, a6, a7, a8, a9, a10, a11, a12]) L := if_pos (e := Res.bad) (show 13 ≤ 16777216 by decide)
theorem fV  {a0 a1 a2 a3 a4 a5 a6 a7 a8 a9 a10 a11 a12 : D} : klst true (.ok [a0, a1, a2, a3, a4, a5, a6, a7, a8, a9, a10, a11, a12] L) = .ok (.loc L.length) (L ++ [.lst [a0, a1, a2, a3, a4, a5, a6, a7, a8, a9, a10, a11, a12]]) := if_pos (e := Res.bad) (show 13 ≤ 16777216 by decide)
theorem fW  {a0 a1 a2 a3 a4 a5 a6 a7 a8 a9 a10 a11 a12 a13 : D} : ktup (.ok [a0, a1, a2, a3, a4, a5, a6, a7, a8, a9, a10, a11, a12, a13] L) = .ok (.tup [a0, a1, a2, a3, a4, a5, a6, a7, a8, a9, a10, a11, a12, a13]) L := if_pos (e := Res.bad) (show 14 ≤ 16777216 by decide)
theorem fX  {a0 a1 a2 a3 a4 a5 a6 a7 a8 a9 a10 a11 a12 a13 : D} : ktupG (.ok [a0, a1, a2, a3, a4, a5, a6, a7, a8, a9, a10, a11, a12, a13] L) = .ok (.tg [a0, a1, a2, a3, a4, a5, a6, a7, a8, a9, a10, a11, a12, a13]) L := if_pos (e := Res.bad) (show 14 ≤ 16777216 by decide)
theorem fY  {a0 a1 a2 a3 a4 a5 a6 a7 a8 a9 a10 a11 a12 a13 : D} : klst false (.ok [a0, a1, a2, a3, a4, a5, a6, a7, a8, a9, a10, a11, a12, a13] L) = .ok (.lst [a0, a1, a2, a3, a4, a5, a6, a7, a8, a9, a10, a11, a12, a13]) L := if_pos (e := Res.bad) (show 14 ≤ 16777216 by decide)
theorem fZ  {a0 a1 a2 a3 a4 a5 a6 a7 a8 a9 a10 a11 a12 a13 : D} : klst true (.ok [a0, a1, a2, a3, a4, a5, a6, a7, a8, a9, a10, a11, a12, a13] L) = .ok (.loc L.length) (L ++ [.lst [a0, a1, a2, a3, a4, a5, a6, a7, a8, a9, a10, a11, a12, a13]]) := if_pos (e := Res.bad) (show 14 ≤ 16777216 by decide)
theorem gA  {a0 a1 a2 a3 a4 a5 a6 a7 a8 a9 a10 a11 a12 a13 a14 : D} : ktup (.ok [a0, a1, a2, a3, a4, a5, a6, a7, a8, a9, a10, a11, a12, a13, a14] L) = .ok (.tup [a0, a1, a2, a3, a4, a5, a6, a7, a8, a9, a10, a11, a12, a13, a14]) L := if_pos (e := Res.bad) (show 15 ≤ 16777216 by decide)
theorem gB  {a0 a1 a2 a3 a4 a5 a6 a7 a8 a9 a10 a11 a12 a13 a14 : D} : ktupG (.ok [a0, a1, a2, a3, a4, a5, a6, a7, a8, a9, a10, a11, a12, a13, a14] L) = .ok (.tg [a0, a1, a2, a3, a4, a5, a6, a7, a8, a9, a10, a11, a12, a13, a14]) L := if_pos (e := Res.bad) (show 15 ≤ 16777216 by decide)
theorem gC  {a0 a1 a2 a3 a4 a5 a6 a7 a8 a9 a10 a11 a12 a13 a14 : D} : klst false (.ok [a0, a1, a2, a3, a4, a5, a6, a7, a8, a9, a10, a11, a12, a13, a14] L) = .ok (.lst [a0, a1, a2, a3, a4, a5, a6, a7, a8, a9, a10, a11, a12, a13, a14]) L := if_pos (e := Res.bad) (show 15 ≤ 16777216 by decide)
theorem gD  {a0 a1 a2 a3 a4 a5 a6 a7 a8 a9 a10 a11 a12 a13 a14 : D} : klst true (.ok [a0, a1, a2, a3, a4, a5, a6, a7, a8, a9, a10, a11, a12, a13, a14] L) = .ok (.loc L.length) (L ++ [.lst [a0, a1, a2, a3, a4, a5, a6, a7, a8, a9, a10, a11, a12, a13, a14]]) := if_pos (e := Res.bad) (show 15 ≤ 16777216 by decide)
theorem gE  {a0 a1 a2 a3 a4 a5 a6 a7 a8 a9 a10 a11 a12 a13 a14 a15 : D} : ktup (.ok [a0, a1, a2, a3, a4, a5, a6, a7, a8, a9, a10, a11, a12, a13, a14, a15] L) = .ok (.tup [a0, a1, a2, a3, a4, a5, a6, a7, a8, a9, a10, a11, a12, a13, a14, a15]) L := if_pos (e := Res.bad) (show 16 ≤ 16777216 by decide)
theorem gF  {a0 a1 a2 a3 a4 a5 a6 a7 a8 a9 a10 a11 a12 a13 a14 a15 : D} : ktupG (.ok [a0, a1, a2, a3, a4, a5, a6, a7, a8, a9, a10, a11, a12, a13, a14, a15] L) = .ok (.tg [a0, a1, a2, a3, a4, a5, a6, a7, a8, a9, a10, a11, a12, a13, a14, a15]) L := if_pos (e := Res.bad) (show 16 ≤ 16777216 by decide)
theorem gG  {a0 a1 a2 a3 a4 a5 a6 a7 a8 a9 a10 a11 a12 a13 a14 a15 : D} : klst false (.ok [a0, a1, a2, a3, a4, a5, a6, a7, a8, a9, a10, a11, a12, a13, a14, a15] L) = .ok (.lst [a0, a1, a2, a3, a4, a5, a6, a7, a8, a9, a10, a11, a12, a13, a14, a15]) L := if_pos (e := Res.bad) (show 16 ≤ 16777216 by decide)
theorem gH  {a0 a1 a2 a3 a4 a5 a6 a7 a8 a9 a10 a11 a12 a13 a14 a15 : D} : klst true (.ok [a0, a1, a2, a3, a4, a5, a6, a7, a8, a9, a10, a11, a12, a13, a14, a15] L) = .ok (.loc L.length) (L ++ [.lst [a0, a1, a2, a3, a4, a5, a6, a7, a8, a9, a10, a11, a12, a13, a14, a15]]) := if_pos (e := Res.bad) (show 16 ≤ 16777216 by decide)
theorem gI : sPut fa fo fi ρ L = kput fo fi ρ (fa ρ L) := (rfl)
theorem gJ : kput fo fi ρ (.ok d L) = kput2 d fi ρ (fo ρ L) := (rfl)
theorem gK : kput2 e fi ρ (.ok d L) = kput3 e d ρ (fi ρ L) := (rfl)
theorem gL {x : D} : kput3 e d ρ (.ok x L) = kput4 ρ (putAt d x e L) := (rfl)
theorem gM : kput4 ρ (some L) = .nx ρ L := (rfl)
theorem gN : sFldPut cl fn fa fo ρ L = kfp cl fn fo ρ (fa ρ L) := (rfl)
theorem gO : kfp cl fn fo ρ (.ok d L) = kfp2 cl fn d ρ (fo ρ L) := (rfl)
theorem gQ : kfp2 cl fn e ρ (.ok d L) = kput4 ρ (gFldPut cl fn e d L) := (rfl)
theorem gR : sAsg fa tg ρ L = kasg tg ρ (fa ρ L) := (rfl)
theorem gS : kasg tg ρ (.ok d L) = kasg2 L (tg d ρ) := (rfl)
theorem gT : kasg2 L (some ρ1) = .nx ρ1 L := (rfl)
theorem gU : sPar i j fl ρ L = kpar i j ρ (fl ρ L) := by unfold sPar kpar; rfl
theorem gV : kpar i j ρ (.ok [d, e] L) = .nx ((ρ.set i (some d)).set j (some e)) L := (rfl)
theorem gW : eFld cl fn fa ρ L = k1 (gFld cl fn) (fa ρ L) := (rfl)
theorem gX : eBm fo fl gb ρ L = kbm fl gb ρ (fo ρ L) := (rfl)
theorem gY (h : isL L d = true) : kbm fl gb ρ (.ok d L) = kbm2 gb d (fl ρ L) := if_pos h
theorem gZ : kbm2 gb d (.ok ds L) = gb d ds L := (rfl)
theorem hA : gSet i d ρ = some (ρ.set i (some d)) := (rfl)
theorem hJ : fin (.rt d L) = .ok d L := (rfl)
theorem hO : fin (.nx ρ L) = .ok .non L := (rfl)
theorem hQ : fin (.err cl p ρ L) = .err cl p L := (rfl)
theorem hU {P : Prop} [Decidable P] {x y : SRes} : fin (if P then x else y) = if P then fin x else fin y := by split <;> rfl
theorem hV  : eVar 0 (some d :: ρ) L = .ok d L := (rfl)
theorem hZ  {a0 x : Option D} : List.set (a0 :: ρ) 0 x = x :: ρ := (rfl)
theorem iA  {a0 : Option D} : eVar 1 (a0 :: some d :: ρ) L = .ok d L := (rfl)
theorem iB  {a0 a1 x : Option D} : List.set (a0 :: a1 :: ρ) 1 x = a0 :: x :: ρ := (rfl)
theorem iC  {a0 a1 : Option D} : eVar 2 (a0 :: a1 :: some d :: ρ) L = .ok d L := (rfl)
theorem iD  {a0 a1 a2 x : Option D} : List.set (a0 :: a1 :: a2 :: ρ) 2 x = a0 :: a1 :: x :: ρ := (rfl)
theorem iE  {a0 a1 a2 : Option D} : eVar 3 (a0 :: a1 :: a2 :: some d :: ρ) L = .ok d L := (rfl)
theorem iF  {a0 a1 a2 a3 x : Option D} : List.set (a0 :: a1 :: a2 :: a3 :: ρ) 3 x = a0 :: a1 :: a2 :: x :: ρ := (rfl)
theorem iG  {a0 a1 a2 a3 : Option D} : eVar 4 (a0 :: a1 :: a2 :: a3 :: some d :: ρ) L = .ok d L := (rfl)
theorem iH  {a0 a1 a2 a3 a4 x : Option D} : List.set (a0 :: a1 :: a2 :: a3 :: a4 :: ρ) 4 x = a0 :: a1 :: a2 :: a3 :: x :: ρ := (rfl)
theorem iI  {a0 a1 a2 a3 a4 : Option D} : eVar 5 (a0 :: a1 :: a2 :: a3 :: a4 :: some d :: ρ) L = .ok d L := (rfl)
theorem iJ  {a0 a1 a2 a3 a4 a5 x : Option D} : List.set (a0 :: a1 :: a2 :: a3 :: a4 :: a5 :: ρ) 5 x = a0 :: a1 :: a2 :: a3 :: a4 :: x :: ρ := (rfl)
theorem iK  {a0 a1 a2 a3 a4 a5 : Option D} : eVar 6 (a0 :: a1 :: a2 :: a3 :: a4 :: a5 :: some d :: ρ) L = .ok d L := (rfl)
theorem iL  {a0 a1 a2 a3 a4 a5 a6 x : Option D} : List.set (a0 :: a1 :: a2 :: a3 :: a4 :: a5 :: a6 :: ρ) 6 x = a0 :: a1 :: a2 :: a3 :: a4 :: a5 :: x :: ρ := (rfl)
theorem iM  {a0 a1 a2 a3 a4 a5 a6 : Option D} : eVar 7 (a0 :: a1 :: a2 :: a3 :: a4 :: a5 :: a6 :: some d :: ρ) L = .ok d L := (rfl)
theorem iN  {a0 a1 a2 a3 a4 a5 a6 a7 x : Option D} : List.set (a0 :: a1 :: a2 :: a3 :: a4 :: a5 :: a6 :: a7 :: ρ) 7 x = a0 :: a1 :: a2 :: a3 :: a4 :: a5 :: a6 :: x :: ρ := (rfl)
theorem iO  {a0 a1 a2 a3 a4 a5 a6 a7 : Option D} : eVar 8 (a0 :: a1 :: a2 :: a3 :: a4 :: a5 :: a6 :: a7 :: some d :: ρ) L = .ok d L := (rfl)
theorem iP  {a0 a1 a2 a3 a4 a5 a6 a7 a8 x : Option D} : List.set (a0 :: a1 :: a2 :: a3 :: a4 :: a5 :: a6 :: a7 :: a8 :: ρ) 8 x = a0 :: a1 :: a2 :: a3 :: a4 :: a5 :: a6 :: a7 :: x :: ρ := (rfl)
theorem iQ  {a0 a1 a2 a3 a4 a5 a6 a7 a8 : Option D} : eVar 9 (a0 :: a1 :: a2 :: a3 :: a4 :: a5 :: a6 :: a7 :: a8 :: some d :: ρ) L = .ok d L := (rfl)
theorem iR  {a0 a1 a2 a3 a4 a5 a6 a7 a8 a9 x : Option D} : List.set (a0 :: a1 :: a2 :: a3 :: a4 :: a5 :: a6 :: a7 :: a8 :: a9 :: ρ) 9 x = a0 :: a1 :: a2 :: a3 :: a4 :: a5 :: a6 :: a7 :: a8 :: x :: ρ := (rfl)
theorem iS  {a0 a1 a2 a3 a4 a5 a6 a7 a8 a9 : Option D} : eVar 10 (a0 :: a1 :: a2 :: a3 :: a4 :: a5 :: a6 :: a7 :: a8 :: a9 :: some d :: ρ) L = .ok d L := (rfl)
theorem iT  {a0 a1 a2 a3 a4 a5 a6 a7 a8 a9 a10 x : Option D} : List.set (a0 :: a1 :: a2 :: a3 :: a4 :: a5 :: a6 :: a7 :: a8 :: a9 :: a10 :: ρ) 10 x = a0 :: a1 :: a2 :: a3 :: a4 :: a5 :: a6 :: a7 :: a8 :: a9 :: x :: ρ := (rfl)
theorem iU  {a0 a1 a2 a3 a4 a5 a6 a7 a8 a9 a10 : Option D} : eVar 11 (a0 :: a1 :: a2 :: a3 :: a4 :: a5 :: a6 :: a7 :: a8 :: a9 :: a10 :: some d :: ρ) L = .ok d L := (rfl)
theorem iV  {a0 a1 a2 a3 a4 a5 a6 a7 a8 a9 a10 a11 x : Option D} : List.set (a0 :: a1 :: a2 :: a3 :: a4 :: a5 :: a6 :: a7 :: a8 :: a9 :: a10 :: a11 :: ρ) 11 x = a0 :: a1 :: a2 :: a3 :: a4 :: a5 :: a6 :: a7 :: a8 :: a9 :: a10 :: x :: ρ := (rfl)
theorem iW  {a0 a1 a2 a3 a4 a5 a6 a7 a8 a9 a10 a11 : Option D} : eVar 12 (a0 :: a1 :: a2 :: a3 :: a4 :: a5 :: a6 :: a7 :: a8 :: a9 :: a10 :: a11 :: some d :: ρ) L = .ok d L := (rfl)
theorem iX  {a0 a1 a2 a3 a4 a5 a6 a7 a8 a9 a10 a11 a12 x : Option D} : List.set (a0 :: a1 :: a2 :: a3 :: a4 :: a5 :: a6 :: a7 :: a8 :: a9 :: a10 :: a11 :: a12 :: ρ) 12 x = a0 :: a1 :: a2 :: a3 :: a4 :: a5 :: a6 :: a7 :: a8 :: a9 :: a10 :: a11 :: x :: ρ := (rfl)
theorem iY  {a0 a1 a2 a3 a4 a5 a6 a7 a8 a9 a10 a11 a12 : Option D} : eVar 13 (a0 :: a1 :: a2 :: a3 :: a4 :: a5 :: a6 :: a7 :: a8 :: a9 :: a10 :: a11 :: a12 :: some d :: ρ) L = .ok d L := (rfl)
theorem iZ  {a0 a1 a2 a3 a4 a5 a6 a7 a8 a9 a10 a11 a12 a13 x : Option D} : List.set (a0 :: a1 :: a2 :: a3 :: a4 :: a5 :: a6 :: a7 :: a8 :: a9 :: a10 :: a11 :: a12 :: a13 :: ρ) 13 x = a0 :: a1 :: a2 :: a3 :: a4 :: a5 :: a6 :: a7 :: a8 :: a9 :: a10 :: a11 :: a12 :: x :: ρ := (rfl)
theorem jA  {a0 a1 a2 a3 a4 a5 a6 a7 a8 a9 a10 a11 a12 a13 : Option D} : eVar 14 (a0 :: a1 :: a2 :: a3 :: a4 :: a5 :: a6 :: a7 :: a8 :: a9 :: a10 :: a11 :: a12 :: a13 :: some d :: ρ) L = .ok d L := (rfl)
theorem jB  {a0 a1 a2 a3 a4 a5 a6 a7 a8 a9 a10 a11 a12 a13 a14 x : Option D} : List.set (a0 :: a1 :: a2 :: a3 :: a4 :: a5 :: a6 :: a7 :: a8 :: a9 :: a10 :: a11 :: a12 :: a13 :: a14 :: ρ) 14 x = a0 :: a1 :: a2 :: a3 :: a4 :: a5 :: a6 :: a7 :: a8 :: a9 :: a10 :: a11 :: a12 :: a13 :: x :: ρ := (rfl)
theorem jC  {a0 a1 a2 a3 a4 a5 a6 a7 a8 a9 a10 a11 a12 a13 a14 : Option D} : eVar 15 (a0 :: a1 :: a2 :: a3 :: a4 :: a5 :: a6 :: a7 :: a8 :: a9 :: a10 :: a11 :: a12 :: a13 :: a14 :: some d :: ρ) L = .ok d L := (rfl)
theorem jD  {a0 a1 a2 a3 a4 a5 a6 a7 a8 a9 a10 a11 a12 a13 a14 a15 x : Option D} : List.set (a0 :: a1 :: a2 :: a3 :: a4 :: a5 :: a6 :: a7 :: a8 :: a9 :: a10 :: a11 :: a12 :: a13 :: a14 :: a15 :: ρ) 15 x = a0 :: a1 :: a2 :: a3 :: a4 :: a5 :: a6 :: a7 :: a8 :: a9 :: a10 :: a11 :: a12 :: a13 :: a14 :: x :: ρ := (rfl)
theorem jE  {a0 a1 a2 a3 a4 a5 a6 a7 a8 a9 a10 a11 a12 a13 a14 a15 : Option D} : eVar 16 (a0 :: a1 :: a2 :: a3 :: a4 :: a5 :: a6 :: a7 :: a8 :: a9 :: a10 :: a11 :: a12 :: a13 :: a14 :: a15 :: some d :: ρ) L = .ok d L := (rfl)
theorem jF  {a0 a1 a2 a3 a4 a5 a6 a7 a8 a9 a10 a11 a12 a13 a14 a15 a16 x : Option D} : List.set (a0 :: a1 :: a2 :: a3 :: a4 :: a5 :: a6 :: a7 :: a8 :: a9 :: a10 :: a11 :: a12 :: a13 :: a14 :: a15 :: a16 :: ρ) 16 x = a0 :: a1 :: a2 :: a3 :: a4 :: a5 :: a6 :: a7 :: a8 :: a9 :: a10 :: a11 :: a12 :: a13 :: a14 :: a15 :: x :: ρ := (rfl)
theorem jG  {a0 a1 a2 a3 a4 a5 a6 a7 a8 a9 a10 a11 a12 a13 a14 a15 a16 : Option D} : eVar 17 (a0 :: a1 :: a2 :: a3 :: a4 :: a5 :: a6 :: a7 :: a8 :: a9 :: a10 :: a11 :: a12 :: a13 :: a14 :: a15 :: a16 :: some d :: ρ) L = .ok d L := (rfl)
theorem jH  {a0 a1 a2 a3 a4 a5 a6 a7 a8 a9 a10 a11 a12 a13 a14 a15 a16 a17 x : Option D} : List.set (a0 :: a1 :: a2 :: a3 :: a4 :: a5 :: a6 :: a7 :: a8 :: a9 :: a10 :: a11 :: a12 :: a13 :: a14 :: a15 :: a16 :: a17 :: ρ) 17 x = a0 :: a1 :: a2 :: a3 :: a4 :: a5 :: a6 :: a7 :: a8 :: a9 :: a10 :: a11 :: a12 :: a13 :: a14 :: a15 :: a16 :: x :: ρ := (rfl)
theorem jI  {a0 a1 a2 a3 a4 a5 a6 a7 a8 a9 a10 a11 a12 a13 a14 a15 a16 a17 : Option D} : eVar 18 (a0 :: a1 :: a2 :: a3 :: a4 :: a5 :: a6 :: a7 :: a8 :: a9 :: a10 :: a11 :: a12 :: a13 :: a14 :: a15 :: a16 :: a17 :: some d :: ρ) L = .ok d L := (rfl)
theorem jJ  {a0 a1 a2 a3 a4 a5 a6 a7 a8 a9 a10 a11 a12 a13 a14 a15 a16 a17 a18 x : Option D} : List.set (a0 :: a1 :: a2 :: a3 :: a4 :: a5 :: a6 :: a7 :: a8 :: a9 :: a10 :: a11 :: a12 :: a13 :: a14 :: a15 :: a16 :: a17 :: a18 :: ρ) 18 x = a0 :: a1 :: a2 :: a3 :: a4 :: a5 :: a6 :: a7 :: a8 :: a9 :: a10 :: a11 :: a12 :: a13 :: a14 :: a15 :: a16 :: a17 :: x :: ρ := (rfl)
theorem jK  {a0 a1 a2 a3 a4 a5 a6 a7 a8 a9 a10 a11 a12 a13 a14 a15 a16 a17 a18 : Option D} : eVar 19 (a0 :: a1 :: a2 :: a3 :: a4 :: a5 :: a6 :: a7 :: a8 :: a9 :: a10 :: a11 :: a12 :: a13 :: a14 :: a15 :: a16 :: a17 :: a18 :: some d :: ρ) L = .ok d L := (rfl)
theorem jL  {a0 a1 a2 a3 a4 a5 a6 a7 a8 a9 a10 a11 a12 a13 a14 a15 a16 a17 a18 a19 x : Option D} : List.set (a0 :: a1 :: a2 :: a3 :: a4 :: a5 :: a6 :: a7 :: a8 :: a9 :: a10 :: a11 :: a12 :: a13 :: a14 :: a15 :: a16 :: a17 :: a18 :: a19 :: ρ) 19 x = a0 :: a1 :: a2 :: a3 :: a4 :: a5 :: a6 :: a7 :: a8 :: a9 :: a10 :: a11 :: a12 :: a13 :: a14 :: a15 :: a16 :: a17 :: a18 :: x :: ρ := (rfl)
theorem jM  {a0 a1 a2 a3 a4 a5 a6 a7 a8 a9 a10 a11 a12 a13 a14 a15 a16 a17 a18 a19 : Option D} : eVar 20 (a0 :: a1 :: a2 :: a3 :: a4 :: a5 :: a6 :: a7 :: a8 :: a9 :: a10 :: a11 :: a12 :: a13 :: a14 :: a15 :: a16 :: a17 :: a18 :: a19 :: some d :: ρ) L = .ok d L := (rfl)
theorem jN  {a0 a1 a2 a3 a4 a5 a6 a7 a8 a9 a10 a11 a12 a13 a14 a15 a16 a17 a18 a19 a20 x : Option D} : List.set (a0 :: a1 :: a2 :: a3 :: a4 :: a5 :: a6 :: a7 :: a8 :: a9 :: a10 :: a11 :: a12 :: a13 :: a14 :: a15 :: a16 :: a17 :: a18 :: a19 :: a20 :: ρ) 20 x = a0 :: a1 :: a2 :: a3 :: a4 :: a5 :: a6 :: a7 :: a8 :: a9 :: a10 :: a11 :: a12 :: a13 :: a14 :: a15 :: a16 :: a17 :: a18 :: a19 :: x :: ρ := (rfl)
theorem jO  {a0 a1 a2 a3 a4 a5 a6 a7 a8 a9 a10 a11 a12 a13 a14 a15 a16 a17 a18 a19 a20 : Option D} : eVar 21 (a0 :: a1 :: a2 :: a3 :: a4 :: a5 :: a6 :: a7 :: a8 :: a9 :: a10 :: a11 :: a12 :: a13 :: a14 :: a15 :: a16 :: a17 :: a18 :: a19 :: a20 :: some d :: ρ) L = .ok d L := (rfl)
theorem jP  {a0 a1 a2 a3 a4 a5 a6 a7 a8 a9 a10 a11 a12 a13 a14 a15 a16 a17 a18 a19 a20 a21 x : Option D} : List.set (a0 :: a1 :: a2 :: a3 :: a4 :: a5 :: a6 :: a7 :: a8 :: a9 :: a10 :: a11 :: a12 :: a13 :: a14 :: a15 :: a16 :: a17 :: a18 :: a19 :: a20 :: a21 :: ρ) 21 x = a0 :: a1 :: a2 :: a3 :: a4 :: a5 :: a6 :: a7 :: a8 :: a9 :: a10 :: a11 :: a12 :: a13 :: a14 :: a15 :: a16 :: a17 :: a18 :: a19 :: a20 :: x :: ρ := (rfl)
theorem jQ  {a0 a1 a2 a3 a4 a5 a6 a7 a8 a9 a10 a11 a12 a13 a14 a15 a16 a17 a18 a19 a20 a21 : Option D} : eVar 22 (a0 :: a1 :: a2 :: a3 :: a4 :: a5 :: a6 :: a7 :: a8 :: a9 :: a10 :: a11 :: a12 :: a13 :: a14 :: a15 :: a16 :: a17 :: a18 :: a19 :: a20 :: a21 :: some d :: ρ) L = .ok d L := (rfl)
theorem jR  {a0 a1 a2 a3 a4 a5 a6 a7 a8 a9 a10 a11 a12 a13 a14 a15 a16 a17 a18 a19 a20 a21 a22 x : Option D} : List.set (a0 :: a1 :: a2 :: a3 :: a4 :: a5 :: a6 :: a7 :: a8 :: a9 :: a10 :: a11 :: a12 :: a13 :: a14 :: a15 :: a16 :: a17 :: a18 :: a19 :: a20 :: a21 :: a22 :: ρ) 22 x = a0 :: a1 :: a2 :: a3 :: a4 :: a5 :: a6 :: a7 :: a8 :: a9 :: a10 :: a11 :: a12 :: a13 :: a14 :: a15 :: a16 :: a17 :: a18 :: a19 :: a20 :: a21 :: x :: ρ := (rfl)
theorem jS  {a0 a1 a2 a3 a4 a5 a6 a7 a8 a9 a10 a11 a12 a13 a14 a15 a16 a17 a18 a19 a20 a21 a22 : Option D} : eVar 23 (a0 :: a1 :: a2 :: a3 :: a4 :: a5 :: a6 :: a7 :: a8 :: a9 :: a10 :: a11 :: a12 :: a13 :: a14 :: a15 :: a16 :: a17 :: a18 :: a19 :: a20 :: a21 :: a22 :: some d :: ρ) L = .ok d L := (rfl)
theorem jT  {a0 a1 a2 a3 a4 a5 a6 a7 a8 a9 a10 a11 a12 a13 a14 a15 a16 a17 a18 a19 a20 a21 a22 a23 x : Option D} : List.set (a0 :: a1 :: a2 :: a3 :: a4 :: a5 :: a6 :: a7 :: a8 :: a9 :: a10 :: a11 :: a12 :: a13 :: a14 :: a15 :: a16 :: a17 :: a18 :: a19 :: a20 :: a21 :: a22 :: a23 :: ρ) 23 x = a0 :: a1 :: a2 :: a3 :: a4 :: a5 :: a6 :: a7 :: a8 :: a9 :: a10 :: a11 :: a12 :: a13 :: a14 :: a15 :: a16 :: a17 :: a18 :: a19 :: a20 :: a21 :: a22 :: x :: ρ := (rfl)
theorem jU  {a0 a1 a2 a3 a4 a5 a6 a7 a8 a9 a10 a11 a12 a13 a14 a15 a16 a17 a18 a19 a20 a21 a22 a23 : Option D} : eVar 24 (a0 :: a1 :: a2 :: a3 :: a4 :: a5 :: a6 :: a7 :: a8 :: a9 :: a10 :: a11 :: a12 :: a13 :: a14 :: a15 :: a16 :: a17 :: a18 :: a19 :: a20 :: a21 :: a22 :: a23 :: some d :: ρ) L = .ok d L := (rfl)
theorem jV  {a0 a1 a2 a3 a4 a5 a6 a7 a8 a9 a10 a11 a12 a13 a14 a15 a16 a17 a18 a19 a20 a21 a22 a23 a24 x : Option D} : List.set (a0 :: a1 :: a2 :: a3 :: a4 :: a5 :: a6 :: a7 :: a8 :: a9 :: a10 :: a11 :: a12 :: a13 :: a14 :: a15 :: a16 :: a17 :: a18 :: a19 :: a20 :: a21 :: a22 :: a23 :: a24 :: ρ) 24 x = a0 :: a1 :: a2 :: a3 :: a4 :: a5 :: a6 :: a7 :: a8 :: a9 :: a10 :: a11 :: a12 :: a13 :: a14 :: a15 :: a16 :: a17 :: a18 :: a19 :: a20 :: a21 :: a22 :: a23 :: x :: ρ := (rfl)
theorem jW  {a0 a1 a2 a3 a4 a5 a6 a7 a8 a9 a10 a11 a12 a13 a14 a15 a16 a17 a18 a19 a20 a21 a22 a23 a24 : Option D} : eVar 25 (a0 :: a1 :: a2 :: a3 :: a4 :: a5 :: a6 :: a7 :: a8 :: a9 :: a10 :: a11 :: a12 :: a13 :: a14 :: a15 :: a16 :: a17 :: a18 :: a19 :: a20 :: a21 :: a22 :: a23 :: a24 :: some d :: ρ) L = .ok d L := (rfl)
theorem jX  {a0 a1 a2 a3 a4 a5 a6 a7 a8 a9 a10 a11 a12 a13 a14 a15 a16 a17 a18 a19 a20 a21 a22 a23 a24 a25 x : Option D} : List.set (a0 :: a1 :: a2 :: a3 :: a4 :: a5 :: a6 :: a7 :: a8 :: a9 :: a10 :: a11 :: a12 :: a13 :: a14 :: a15 :: a16 :: a17 :: a18 :: a19 :: a20 :: a21 :: a22 :: a23 :: a24 :: a25 :: ρ) 25 x = a0 :: a1 :: a2 :: a3 :: a4 :: a5 :: a6 :: a7 :: a8 :: a9 :: a10 :: a11 :: a12 :: a13 :: a14 :: a15 :: a16 :: a17 :: a18 :: a19 :: a20 :: a21 :: a22 :: a23 :: a24 :: x :: ρ := (rfl)
theorem jY  {a0 a1 a2 a3 a4 a5 a6 a7 a8 a9 a10 a11 a12 a13 a14 a15 a16 a17 a18 a19 a20 a21 a22 a23 a24 a25 : Option D} : eVar 26 (a0 :: a1 :: a2 :: a3 :: a4 :: a5 :: a6 :: a7 :: a8 :: a9 :: a10 :: a11 :: a12 :: a13 :: a14 :: a15 :: a16 :: a17 :: a18 :: a19 :: a20 :: a21 :: a22 :: a23 :: a24 :: a25 :: some d :: ρ) L = .ok d L := (rfl)
theorem jZ  {a0 a1 a2 a3 a4 a5 a6 a7 a8 a9 a10 a11 a12 a13 a14 a15 a16 a17 a18 a19 a20 a21 a22 a23 a24 a25 a26 x : Option D} : List.set (a0 :: a1 :: a2 :: a3 :: a4 :: a5 :: a6 :: a7 :: a8 :: a9 :: a10 :: a11 :: a12 :: a13 :: a14 :: a15 :: a16 :: a17 :: a18 :: a19 :: a20 :: a21 :: a22 :: a23 :: a24 :: a25 :: a26 :: ρ) 26 x = a0 :: a1 :: a2 :: a3 :: a4 :: a5 :: a6 :: a7 :: a8 :: a9 :: a10 :: a11 :: a12 :: a13 :: a14 :: a15 :: a16 :: a17 :: a18 :: a19 :: a20 :: a21 :: a22 :: a23 :: a24 :: a25 :: x :: ρ := (rfl)
theorem kA  {a0 a1 a2 a3 a4 a5 a6 a7 a8 a9 a10 a11 a12 a13 a14 a15 a16 a17 a18 a19 a20 a21 a22 a23 a24 a25 a26 : Option D} : eVar 27 (a0 :: a1 :: a2 :: a3 :: a4 :: a5 :: a6 :: a7 :: a8 :: a9 :: a10 :: a11 :: a12 :: a13 :: a14 :: a15 :: a16 :: a17 :: a18 :: a19 :: a20 :: a21 :: a22 :: a23 :: a24 :: a25 :: a26 :: some d :: ρ) L = .ok d L := (rfl)
theorem kB  {a0 a1 a2 a3 a4 a5 a6 a7 a8 a9 a10 a11 a12 a13 a14 a15 a16 a17 a18 a19 a20 a21 a22 a23 a24 a25 a26 a27 x : Option D} : List.set (a0 :: a1 :: a2 :: a3 :: a4 :: a5 :: a6 :: a7 :: a8 :: a9 :: a10 :: a11 :: a12 :: a13 :: a14 :: a15 :: a16 :: a17 :: a18 :: a19 :: a20 :: a21 :: a22 :: a23 :: a24 :: a25 :: a26 :: a27 :: ρ) 27 x = a0 :: a1 :: a2 :: a3 :: a4 :: a5 :: a6 :: a7 :: a8 :: a9 :: a10 :: a11 :: a12 :: a13 :: a14 :: a15 :: a16 :: a17 :: a18 :: a19 :: a20 :: a21 :: a22 :: a23 :: a24 :: a25 :: a26 :: x :: ρ := (rfl)
end
section
variable {L : Sto} {i j k : Int} {xs ys ds : List D} {b : Bool}
theorem lF {cs : List (Str × Bool)} : gIsiK cs .int .non L = .ok (.bl false) L := (rfl)
theorem lG {cs : List (Str × Bool)} : gIsiK cs .bl .non L = .ok (.bl false) L := (rfl)
theorem lH {cs : List (Str × Bool)} : gIsiK cs .str .non L = .ok (.bl false) L := (rfl)
theorem lI {cs : List (Str × Bool)} : gIsiK cs .tup .non L = .ok (.bl false) L := (rfl)
theorem lJ {cs : List (Str × Bool)} : gIsiK cs .lst .non L = .ok (.bl false) L := (rfl)
theorem lK {cs : List (Str × Bool)} : gIsiK cs .dict .non L = .ok (.bl false) L := (rfl)
theorem lL {cs : List (Str × Bool)} {c2 : Str} : gIsiO cs c2 .non L = .ok (.bl false) L := (rfl)
theorem lM {cs : List (Str × Bool)} : gIsiK cs .int (.bl b) L = .ok (.bl true) L := (rfl)
theorem lN {cs : List (Str × Bool)} : gIsiK cs .bl (.bl b) L = .ok (.bl true) L := (rfl)
theorem lO {cs : List (Str × Bool)} : gIsiK cs .str (.bl b) L = .ok (.bl false) L := (rfl)
theorem lP {cs : List (Str × Bool)} : gIsiK cs .tup (.bl b) L = .ok (.bl false) L := (rfl)
theorem lQ {cs : List (Str × Bool)} : gIsiK cs .lst (.bl b) L = .ok (.bl false) L := (rfl)
theorem lR {cs : List (Str × Bool)} : gIsiK cs .dict (.bl b) L = .ok (.bl false) L := (rfl)
theorem lS {cs : List (Str × Bool)} {c2 : Str} : gIsiO cs c2 (.bl b) L = .ok (.bl false) L := (rfl)
theorem lT {cs : List (Str × Bool)} : gIsiK cs .int (.int i) L = .ok (.bl true) L := (rfl)
theorem lU {cs : List (Str × Bool)} : gIsiK cs .bl (.int i) L = .ok (.bl false) L := (rfl)
theorem lV {cs : List (Str × Bool)} : gIsiK cs .str (.int i) L = .ok (.bl false) L := (rfl)
theorem lW {cs : List (Str × Bool)} : gIsiK cs .tup (.int i) L = .ok (.bl false) L := (rfl)
theorem lX {cs : List (Str × Bool)} : gIsiK cs .lst (.int i) L = .ok (.bl false) L := (rfl)
theorem lY {cs : List (Str × Bool)} : gIsiK cs .dict (.int i) L = .ok (.bl false) L := (rfl)
theorem lZ {cs : List (Str × Bool)} {c2 : Str} : gIsiO cs c2 (.int i) L = .ok (.bl false) L := (rfl)
theorem mB {cs : List (Str × Bool)} {s : Str} : gIsiK cs .int (.str s) L = .ok (.bl false) L := (rfl)
theorem mC {cs : List (Str × Bool)} {s : Str} : gIsiK cs .bl (.str s) L = .ok (.bl false) L := (rfl)
theorem mD {cs : List (Str × Bool)} {s : Str} : gIsiK cs .str (.str s) L = .ok (.bl true) L := (rfl)
theorem mE {cs : List (Str × Bool)} {s : Str} : gIsiK cs .tup (.str s) L = .ok (.bl false) L := (rfl)
theorem mF {cs : List (Str × Bool)} {s : Str} : gIsiK cs .lst (.str s) L = .ok (.bl false) L := (rfl)
theorem mG {cs : List (Str × Bool)} {s : Str} : gIsiK cs .dict (.str s) L = .ok (.bl false) L := (rfl)
theorem mH {cs : List (Str × Bool)} {c2 : Str} {s : Str} : gIsiO cs c2 (.str s) L = .ok (.bl false) L := (rfl)
theorem mI {cs : List (Str × Bool)} : gIsiK cs .int (.tup xs) L = .ok (.bl false) L := (rfl)
theorem mJ {cs : List (Str × Bool)} : gIsiK cs .bl (.tup xs) L = .ok (.bl false) L := (rfl)
theorem mK {cs : List (Str × Bool)} : gIsiK cs .str (.tup xs) L = .ok (.bl false) L := (rfl)
theorem mL {cs : List (Str × Bool)} : gIsiK cs .tup (.tup xs) L = .ok (.bl true) L := (rfl)
theorem mM {cs : List (Str × Bool)} : gIsiK cs .lst (.tup xs) L = .ok (.bl false) L := (rfl)
theorem mN {cs : List (Str × Bool)} : gIsiK cs .dict (.tup xs) L = .ok (.bl false) L := (rfl)
theorem mO {cs : List (Str × Bool)} {c2 : Str} : gIsiO cs c2 (.tup xs) L = .ok (.bl false) L := (rfl)
theorem mP {cs : List (Str × Bool)} : gIsiK cs .int (.tg xs) L = .ok (.bl false) L := (rfl)
theorem mQ {cs : List (Str × Bool)} : gIsiK cs .bl (.tg xs) L = .ok (.bl false) L := (rfl)
theorem mR {cs : List (Str × Bool)} : gIsiK cs .str (.tg xs) L = .ok (.bl false) L := (rfl)
theorem mS {cs : List (Str × Bool)} : gIsiK cs .tup (.tg xs) L = .ok (.bl true) L := (rfl)
theorem mT {cs : List (Str × Bool)} : gIsiK cs .lst (.tg xs) L = .ok (.bl false) L := (rfl)
theorem mU {cs : List (Str × Bool)} : gIsiK cs .dict (.tg xs) L = .ok (.bl false) L := (rfl)
theorem mV {cs : List (Str × Bool)} {c2 : Str} : gIsiO cs c2 (.tg xs) L = .ok (.bl false) L := (rfl)
theorem mW {cs : List (Str × Bool)} : gIsiK cs .int (.lst xs) L = .ok (.bl false) L := (rfl)
theorem mX {cs : List (Str × Bool)} : gIsiK cs .bl (.lst xs) L = .ok (.bl false) L := (rfl)
theorem mY {cs : List (Str × Bool)} : gIsiK cs .str (.lst xs) L = .ok (.bl false) L := (rfl)
theorem mZ {cs : List (Str × Bool)} : gIsiK cs .tup (.lst xs) L = .ok (.bl false) L := (rfl)
theorem nB {cs : List (Str × Bool)} : gIsiK cs .lst (.lst xs) L = .ok (.bl true) L := (rfl)
theorem nD {cs : List (Str × Bool)} : gIsiK cs .dict (.lst xs) L = .ok (.bl false) L := (rfl)
theorem nE {cs : List (Str × Bool)} {c2 : Str} : gIsiO cs c2 (.lst xs) L = .ok (.bl false) L := (rfl)
theorem nG {cs : List (Str × Bool)} {kv : List (Key × D)} : gIsiK cs .int (.dK kv) L = .ok (.bl false) L := (rfl)
theorem nH {cs : List (Str × Bool)} {kv : List (Key × D)} : gIsiK cs .bl (.dK kv) L = .ok (.bl false) L := (rfl)
theorem nI {cs : List (Str × Bool)} {kv : List (Key × D)} : gIsiK cs .str (.dK kv) L = .ok (.bl false) L := (rfl)
theorem nJ {cs : List (Str × Bool)} {kv : List (Key × D)} : gIsiK cs .tup (.dK kv) L = .ok (.bl false) L := (rfl)
theorem nK {cs : List (Str × Bool)} {kv : List (Key × D)} : gIsiK cs .lst (.dK kv) L = .ok (.bl false) L := (rfl)
theorem nM {cs : List (Str × Bool)} {kv : List (Key × D)} : gIsiK cs .dict (.dK kv) L = .ok (.bl true) L := (rfl)
theorem nN {cs : List (Str × Bool)} {c2 : Str} {kv : List (Key × D)} : gIsiO cs c2 (.dK kv) L = .ok (.bl false) L := (rfl)
theorem nO {cs : List (Str × Bool)} {kt : List (List Key × D)} : gIsiK cs .int (.dT kt) L = .ok (.bl false) L := (rfl)
theorem nP {cs : List (Str × Bool)} {kt : List (List Key × D)} : gIsiK cs .bl (.dT kt) L = .ok (.bl false) L := (rfl)
theorem nQ {cs : List (Str × Bool)} {kt : List (List Key × D)} : gIsiK cs .str (.dT kt) L = .ok (.bl false) L := (rfl)
theorem nR {cs : List (Str × Bool)} {kt : List (List Key × D)} : gIsiK cs .tup (.dT kt) L = .ok (.bl false) L := (rfl)
theorem nS {cs : List (Str × Bool)} {kt : List (List Key × D)} : gIsiK cs .lst (.dT kt) L = .ok (.bl false) L := (rfl)
theorem nU {cs : List (Str × Bool)} {kt : List (List Key × D)} : gIsiK cs .dict (.dT kt) L = .ok (.bl true) L := (rfl)
theorem nV {cs : List (Str × Bool)} {c2 : Str} {kt : List (List Key × D)} : gIsiO cs c2 (.dT kt) L = .ok (.bl false) L := (rfl)
theorem nW {cs : List (Str × Bool)} {kv : List (Key × D)} : gIsiK cs .int (.dF kv) L = .ok (.bl false) L := (rfl)
theorem nX {cs : List (Str × Bool)} {kv : List (Key × D)} : gIsiK cs .bl (.dF kv) L = .ok (.bl false) L := (rfl)
theorem nY {cs : List (Str × Bool)} {kv : List (Key × D)} : gIsiK cs .str (.dF kv) L = .ok (.bl false) L := (rfl)
theorem nZ {cs : List (Str × Bool)} {kv : List (Key × D)} : gIsiK cs .tup (.dF kv) L = .ok (.bl false) L := (rfl)
theorem oA {cs : List (Str × Bool)} {kv : List (Key × D)} : gIsiK cs .lst (.dF kv) L = .ok (.bl false) L := (rfl)
theorem oB {cs : List (Str × Bool)} {kv : List (Key × D)} : gIsiK cs .dict (.dF kv) L = .ok (.bl true) L := (rfl)
theorem oC {cs : List (Str × Bool)} {c2 : Str} {kv : List (Key × D)} : gIsiO cs c2 (.dF kv) L = .ok (.bl false) L := (rfl)
theorem oE {c : Str} {x y : D} : gSlt c 0 (.sl c [x, y]) L = .ok x L := if_pos rfl
theorem oG {c : Str} {x y : D} : gSlt c 1 (.sl c [x, y]) L = .ok y L := if_pos rfl
theorem oH {c : Str} {x y : D} : gSl2 c [x, y] L = .ok (.sl c [x, y]) L := (rfl)
theorem oI : gIsN .non .non L = .ok (.bl true) L := (rfl)
end
abbrev rowD (r : List Int) : D := .tg (r.map .int)
structure IsRow (r : List Int) : Prop where
  l1 : 1 ≤ r.length
  l2 : r.length ≤ 20
  nn : ∀ x ∈ r, 0 ≤ x
structure HRow (r : List Int) (h : Int) : Prop extends IsRow r where
  h1 : 1 ≤ h
  h2 : h ≤ 20
  lt : ∀ x ∈ r, x < h
theorem small62_of {i : Int} (h1 : -1000000 ≤ i) (h2 : i ≤ 1000000) : small62 i = true := decide_eq_true ⟨by omega, by omega⟩
def natD (i : Nat) : D := .int (i : Int)
theorem rangeD0 (n : Nat) : rangeD 0 n = (List.range n).map natD := by
  unfold rangeD natD
  exact List.map_congr_left fun i _ => by rw [Int.zero_add]
theorem gIx_loc {L : Sto} {n j : Nat} {xs : List D} {y : D} (h : L[n]? = some (.lst xs)) (hy : xs[j]? = some y) : gIx (.loc n) (.int (j : Int)) L = .ok y L := by
  unfold gIx
  simp only [seqOf_loc h, atI_nat hy]
theorem gIx_lst {L : Sto} {j : Nat} {xs : List D} {y : D} (hy : xs[j]? = some y) : gIx (.lst xs) (.int (j : Int)) L = .ok y L := by
  unfold gIx
  simp only [lB, atI_nat hy]
theorem ixN_nat {n j : Nat} (h : j < n) : ixN n (j : Int) = some j := by
  unfold ixN
  rw [if_pos (by omega), if_pos (by omega)]
  simp
theorem putAt_loc {L : Sto} {n j : Nat} {xs : List D} {v : D} (h : L[n]? = some (.lst xs)) (hj : j < xs.length) : putAt (.loc n) (.int (j : Int)) v L = some (L.set n (.lst (xs.set j v))) := by
  simp only [putAt, h, ixN_nat hj, Option.map_some]
def places (r : List Int) (i : Int) : List Nat := (List.range r.length).filter fun j => decide (r.getD j 0 = i)
theorem sR {i j : Int} {L : Sto} : gEq (.int i) (.int j) L = .ok (.bl (decide (i = j))) L := by
  have := gEq_ev (L := L) (d := .int i) (e := .int j) rfl rfl
  rw [this]
  show Res.ok (D.bl (i == j)) L = _
  by_cases h : i = j <;> simp [h]
theorem cutD_from (xs : List D) (k : Nat) : cutD xs (some (k : Int)) none = xs.drop k := by
  unfold cutD
  have h1 : HT.sIx xs.length 0 (some (k : Int)) = min k xs.length := by
    show (if (k : Int) < 0 then ((k : Int) + xs.length).toNat else min (k : Int).toNat xs.length) = _
    rw [if_neg (by omega)]; rfl
  have h2 : HT.sIx xs.length xs.length none = xs.length := rfl
  rw [h1, h2]
  rcases Nat.le_total k xs.length with h | h
  · rw [Nat.min_eq_left h]; exact List.take_of_length_le (by rw [List.length_drop]; omega)
  · rw [Nat.min_eq_right h, List.drop_eq_nil_of_le h, List.drop_eq_nil_of_le (Nat.le_refl _)]; simp
theorem flatMap_one {α β : Type} (f : α → β) : ∀ xs : List α, (xs.flatMap fun j => [f j]) = xs.map f
  | [] => rfl
  | x :: xs => by rw [List.flatMap_cons, flatMap_one f xs]; rfl
section
variable {r : List Int} {h : Int}
theorem seen_lst (L : Sto) (xs : List D) : seen L (.lst xs) = .lst xs := rfl
theorem seen_tg (L : Sto) (xs : List D) : seen L (.tg xs) = .tg xs := rfl
theorem seen_tup (L : Sto) (xs : List D) : seen L (.tup xs) = .tup xs := rfl
theorem rgOk0 {n : Nat} (h : n ≤ 1000) : rgOk 0 (n : Int) = true := and2' (and2' (small62_of (by omega) (by omega)) (small62_of (by omega) (by omega))) (decide_eq_true (by omega))
end
section
variable {r : List Int} {h : Int}
theorem flatMap_pair {α : Type} (f : α → Key × D) (xs : List α) : (xs.flatMap fun j => [f j]) = xs.map f := flatMap_one f xs
end
theorem okRow (r : List Int) : okD 60 (rowD r) = true := by rw [okD]; exact okDL_ints _ _
theorem sS {i j : Int} {L : Sto} : gNe (.int i) (.int j) L = .ok (.bl (!decide (i = j))) L := by
  have := gNe_ev (L := L) (d := .int i) (e := .int j) rfl rfl
  rw [this]
  show Res.ok (D.bl (!(i == j))) L = _
  by_cases h : i = j <;> simp [h]
theorem flat_ints (r : List Int) : (r.map D.int).all dFlat = true := by
  rw [List.all_map, List.all_eq_true]; intro x _; rfl
theorem any_ints (v : Int) (o : List Int) : ((o.map D.int).any fun y => dEqF y (.int v)) = decide (v ∈ o) := by
  rw [List.any_map]
  induction o with
  | nil => rfl
  | cons x o ih =>
    rw [List.any_cons, ih]
    show ((x == v) || decide (v ∈ o)) = _
    by_cases h : x = v
    · subst h; simp
    · have h2 : ¬ v = x := fun e => h e.symm
      simp [h, h2]
theorem gAdd_lst {L : Sto} {xs ys : List D} (h : (xs ++ ys).length ≤ 16777216) : gAdd (.lst xs) (.lst ys) L = .ok (.lst (xs ++ ys)) L := by
  have e : gAdd (.lst xs) (.lst ys) L = newL (xs ++ ys) L := rfl
  rw [e]
  unfold newL
  rw [if_pos h]
def dice (a b c : Int) : D := .lst [.int a, .int b, .int c]
theorem ev_put {fv fo fi : EF} {ρ : Env'} {L L1 L2 L3 L4 : Sto} {v d k : D} (h1 : fv ρ L = .ok v L1) (h2 : fo ρ L1 = .ok d L2) (h3 : fi ρ L2 = .ok k L3) (h4 : putAt d k v L3 = some L4) : sPut fv fo fi ρ L = .nx ρ L4 := by
  unfold sPut
  rw [h1, sBind_ok, h2, sBind_ok, h3, sBind_ok, h4]
theorem set_get {L : Sto} {n : Nat} {c d : D} (h : L[n]? = some d) : (L.set n c)[n]? = some c := List.getElem?_set_self (getElem?_lt h)
theorem set_set' {L : Sto} {n : Nat} {c d : D} : (L.set n c).set n d = L.set n d := List.set_set _
def Dc (n : Nat) (L : Sto) : Prop := ∃ a b c, L[n]? = some (dice a b c)
def Nxt (n : Nat) (L L' : Sto) : Prop := ∃ a b c, L' = L.set n (dice a b c)
theorem Nxt.dc {n : Nat} {L L' : Sto} (h : Nxt n L L') (hd : Dc n L) : Dc n L' := by
  obtain ⟨a, b, c, rfl⟩ := h
  obtain ⟨x, y, z, e⟩ := hd
  exact ⟨a, b, c, set_get e⟩
theorem Nxt.trans {n : Nat} {L L1 L2 : Sto} (h : Nxt n L L1) (k : Nxt n L1 L2) : Nxt n L L2 := by
  obtain ⟨a, b, c, rfl⟩ := h
  obtain ⟨x, y, z, rfl⟩ := k
  exact ⟨x, y, z, set_set'⟩
theorem Nxt.refl {n : Nat} {L : Sto} (hd : Dc n L) : Nxt n L L := by
  obtain ⟨a, b, c, e⟩ := hd
  refine ⟨a, b, c, ?_⟩
  apply List.ext_getElem?
  intro i
  by_cases h : n = i
  · subst h; rw [set_get e, e]
  · rw [List.getElem?_set_ne h]
theorem ints_of {Q : Int → Prop} : ∀ {ys : List D}, (∀ y ∈ ys, ∃ x, y = D.int x ∧ Q x) → ∃ r : List Int, ys = r.map D.int ∧ ∀ x ∈ r, Q x
  | [], _ => ⟨[], rfl, fun _ h => nomatch h⟩
  | y :: ys, h => by
    obtain ⟨x, rfl, hx⟩ := h y (List.mem_cons_self)
    obtain ⟨r, rfl, hr⟩ := ints_of fun z hz => h z (List.mem_cons_of_mem _ hz)
    refine ⟨x :: r, rfl, fun z hz => ?_⟩
    rcases List.mem_cons.mp hz with e | e
    · rw [e]; exact hx
    · exact hr z e
theorem isL_loc {L : Sto} {n : Nat} {xs : List D} (h : L[n]? = some (.lst xs)) : isL L (.loc n) = true := by unfold isL; rw [sqlOf_loc h]; rfl
theorem gAppend_ev {L : Sto} {m : Nat} {xs : List D} {y : D} (h : L[m]? = some (.lst xs)) (hl : xs.length < 16777216) : gAppend (.loc m) [y] L = .ok .non (L.set m (.lst (xs ++ [y]))) := by
  have e : gAppend (.loc m) [y] L = if xs.length < 16777216 then .ok .non (L.set m (.lst (xs ++ [y]))) else .bad := by
    unfold gAppend
    rw [boxL_loc h]
  rw [e, if_pos hl]
theorem dice_bel (k : Nat) (a b c : Int) : (dice a b c).bel k = true := belL_ints k [a, b, c]
theorem nxt_len {n : Nat} {L L' : Sto} (h : Nxt n L L') : L'.length = L.length := by obtain ⟨a, b, c, rfl⟩ := h; exact List.length_set
theorem nxt_take {n : Nat} {L L0 : Sto} (h : Nxt n L L0) (tl : List D) : TakeOk L (L0 ++ tl) := by
  have hl := nxt_len h
  refine ⟨by rw [List.length_append]; omega, fun i c hi e => ?_⟩
  rw [List.getElem?_append_left (by omega)] at e
  obtain ⟨x, y, z, rfl⟩ := h
  by_cases hn : n = i
  · subst hn
    rw [List.getElem?_set_self hi] at e
    cases e
    exact .inr (dice_bel _ _ _ _)
  · rw [List.getElem?_set_ne hn] at e
    exact .inl e
theorem ok_int (n : Nat) (b : Int) : okD n (.int b) = true := by cases n <;> rfl
theorem HRow.map {r : List Int} {h : Int} (hr : HRow r h) {f : Int → Int} (hf : ∀ x, 0 ≤ x → x < h → 0 ≤ f x ∧ f x < h) : HRow (r.map f) h :=
  ⟨⟨by rw [List.length_map]; exact hr.l1, by rw [List.length_map]; exact hr.l2, fun y hy => by
    obtain ⟨x, hx, rfl⟩ := List.mem_map.mp hy
    exact (hf x (hr.nn x hx) (hr.lt x hx)).1⟩, hr.h1, hr.h2, fun y hy => by
    obtain ⟨x, hx, rfl⟩ := List.mem_map.mp hy
    exact (hf x (hr.nn x hx) (hr.lt x hx)).2⟩
theorem gPow_int {i j : Int} {L : Sto} (h : 0 ≤ j ∧ j ≤ 1000 ∧ i.natAbs < 2 ^ 1000) : gPow (.int i) (.int j) L = .ok (.int (i ^ j.toNat)) L := if_pos h
theorem gIx_ro {L : Sto} {j : Nat} {xs : List D} {y : D} (hy : xs[j]? = some y) : gIx (.ro xs) (.int (j : Int)) L = .ok y L := by
  unfold gIx
  simp only [lC, atI_nat hy]
theorem pow60 (ρ : Env') (L : Sto) : DS.e2 gPow (eC (.int 10)) (eC (.int 60)) ρ L = .ok (.int (10 ^ 60)) L := (ev_e2 (d := .int 10) (e := .int 60) rfl rfl).trans (gPow_int ⟨by decide, by decide, by decide⟩)
theorem pow600 (ρ : Env') (L : Sto) : DS.e2 gPow (DS.e2 gPow (eC (.int 10)) (eC (.int 60))) (eC (.int 10)) ρ L = .ok (.int ((10 ^ 60) ^ 10)) L := (ev_e2 (pow60 ρ L) (e := .int 10) rfl).trans (gPow_int ⟨by decide, by decide, by decide⟩)
theorem pow18 (ρ : Env') (L : Sto) : DS.e2 gPow (eC (.int 10)) (eC (.int 18)) ρ L = .ok (.int (10 ^ 18)) L := (ev_e2 (d := .int 10) (e := .int 18) rfl rfl).trans (gPow_int ⟨by decide, by decide, by decide⟩)
def kr0 (c : Str) (ρ : Env') (r : Res D) : SRes := sBind r ρ fun _ L1 => .err c [] ρ L1
def krF (c fld : Str) (ρ : Env') (r : Res D) : SRes := sBind r ρ fun d L1 => .err c [(fld, d)] ρ L1
def kch (g g' : D → D → Sto → Res D) (fb fc : EF) (ρ : Env') (r : Res D) : Res D := r.bind fun d L1 => (fb ρ L1).bind fun e L2 => (asB (g d e L2)).bind fun k L3 =>
  if k = true then (fc ρ L3).bind fun c L4 => g' e c L4 else .ok (.bl false) L3
def kch2 (g g' : D → D → Sto → Res D) (d : D) (fc : EF) (ρ : Env') (r : Res D) : Res D := r.bind fun e L2 => (asB (g d e L2)).bind fun k L3 =>
  if k = true then (fc ρ L3).bind fun c L4 => g' e c L4 else .ok (.bl false) L3
def kch3 (g' : D → D → Sto → Res D) (e : D) (fc : EF) (ρ : Env') (r : Res Bool) : Res D := r.bind fun k L3 =>
  if k = true then (fc ρ L3).bind fun c L4 => g' e c L4 else .ok (.bl false) L3
def kch4 (g' : D → D → Sto → Res D) (e : D) (r : Res D) : Res D := r.bind fun c L4 => g' e c L4
noncomputable def kfs (tg : GF) (body : SF) (ρ : Env') (r : Res Its) : SRes := match r with
  | .ok its L1 => forGo tg body its.src its.ds ρ L1
  | .err c p L1 => .err c p ρ L1
  | .bad => .bad
noncomputable def kfo2 (tg : GF) (body : SF) (xs : List D) (r : SRes) : SRes := match r with
  | .nx ρ2 L2 => forGo tg body [] xs ρ2 L2
  | .ct ρ2 L2 => forGo tg body [] xs ρ2 L2
  | .bk ρ2 L2 => .nx ρ2 L2
  | r => r
noncomputable def kfo (tg : GF) (body : SF) (xs : List D) (o : Option Env') (L : Sto) : SRes := match o with
  | none => .bad
  | some ρ1 => kfo2 tg body xs (body ρ1 L)
section
variable {ρ ρ1 : Env'} {L L1 : Sto} {d e : D} {f g : SF} {t u : TF} {fa fb fo fi : EF} {fl : AF} {ds dd : List D} {i j n N : Nat} {b c : Bool} {g2 : D → D → Sto → Res D} {g1 : D → Sto → Res D} {gn : List D → Sto → Res D} {m : List D → Sto → Res D} {cl fld : Str} {p : List (Str × D)} {bx : Bool} {tg : GF} {gb : D → List D → Sto → Res D} {TT : (Sto → Res D) → Sto → Res D}
theorem qP : k1 g1 (.err cl p L) = .err cl p L := (rfl)
theorem qQ : kn gn (.err cl p L) = .err cl p L := (rfl)
theorem qR : k2 g2 fb ρ (.err cl p L) = .err cl p L := (rfl)
theorem qS : k2' g2 d (.err cl p L) = .err cl p L := (rfl)
theorem qT : ka fl ρ (.err cl p L) = .err cl p L := (rfl)
theorem qU : ka' d (.err cl p L) = .err cl p L := (rfl)
theorem qV : kc n m dd (.err cl p L) = .err cl p L := (rfl)
theorem qW : kset i ρ (.err cl p L) = .err cl p ρ L := (rfl)
theorem qX : kexp ρ (.err cl p L) = .err cl p ρ L := (rfl)
theorem qY : kret ρ (.err cl p L) = .err cl p ρ L := (rfl)
theorem qZ : kif f g ρ (.err cl p L) = .err cl p ρ L := (rfl)
theorem rA : ktru (.err cl p L) = .err cl p L := (rfl)
theorem rB : knot (.err cl p L) = .err cl p L := (rfl)
theorem rC : kor u ρ (.err cl p L) = .err cl p L := (rfl)
theorem rD : kand u ρ (.err cl p L) = .err cl p L := (rfl)
theorem rE : keif fa fb ρ (.err cl p L) = .err cl p L := (rfl)
theorem rF : keand fb ρ (.err cl p L) = .err cl p L := (rfl)
theorem rG : keor fb ρ (.err cl p L) = .err cl p L := (rfl)
theorem rH : kenot (.err cl p L) = .err cl p L := (rfl)
theorem rJ : asB (.err cl p L) = .err cl p L := (rfl)
theorem rK : kbm fl gb ρ (.err cl p L) = .err cl p L := (rfl)
theorem rL : kbm2 gb d (.err cl p L) = .err cl p L := (rfl)
theorem rM : ktup (.err cl p L) = .err cl p L := (rfl)
theorem rN : ktupG (.err cl p L) = .err cl p L := (rfl)
theorem rO : klst bx (.err cl p L) = .err cl p L := (rfl)
theorem rP : kmk n m dd (.err cl p L) = .err cl p L := (rfl)
theorem rQ : sRaise0 cl fa ρ L = kr0 cl ρ (fa ρ L) := (rfl)
theorem rR : kr0 cl ρ (.ok d L) = .err cl [] ρ L := (rfl)
theorem rS : sRaiseF cl fld fa ρ L = krF cl fld ρ (fa ρ L) := (rfl)
theorem rT : krF cl fld ρ (.ok d L) = .err cl [(fld, d)] ρ L := (rfl)
theorem rV : eLam TT [] fa ρ L = okR (TT (fun L' => fa ρ L') L) := (rfl)
theorem rW : okR (.ok d L) = .ok d L := (rfl)
theorem rX {ds : List D} : kfs tg f ρ (.ok ⟨ds, []⟩ L) = forGo tg f [] ds ρ L := (rfl)
theorem rY : forGo tg f [] [] ρ L = .nx ρ L := by simp [forGo]
theorem rZ {ds : List D} : forGo tg f [] (d :: ds) ρ L = kfo tg f ds (tg d ρ) L := by
  rw [forGo]
  dsimp only
  unfold kfo
  cases tg d ρ with
  | none => rfl
  | some ρ1 =>
    dsimp only
    unfold kfo2
    cases f ρ1 L with
    | nx a b => exact if_pos srcOk_nil
    | ct a b => exact if_pos srcOk_nil
    | _ => rfl
theorem sA {ds : List D} : kfo tg f ds (some ρ) L = kfo2 tg f ds (f ρ L) := (rfl)
theorem sD {ds : List D} : kfo2 tg f ds (.nx ρ L) = forGo tg f [] ds ρ L := (rfl)
theorem sE {ds : List D} : kfo2 tg f ds (.ct ρ L) = forGo tg f [] ds ρ L := (rfl)
theorem sF {ds : List D} : kfo2 tg f ds (.bk ρ L) = .nx ρ L := (rfl)
theorem sG {ds : List D} : kfo2 tg f ds (.rt d L) = .rt d L := (rfl)
theorem sH {ds : List D} : kfo2 tg f ds (.err cl p ρ L) = .err cl p ρ L := (rfl)
theorem sJ {x : Option D} : (x :: ρ)[0]? = some x := (rfl)
theorem sK {x : Option D} : (x :: ρ)[i + 1]? = ρ[i]? := (rfl)
theorem sL {gg g' : D → D → Sto → Res D} {fc : EF} : eChain gg g' fa fb fc ρ L = kch gg g' fb fc ρ (fa ρ L) := (rfl)
theorem sM {gg g' : D → D → Sto → Res D} {fc : EF} : kch gg g' fb fc ρ (.ok d L) = kch2 gg g' d fc ρ (fb ρ L) := (rfl)
theorem sN {gg g' : D → D → Sto → Res D} {fc : EF} : kch2 gg g' d fc ρ (.ok e L) = kch3 g' e fc ρ (asB (gg d e L)) := (rfl)
theorem sO {g' : D → D → Sto → Res D} {fc : EF} : kch3 g' e fc ρ (.ok b L) = if b = true then kch4 g' e (fc ρ L) else .ok (.bl false) L := (rfl)
theorem sP {g' : D → D → Sto → Res D} : kch4 g' e (.ok d L) = g' e d L := (rfl)
theorem takeOk_self : TakeOk L L := ⟨Nat.le_refl _, fun _ _ _ e => .inl e⟩
theorem x_drop (h : belF L.length p = true) : dropR L (.err cl p L) = .err cl p L := by
  rw [dropR_err takeOk_self h, List.take_length]
theorem sQ : dropR L (.err cl [] L) = .err cl [] L := x_drop rfl
theorem x_drop1 (h : ∀ n, d.bel n = true) : dropR L (.err cl [(fld, d)] L) = .err cl [(fld, d)] L := x_drop (and2' (h _) rfl)
end
def Told (t : Str) (d : D) (s : Str) : Prop := PyData.strOk s = true ∧ ∃ r : Str, (∀ L, gRepr [d] L = .ok (.str r) L) ∧ ∀ L, gAdd (.str t) (.str r) L = .ok (.str s) L
theorem told_of {t : Str} {d : D} {p : PyData} (h : toPy d = some p) (hn : ∀ L, seen L d = d) (h1 : p.showable = true) (h2 : p.hasDict = false) (h3 : p.shown.length ≤ 1000) (h4 : p.depth ≤ 50) (ht : t.length ≤ 1000) (ok : PyData.strOk (t ++ p.shown) = true) : Told t d (t ++ p.shown) := by
  refine ⟨ok, p.shown, fun L => ?_, fun L => if_pos (by omega)⟩
  show gRepr1 d L = _
  unfold gRepr1
  rw [hn, h]
  exact if_pos ⟨h1, h2, by omega, h4⟩
def intFine (t : Str) (i : Int) : Bool := (PyData.int i).showable && !(PyData.int i).hasDict && decide ((PyData.int i).shown.length ≤ 1000) && decide ((PyData.int i).depth ≤ 50) && PyData.strOk (t ++ (PyData.int i).shown)
theorem told_int {t : Str} {i : Int} (ht : t.length ≤ 1000) (h : intFine t i = true) : ∃ s, Told t (.int i) s := by
  unfold intFine at h
  simp only [Bool.and_eq_true, decide_eq_true_eq, Bool.not_eq_true'] at h
  obtain ⟨⟨⟨⟨h1, h2⟩, h3⟩, h4⟩, h5⟩ := h
  exact ⟨_, told_of (p := .int i) rfl (fun _ => rfl) h1 h2 h3 h4 ht h5⟩
theorem ok_strs {n : Nat} : ∀ {ss : List Str}, (∀ s ∈ ss, PyData.strOk s = true) → okDL n (ss.map .str) = true
  | [], _ => by simp [okDL]
  | s :: ss, h => by
    rw [List.map_cons, okDL]
    exact and2' (by cases n <;> exact h s (List.mem_cons_self)) (ok_strs fun z hz => h z (List.mem_cons_of_mem _ hz))
theorem eqDL_same : ∀ ds : List D, (∀ d ∈ ds, eqD d d = true) → eqDL ds ds = true
  | [], _ => rfl
  | d :: ds, h => and2' (h d (List.mem_cons_self)) (eqDL_same ds fun z hz => h z (List.mem_cons_of_mem _ hz))
theorem eqD_str (s : Str) : eqD (.str s) (.str s) = true := beq_self_eq_true s
theorem gEq_strsL {L : Sto} {ss : List Str} (h : ∀ s ∈ ss, PyData.strOk s = true) : gEq (.lst (ss.map .str)) (.lst (ss.map .str)) L = .ok (.bl true) L := by
  have o : okD 60 (.lst (ss.map .str)) = true := by rw [okD]; exact ok_strs h
  rw [gEq_ev (by rw [seen_lst]; exact o) (by rw [seen_lst]; exact o), seen_lst, eqD, eqDL_same _ fun d hd => by
    obtain ⟨s, _, rfl⟩ := List.mem_map.mp hd
    exact eqD_str s]
theorem gNe_strsL {L : Sto} {ss : List Str} (h : ∀ s ∈ ss, PyData.strOk s = true) : gNe (.lst (ss.map .str)) (.lst (ss.map .str)) L = .ok (.bl false) L := by
  have o : okD 60 (.lst (ss.map .str)) = true := by rw [okD]; exact ok_strs h
  rw [gNe_ev (by rw [seen_lst]; exact o) (by rw [seen_lst]; exact o), seen_lst, eqD, eqDL_same _ fun d hd => by
    obtain ⟨s, _, rfl⟩ := List.mem_map.mp hd
    exact eqD_str s]
  rfl
section
variable {A : Sto} {xs ys : List D} {d : D}
theorem z_get : (A ++ [d])[A.length]? = some d := by simp
theorem z_isL : isL (A ++ [D.lst xs]) (.loc A.length) = true := isL_loc z_get
theorem z_app (h : xs.length < 16777216) : gAppend (.loc A.length) [d] (A ++ [.lst xs]) = .ok .non (A ++ [.lst (xs ++ [d])]) := by
  rw [gAppend_ev z_get h, List.set_append_right _ _ (Nat.le_refl _), Nat.sub_self]
  rfl
end
section
variable {tg : GF} {body : SF} {x : D} {xs : List D} {ρ ρ1 ρ2 : Env'} {L L2 : Sto} {it : IF}
theorem for_at (h : it ρ L = .ok ⟨xs, []⟩ L) : sFor it tg body ρ L = forGo tg body [] xs ρ L := by
  unfold sFor
  rw [h]
end
theorem z_mulL {d : D} {n : Nat} {L : Sto} (hn : n ≤ 1000) : gMul (.lst [d]) (.int (n : Int)) L = .ok (.lst (List.replicate n d)) L := by
  have e : gMul (.lst [d]) (.int (n : Int)) L = if -(2 ^ 63) ≤ (n : Int) ∧ (n : Int) < 2 ^ 63 ∧ [d].length * (n : Int).toNat ≤ 16777216 then .ok (.lst (List.replicate (n : Int).toNat [d]).flatten) L else .bad := (rfl)
  rw [e, if_pos ⟨by omega, by omega, by rw [List.length_singleton, Nat.one_mul, Int.toNat_natCast]; omega⟩, Int.toNat_natCast, flat_rep]
theorem z_newT {xs : List D} {L : Sto} (h : xs.length ≤ 16777216) : newT xs L = .ok (.tup xs) L := if_pos h
def sPar3 (i j l : Nat) (fl : AF) : SF := fun ρ L => match fl ρ L with
  | .ok [d, e, f] L1 => .nx (((ρ.set i (some d)).set j (some e)).set l (some f)) L1
  | .err c p L1 => .err c p ρ L1
  | _ => .bad
def kpar3 (i j l : Nat) (ρ : Env') (r : Res (List D)) : SRes := match r with
  | .ok [d, e, f] L1 => .nx (((ρ.set i (some d)).set j (some e)).set l (some f)) L1
  | .err c p L1 => .err c p ρ L1
  | _ => .bad
theorem sT {i j l : Nat} {fl : AF} {ρ : Env'} {L : Sto} : sPar3 i j l fl ρ L = kpar3 i j l ρ (fl ρ L) := by unfold sPar3 kpar3; rfl
theorem sU {i j l : Nat} {ρ : Env'} {L : Sto} {d e f : D} : kpar3 i j l ρ (.ok [d, e, f] L) = .nx (((ρ.set i (some d)).set j (some e)).set l (some f)) L := (rfl)
def gFmt (d : D) (L : Sto) : Res D := match d with
  | .str y => if y.length ≤ 1000 then .ok (.str y) L else .bad
  | .int i => if i.natAbs < 1000000 then .ok (.str (toString i)) L else .bad
  | _ => .bad
theorem le_line {n : Nat} (h : n ≤ 1000) : n ≤ sizeLine := Nat.le_trans h (by rw [sizeLine_eq]; decide)
def eJoin : List EF → Str → EF
  | [], acc => fun _ L => .ok (.str acc) L
  | f :: fs, acc => fun ρ L => (f ρ L).bind fun d L1 => match d with
    | .str y => if (acc ++ y).length ≤ 1000 then eJoin fs (acc ++ y) ρ L1 else .bad
    | _ => .bad
inductive SJ (S : Sc) (W : WX) : List Expr → List EF → Prop where
  | nil : SJ S W [] []
  | cons {e : Expr} {f : EF} {es : List Expr} {fs : List EF} (h : SE S W e f) (r : SJ S W es fs) : SJ S W (e :: es) (f :: fs)
section
variable {S : Sc} {W : WX} {a : Expr} {fa : EF} {pos : Pos}
theorem se_fmt (ha : SE S W a fa) : SE S W (.FormattedValue a (-1) none pos) (e1 gFmt fa) := fun X h => by
  refine PE.imp (pe_fmt (ha X h)) fun σ H Q ⟨w, ρ, L, R, e, p⟩ => ?_
  refine ⟨w, ρ, L, R, e, (Post.bind (rel := Den S.g) p).imp (fun v H1 ⟨w1, d, L1, l1, R1, d1, p1⟩ => ?_) fun _ _ _ z => z⟩
  unfold gFmt at p1
  split at p1
  · split at p1
    · rename_i y hy
      cases d1
      exact .inl ⟨y, rfl, le_line hy, p1.ok (Wd.le.refl w1) R1 (.str y)⟩
    · exact p1.elim
  · split at p1
    · rename_i i hi
      cases d1
      refine .inr ⟨i, rfl, ?_, p1.ok (Wd.le.refl w1) R1 (.str _)⟩
      by_cases hz : i.natAbs = 0
      · rw [hz]; decide
      · exact Nat.lt_trans ((Nat.log2_lt hz).mpr (Nat.lt_trans hi (by decide : 1000000 < 2 ^ 20))) (by decide)
    · exact p1.elim
  · exact p1.elim
theorem sj_pj {X : Cx} (h : S.Has W X) : ∀ {es : List Expr} {fs : List EF}, SJ S W es fs → PJ X es (fs.map fun f => tR S.g (Den S.g) W f)
  | _, _, .nil => .nil
  | _, _, .cons a r => .cons (a X h) (sj_pj h r)
theorem join_post {σ : L2.St} {ρ : Env'} : ∀ (fs : List EF) (acc : Str) (w : Wd) (L : Sto) (H : Hp) (Q : VK), Rel S.g w L H → EnvR S.g w σ ρ → Post S.g (Den S.g) w (eJoin fs acc ρ L) Q (fun c dx H' => W c dx σ H') →
    tJs (fs.map fun f => tR S.g (Den S.g) W f) acc σ H fun out H1 => Q (.str out) H1
  | [], acc, w, L, H, Q, R, _, p => p.ok (Wd.le.refl w) R (.str acc)
  | f :: fs, acc, w, L, H, Q, R, e, p => by
    refine ⟨w, ρ, L, R, e, (Post.bind (rel := Den S.g) p).imp (fun v H1 ⟨w1, d, L1, l1, R1, d1, p1⟩ => ?_) fun _ _ _ z => z⟩
    split at p1
    · rename_i y
      split at p1
      · rename_i hy
        cases d1
        exact ⟨y, rfl, le_line hy, join_post fs (acc ++ y) w1 L1 H1 Q R1 (e.le l1) p1⟩
      · exact p1.elim
    · exact p1.elim
theorem se_join {v1 v2 : Expr} {rest : List Expr} {fs : List EF} (h : SJ S W (v1 :: v2 :: rest) fs) : SE S W (.JoinedStr (v1 :: v2 :: rest) pos) (eJoin fs Str.empty) := fun X hX =>
  PE.imp (pe_joined (sj_pj hX h)) fun σ H Q ⟨w, ρ, L, R, e, p⟩ => join_post fs Str.empty w L H Q R e p
end
def ItT (t it : Addr) (i : Nat) : HO := .ext fun h => IsTupIter h it t i
def QIt (s : Shared) (H : Hp) (t : Addr) : VK := fun v H' => ∃ it, v = .ref it ∧ s.heap.objs.size ≤ it ∧ H it = none ∧ H' = upd H it (ItT t it 0)
def noE : XK := fun _ _ _ => False
structure ItIs (G : Gb) (c fld : Str) (k : Nat) : Prop where
  ex : ∃ (C f : Addr) (fd : FuncData) (p : Str), G.mg c = some (.ref C) ∧ PySem.W.findIn G.K (.ref C) "__iter__" = some (some (.ref f)) ∧ PySem.W.isFn G.K (.ref f) = true ∧ Binds G.K fd [p] [] ∧
    ∀ (A : Around) (outer : List Env) (s : Shared) (H : Hp) (args : Args) (us : List Value) (a dx t : Addr) (fs : List (Str × V)) (xs : List V), Room k A → Env0 G.P G.w G.K G.mg G.base A outer s H → BindsTo s fd args ([p].zip us) → Vals [.ref a] us →
      H a = some (.ins C dx fs) → fs.lookup fld = some (.ref t) → SqT G.K H t xs → codeAny (model G.P G.w) A (.call (.ref f) args) (CR (L2.CX G.P G.w) outer G.P G.w H s (QIt s H t) noE) s
section
variable {X : Cx} {pins : List (Addr × Obj)} {σ : L2.St} {H : Hp} {s : Shared} {a b : Addr} {A : Around} {E : Value → Shared → Prop}
theorem Inv.toT (I : Inv X pins σ H s) (e : H a = some (.dK [])) : Inv X pins σ (upd H a (.dT [])) s := by
  obtain ⟨z, hd, vs, rel, o, es, ep, ho, hx, hdt, hk, hp, hn⟩ := dk_of I.hok e
  have hv : vs = [] := by
    have hq := rel.length
    exact List.length_eq_zero_iff.mp hq.symm
  subst hv
  have he : es.toList = [] := List.length_eq_zero_iff.mp (by have hq := hp.length; simpa using hq)
  exact d_write (h' := s.heap) (t' := s.toks) (ob := .dT []) I (by rw [e]; exact True.intro) ⟨rfl, fun _ _ => rfl⟩ ⟨o, ho⟩ ⟨Nat.zero_le _, hd, [], .nil, o, es, ep, ho, hx, hdt, by rw [he]; rfl, List.nodup_nil⟩
def AtT (H : Hp) (a : Addr) (kvs : List (List Key × V)) : Prop := H a = some (.dT kvs) ∨ H a = some (.dK []) ∧ kvs = []
theorem upd2 {H : Hp} {a : Addr} {o p : HO} : upd (upd H a o) a p = upd H a p := by
  funext c
  by_cases z : c = a
  · subst z; rw [upd_same, upd_same]
  · rw [upd_ne z, upd_ne z, upd_ne z]
theorem AtT.inv {kvs : List (List Key × V)} (I : Inv X pins σ H s) (h : AtT H a kvs) : ∃ H', Inv X pins σ H' s ∧ H' a = some (.dT kvs) ∧ (∀ c u, (∀ ks, u ≠ .dK ks) → H c = some u → H' c = some u) ∧ ∀ o, upd H' a o = upd H a o := by
  rcases h with h | ⟨h, rfl⟩
  · exact ⟨H, I, h, fun _ _ _ e => e, fun _ => rfl⟩
  · refine ⟨_, Inv.toT I h, upd_same, fun c u n e => ?_, fun _ => upd2⟩
    by_cases z : c = a
    · subst z
      rw [h] at e
      cases e
      exact absurd rfl (n [])
    · rw [upd_ne z]; exact e
end
def kI (k : List Int) : List Key := k.map Sum.inl
section
variable {X : Cx} {pins : List (Addr × Obj)} {σ : L2.St} {H : Hp} {s : Shared} {a b : Addr}
theorem keyI_of {k : List Int} (I : Inv X pins σ H s) (h : SqT X.K H b (k.map V.int)) : (tupleKind (mixKind X.prog X.w)).is s.heap (kI k) b := by
  obtain ⟨its, r, ⟨o, e, hc, n, d⟩, _⟩ := I.tuple h
  have r' : Vals ((kI k).map kV) its := by unfold kI; rw [List.map_map]; exact r
  exact ⟨o, its.toArray, n, e, hc, d, by simpa using items_are r'⟩
theorem dp_addr {P : Program} {w : World} {H : Hp} {h : Heap} {a a' : Addr} {xs : List (List Key × Addr × Value)} (x : ObjOk P w H h a (dpO P w a' xs)) : a' = a := by
  obtain ⟨p, _, st⟩ := x
  by_cases hne : a' = a
  · exact hne
  · exfalso
    obtain ⟨_, _, _, o, es, ep, e1, e2, e3, _⟩ := st h { h with objs := h.objs.setIfInBounds a' { cls := .none, data := .fields #[] } } p fun o q => by
      unfold Heap.get? at q ⊢
      dsimp only
      rw [Array.getElem?_setIfInBounds, if_neg hne]
      exact q
    unfold Heap.get? at e1
    dsimp only at e1
    rw [Array.getElem?_setIfInBounds, if_pos rfl] at e1
    by_cases hlt : a' < h.objs.size
    · rw [if_pos hlt] at e1
      injection e1 with e1
      subst e1
      cases e3
    · rw [if_neg hlt] at e1
      cases e1
theorem dpO_ok {P : Program} {w : World} {H : Hp} {h : Heap} {xs : List (List Key × Addr × Value)} (e : DpAt P w a xs h) : ObjOk P w H h a (dpO P w a xs) :=
  ⟨e, by obtain ⟨_, _, _, o, _, _, q, _⟩ := e; exact ⟨o, q⟩, fun h1 h2 ⟨q1, q2, q3, o, es, ep, q4, q5⟩ k => ⟨q1, q2, q3, o, es, ep, k _ q4, q5⟩⟩
end
end DS
set_option Elab.async false
set_option linter.all false
set_option maxRecDepth 100000
set_option maxHeartbeats 4000000
namespace L2
open PySem PySem.Spec PyProof.Rows
section
variable {X : Cx}
end
end L2
namespace DS
open PySem PySem.Spec L2
open PyProof.Rows hiding St
section
variable {S : Sc} {W : WX} {elt tg iter tg1 iter1 kx vx : Expr} {ifs ifs1 : List Expr} {f fk fv : EF} {pos : Pos}
end
structure FnKw (gd : Bool) (G : Gb) (x : Str) (n k : Nat) (nm : Str) (m : List D → Sto → Res D) (dd : D) : Prop where
  ex : ∃ (f : Addr) (fd : FuncData) (ps : List Str) (ds : List Value) (dvs : List V), G.mg x = some (.ref f) ∧ PySem.W.keepIn G.K (.ref f) = true ∧ Binds G.K fd ps ds ∧ Vals dvs ds ∧ (∀ w, DenL G w dvs [dd]) ∧
    KBn G.K fd ps n [nm] (fun us ws => us ++ ws) (fun vs zs => vs ++ zs) ∧ FnX gd G.P G.w G.K G.mg G.base (L2.CX G.P G.w) k f fd ps (spD G (n + 1) m)
theorem FnKw.is {gd : Bool} {G : Gb} {x : Str} {n k : Nat} {nm : Str} {m : List D → Sto → Res D} {dd : D} (F : FnKw gd G x n k nm m dd) : FnIs gd G x (n + 1) k m [dd] :=
  let ⟨f, fd, ps, ds, dvs, h1, h2, h3, h4, h5, _, h7⟩ := F.ex
  ⟨f, fd, ps, ds, dvs, h1, h2, h3, h4, h5, h7⟩
structure FnSt (G : Gb) (x : Str) (j k : Nat) (m : List D → Sto → Res D) : Prop where
  ex : ∃ f : Addr, G.mg x = some (.ref f) ∧ PySem.W.keepIn G.K (.ref f) = true ∧
    FnR G.P G.w G.K G.mg G.base (L2.CX G.P G.w) k f (fun vs H Q E => ∃ ws rest, vs = ws ++ rest ∧ ws.length = j ∧ rest.length ≤ sizeLine ∧ ∀ p, H p = Option.none → spD G (j + 1) m (ws ++ [V.ref p]) (upd H p (.tup rest)) Q E)
end DS
set_option Elab.async false
set_option linter.all false
set_option maxRecDepth 100000
set_option maxHeartbeats 4000000
namespace HT
open PySem PySem.Spec PyProof.Rows L2
end HT
namespace L2
open PySem PySem.Spec PyProof.Rows
end L2
namespace DS
open PySem PySem.Spec L2
open PyProof.Rows hiding St
section
variable {prog : Program} {w : World} {A : Around} {E : Value → Shared → Prop} {s : Shared} {h₀ : Heap} {L r : Addr} {m : Str → Option Value} {news : List (Addr × Obj)} {lo hi : Int} {n : Nat} {t u v : Tok} {Q : Value → Shared → Prop}
end
theorem PE.lock {X : Cx} {e : Expr} {t : TE} (h : PE X e t) : PE X e (fun σ H Q => t σ H fun v H1 => ∃ (a : Addr) (u : HO), v = .ref a ∧ H1 a = some u ∧ Mut (some u) ∧ ∀ od, Q v (upd H1 a (.frz od u))) :=
  ⟨fun pins s σ H Q I q => thn (h.run pins s σ H _ I q) fun x s1 ⟨v, H1, I1, r, a, u, ev, ha, mu, k⟩ => by
    obtain ⟨od, I2⟩ := I1.lock ha mu
    exact ⟨v, _, I2, r, k od⟩⟩
end DS
set_option Elab.async false
set_option linter.all false
set_option maxRecDepth 100000
set_option maxHeartbeats 4000000
namespace PySem.W
open PySem
section
variable {A : Around} {E : Value → Shared → Prop} {s : Shared} {K : Frag} {x C f : Addr} {ox : Obj} {od : Option Obj} {prog : Program} {w : World}
end
end PySem.W
namespace DS
open PySem PySem.Spec L2
open PyProof.Rows hiding St
section
variable {X : Cx} {gd : Bool} {k : Nat} {C f : Addr} {fd : FuncData} {ps : List Str} {sp : Sp} {pins : List (Addr × Obj)} {σ : L2.St} {H : Hp} {s : Shared} {E : L2.St → XK}
end
structure RopC (G : Gb) (c : Str) (nm : String) : Prop where
  ex : ∃ (C : Addr) (rc : Option Value), G.mg c = some (.ref C) ∧ PySem.W.findIn G.K (.ref C) (dunderR nm) = some rc ∧ (rc = none ∨ ∃ g : Addr, rc = some (.ref g))
end DS
set_option Elab.async false
set_option linter.all false
set_option maxRecDepth 100000
set_option maxHeartbeats 4000000
namespace L2
open PySem PySem.Spec PyProof.Rows
def FrT (H : Hp) (d : Addr) (o : Obj) (kvs : List (List Key × V)) : Prop := H d = some (.frz o (.dT kvs)) ∨ (kvs = [] ∧ H d = some (.frz o (.dK [])))
theorem FrT.of {H H' : Hp} {d : Addr} {o : Obj} {kvs : List (List Key × V)} (h : FrT H d o kvs) (e : ∀ x, H d = some x → H' d = some x) : FrT H' d o kvs := by
  rcases h with h | ⟨h1, h2⟩
  · exact .inl (e _ h)
  · exact .inr ⟨h1, e _ h2⟩
end L2
namespace DS
open PySem PySem.Spec L2
open PyProof.Rows hiding St
theorem DenT.getD {G : Gb} {w : Wd} : ∀ {vs : List (List Key × V)} {ds : List (List Key × D)}, DenT G w vs ds → vs.length = ds.length ∧ ∀ (i : Nat) (kd : List Key × D), ds[i]? = some kd → ∃ v, vs[i]? = some (kd.1, v) ∧ Den G w v kd.2
  | _, _, .nil => ⟨rfl, fun i kd e => by simp at e⟩
  | _, _, .cons a t => by
    obtain ⟨h1, h2⟩ := DenT.getD t
    refine ⟨by rw [List.length_cons, List.length_cons, h1], fun i kd e => ?_⟩
    cases i with
    | zero => simp at e; subst e; exact ⟨_, rfl, a⟩
    | succ i => simpa using h2 i kd (by simpa using e)
end DS
set_option Elab.async false
set_option linter.all false
set_option maxRecDepth 100000
set_option maxHeartbeats 4000000
namespace PySem.W
open Lean Elab Tactic Meta PySem PySem.Calls PyProof.Rows PyProof.V PySem.Spec
section
variable {prog : Program} {w : World} {K : Type} [DecidableEq K] {knd : HeapKind prog w K} {A : Around} {E : Value → Shared → Prop} {s : Shared}
end
end PySem.W
namespace L2
open PySem PySem.Spec PyProof.Rows
end L2
set_option Elab.async false
set_option linter.all false
set_option maxRecDepth 100000
set_option maxHeartbeats 4000000
namespace DS
open PySem PySem.Spec L2
open PyProof.Rows hiding St
end DS
set_option Elab.async false
set_option linter.all false
set_option maxRecDepth 100000
set_option maxHeartbeats 4000000
namespace PySem.W
open Lean Elab Tactic Meta PySem PySem.Calls PyProof.Rows PyProof.V PySem.Spec
end PySem.W
namespace L2
open PySem PySem.Spec PyProof.Rows
section
variable {X : Cx}
end
end L2
namespace DS
open PySem PySem.Spec L2
open PyProof.Rows hiding St
end DS
set_option Elab.async false
set_option linter.all false
set_option maxRecDepth 100000
set_option maxHeartbeats 4000000
namespace L2
open PySem PySem.Spec PyProof.Rows
end L2
set_option Elab.async false
set_option linter.all false
set_option maxRecDepth 100000
set_option maxHeartbeats 4000000
namespace DS
open PySem PySem.Spec L2
open PyProof.Rows hiding St
end DS
set_option Elab.async false
set_option linter.all false
set_option maxRecDepth 100000
set_option maxHeartbeats 4000000
namespace L2
open PySem PySem.Spec PyProof.Rows
end L2
set_option Elab.async false
set_option linter.all false
set_option maxRecDepth 100000
set_option maxHeartbeats 4000000
namespace L2
open PySem PySem.Spec PyProof.Rows
end L2
namespace DS
open PySem PySem.Spec L2
open PyProof.Rows hiding St
end DS
set_option Elab.async false
set_option linter.all false
set_option maxRecDepth 100000
set_option maxHeartbeats 4000000
namespace GnX
open PySem PySem.Spec PyProof.Rows L2
abbrev gCx (X : Cx) (A : Around) (s : Shared) (H : Hp) (cenv : Env) (fp : List Addr) : Cx :=
  { X with A := A, s_0 := s, H_0 := H, env := cenv, outer := X.stack, stack := cenv :: X.stack, ex := fp, fn := fun _ => false, calm := true, pn := [], xe := fun _ _ => False }
section
variable {X : Cx} {σ : L2.St}
end
section
variable {prog : Program} {w : World} {A : Around} {E : Value → Shared → Prop} {s : Shared}
end
end GnX
namespace GnX
open PySem PySem.Spec PyProof.Rows L2
section
variable {X : Cx}
end
end GnX
namespace DS
open PySem PySem.Spec L2
open PyProof.Rows hiding St
theorem Sc.Has.gen {S : Sc} {W : WX} {X : Cx} (h : S.Has W X) {scope : Scope} {kb : Nat} {A : Around} {s : Shared} {H : Hp} {cenv : Env} {fp : List Addr} (e : cenv.scope = scope) (hr : Room kb A) (hg : A.guards = X.A.guards) : (S.lam scope kb).Has W0 (GnX.gCx X A s H cenv fp) where
  P := h.P
  w := h.w
  K := h.K
  mg := h.mg
  base := h.base
  N := h.N
  sc := e.symm
  fn := rfl
  calm := rfl
  room := hr
  gd := fun z => hg.trans (h.gd z)
  top := fun z => nomatch z
  lm := fun _ z => nomatch z
  takes := fun u s' ⟨_, _, _, _, _, _, _, _, _, _, _, _, _, _, _, _, w⟩ => w.elim
  passes := PassesOwn.never
end DS
set_option Elab.async false
set_option linter.all false
set_option maxRecDepth 100000
set_option maxHeartbeats 4000000
namespace PySem.W
open Lean Elab Tactic Meta PySem PySem.Calls PyProof.Rows PyProof.V PySem.Spec
end PySem.W
namespace L2
open PySem PySem.Spec PyProof.Rows
end L2
namespace DS
open PySem PySem.Spec L2
open PyProof.Rows hiding St
abbrev XsP := List (List Key × Addr × Value)
theorem nd_le {α : Type} [DecidableEq α] : ∀ {xs ys : List α}, xs.Nodup → (∀ x ∈ xs, x ∈ ys) → xs.length ≤ ys.length
  | [], _, _, _ => Nat.zero_le _
  | x :: xs, ys, hn, h => by
    obtain ⟨h1, h2⟩ := List.nodup_cons.mp hn
    have hx := h x List.mem_cons_self
    have := nd_le (ys := ys.erase x) h2 fun z hz => (List.mem_erase_of_ne fun e => h1 (by rw [← e]; exact hz)).mpr (h z (List.mem_cons_of_mem _ hz))
    rw [List.length_erase_of_mem hx] at this
    have := List.length_pos_of_mem hx
    rw [List.length_cons]
    omega
section
variable {X : Cx} {pins : List (Addr × Obj)} {σ : L2.St} {H : Hp} {s : Shared} {a b : Addr} {A : Around} {E : Value → Shared → Prop}
theorem Inv.toP (I : Inv X pins σ H s) (e : H a = some (.dK [])) : Inv X pins σ (upd H a (dpO X.prog X.w a [])) s := by
  obtain ⟨z, hd, vs, rel, o, es, ep, ho, hx, hdt, hk, hp, hn⟩ := dk_of I.hok e
  have hv : vs = [] := by
    have hq := rel.length
    exact List.length_eq_zero_iff.mp hq.symm
  subst hv
  have he : es.toList = [] := List.length_eq_zero_iff.mp (by have hq := hp.length; simpa using hq)
  exact d_write (h' := s.heap) (t' := s.toks) (ob := dpO X.prog X.w a []) I (by rw [e]; exact True.intro) ⟨rfl, fun _ _ => rfl⟩ ⟨o, ho⟩ (dpO_ok ⟨hd, Nat.zero_le _, List.nodup_nil, o, es, ep, ho, hx, hdt, by rw [he]; rfl⟩)
def AtP (P : Program) (w : World) (H : Hp) (a : Addr) (xs : XsP) : Prop := (∃ a', H a = some (dpO P w a' xs)) ∨ H a = some (.dK []) ∧ xs = []
theorem AtP.inv {xs : XsP} (I : Inv X pins σ H s) (h : AtP X.prog X.w H a xs) : ∃ H', Inv X pins σ H' s ∧ H' a = some (dpO X.prog X.w a xs) ∧ (∀ c u, (∀ ks, u ≠ .dK ks) → H c = some u → H' c = some u) ∧ ∀ o, upd H' a o = upd H a o := by
  rcases h with ⟨a', h⟩ | ⟨h, rfl⟩
  · obtain rfl : a = a' := (dp_addr (I.hok a _ h)).symm
    exact ⟨H, I, h, fun _ _ _ e => e, fun _ => rfl⟩
  · refine ⟨_, Inv.toP I h, upd_same, fun c u n e => ?_, fun _ => upd2⟩
    by_cases z : c = a
    · subst z
      rw [h] at e
      cases e
      exact absurd rfl (n [])
    · rw [upd_ne z]; exact e
theorem sqT_keep {K : PySem.W.Frag} {H H' : Hp} {b : Addr} {vs : List V} (keep : ∀ c u, (∀ ks, u ≠ HO.dK ks) → H c = some u → H' c = some u) (h : SqT K H b vs) : SqT K H' b vs :=
  h.elim (fun r => .inl (r.elim (fun e => .inl (keep _ _ (fun _ z => nomatch z) e)) fun ⟨o, e⟩ => .inr ⟨o, keep _ _ (fun _ z => nomatch z) e⟩)) .inr
structure RowsD (K : PySem.W.Frag) (P : Program) (w : World) (H : Hp) (a : Addr) (ks : List (List Int)) (xs : XsP) : Prop where
  at_ : AtP P w H a xs
  of : ∀ x ∈ xs, ∃ k ∈ ks, x.1 = kI k ∧ SqT K H x.2.1 (k.map V.int)
  few : ks.length < sizeLine
theorem RowsD.go {ks : List (List Int)} {xs : XsP} (I : Inv X pins σ H s) (r : RowsD X.K X.prog X.w H a ks xs) : ∃ H', Inv X pins σ H' s ∧ H' a = some (dpO X.prog X.w a xs) ∧ (∀ o, upd H' a o = upd H a o) ∧ (a == sysModules) = false ∧ xs.length < sizeLine ∧ s.heap.DictOfH (tupleKind (mixKind X.prog X.w)) a xs ∧ ∀ {c : Addr} {vs : List V}, SqT X.K H c vs → SqT X.K H' c vs := by
  obtain ⟨H', I', e', keep, up⟩ := r.at_.inv I
  obtain ⟨⟨hd, hz, nd, o, es, ep, e1, e2, e3, e4⟩, _, _⟩ := I'.hok a _ e'
  refine ⟨H', I', e', up, hd, ?_, ⟨o, es, ep, e1, e2, e3, e4, fun x hx => ?_, nd⟩, fun h => sqT_keep keep h⟩
  · have h1 := nd_le (ys := ks.map kI) nd fun k hk => by
      obtain ⟨x, hx, rfl⟩ := List.mem_map.mp hk
      obtain ⟨k', m, e, _⟩ := r.of x hx
      rw [e]
      exact List.mem_map_of_mem m
    rw [List.length_map, List.length_map] at h1
    have := r.few
    omega
  · obtain ⟨k', _, e, q⟩ := r.of x hx
    rw [e]
    exact keyI_of I' (sqT_keep keep q)
end
section
variable {X : Cx}
theorem AtP.ty {pins : List (Addr × Obj)} {σ : L2.St} {H : Hp} {s : Shared} {a : Addr} {xs : XsP} (I : Inv X pins σ H s) (h : AtP X.prog X.w H a xs) :
    s.TypeIs (.ref a) "dict" ∧ (∀ b, Value.ref a = .ref b → ∃ ob, s.heap.get? b = some ob ∧ ob.dict = none) ∧ (a == sysModules) = false := by
  obtain ⟨H', I', e', _, _⟩ := h.inv I
  obtain ⟨⟨hd, _, _, o, es, ep, e1, e2, e3, _⟩, _, _⟩ := I'.hok a _ e'
  refine ⟨⟨o, e1, e2.1⟩, fun b q => ?_, hd⟩
  cases q
  exact ⟨o, e1, e2.2.1⟩
end
theorem DenL.erase {G : Gb} {w : Wd} : ∀ {vs : List V} {ds : List D} (j : Nat), DenL G w vs ds → DenL G w (vs.eraseIdx j) (ds.eraseIdx j)
  | _, _, _, .nil => .nil
  | _, _, 0, .cons h t => t
  | _, _, j + 1, .cons h t => .cons h (DenL.erase j t)
end DS
set_option Elab.async false
set_option linter.all false
set_option maxRecDepth 100000
set_option maxHeartbeats 4000000
namespace LamP
open PySem PySem.Spec PyProof.Rows L2 LamX
section
variable {X : Cx} {pins : List (Addr × Obj)} {σ : L2.St} {H : Hp} {s : Shared}
end
end LamP
set_option Elab.async false
set_option linter.all false
set_option maxRecDepth 100000
set_option maxHeartbeats 4000000
namespace LamP
open PySem PySem.Spec PyProof.Rows L2 LamX
section
variable {X : Cx} {pins : List (Addr × Obj)} {σ : L2.St} {s : Shared} {l It S f : Addr} {xs : List V} {kf : Nat → Int} {Wj : Hp → Prop} {oF : Obj} {R : Result → Shared → Prop}
end
end LamP
set_option Elab.async false
set_option linter.all false
set_option maxRecDepth 100000
set_option maxHeartbeats 4000000
namespace LamP
open PySem PySem.Spec PyProof.Rows L2 LamX
end LamP
namespace DS
open PySem PySem.Spec L2
open PyProof.Rows hiding St
def gSplit (box : Bool) (d e : D) (L : Sto) : Res D := match d, e with
  | .str a, .str b => if b.length ≠ 0 ∧ a.length ≤ 10000 then lstOut box ((Txt.split a b).map D.str) L else .bad
  | _, _ => .bad
def dStrs : List D → Option (List Str)
  | [] => some []
  | .str y :: ds => (dStrs ds).map (y :: ·)
  | _ :: _ => none
def gJoinS (d e : D) (L : Sto) : Res D := match d with
  | .str a => (match seqOf L e with
    | some (xs, _) => (match dStrs xs with
      | some ys => if (ys.map (·.length)).sum + ys.length * a.length ≤ 10000 then .ok (.str (Txt.join a ys)) L else .bad
      | none => .bad)
    | none => .bad)
  | _ => .bad
theorem DenL.strs {G : Gb} {w : Wd} : ∀ {vs : List V} {ds : List D} {ys : List Str}, DenL G w vs ds → dStrs ds = some ys → vs = ys.map V.str
  | _, _, _, .nil, h => by cases h; rfl
  | _, _, _, @DenL.cons _ _ v d vs ds hd hr, h => by
    cases d with
    | str y =>
      unfold dStrs at h
      obtain ⟨zs, h1, rfl⟩ := Option.map_eq_some_iff.mp h
      cases hd
      rw [hr.strs h1]
      rfl
    | _ => cases h
theorem DenL.ofStrs {G : Gb} {w : Wd} : ∀ ys : List Str, DenL G w (ys.map V.str) (ys.map D.str)
  | [] => .nil
  | y :: ys => .cons (.str y) (DenL.ofStrs ys)
def isStr : D → Bool
  | .str _ => true
  | _ => false
theorem line10 {n : Nat} (h : n ≤ 10000) : n + 2 ≤ sizeLine := by
  rw [sizeLine_eq]; omega
def eM1 (fa fb : EF) (g : D → D → Sto → Res D) : EF := fun ρ L => (fa ρ L).bind fun d L1 => if isStr d = true then (fb ρ L1).bind fun e L2 => g d e L2 else .bad
section
variable {S : Sc} {W : WX} {a b : Expr} {fa fb : EF} {pos p apos : Pos}
theorem tM1_of {r : V → List V → Hp → VK → Prop} {g : D → D → Sto → Res D} (hr : ∀ (w : Wd) (L : Sto) (H : Hp) (x y : V) (d e : D) (Q : VK) (E : XK), Rel S.g w L H → Den S.g w x d → Den S.g w y e → Post S.g (Den S.g) w (g d e L) Q E → r x [y] H Q)
    {σ : L2.St} {H : Hp} {Q : VK} (q : tR S.g (Den S.g) W (eM1 fa fb g) σ H Q) : tM1 r (tR S.g (Den S.g) W fa) (tR S.g (Den S.g) W fb) σ H Q := by
  obtain ⟨w, ρ, L, R, e, p⟩ := q
  refine ⟨w, ρ, L, R, e, (Post.bind (rel := Den S.g) p).imp (fun x H1 ⟨w1, d, L1, l1, R1, d1, p1⟩ => ?_) fun _ _ _ z => z⟩
  split at p1
  · rename_i hs
    refine ⟨?_, w1, ρ, L1, R1, e.le l1, (Post.bind (rel := Den S.g) p1).imp (fun y H2 ⟨w2, d2, L2, l2, R2, dd2, p2⟩ => hr w2 L2 H2 x y d d2 Q _ R2 (d1.le l2) dd2 p2) fun _ _ _ z => z⟩
    cases d with
    | str z => cases d1; exact ⟨z, rfl⟩
    | _ => cases hs
  · exact p1.elim
theorem se_split (box : Bool) (ha : SE S W a fa) (hb : SE S W b fb) (hs : ∀ env, starEach [b] env = [(false, eval b env)] := by intro _; rfl) (hbase : ∀ env, attributeBase a "split" env (eval a env) = eval a env := by intro _; rfl) (hline : (apos.endLine == pos.line) = true := by rfl) :
    SE S W (.Call (.Attribute a "split" apos) [b] [] pos) (eM1 fa fb (gSplit box)) := fun X h => by
  refine PE.imp (pe_split (ha X h) (hb X h) (hs _) (hbase _) hline) fun σ H Q q => tM1_of (fun w L H x y d e Q E R dx dy p => ?_) q
  unfold gSplit at p
  split at p
  · rename_i i j
    cases dx
    cases dy
    split at p
    · rename_i hc
      refine ⟨i, j, rfl, rfl, by simpa using hc.1, line10 hc.2, fun q hq => lstOut_go p R (DenL.ofStrs _) q hq⟩
    · exact p.elim
  · exact p.elim
theorem se_joinS (ha : SE S W a fa) (hb : SE S W b fb) (hs : ∀ env, starEach [b] env = [(false, eval b env)] := by intro _; rfl) (hbase : ∀ env, attributeBase a "join" env (eval a env) = eval a env := by intro _; rfl) (hline : (apos.endLine == pos.line) = true := by rfl) :
    SE S W (.Call (.Attribute a "join" apos) [b] [] pos) (eM1 fa fb gJoinS) := fun X h => by
  refine PE.imp (pe_join (ha X h) (hb X h) (hs _) (hbase _) hline) fun σ H Q q => tM1_of (fun w L H x y d e Q E R dx dy p => ?_) q
  unfold gJoinS at p
  split at p
  · rename_i i
    cases dx
    split at p
    · rename_i xs s hx
      split at p
      · rename_i ys hy
        split at p
        · rename_i hc
          obtain ⟨k, ad, vs, rfl, hq, r⟩ := seq_now R dy hx
          have := r.strs hy
          subst this
          refine ⟨i, ad, ys, rfl, rfl, ?_, Nat.le_trans hc (by decide), Post.ok p (.refl w) R (.str _)⟩
          rw [← h.K]
          cases k with
          | true => exact .inl hq
          | false => exact .inr hq
        · exact p.elim
      · exact p.elim
    · exact p.elim
  · exact p.elim
def sgD (c : Nat) : D := .str ⟨#[c]⟩
def iStrX (f : EF) : IF := fun ρ L => (f ρ L).bind fun d L1 => match d with
  | .str z => .ok ⟨z.cps.toList.map sgD, []⟩ L1
  | _ => .bad
theorem si_strX {tg : Expr} (ha : SE S W a fa) : SI S W tg a (iStrX fa) := fun X h => by
  refine PI.imp (pi_str (ha X h)) fun σ H R ⟨w, ρ, L, R0, e, p⟩ => ?_
  refine ⟨w, ρ, L, R0, e, ?_⟩
  unfold iStrX at p
  cases q : fa ρ L with
  | bad => rw [q] at p; exact p.elim
  | err c x L1 => rw [q] at p; exact p
  | ok d L1 =>
    rw [q] at p
    cases d with
    | str z =>
      intro w1 H1 v l1 R1 dv
      cases dv
      refine ⟨z, rfl, p w1 H1 (L2.Its z) l1 R1 (fun _ z => nomatch z) ?_⟩
      intro w2 L2 H2 l2 R2 _ i
      refine ⟨fun d hd => ?_, fun hi => ?_⟩
      · rw [List.getElem?_map] at hd
        obtain ⟨c, e1, e2⟩ := Option.map_eq_some_iff.mp hd
        subst e2
        have e3 : z.cps[i]? = some c := by rw [← Array.getElem?_toList]; exact e1
        refine ⟨(Array.getElem?_eq_some_iff.mp e3).1, fun x H' y => ?_⟩
        obtain ⟨rfl, c', e4, rfl⟩ := y
        rw [e3] at e4
        cases e4
        exact ⟨w2, .refl _, R2, .str _⟩
      · show z.cps.size ≤ i
        rw [hi, List.length_map, Array.length_toList]
        exact Nat.le_refl _
    | _ => exact p.elim
def gInSg (d e : D) (L : Sto) : Res D := match d, e with
  | .str x, .str z => (match x.cps.toList with
    | [c] => .ok (.bl (decide (c ∈ z.cps.toList))) L
    | _ => .bad)
  | _, _ => .bad
theorem one_sg {x : Str} {c : Nat} (h : x.cps.toList = [c]) : x = ⟨#[c]⟩ := Str.ext' (Array.toList_inj.mp h)
theorem gInSg_ok {G : Gb} : R2D G (fun x y H Q => ∃ (c : Nat) (z : Str), x = .str ⟨#[c]⟩ ∧ y = .str z ∧ Q (.bl (decide (c ∈ z.cps.toList))) H) gInSg := by
  intro w L H x y d e Q E R dx dy p
  unfold gInSg at p
  split at p
  · split at p
    · rename_i c hc
      have := one_sg hc
      subst this
      cases dx
      cases dy
      exact ⟨c, _, rfl, rfl, Post.ok p (.refl w) R (.bl _)⟩
    · exact p.elim
  · exact p.elim
theorem se_inSg (ha : SE S W a fa) (hb : SE S W b fb) (hm : behindInMarks .In b = false := by first | exact nobehind _ (by decide) (by decide) | rfl) : SE S W (.Compare a [.In] [b] pos) (e2 gInSg fa fb) := se_cmp (fun _ _ => op_in_sign) gInSg_ok ha hb hm
def gIntS (ds : List D) (L : Sto) : Res D := match ds with
  | [.str a] => if a.length ≤ 640 then (match PySem.intText? a with
    | some n => .ok (.int n) L
    | none => .bad) else .bad
  | _ => .bad
theorem gIntS_ok {G : Gb} : RnD G (fun xs H Q => ∃ a n, xs = [.str a] ∧ PySem.intText? a = some n ∧ a.length ≤ 640 ∧ Q (.int n) H) gIntS := by
  intro w L H x ds Q E R dx p
  unfold gIntS at p
  split at p
  · rename_i a
    split at p
    · rename_i hl
      split at p
      · rename_i n hn
        cases dx with
        | cons h t => cases t; cases h; exact ⟨a, n, rfl, hn, hl, Post.ok p (.refl w) R (.int _)⟩
      · exact p.elim
    · exact p.elim
  · exact p.elim
theorem se_intS {e : Expr} {es : List Expr} {fl : AF} (B : Bl S.g) (ha : SA S W (e :: es) fl) (hg : Glb S "int" := by rfl) (he : ∀ env, starEach (e :: es) env = (false, eval e env) :: starEach es env := by intro _; rfl) (hpl : ∀ env, (backTo pos (starEach es env)).any (·.1) = false := by intro _; rfl) :
    SE S W (.Call (.Name "int" p) (e :: es) [] pos) (en gIntS fl) := se_callT (T := "int") (fun X h => call_int_str) gIntS_ok B.int (by decide +kernel) ha hg (by decide) (by decide) he hpl
def rGeT (K : PySem.W.Frag) : R2 := fun x y H Q => ∃ (a b : Addr) (ns ms : List Int), x = .ref a ∧ y = .ref b ∧ SqT K H a (ns.map V.int) ∧ SqT K H b (ms.map V.int) ∧
  Q (.bl (Ob.lexAt (fun j => decide (ns.getD j 0 = ms.getD j 0)) (fun j => decide (ms.getD j 0 ≤ ns.getD j 0)) (decide (ns.length ≥ ms.length)) 0 (min ns.length ms.length))) H
theorem op_geT {X : Cx} (hu : X.A.units < cLine) : OpR X (compareOp .GtE) (rGeT X.K) := by
  intro pins s σ H x y v u Q I rx ry h
  obtain ⟨a, b, ns, ms, rfl, rfl, ha, hb, q⟩ := h
  cases rx
  cases ry
  obtain ⟨its, r1, p1, _⟩ := I.tuple ha
  obtain ⟨its2, r2, p2, _⟩ := I.tuple hb
  have i1 : IntsAre its ns := Vals.ints r1
  have i2 : IntsAre its2 ms := Vals.ints r2
  have l1 : its.toArray.size = ns.length := by rw [List.size_toArray]; exact i1.length
  have l2 : its2.toArray.size = ms.length := by rw [List.size_toArray]; exact i2.length
  have at1 : ∀ j (h1 : j < its.toArray.size), ∃ t, its.toArray[j] = .int (ns.getD j 0) t := fun j h1 => PyProof.Rows.IntsAre.int_at i1 _ _ (by simp at h1; simp [h1])
  have at2 : ∀ j (h1 : j < its2.toArray.size), ∃ t, its2.toArray[j] = .int (ms.getD j 0) t := fun j h1 => PyProof.Rows.IntsAre.int_at i2 _ _ (by simp at h1; simp [h1])
  have R := Ob.RcOp.tuples_ge (A := X.A) (s := s) (e := fun j => decide (ns.getD j 0 = ms.getD j 0)) (r := fun j => decide (ms.getD j 0 ≤ ns.getD j 0)) p1 p2 hu (fun j h1 h2 => by
    obtain ⟨t, et⟩ := at1 j h1
    obtain ⟨t', et'⟩ := at2 j h2
    rw [et, et']
    have z : (ns.getD j 0 == ms.getD j 0) = decide (ns.getD j 0 = ms.getD j 0) := by
      by_cases q : ns.getD j 0 = ms.getD j 0
      · rw [decide_eq_true q]; exact beq_iff_eq.mpr q
      · rw [decide_eq_false q]; exact beq_eq_false_iff_ne.mpr q
    rw [← z]
    exact SeqAt.EqAt.int_int _ _ _ _) (fun j h1 h2 _ => by
    obtain ⟨t, et⟩ := at1 j h1
    obtain ⟨t', et'⟩ := at2 j h2
    rw [et, et']
    exact Ob.RcOp.ge_int _ _ _ _)
  rw [l1, l2] at R
  have z : wpAny (model X.prog X.w) X.A (compareOp .GtE (.ref a) (.ref b)) (EP X pins σ Q) X.xe s := R X.prog X.w X.xe (EP X pins σ Q) ⟨.bl _, H, I, rfl, q⟩
  exact z
def gGeP (d e : D) (L : Sto) : Res D := match lo d, lo e with
  | .tup [.int a, .int b], .tup [.int c, .int g] => .ok (.bl (decide (c < a ∨ (a = c ∧ g ≤ b)))) L
  | _, _ => .bad
theorem gGeP_ok {G : Gb} : R2D G (rGeT G.K) gGeP := by
  intro w L H x y d e Q E R dx dy p
  unfold gGeP at p
  split at p
  · rename_i a b c g hd he
    have k1 := dx.lo
    have k2 := dy.lo
    rw [hd] at k1
    rw [he] at k2
    cases k1 with
    | tup hx rx =>
      cases k2 with
      | tup hy ry =>
        have e1 : DenL G w ([a, b].map V.int) [.int a, .int b] := .cons (.int a) (.cons (.int b) .nil)
        have q1 := rx.ints (ns := [a, b]) rfl
        have q2 := ry.ints (ns := [c, g]) rfl
        subst q1 q2
        refine ⟨_, _, [a, b], [c, g], rfl, rfl, R.sqT hx, R.sqT hy, ?_⟩
        have z : Ob.lexAt (fun j => decide ([a, b].getD j 0 = [c, g].getD j 0)) (fun j => decide ([c, g].getD j 0 ≤ [a, b].getD j 0)) (decide ([a, b].length ≥ [c, g].length)) 0 (min [a, b].length [c, g].length) = decide (c < a ∨ (a = c ∧ g ≤ b)) := by
          show (if decide (a = c) = true then (if decide (b = g) = true then true else decide (g ≤ b)) else decide (c ≤ a)) = _
          by_cases h1 : a = c
          · rw [if_pos (decide_eq_true h1)]
            by_cases h2 : b = g
            · rw [if_pos (decide_eq_true h2)]
              exact (decide_eq_true (.inr ⟨h1, by omega⟩)).symm
            · rw [if_neg (by simpa using h2)]
              exact decide_eq_decide.mpr ⟨fun z => .inr ⟨h1, z⟩, fun z => by omega⟩
          · rw [if_neg (by simpa using h1)]
            exact decide_eq_decide.mpr ⟨fun z => .inl (by omega), fun z => by omega⟩
        rw [z]
        exact Post.ok p (.refl w) R (.bl _)
  · exact p.elim
theorem st_geP (ha : SE S W a fa) (hb : SE S W b fb) : ST S W (.Compare a [.GtE] [b] pos) (fun ρ L => asB (e2 gGeP fa fb ρ L)) := fun X h => st_cmp (r := rGeT S.g.K) (fun X h => by rw [h.K]; exact op_geT (by have := h.units; omega)) gGeP_ok ha hb (nomark _) X h
def eLo (f : EF) : EF := fun ρ L => (f ρ L).bind fun d L1 => .ok (lo d) L1
theorem se_lo (ha : SE S W a fa) : SE S W a (eLo fa) := fun X h => by
  refine PE.imp (ha X h) fun σ H Q ⟨w, ρ, L, R, e, p⟩ => ?_
  refine ⟨w, ρ, L, R, e, (Post.bind (rel := Den S.g) p).imp (fun v H1 ⟨w1, d, L1, l1, R1, d1, p1⟩ => ?_) fun _ _ _ z => z⟩
  exact p1.ok (Wd.le.refl w1) R1 d1.lo
end
def top (i : Nat) : Stmt := PySem.Challenge.pw_levelhues_k57_errors_of_texts.main.body.getD i (.Pass ⟨0, 0, 0, 0⟩)
abbrev s_l_dice : Stmt := top 54
abbrev s_l_met : Stmt := top 57
abbrev s_require_web : Stmt := top 28
abbrev s_write_web : Stmt := top 42
abbrev s_is_integer : Stmt := top 14
abbrev s_write_row : Stmt := top 43
abbrev s_are_numbers : Stmt := top 44
abbrev s_write_chain : Stmt := top 45
abbrev s_is_ascending : Stmt := top 15
abbrev s_is_round : Stmt := top 46
abbrev s_write_rounds : Stmt := top 47
abbrev s_words_in : Stmt := top 39
abbrev s_number_in : Stmt := top 38
abbrev s_numbers_behind : Stmt := top 40
abbrev s_is_tie : Stmt := top 20
abbrev s_checked : Stmt := top 21
abbrev s_neighbours_of : Stmt := top 23
abbrev s_near_of : Stmt := top 22
abbrev s_Web_init : Stmt := inCls (top 24) 0
abbrev s_read_web : Stmt := top 48
abbrev s_read_row : Stmt := top 49
abbrev s_read_chain : Stmt := top 50
abbrev s_tie_in : Stmt := top 41
abbrev s_ties_behind : Stmt := top 51
abbrev s_read_rounds : Stmt := top 52
abbrev s_l_all_met : Stmt := top 58
abbrev s_l_roll : Stmt := top 55
abbrev s_l_one_of : Stmt := top 56
abbrev s_l_right : Stmt := top 59
abbrev s_law : Stmt := top 60
abbrev owns : List (Str × Bool) := [("Parts", true), ("Web", false)]
abbrev FnD (G : Gb) (x : Str) (st : Stmt) : Prop := ∃ (f : Addr) (fd : FuncData), FunD G.K x x (defArgs st) (defBody st) (defScope st) [] [] f fd ∧ G.mg x = some (.ref f)
def xsE : List (Str × List Str) := [("HueError", ["HueError"]), ("InvalidWeb", ["InvalidWeb", "HueError"]), ("InvalidRow", ["InvalidRow", "HueError"]), ("InvalidOperation", ["InvalidOperation", "HueError"]), ("ParseError", ["ParseError", "HueError"]), ("UnknownName", ["UnknownName"]), ("NoChain", ["NoChain"]), ("InvalidNumber", ["InvalidNumber"]), ("TooMany", ["TooMany"]), ("NothingToUndo", ["NothingToUndo"]), ("Refused", ["Refused"])]
structure Facts (G : Gb) : Prop where
  bl : Bl G
  c_MAX_PASSED : ∃ u, G.mg "MAX_PASSED" = some u ∧ RelV (.int 10) u
  c_MOST_JOINED : ∃ u, G.mg "MOST_JOINED" = some u ∧ RelV (.int 20) u
  str : G.mg "str" = none
  iter : G.mg "iter" = none
  next : G.mg "next" = none
  set : G.mg "set" = none
  ct : ClsT G owns
  k_Parts : SlIs G "Parts"
  s_Parts_own_size : SltOk G "Parts" "own_size" 0
  s_Parts_own_ties : SltOk G "Parts" "own_ties" 1
  n_Web_own_near : FldOk G "Web" "own_near"
  n_Web_own_places : FldOk G "Web" "own_places"
  n_Web_own_size : FldOk G "Web" "own_size"
  n_Web_own_ties : FldOk G "Web" "own_ties"
  tf : ∀ p ∈ G.tabs, ∀ r ∈ G.tabs, p.1 = r.1 → p.2 = r.2
  xs : ExcT G xsE
  x_ParseError_line : XfIs G "ParseError" "line"
  x_UnknownName_name : XfIs G "UnknownName" "name"
  x_NoChain_pair : XfIs G "NoChain" "pair"
  x_InvalidNumber_value : XfIs G "InvalidNumber" "value"
  x_TooMany_limit : XfIs G "TooMany" "limit"
  x_NothingToUndo_many : XfIs G "NothingToUndo" "many"
  x_Refused_reason : XfIs G "Refused" "reason"
  e_InvalidOperation : ExcIs G "InvalidOperation"
  e_InvalidRow : ExcIs G "InvalidRow"
  e_InvalidWeb : ExcIs G "InvalidWeb"
  e_ParseError : ExfIs G "ParseError" "line"
  f_l_dice : FnD G "_law_dice" s_l_dice
  f_l_met : FnD G "_law_met" s_l_met
  f_require_web : FnD G "require_web" s_require_web
  f_write_web : FnD G "write_web" s_write_web
  f_is_integer : FnD G "is_integer" s_is_integer
  f_write_row : FnD G "write_row" s_write_row
  f_are_numbers : FnD G "are_numbers" s_are_numbers
  f_write_chain : FnD G "write_chain" s_write_chain
  f_is_ascending : FnD G "is_ascending" s_is_ascending
  f_is_round : FnD G "is_round" s_is_round
  f_write_rounds : FnD G "write_rounds" s_write_rounds
  f_words_in : FnD G "words_in" s_words_in
  f_number_in : FnD G "number_in" s_number_in
  f_numbers_behind : FnD G "numbers_behind" s_numbers_behind
  f_is_tie : FnD G "is_tie" s_is_tie
  f_checked : FnD G "checked" s_checked
  f_neighbours_of : FnD G "neighbours_of" s_neighbours_of
  f_near_of : FnD G "near_of" s_near_of
  f_Web_init : ∃ (C f : Addr) (fd : FuncData) (e0 : Addr), G.mg "Web" = some (.ref C) ∧ Mk G.K C f ∧ FunD G.K "__init__" "Web.__init__" (defArgs s_Web_init) (defBody s_Web_init) (defScope s_Web_init) [.ref e0] [] f fd ∧ EmpT G.K e0
  f_read_web : FnD G "read_web" s_read_web
  f_read_row : FnD G "read_row" s_read_row
  f_read_chain : FnD G "read_chain" s_read_chain
  f_tie_in : FnD G "tie_in" s_tie_in
  f_ties_behind : FnD G "ties_behind" s_ties_behind
  f_read_rounds : FnD G "read_rounds" s_read_rounds
  f_l_all_met : ∃ (f : Addr) (fd : FuncData), FunD G.K "_law_all_met" "_law_all_met" (defArgs s_l_all_met) (defBody s_l_all_met) (defScope s_l_all_met) [] [] f fd ∧ G.mg "_law_all_met" = some (.ref f) ∧ LmOk G "_law_all_met" "<lambda>" fd
  f_l_roll : FnD G "_law_roll" s_l_roll
  f_l_one_of : FnD G "_law_one_of" s_l_one_of
  f_l_right : FnD G "_law_right" s_l_right
  f_law : FnD G "law" s_law
def N_l_met : List Str := ["_law_call", "e"]
theorem nd_l_met : N_l_met.Nodup := by decide +kernel
theorem sc_l_met : FnScope N_l_met ["_law_call"] (defScope s_l_met) := ⟨rfl, rfl, rfl, nd_l_met, rfl, by decide +kernel, by decide +kernel⟩
def hs_l_met : List Cl := [⟨"InvalidWeb", none, none, hCon "web"⟩, ⟨"InvalidRow", none, none, hCon "row"⟩, ⟨"InvalidOperation", none, none, hCon "operation"⟩, ⟨"ParseError", some 1, none, hRep "ParseError" "line" "parse "⟩, ⟨"UnknownName", some 1, none, hRep "UnknownName" "name" "name "⟩, ⟨"NoChain", some 1, none, hRep "NoChain" "pair" "chain "⟩, ⟨"InvalidNumber", some 1, none, hRep "InvalidNumber" "value" "number "⟩, ⟨"TooMany", some 1, none, hStr "TooMany" "limit" "many "⟩, ⟨"NothingToUndo", some 1, none, hRep "NothingToUndo" "many" "undo "⟩, ⟨"Refused", some 1, none, hRep "Refused" "reason" "refused "⟩]
def m_l_met : (Sto → Res D) → Sto → Res D := mMet xsE hs_l_met "fine" 2
theorem d_l_met {G : Gb} (D : Facts G) (k : Nat) : ∃ (hds : List ExceptHandler) (h₀ : ExceptHandler) (p1 p2 p3 p4 p5 p6 : Pos) (j : Nat), defBody s_l_met = [.Try [.Expr (.Call (.Name "_law_call" p1) [] [] p2) p3] (h₀ :: hds) [] [] p4, .Return (some (.Constant (.str "fine") j p5)) p6] ∧ HdJ ⟨G, N_l_met, defScope s_l_met, fun _ => true, k, true, true, none⟩ (h₀ :: hds) hs_l_met :=
  ⟨_, _, _, _, _, _, _, _, _, rfl, (.ret own_ok seh_str (.ret own_ok seh_str (.ret own_ok seh_str (.as_ own_ok rfl rfl (seh_add seh_str (seh_repr D.bl (sah_cons (seh_fld "ParseError" D.x_ParseError_line) sah_nil))) (.as_ own_ok rfl rfl (seh_add seh_str (seh_repr D.bl (sah_cons (seh_fld "UnknownName" D.x_UnknownName_name) sah_nil))) (.as_ own_ok rfl rfl (seh_add seh_str (seh_repr D.bl (sah_cons (seh_fld "NoChain" D.x_NoChain_pair) sah_nil))) (.as_ own_ok rfl rfl (seh_add seh_str (seh_repr D.bl (sah_cons (seh_fld "InvalidNumber" D.x_InvalidNumber_value) sah_nil))) (.as_ own_ok rfl rfl (seh_add seh_str (seh_strC D.bl (sah_cons (seh_fld "TooMany" D.x_TooMany_limit) sah_nil))) (.as_ own_ok rfl rfl (seh_add seh_str (seh_repr D.bl (sah_cons (seh_fld "NothingToUndo" D.x_NothingToUndo_many) sah_nil))) (.as_ own_ok rfl rfl (seh_add seh_str (seh_repr D.bl (sah_cons (seh_fld "Refused" D.x_Refused_reason) sah_nil))) .nil))))))))))⟩
theorem lm_l_met {G : Gb} (D : Facts G) (k : Nat) : LamIs true G "_law_met" k m_l_met := by
  obtain ⟨f, fd, F, hm⟩ := D.f_l_met
  obtain ⟨hds, h₀, p1, p2, p3, p4, p5, p6, j, eb, hj⟩ := d_l_met D k
  have b : Binds G.K fd ["_law_call"] [] := F.bindsN fun _ _ _ _ _ _ us hl => match us, hl with | [_], _ => rfl
  have kp := F.kp
  obtain ⟨oc, od, dV, kV, doc, pm, an, cdv, ct, osl, rfl, lk, hcd, _, _⟩ := F.ex
  refine ⟨f, oc, dV, kV, doc, pm, cdv, ct, an, od, osl, _, _, _, N_l_met, "_law_call", hm, kp, lk, hcd, b, sc_l_met, rfl, .inl rfl, by decide, by decide, ?_⟩
  rw [eb]
  exact met_gives D.xs nd_l_met rfl hj (exc_has D.xs (by decide +kernel))
def N_l_dice : List Str := ["_law_script", "_law_at", "_law_cell", "_law_great", "_law_left", "_law_mixed"]
theorem nd_l_dice : N_l_dice.Nodup := by decide +kernel
theorem sc_l_dice : FnScope N_l_dice ["_law_script", "_law_at"] (defScope s_l_dice) := ⟨rfl, rfl, rfl, nd_l_dice, rfl, by decide +kernel, by decide +kernel⟩
noncomputable def F_l_dice : SF :=
  (sSeq (sSet 2 (e2 gAdd (e2 gMul (eC (.int 71)) (eVar 1)) (eC (.int 43))))
    (sSeq (sIf (fun ρ L => asB ((e2 gLt (eVar 1) (en gLen (aCons (eVar 0) aNil))) ρ L))
    (sSet 2 (e2 gIx (eVar 0) (eVar 1)))
    sSkip)
    (sSeq (sSet 3 (e2 gMod (en gInt (aCons (en gAbs (aCons (eVar 2) aNil)) aNil)) (e2 gPow (e2 gPow (eC (.int 10)) (eC (.int 60))) (eC (.int 10)))))
    (sSeq (sSet 4 (e2 gDiv (eVar 3) (e2 gPow (eC (.int 10)) (eC (.int 18)))))
    (sSeq (sSet 5 (e2 gAdd (e2 gAdd (e2 gAdd (e2 gMul (e2 gMod (eVar 3) (eC (.int 2147483179))) (eC (.int 57037))) (e2 gMul (eC (.int 3217)) (eVar 1))) (e2 gMul (eC (.int 53)) (en gInt (aCons (e2 gLt (eVar 2) (eC (.int 0))) aNil)))) (eC (.int 101))))
    (sRet (eLst true (aCons (eVar 4) (aCons (e2 gMod (eVar 5) (eC (.int 2147483123))) (aCons (eC (.int 0)) aNil))))))))))
noncomputable def m_l_dice : List D → Sto → Res D := mOf 6 F_l_dice
theorem d_l_dice {G : Gb} (D : Facts G) (W : WX) : SSs ⟨G, N_l_dice, defScope s_l_dice, fun _ => true, 0, false, true, none⟩ W (defBody s_l_dice) F_l_dice :=
  (ss_cons (ss_set 2 nd_l_dice (se_add (se_mul se_int (se_var 1)) se_int))
    (ss_cons (ss_if (st_lt (se_var 1) (se_len D.bl (sa_cons (se_var 0) sa_nil)))
    (ss_one (ss_set 2 nd_l_dice (se_ix (se_var 0) (se_var 1))))
    ss_nil)
    (ss_cons (ss_set 3 nd_l_dice (se_mod (se_int1 D.bl (sa_cons (se_abs D.bl (sa_cons (se_var 2) sa_nil)) sa_nil)) (se_pow (se_pow se_int se_int) se_int)))
    (ss_cons (ss_set 4 nd_l_dice (se_div (se_var 3) (se_pow se_int se_int)))
    (ss_cons (ss_set 5 nd_l_dice (se_add (se_add (se_add (se_mul (se_mod (se_var 3) se_int) se_int) (se_mul se_int (se_var 1))) (se_mul se_int (se_int1 D.bl (sa_cons (se_lt (se_var 2) se_int) sa_nil)))) se_int))
    (ss_one (ss_ret (se_lst true (sa_cons (se_var 4) (sa_cons (se_mod (se_var 5) se_int) (sa_cons se_int sa_nil)))))))))))
theorem fn_l_dice {G : Gb} (D : Facts G) : FnIs false G "_law_dice" 2 1 m_l_dice [] := by
  obtain ⟨f, fd, F, g⟩ := D.f_l_dice
  have b : Binds G.K fd ["_law_script", "_law_at"] [] := F.bindsN fun _ _ _ _ _ _ us hl => match us, hl with | [_, _], _ => rfl
  exact fnIs_plain F sc_l_dice (d_l_dice D) g b .nil (fun _ => .nil) (fun _ z => nomatch z)
def N_require_web : List Str := ["value"]
theorem nd_require_web : N_require_web.Nodup := by decide +kernel
theorem sc_require_web : FnScope N_require_web ["value"] (defScope s_require_web) := ⟨rfl, rfl, rfl, nd_require_web, rfl, by decide +kernel, by decide +kernel⟩
noncomputable def F_require_web : SF :=
  (sIf (tNotF (tTru (e1 (gIsiO owns "Web") (eVar 0))))
    (sRaise0 "InvalidWeb" (eC (.str "a web is expected")))
    sSkip)
noncomputable def m_require_web : List D → Sto → Res D := mOf 1 F_require_web
theorem u_require_web (a0 : D) (L : Sto) : m_require_web [a0] L = fin (F_require_web [some a0] L) := (rfl)
theorem d_require_web {G : Gb} (D : Facts G) (W : WX) : SSs ⟨G, N_require_web, defScope s_require_web, fun _ => true, 0, false, true, none⟩ W (defBody s_require_web) F_require_web :=
  (ss_one (ss_if (st_not (st_truth (se_isiO D.ct D.bl (s := false) (by decide) (se_var 0))))
    (ss_one (ss_raise0 D.e_InvalidWeb se_str))
    ss_nil))
theorem fn_require_web {G : Gb} (D : Facts G) : FnIs false G "require_web" 1 1 m_require_web [] := by
  obtain ⟨f, fd, F, g⟩ := D.f_require_web
  have b : Binds G.K fd ["value"] [] := F.bindsN fun _ _ _ _ _ _ us hl => match us, hl with | [_], _ => rfl
  exact fnIs_plain F sc_require_web (d_require_web D) g b .nil (fun _ => .nil) (fun _ z => nomatch z)
def N_write_web : List Str := ["web", "one", "other"]
theorem nd_write_web : N_write_web.Nodup := by decide +kernel
theorem sc_write_web : FnScope N_write_web ["web"] (defScope s_write_web) := ⟨rfl, rfl, rfl, nd_write_web, rfl, by decide +kernel, by decide +kernel⟩
noncomputable def C1_write_web : EF :=
  (eLc false [1, 2] (iSeq (eFld "Web" "own_ties" (eVar 0))) (gTupF 2 (gsCons (gSet 1) (gsCons (gSet 2) gsNil))) tTrue (eJoin ((eC (.str "tie ")) :: ((e1 gFmt (eVar 1)) :: ((eC (.str " ")) :: ((e1 gFmt (eVar 2)) :: [])))) Str.empty))
noncomputable def F_write_web : SF :=
  (sSeq (sExpr (eCall 1 m_require_web [] (aCons (eVar 0) aNil)))
    (sRet (eM1 (eC (.str "\n")) (eLst false (aCons (eJoin ((eC (.str "web ")) :: ((e1 gFmt (eFld "Web" "own_size" (eVar 0))) :: [])) Str.empty) (aStar C1_write_web aNil))) gJoinS)))
noncomputable def m_write_web : List D → Sto → Res D := mOf 3 F_write_web
theorem u_write_web (a0 : D) (L : Sto) : m_write_web [a0] L = fin (F_write_web [some a0, none, none] L) := (rfl)
theorem d_write_web {G : Gb} (D : Facts G) (W : WX) : SSs ⟨G, N_write_web, defScope s_write_web, fun _ => true, 1, false, true, none⟩ W (defBody s_write_web) F_write_web :=
  (ss_cons (ss_expr (se_call (fn_require_web D) (Nat.le_of_ble_eq_true rfl) (sa_cons (se_var 0) sa_nil)))
    (ss_one (ss_ret (se_joinS se_str (se_lst false (sa_cons (se_join (SJ.cons se_str (SJ.cons (se_fmt (se_fld D.n_Web_own_size (se_var 0))) SJ.nil))) (sa_star (se_lc false [("one", 1), ("other", 2)] nd_write_web (si_seq (se_fld D.n_Web_own_ties (se_var 0))) (by kernel_rfl) (sg_tup (sgs_cons (sg_name 1 nd_write_web) (sgs_cons (sg_name 2 nd_write_web) sgs_nil))) sts_nil (se_join (SJ.cons se_str (SJ.cons (se_fmt (se_var 1)) (SJ.cons se_str (SJ.cons (se_fmt (se_var 2)) SJ.nil)))))) sa_nil)))))))
theorem fn_write_web {G : Gb} (D : Facts G) : FnIs false G "write_web" 1 2 m_write_web [] := by
  obtain ⟨f, fd, F, g⟩ := D.f_write_web
  have b : Binds G.K fd ["web"] [] := F.bindsN fun _ _ _ _ _ _ us hl => match us, hl with | [_], _ => rfl
  exact fnIs_plain F sc_write_web (d_write_web D) g b .nil (fun _ => .nil) (fun _ z => nomatch z)
def N_is_integer : List Str := ["value", "least", "most"]
theorem nd_is_integer : N_is_integer.Nodup := by decide +kernel
theorem sc_is_integer : FnScope N_is_integer ["value", "least", "most"] (defScope s_is_integer) := ⟨rfl, rfl, rfl, nd_is_integer, rfl, by decide +kernel, by decide +kernel⟩
noncomputable def F_is_integer : SF :=
  (sSeq (sIf (tOrF (tNotF (tTru (e1 (gIsiK owns .int) (eVar 0)))) (tOrF (tTru (e1 (gIsiK owns .bl) (eVar 0))) (fun ρ L => asB ((e2 gLt (eVar 0) (eVar 1)) ρ L))))
    (sRet (eC (.bl false)))
    sSkip)
    (sRet (eOrF (e2 gIsN (eVar 2) (eC .non)) (e2 gLe (eVar 0) (eVar 2)))))
noncomputable def m_is_integer : List D → Sto → Res D := mOf 3 F_is_integer
theorem u_is_integer (a0 a1 a2 : D) (L : Sto) : m_is_integer [a0, a1, a2] L = fin (F_is_integer [some a0, some a1, some a2] L) := (rfl)
theorem d_is_integer {G : Gb} (D : Facts G) (W : WX) : SSs ⟨G, N_is_integer, defScope s_is_integer, fun _ => true, 0, false, true, none⟩ W (defBody s_is_integer) F_is_integer :=
  (ss_cons (ss_if (st_bool (sw_or (st_not (st_truth (se_isiK D.ct .int D.bl D.bl.int (by decide +kernel) (se_var 0)))) (sw_or (st_truth (se_isiK D.ct .bl D.bl D.bl.bool (by decide +kernel) (se_var 0))) (sw_one_or (st_lt (se_var 0) (se_var 1))))))
    (ss_one (ss_ret se_bl))
    ss_nil)
    (ss_one (ss_ret (se_or (se_isN (se_var 2) se_non) (se_one (se_le (se_var 0) (se_var 2)))))))
theorem fn_is_integer {G : Gb} (D : Facts G) : FnIs false G "is_integer" 3 1 m_is_integer [] := by
  obtain ⟨f, fd, F, g⟩ := D.f_is_integer
  have b : Binds G.K fd ["value", "least", "most"] [] := F.bindsN fun _ _ _ _ _ _ us hl => match us, hl with | [_, _, _], _ => rfl
  exact fnIs_plain F sc_is_integer (d_is_integer D) g b .nil (fun _ => .nil) (fun _ z => nomatch z)
def N_write_row : List Str := ["row", "hue"]
theorem nd_write_row : N_write_row.Nodup := by decide +kernel
theorem sc_write_row : FnScope N_write_row ["row"] (defScope s_write_row) := ⟨rfl, rfl, rfl, nd_write_row, rfl, by decide +kernel, by decide +kernel⟩
noncomputable def C1_write_row : EF :=
  (eLc false [1] (iSeq (eVar 0)) (gSet 1) tTrue (eCall 3 m_is_integer [] (aCons (eVar 1) (aCons (eC (.int 0)) (aCons (eC .non) aNil)))))
noncomputable def C2_write_row : EF :=
  (eLc false [1] (iSeq (eVar 0)) (gSet 1) tTrue (en gStr (aCons (eVar 1) aNil)))
noncomputable def F_write_row : SF :=
  (sSeq (sIf (tOrF (tNotF (tTru (e1 (gIsiK owns .tup) (eVar 0)))) (tOrF (fun ρ L => asB ((e2 gEq (eVar 0) (eTup aNil)) ρ L)) (tNotF (tTru (en gAll (aCons C1_write_row aNil))))))
    (sRaise0 "InvalidRow" (eC (.str "a row is expected")))
    sSkip)
    (sRet (eM1 (eC (.str " ")) (eLst false (aCons (eC (.str "row")) (aStar C2_write_row aNil))) gJoinS)))
noncomputable def m_write_row : List D → Sto → Res D := mOf 2 F_write_row
theorem u_write_row (a0 : D) (L : Sto) : m_write_row [a0] L = fin (F_write_row [some a0, none] L) := (rfl)
theorem d_write_row {G : Gb} (D : Facts G) (W : WX) : SSs ⟨G, N_write_row, defScope s_write_row, fun _ => true, 1, false, true, none⟩ W (defBody s_write_row) F_write_row :=
  (ss_cons (ss_if (st_bool (sw_or (st_not (st_truth (se_isiK D.ct .tup D.bl D.bl.tuple (by decide +kernel) (se_var 0)))) (sw_or (st_eq (se_var 0) (se_tup sa_nil)) (sw_one_or (st_not (st_truth (se_all D.bl (sa_cons (se_lc false [("hue", 1)] nd_write_row (si_seq (se_var 0)) (by kernel_rfl) (sg_name 1 nd_write_row) sts_nil (se_call (fn_is_integer D) (Nat.le_of_ble_eq_true rfl) (sa_cons (se_var 1) (sa_cons se_int (sa_cons se_non sa_nil))))) sa_nil))))))))
    (ss_one (ss_raise0 D.e_InvalidRow se_str))
    ss_nil)
    (ss_one (ss_ret (se_joinS se_str (se_lst false (sa_cons se_str (sa_star (se_lc false [("hue", 1)] nd_write_row (si_seq (se_var 0)) (by kernel_rfl) (sg_name 1 nd_write_row) sts_nil (se_str' D.bl (sa_cons (se_var 1) sa_nil))) sa_nil)))))))
theorem fn_write_row {G : Gb} (D : Facts G) : FnIs false G "write_row" 1 2 m_write_row [] := by
  obtain ⟨f, fd, F, g⟩ := D.f_write_row
  have b : Binds G.K fd ["row"] [] := F.bindsN fun _ _ _ _ _ _ us hl => match us, hl with | [_], _ => rfl
  exact fnIs_plain F sc_write_row (d_write_row D) g b .nil (fun _ => .nil) (fun _ z => nomatch z)
def N_are_numbers : List Str := ["value", "total", "one"]
theorem nd_are_numbers : N_are_numbers.Nodup := by decide +kernel
theorem sc_are_numbers : FnScope N_are_numbers ["value", "total"] (defScope s_are_numbers) := ⟨rfl, rfl, rfl, nd_are_numbers, rfl, by decide +kernel, by decide +kernel⟩
noncomputable def C1_are_numbers : EF :=
  (eLc false [2] (iSeq (eVar 0)) (gSet 2) tTrue (eCall 3 m_is_integer [] (aCons (eVar 2) (aCons (eC (.int 0)) (aCons (eC .non) aNil)))))
noncomputable def F_are_numbers : SF :=
  (sRet (eAndF (e1 (gIsiK owns .tup) (eVar 0)) (eAndF (e2 gEq (en gLen (aCons (eVar 0) aNil)) (eVar 1)) (en gAll (aCons C1_are_numbers aNil)))))
noncomputable def m_are_numbers : List D → Sto → Res D := mOf 3 F_are_numbers
theorem u_are_numbers (a0 a1 : D) (L : Sto) : m_are_numbers [a0, a1] L = fin (F_are_numbers [some a0, some a1, none] L) := (rfl)
theorem d_are_numbers {G : Gb} (D : Facts G) (W : WX) : SSs ⟨G, N_are_numbers, defScope s_are_numbers, fun _ => true, 1, false, true, none⟩ W (defBody s_are_numbers) F_are_numbers :=
  (ss_one (ss_ret (se_and (se_isiK D.ct .tup D.bl D.bl.tuple (by decide +kernel) (se_var 0)) (se_and (se_eq (se_len D.bl (sa_cons (se_var 0) sa_nil)) (se_var 1)) (se_one (se_all D.bl (sa_cons (se_lc false [("one", 2)] nd_are_numbers (si_seq (se_var 0)) (by kernel_rfl) (sg_name 2 nd_are_numbers) sts_nil (se_call (fn_is_integer D) (Nat.le_of_ble_eq_true rfl) (sa_cons (se_var 2) (sa_cons se_int (sa_cons se_non sa_nil))))) sa_nil)))))))
theorem fn_are_numbers {G : Gb} (D : Facts G) : FnIs false G "are_numbers" 2 2 m_are_numbers [] := by
  obtain ⟨f, fd, F, g⟩ := D.f_are_numbers
  have b : Binds G.K fd ["value", "total"] [] := F.bindsN fun _ _ _ _ _ _ us hl => match us, hl with | [_, _], _ => rfl
  exact fnIs_plain F sc_are_numbers (d_are_numbers D) g b .nil (fun _ => .nil) (fun _ z => nomatch z)
def N_write_chain : List Str := ["chain", "place", "hue", "step"]
theorem nd_write_chain : N_write_chain.Nodup := by decide +kernel
theorem sc_write_chain : FnScope N_write_chain ["chain"] (defScope s_write_chain) := ⟨rfl, rfl, rfl, nd_write_chain, rfl, by decide +kernel, by decide +kernel⟩
noncomputable def C1_write_chain : EF :=
  (eLc false [3] (iSeq (eVar 0)) (gSet 3) tTrue (eCall 2 m_are_numbers [] (aCons (eVar 3) (aCons (eC (.int 2)) aNil))))
noncomputable def C2_write_chain : EF :=
  (eLc false [1, 2] (iSeq (eVar 0)) (gTupF 2 (gsCons (gSet 1) (gsCons (gSet 2) gsNil))) tTrue (eJoin ((eC (.str "move ")) :: ((e1 gFmt (eVar 1)) :: ((eC (.str " ")) :: ((e1 gFmt (eVar 2)) :: [])))) Str.empty))
noncomputable def F_write_chain : SF :=
  (sSeq (sIf (tOrF (tNotF (tTru (e1 (gIsiK owns .tup) (eVar 0)))) (tOrF (fun ρ L => asB ((e2 gEq (eVar 0) (eTup aNil)) ρ L)) (tNotF (tTru (en gAll (aCons C1_write_chain aNil))))))
    (sRaise0 "InvalidOperation" (eC (.str "a tuple of pairs is expected")))
    sSkip)
    (sRet (eM1 (eC (.str "\n")) C2_write_chain gJoinS)))
noncomputable def m_write_chain : List D → Sto → Res D := mOf 4 F_write_chain
theorem u_write_chain (a0 : D) (L : Sto) : m_write_chain [a0] L = fin (F_write_chain [some a0, none, none, none] L) := (rfl)
theorem d_write_chain {G : Gb} (D : Facts G) (W : WX) : SSs ⟨G, N_write_chain, defScope s_write_chain, fun _ => true, 2, false, true, none⟩ W (defBody s_write_chain) F_write_chain :=
  (ss_cons (ss_if (st_bool (sw_or (st_not (st_truth (se_isiK D.ct .tup D.bl D.bl.tuple (by decide +kernel) (se_var 0)))) (sw_or (st_eq (se_var 0) (se_tup sa_nil)) (sw_one_or (st_not (st_truth (se_all D.bl (sa_cons (se_lc false [("step", 3)] nd_write_chain (si_seq (se_var 0)) (by kernel_rfl) (sg_name 3 nd_write_chain) sts_nil (se_call (fn_are_numbers D) (Nat.le_of_ble_eq_true rfl) (sa_cons (se_var 3) (sa_cons se_int sa_nil)))) sa_nil))))))))
    (ss_one (ss_raise0 D.e_InvalidOperation se_str))
    ss_nil)
    (ss_one (ss_ret (se_joinS se_str (se_lc false [("place", 1), ("hue", 2)] nd_write_chain (si_seq (se_var 0)) (by kernel_rfl) (sg_tup (sgs_cons (sg_name 1 nd_write_chain) (sgs_cons (sg_name 2 nd_write_chain) sgs_nil))) sts_nil (se_join (SJ.cons se_str (SJ.cons (se_fmt (se_var 1)) (SJ.cons se_str (SJ.cons (se_fmt (se_var 2)) SJ.nil))))))))))
theorem fn_write_chain {G : Gb} (D : Facts G) : FnIs false G "write_chain" 1 3 m_write_chain [] := by
  obtain ⟨f, fd, F, g⟩ := D.f_write_chain
  have b : Binds G.K fd ["chain"] [] := F.bindsN fun _ _ _ _ _ _ us hl => match us, hl with | [_], _ => rfl
  exact fnIs_plain F sc_write_chain (d_write_chain D) g b .nil (fun _ => .nil) (fun _ z => nomatch z)
def N_is_ascending : List Str := ["items", "one", "other"]
theorem nd_is_ascending : N_is_ascending.Nodup := by decide +kernel
theorem sc_is_ascending : FnScope N_is_ascending ["items"] (defScope s_is_ascending) := ⟨rfl, rfl, rfl, nd_is_ascending, rfl, by decide +kernel, by decide +kernel⟩
noncomputable def C1_is_ascending : EF :=
  (eLc false [1, 2] (iZipF (aCons (eVar 0) (aCons (eSl (eVar 0) (oSome (eC (.int 1))) oNone) aNil))) (gTupF 2 (gsCons (gSet 1) (gsCons (gSet 2) gsNil))) tTrue (e2 gLt (eVar 1) (eVar 2)))
noncomputable def F_is_ascending : SF :=
  (sRet (en gAll (aCons C1_is_ascending aNil)))
noncomputable def m_is_ascending : List D → Sto → Res D := mOf 3 F_is_ascending
theorem u_is_ascending (a0 : D) (L : Sto) : m_is_ascending [a0] L = fin (F_is_ascending [some a0, none, none] L) := (rfl)
theorem d_is_ascending {G : Gb} (D : Facts G) (W : WX) : SSs ⟨G, N_is_ascending, defScope s_is_ascending, fun _ => true, 0, false, true, none⟩ W (defBody s_is_ascending) F_is_ascending :=
  (ss_one (ss_ret (se_all D.bl (sa_cons (se_lc false [("one", 1), ("other", 2)] nd_is_ascending (si_zip (sa_cons (se_var 0) (sa_cons (se_sl (se_var 0) (so_some se_int) so_none) sa_nil)) rfl D.bl.zip) (by kernel_rfl) (sg_tup (sgs_cons (sg_name 1 nd_is_ascending) (sgs_cons (sg_name 2 nd_is_ascending) sgs_nil))) sts_nil (se_lt (se_var 1) (se_var 2))) sa_nil))))
theorem fn_is_ascending {G : Gb} (D : Facts G) : FnIs false G "is_ascending" 1 1 m_is_ascending [] := by
  obtain ⟨f, fd, F, g⟩ := D.f_is_ascending
  have b : Binds G.K fd ["items"] [] := F.bindsN fun _ _ _ _ _ _ us hl => match us, hl with | [_], _ => rfl
  exact fnIs_plain F sc_is_ascending (d_is_ascending D) g b .nil (fun _ => .nil) (fun _ z => nomatch z)
def N_is_round : List Str := ["value", "tie"]
theorem nd_is_round : N_is_round.Nodup := by decide +kernel
theorem sc_is_round : FnScope N_is_round ["value"] (defScope s_is_round) := ⟨rfl, rfl, rfl, nd_is_round, rfl, by decide +kernel, by decide +kernel⟩
noncomputable def C1_is_round : EF :=
  (eLc false [1] (iSeq (eVar 0)) (gSet 1) tTrue (eAndF (eCall 2 m_are_numbers [] (aCons (eVar 1) (aCons (eC (.int 2)) aNil))) (e2 gLt (e2 gIx (eVar 1) (eC (.int 0))) (e2 gIx (eVar 1) (eC (.int 1))))))
noncomputable def F_is_round : SF :=
  (sSeq (sIf (tOrF (tNotF (tTru (e1 (gIsiK owns .tup) (eVar 0)))) (tNotF (tTru (en gAll (aCons C1_is_round aNil)))))
    (sRet (eC (.bl false)))
    sSkip)
    (sRet (eCall 1 m_is_ascending [] (aCons (eVar 0) aNil))))
noncomputable def m_is_round : List D → Sto → Res D := mOf 2 F_is_round
theorem u_is_round (a0 : D) (L : Sto) : m_is_round [a0] L = fin (F_is_round [some a0, none] L) := (rfl)
theorem d_is_round {G : Gb} (D : Facts G) (W : WX) : SSs ⟨G, N_is_round, defScope s_is_round, fun _ => true, 2, false, true, none⟩ W (defBody s_is_round) F_is_round :=
  (ss_cons (ss_if (st_bool (sw_or (st_not (st_truth (se_isiK D.ct .tup D.bl D.bl.tuple (by decide +kernel) (se_var 0)))) (sw_one_or (st_not (st_truth (se_all D.bl (sa_cons (se_lc false [("tie", 1)] nd_is_round (si_seq (se_var 0)) (by kernel_rfl) (sg_name 1 nd_is_round) sts_nil (se_and (se_call (fn_are_numbers D) (Nat.le_of_ble_eq_true rfl) (sa_cons (se_var 1) (sa_cons se_int sa_nil))) (se_one (se_lt (se_ix (se_var 1) se_int) (se_ix (se_var 1) se_int))))) sa_nil)))))))
    (ss_one (ss_ret se_bl))
    ss_nil)
    (ss_one (ss_ret (se_call (fn_is_ascending D) (Nat.le_of_ble_eq_true rfl) (sa_cons (se_var 0) sa_nil)))))
theorem fn_is_round {G : Gb} (D : Facts G) : FnIs false G "is_round" 1 3 m_is_round [] := by
  obtain ⟨f, fd, F, g⟩ := D.f_is_round
  have b : Binds G.K fd ["value"] [] := F.bindsN fun _ _ _ _ _ _ us hl => match us, hl with | [_], _ => rfl
  exact fnIs_plain F sc_is_round (d_is_round D) g b .nil (fun _ => .nil) (fun _ z => nomatch z)
def N_write_rounds : List Str := ["rounds", "rows", "ties", "row", "one", "other"]
theorem nd_write_rounds : N_write_rounds.Nodup := by decide +kernel
theorem sc_write_rounds : FnScope N_write_rounds ["rounds"] (defScope s_write_rounds) := ⟨rfl, rfl, rfl, nd_write_rounds, rfl, by decide +kernel, by decide +kernel⟩
noncomputable def C1_write_rounds : EF :=
  (eLc false [4] (iSeq (eVar 0)) (gSet 4) tTrue (eCall 1 m_is_round [] (aCons (eVar 4) aNil)))
noncomputable def C2_write_rounds : EF :=
  (eLc false [4, 5] (iSeq (eVar 2)) (gTupF 2 (gsCons (gSet 4) (gsCons (gSet 5) gsNil))) tTrue (eJoin ((e1 gFmt (eVar 4)) :: ((eC (.str "-")) :: ((e1 gFmt (eVar 5)) :: []))) Str.empty))
noncomputable def C3_write_rounds : EF :=
  (eLc false [2] (iSeq (eVar 0)) (gSet 2) tTrue (eIf (fun ρ L => asB ((e2 gNe (eVar 2) (eTup aNil)) ρ L)) C2_write_rounds (eLst false (aCons (eC (.str "-")) aNil))))
noncomputable def C4_write_rounds : EF :=
  (eLc false [3] (iSeq (eVar 1)) (gSet 3) tTrue (eM1 (eC (.str " ")) (eLst false (aCons (eC (.str "round")) (aStar (eVar 3) aNil))) gJoinS))
noncomputable def F_write_rounds : SF :=
  (sSeq (sIf (tOrF (tNotF (tTru (e1 (gIsiK owns .tup) (eVar 0)))) (tOrF (fun ρ L => asB ((e2 gEq (eVar 0) (eTup aNil)) ρ L)) (tNotF (tTru (en gAll (aCons C1_write_rounds aNil))))))
    (sRaise0 "InvalidOperation" (eC (.str "a tuple of rounds is expected")))
    sSkip)
    (sSeq (sSet 1 C3_write_rounds)
    (sRet (eM1 (eC (.str "\n")) C4_write_rounds gJoinS))))
noncomputable def m_write_rounds : List D → Sto → Res D := mOf 6 F_write_rounds
theorem u_write_rounds (a0 : D) (L : Sto) : m_write_rounds [a0] L = fin (F_write_rounds [some a0, none, none, none, none, none] L) := (rfl)
theorem d_write_rounds {G : Gb} (D : Facts G) (W : WX) : SSs ⟨G, N_write_rounds, defScope s_write_rounds, fun _ => true, 3, false, true, none⟩ W (defBody s_write_rounds) F_write_rounds :=
  (ss_cons (ss_if (st_bool (sw_or (st_not (st_truth (se_isiK D.ct .tup D.bl D.bl.tuple (by decide +kernel) (se_var 0)))) (sw_or (st_eq (se_var 0) (se_tup sa_nil)) (sw_one_or (st_not (st_truth (se_all D.bl (sa_cons (se_lc false [("one", 4)] nd_write_rounds (si_seq (se_var 0)) (by kernel_rfl) (sg_name 4 nd_write_rounds) sts_nil (se_call (fn_is_round D) (Nat.le_of_ble_eq_true rfl) (sa_cons (se_var 4) sa_nil))) sa_nil))))))))
    (ss_one (ss_raise0 D.e_InvalidOperation se_str))
    ss_nil)
    (ss_cons (ss_setLc 1 false [("ties", 2)] nd_write_rounds (si_seq (se_var 0)) (by kernel_rfl) (sg_name 2 nd_write_rounds) sts_nil (se_if (st_ne (se_var 2) (se_tup sa_nil)) (se_lc false [("one", 4), ("other", 5)] nd_write_rounds (si_seq (se_var 2)) (by kernel_rfl) (sg_tup (sgs_cons (sg_name 4 nd_write_rounds) (sgs_cons (sg_name 5 nd_write_rounds) sgs_nil))) sts_nil (se_join (SJ.cons (se_fmt (se_var 4)) (SJ.cons se_str (SJ.cons (se_fmt (se_var 5)) SJ.nil))))) (se_lst false (sa_cons se_str sa_nil))))
    (ss_one (ss_ret (se_joinS se_str (se_lc false [("row", 3)] nd_write_rounds (si_seq (se_var 1)) (by kernel_rfl) (sg_name 3 nd_write_rounds) sts_nil (se_joinS se_str (se_lst false (sa_cons se_str (sa_star (se_var 3) sa_nil))))))))))
theorem fn_write_rounds {G : Gb} (D : Facts G) : FnIs false G "write_rounds" 1 4 m_write_rounds [] := by
  obtain ⟨f, fd, F, g⟩ := D.f_write_rounds
  have b : Binds G.K fd ["rounds"] [] := F.bindsN fun _ _ _ _ _ _ us hl => match us, hl with | [_], _ => rfl
  exact fnIs_plain F sc_write_rounds (d_write_rounds D) g b .nil (fun _ => .nil) (fun _ z => nomatch z)
def N_words_in : List Str := ["text", "row"]
theorem nd_words_in : N_words_in.Nodup := by decide +kernel
theorem sc_words_in : FnScope N_words_in ["text"] (defScope s_words_in) := ⟨rfl, rfl, rfl, nd_words_in, rfl, by decide +kernel, by decide +kernel⟩
noncomputable def C1_words_in : EF :=
  (eLc false [1] (iSeq (eM1 (eVar 0) (eC (.str "\n")) (gSplit false))) (gSet 1) tTrue (eM1 (eVar 1) (eC (.str " ")) (gSplit false)))
noncomputable def F_words_in : SF :=
  (sSeq (sIf (tNotF (tTru (e1 (gIsiK owns .str) (eVar 0))))
    (sRaiseF "ParseError" "line" (eC .non))
    sSkip)
    (sRet C1_words_in))
noncomputable def m_words_in : List D → Sto → Res D := mOf 2 F_words_in
theorem u_words_in (a0 : D) (L : Sto) : m_words_in [a0] L = fin (F_words_in [some a0, none] L) := (rfl)
theorem d_words_in {G : Gb} (D : Facts G) (W : WX) : SSs ⟨G, N_words_in, defScope s_words_in, fun _ => true, 1, false, true, none⟩ W (defBody s_words_in) F_words_in :=
  (ss_cons (ss_if (st_not (st_truth (se_isiK D.ct .str D.bl D.bl.str (by decide +kernel) (se_var 0))))
    (ss_one (ss_raiseF D.e_ParseError (Nat.le_of_ble_eq_true rfl) se_non))
    ss_nil)
    (ss_one (ss_ret (se_lc false [("row", 1)] nd_words_in (si_seq (se_split false (se_var 0) se_str)) (by kernel_rfl) (sg_name 1 nd_words_in) sts_nil (se_split false (se_var 1) se_str)))))
theorem fn_words_in {G : Gb} (D : Facts G) : FnIs false G "words_in" 1 2 m_words_in [] := by
  obtain ⟨f, fd, F, g⟩ := D.f_words_in
  have b : Binds G.K fd ["text"] [] := F.bindsN fun _ _ _ _ _ _ us hl => match us, hl with | [_], _ => rfl
  exact fnIs_plain F sc_words_in (d_words_in D) g b .nil (fun _ => .nil) (fun _ z => nomatch z)
def N_number_in : List Str := ["text", "sign"]
theorem nd_number_in : N_number_in.Nodup := by decide +kernel
theorem sc_number_in : FnScope N_number_in ["text"] (defScope s_number_in) := ⟨rfl, rfl, rfl, nd_number_in, rfl, by decide +kernel, by decide +kernel⟩
noncomputable def C1_number_in : EF :=
  (eLc false [1] (iStrX (eVar 0)) (gSet 1) tTrue (e2 gInSg (eVar 1) (eC (.str "0123456789"))))
noncomputable def F_number_in : SF :=
  (sSeq (sIf (tOrF (fun ρ L => asB ((e2 gEq (eVar 0) (eC (.str ""))) ρ L)) (tOrF (tNotF (tTru (en gAll (aCons C1_number_in aNil)))) (tAndF (fun ρ L => asB ((e2 gEq (e2 gIx (eVar 0) (eC (.int 0))) (eC (.str "0"))) ρ L)) (fun ρ L => asB ((e2 gNe (eVar 0) (eC (.str "0"))) ρ L)))))
    (sRet (eC .non))
    sSkip)
    (sRet (en gIntS (aCons (eVar 0) aNil))))
noncomputable def m_number_in : List D → Sto → Res D := mOf 2 F_number_in
theorem d_number_in {G : Gb} (D : Facts G) (W : WX) : SSs ⟨G, N_number_in, defScope s_number_in, fun _ => true, 0, false, true, none⟩ W (defBody s_number_in) F_number_in :=
  (ss_cons (ss_if (st_bool (sw_or (st_eq (se_var 0) se_str) (sw_or (st_not (st_truth (se_all D.bl (sa_cons (se_lc false [("sign", 1)] nd_number_in (si_strX (se_var 0)) (by kernel_rfl) (sg_name 1 nd_number_in) sts_nil (se_inSg (se_var 1) se_str)) sa_nil)))) (sw_one_or (st_bool (sw_and (st_eq (se_ix (se_var 0) se_int) se_str) (sw_one_and (st_ne (se_var 0) se_str))))))))
    (ss_one (ss_ret se_non))
    ss_nil)
    (ss_one (ss_ret (se_intS D.bl (sa_cons (se_var 0) sa_nil)))))
theorem fn_number_in {G : Gb} (D : Facts G) : FnIs false G "number_in" 1 1 m_number_in [] := by
  obtain ⟨f, fd, F, g⟩ := D.f_number_in
  have b : Binds G.K fd ["text"] [] := F.bindsN fun _ _ _ _ _ _ us hl => match us, hl with | [_], _ => rfl
  exact fnIs_plain F sc_number_in (d_number_in D) g b .nil (fun _ => .nil) (fun _ z => nomatch z)
def N_numbers_behind : List Str := ["words", "first", "numbers", "word"]
theorem nd_numbers_behind : N_numbers_behind.Nodup := by decide +kernel
theorem sc_numbers_behind : FnScope N_numbers_behind ["words", "first"] (defScope s_numbers_behind) := ⟨rfl, rfl, rfl, nd_numbers_behind, rfl, by decide +kernel, by decide +kernel⟩
noncomputable def C1_numbers_behind : EF :=
  (eLc false [3] (iSeq (eSl (eVar 0) (oSome (eC (.int 1))) oNone)) (gSet 3) tTrue (eCall 1 m_number_in [] (aCons (eVar 3) aNil)))
noncomputable def F_numbers_behind : SF :=
  (sSeq (sSet 2 C1_numbers_behind)
    (sRet (eIf (tAndF (fun ρ L => asB ((e2 gEq (e2 gIx (eVar 0) (eC (.int 0))) (eVar 1)) ρ L)) (tAndF (fun ρ L => asB ((e2 gNe (eVar 2) (eLst false aNil)) ρ L)) (fun ρ L => asB ((e2 gNotIn (eC .non) (eVar 2)) ρ L)))) (eVar 2) (eC .non))))
noncomputable def m_numbers_behind : List D → Sto → Res D := mOf 4 F_numbers_behind
theorem u_numbers_behind (a0 a1 : D) (L : Sto) : m_numbers_behind [a0, a1] L = fin (F_numbers_behind [some a0, some a1, none, none] L) := (rfl)
theorem d_numbers_behind {G : Gb} (D : Facts G) (W : WX) : SSs ⟨G, N_numbers_behind, defScope s_numbers_behind, fun _ => true, 1, false, true, none⟩ W (defBody s_numbers_behind) F_numbers_behind :=
  (ss_cons (ss_setLc 2 false [("word", 3)] nd_numbers_behind (si_seq (se_sl (se_var 0) (so_some se_int) so_none)) (by kernel_rfl) (sg_name 3 nd_numbers_behind) sts_nil (se_call (fn_number_in D) (Nat.le_of_ble_eq_true rfl) (sa_cons (se_var 3) sa_nil)))
    (ss_one (ss_ret (se_if (st_bool (sw_and (st_eq (se_ix (se_var 0) se_int) (se_var 1)) (sw_and (st_ne (se_var 2) (se_lst false sa_nil)) (sw_one_and (st_notIn se_non (se_var 2)))))) (se_var 2) se_non))))
theorem fn_numbers_behind {G : Gb} (D : Facts G) : FnIs false G "numbers_behind" 2 2 m_numbers_behind [] := by
  obtain ⟨f, fd, F, g⟩ := D.f_numbers_behind
  have b : Binds G.K fd ["words", "first"] [] := F.bindsN fun _ _ _ _ _ _ us hl => match us, hl with | [_, _], _ => rfl
  exact fnIs_plain F sc_numbers_behind (d_numbers_behind D) g b .nil (fun _ => .nil) (fun _ z => nomatch z)
def N_is_tie : List Str := ["value", "size", "one"]
theorem nd_is_tie : N_is_tie.Nodup := by decide +kernel
theorem sc_is_tie : FnScope N_is_tie ["value", "size"] (defScope s_is_tie) := ⟨rfl, rfl, rfl, nd_is_tie, rfl, by decide +kernel, by decide +kernel⟩
noncomputable def C1_is_tie : EF :=
  (eLc false [2] (iSeq (eVar 0)) (gSet 2) tTrue (eCall 3 m_is_integer [] (aCons (eVar 2) (aCons (eC (.int 0)) (aCons (e2 gSub (eVar 1) (eC (.int 1))) aNil)))))
noncomputable def F_is_tie : SF :=
  (sSeq (sIf (tOrF (tNotF (tTru (e1 (gIsiK owns .tup) (eVar 0)))) (tOrF (fun ρ L => asB ((e2 gNe (en gLen (aCons (eVar 0) aNil)) (eC (.int 2))) ρ L)) (tNotF (tTru (en gAll (aCons C1_is_tie aNil))))))
    (sRet (eC (.bl false)))
    sSkip)
    (sRet (e2 gLt (e2 gIx (eVar 0) (eC (.int 0))) (e2 gIx (eVar 0) (eC (.int 1))))))
noncomputable def m_is_tie : List D → Sto → Res D := mOf 3 F_is_tie
theorem u_is_tie (a0 a1 : D) (L : Sto) : m_is_tie [a0, a1] L = fin (F_is_tie [some a0, some a1, none] L) := (rfl)
theorem d_is_tie {G : Gb} (D : Facts G) (W : WX) : SSs ⟨G, N_is_tie, defScope s_is_tie, fun _ => true, 1, false, true, none⟩ W (defBody s_is_tie) F_is_tie :=
  (ss_cons (ss_if (st_bool (sw_or (st_not (st_truth (se_isiK D.ct .tup D.bl D.bl.tuple (by decide +kernel) (se_var 0)))) (sw_or (st_ne (se_len D.bl (sa_cons (se_var 0) sa_nil)) se_int) (sw_one_or (st_not (st_truth (se_all D.bl (sa_cons (se_lc false [("one", 2)] nd_is_tie (si_seq (se_var 0)) (by kernel_rfl) (sg_name 2 nd_is_tie) sts_nil (se_call (fn_is_integer D) (Nat.le_of_ble_eq_true rfl) (sa_cons (se_var 2) (sa_cons se_int (sa_cons (se_sub (se_var 1) se_int) sa_nil))))) sa_nil))))))))
    (ss_one (ss_ret se_bl))
    ss_nil)
    (ss_one (ss_ret (se_lt (se_ix (se_var 0) se_int) (se_ix (se_var 0) se_int)))))
theorem fn_is_tie {G : Gb} (D : Facts G) : FnIs false G "is_tie" 2 2 m_is_tie [] := by
  obtain ⟨f, fd, F, g⟩ := D.f_is_tie
  have b : Binds G.K fd ["value", "size"] [] := F.bindsN fun _ _ _ _ _ _ us hl => match us, hl with | [_, _], _ => rfl
  exact fnIs_plain F sc_is_tie (d_is_tie D) g b .nil (fun _ => .nil) (fun _ z => nomatch z)
def N_checked : List Str := ["size", "ties", "tie"]
theorem nd_checked : N_checked.Nodup := by decide +kernel
theorem sc_checked : FnScope N_checked ["size", "ties"] (defScope s_checked) := ⟨rfl, rfl, rfl, nd_checked, rfl, by decide +kernel, by decide +kernel⟩
noncomputable def C1_checked : EF :=
  (eLc false [2] (iSeq (eVar 1)) (gSet 2) tTrue (eCall 2 m_is_tie [] (aCons (eVar 2) (aCons (eVar 0) aNil))))
noncomputable def F_checked : SF :=
  (sSeq (sIf (tNotF (tTru (eCall 3 m_is_integer [] (aCons (eVar 0) (aCons (eC (.int 1)) (aCons (eC (.int 10)) aNil))))))
    (sRaise0 "InvalidWeb" (eC (.str "one to ten places are expected")))
    sSkip)
    (sSeq (sIf (tOrF (tNotF (tTru (e1 (gIsiK owns .tup) (eVar 1)))) (tOrF (tNotF (tTru (en gAll (aCons C1_checked aNil)))) (tNotF (tTru (eCall 1 m_is_ascending [] (aCons (eVar 1) aNil))))))
    (sRaise0 "InvalidWeb" (eC (.str "an ascending tuple of ties is expected")))
    sSkip)
    (sRet (en (gSl2 "Parts") (aCons (eVar 0) (aCons (eVar 1) aNil))))))
noncomputable def m_checked : List D → Sto → Res D := mOf 3 F_checked
theorem u_checked (a0 a1 : D) (L : Sto) : m_checked [a0, a1] L = fin (F_checked [some a0, some a1, none] L) := (rfl)
theorem d_checked {G : Gb} (D : Facts G) (W : WX) : SSs ⟨G, N_checked, defScope s_checked, fun _ => true, 2, false, true, none⟩ W (defBody s_checked) F_checked :=
  (ss_cons (ss_if (st_not (st_truth (se_call (fn_is_integer D) (Nat.le_of_ble_eq_true rfl) (sa_cons (se_var 0) (sa_cons se_int (sa_cons (se_cst D.c_MAX_PASSED (fun _ => by constructor)) sa_nil))))))
    (ss_one (ss_raise0 D.e_InvalidWeb se_str))
    ss_nil)
    (ss_cons (ss_if (st_bool (sw_or (st_not (st_truth (se_isiK D.ct .tup D.bl D.bl.tuple (by decide +kernel) (se_var 1)))) (sw_or (st_not (st_truth (se_all D.bl (sa_cons (se_lc false [("tie", 2)] nd_checked (si_seq (se_var 1)) (by kernel_rfl) (sg_name 2 nd_checked) sts_nil (se_call (fn_is_tie D) (Nat.le_of_ble_eq_true rfl) (sa_cons (se_var 2) (sa_cons (se_var 0) sa_nil)))) sa_nil)))) (sw_one_or (st_not (st_truth (se_call (fn_is_ascending D) (Nat.le_of_ble_eq_true rfl) (sa_cons (se_var 1) sa_nil))))))))
    (ss_one (ss_raise0 D.e_InvalidWeb se_str))
    ss_nil)
    (ss_one (ss_ret (se_sl2 D.k_Parts (Nat.le_of_ble_eq_true rfl) (sa_cons (se_var 0) (sa_cons (se_var 1) sa_nil)))))))
theorem fn_checked {G : Gb} (D : Facts G) : FnIs false G "checked" 2 3 m_checked [] := by
  obtain ⟨f, fd, F, g⟩ := D.f_checked
  have b : Binds G.K fd ["size", "ties"] [] := F.bindsN fun _ _ _ _ _ _ us hl => match us, hl with | [_, _], _ => rfl
  exact fnIs_plain F sc_checked (d_checked D) g b .nil (fun _ => .nil) (fun _ z => nomatch z)
def N_neighbours_of : List Str := ["place", "ties", "one", "other"]
theorem nd_neighbours_of : N_neighbours_of.Nodup := by decide +kernel
theorem sc_neighbours_of : FnScope N_neighbours_of ["place", "ties"] (defScope s_neighbours_of) := ⟨rfl, rfl, rfl, nd_neighbours_of, rfl, by decide +kernel, by decide +kernel⟩
noncomputable def C1_neighbours_of : EF :=
  (eLc false [2, 3] (iSeq (eVar 1)) (gTupF 2 (gsCons (gSet 2) (gsCons (gSet 3) gsNil))) (fun ρ L => asB ((e2 gIn (eVar 0) (eTup (aCons (eVar 2) (aCons (eVar 3) aNil)))) ρ L)) (eIf (fun ρ L => asB ((e2 gEq (eVar 2) (eVar 0)) ρ L)) (eVar 3) (eVar 2)))
noncomputable def F_neighbours_of : SF :=
  (sRet (en (gSort false) (aCons C1_neighbours_of aNil)))
noncomputable def m_neighbours_of : List D → Sto → Res D := mOf 4 F_neighbours_of
theorem u_neighbours_of (a0 a1 : D) (L : Sto) : m_neighbours_of [a0, a1] L = fin (F_neighbours_of [some a0, some a1, none, none] L) := (rfl)
theorem d_neighbours_of {G : Gb} (D : Facts G) (W : WX) : SSs ⟨G, N_neighbours_of, defScope s_neighbours_of, fun _ => true, 0, false, true, none⟩ W (defBody s_neighbours_of) F_neighbours_of :=
  (ss_one (ss_ret (se_sort false D.bl (sa_cons (se_lc false [("one", 2), ("other", 3)] nd_neighbours_of (si_seq (se_var 1)) (by kernel_rfl) (sg_tup (sgs_cons (sg_name 2 nd_neighbours_of) (sgs_cons (sg_name 3 nd_neighbours_of) sgs_nil))) (sts_one (st_in (se_var 0) (se_tup (sa_cons (se_var 2) (sa_cons (se_var 3) sa_nil))))) (se_if (st_eq (se_var 2) (se_var 0)) (se_var 3) (se_var 2))) sa_nil))))
theorem fn_neighbours_of {G : Gb} (D : Facts G) : FnIs false G "neighbours_of" 2 1 m_neighbours_of [] := by
  obtain ⟨f, fd, F, g⟩ := D.f_neighbours_of
  have b : Binds G.K fd ["place", "ties"] [] := F.bindsN fun _ _ _ _ _ _ us hl => match us, hl with | [_, _], _ => rfl
  exact fnIs_plain F sc_neighbours_of (d_neighbours_of D) g b .nil (fun _ => .nil) (fun _ z => nomatch z)
def N_near_of : List Str := ["size", "ties", "place", "other"]
theorem nd_near_of : N_near_of.Nodup := by decide +kernel
theorem sc_near_of : FnScope N_near_of ["size", "ties"] (defScope s_near_of) := ⟨rfl, rfl, rfl, nd_near_of, rfl, by decide +kernel, by decide +kernel⟩
noncomputable def C1_near_of : EF :=
  (eCompO lockOut [3] (.dK []) (iSeq (eCall 2 m_neighbours_of [] (aCons (eVar 2) (aCons (eVar 1) aNil)))) (gSet 3) tTrue (stepD (eVar 3) (eC (.bl true))))
noncomputable def C2_near_of : EF :=
  (eLc false [2] (iRange1 (aCons (eVar 0) aNil)) (gSet 2) tTrue C1_near_of)
noncomputable def F_near_of : SF :=
  (sRet (en gTuple (aCons C2_near_of aNil)))
noncomputable def m_near_of : List D → Sto → Res D := mOf 4 F_near_of
theorem u_near_of (a0 a1 : D) (L : Sto) : m_near_of [a0, a1] L = fin (F_near_of [some a0, some a1, none, none] L) := (rfl)
theorem d_near_of {G : Gb} (D : Facts G) (W : WX) : SSs ⟨G, N_near_of, defScope s_near_of, fun _ => true, 1, false, true, none⟩ W (defBody s_near_of) F_near_of :=
  (ss_one (ss_ret (se_tuple D.bl (sa_cons (se_lc false [("place", 2)] nd_near_of (si_range1 (sa_cons (se_var 0) sa_nil) rfl D.bl.range) (by kernel_rfl) (sg_name 2 nd_near_of) sts_nil (se_dcF [("other", 3)] nd_near_of (si_seq (se_call (fn_neighbours_of D) (Nat.le_of_ble_eq_true rfl) (sa_cons (se_var 2) (sa_cons (se_var 1) sa_nil)))) (by kernel_rfl) (sg_name 3 nd_near_of) sts_nil (se_var 3) se_bl)) sa_nil))))
theorem fn_near_of {G : Gb} (D : Facts G) : FnIs false G "near_of" 2 2 m_near_of [] := by
  obtain ⟨f, fd, F, g⟩ := D.f_near_of
  have b : Binds G.K fd ["size", "ties"] [] := F.bindsN fun _ _ _ _ _ _ us hl => match us, hl with | [_, _], _ => rfl
  exact fnIs_plain F sc_near_of (d_near_of D) g b .nil (fun _ => .nil) (fun _ z => nomatch z)
def N_Web_init : List Str := ["self", "size", "ties", "held"]
theorem nd_Web_init : N_Web_init.Nodup := by decide +kernel
theorem sc_Web_init : FnScope N_Web_init ["self", "size", "ties"] (defScope s_Web_init) := ⟨rfl, rfl, rfl, nd_Web_init, rfl, by decide +kernel, by decide +kernel⟩
noncomputable def F_Web_init : SF :=
  (sSeq (sSet 3 (eIf (tTru (e1 (gIsiO owns "Parts") (eVar 1))) (eVar 1) (eCall 2 m_checked [] (aCons (eVar 1) (aCons (eVar 2) aNil)))))
    (sSeq (sFldPut "Web" "own_size" (e1 (gSlt "Parts" 0) (eVar 3)) (eVar 0))
    (sSeq (sFldPut "Web" "own_ties" (e1 (gSlt "Parts" 1) (eVar 3)) (eVar 0))
    (sSeq (sFldPut "Web" "own_near" (eCall 2 m_near_of [] (aCons (e1 (gSlt "Parts" 0) (eVar 3)) (aCons (e1 (gSlt "Parts" 1) (eVar 3)) aNil))) (eVar 0))
    (sFldPut "Web" "own_places" (en gTuple (aCons (eRange1 (e1 (gSlt "Parts" 0) (eVar 3)) (lstOut false)) aNil)) (eVar 0))))))
noncomputable def m_Web_init : List D → Sto → Res D := mOf 4 F_Web_init
theorem u_Web_init (a0 a1 a2 : D) (L : Sto) : m_Web_init [a0, a1, a2] L = fin (F_Web_init [some a0, some a1, some a2, none] L) := (rfl)
theorem d_Web_init {G : Gb} (D : Facts G) (W : WX) : SSs ⟨G, N_Web_init, defScope s_Web_init, fun _ => true, 3, false, true, none⟩ W (defBody s_Web_init) F_Web_init :=
  (ss_cons (ss_set 3 nd_Web_init (se_if (st_truth (se_isiO D.ct D.bl (s := true) (by decide) (se_var 1))) (se_var 1) (se_call (fn_checked D) (Nat.le_of_ble_eq_true rfl) (sa_cons (se_var 1) (sa_cons (se_var 2) sa_nil)))))
    (ss_cons (ss_fld D.n_Web_own_size (se_slt D.s_Parts_own_size (se_var 3)) (se_var 0))
    (ss_cons (ss_fld D.n_Web_own_ties (se_slt D.s_Parts_own_ties (se_var 3)) (se_var 0))
    (ss_cons (ss_fld D.n_Web_own_near (se_call (fn_near_of D) (Nat.le_of_ble_eq_true rfl) (sa_cons (se_slt D.s_Parts_own_size (se_var 3)) (sa_cons (se_slt D.s_Parts_own_ties (se_var 3)) sa_nil))) (se_var 0))
    (ss_one (ss_fld D.n_Web_own_places (se_tuple D.bl (sa_cons (se_listRg1 false D.bl (se_slt D.s_Parts_own_size (se_var 3))) sa_nil)) (se_var 0)))))))
theorem mk_Web0 {G : Gb} (D : Facts G) : MkIs false G "Web" 3 4 m_Web_init [] := by
  obtain ⟨C, f, fd, e0, hm, hM, F, z0⟩ := D.f_Web_init
  obtain ⟨ds, hd, hb⟩ := FunD.binds1 (ps := ["self", "size", "ties"]) F 3 1 (by intro h; cases h) rfl fun T kV doc pm an cdv ct us its hu hi => match us, hu, its, hi with | [_, _, _], _, [_], _ => ⟨_, rfl, rfl⟩
  exact ⟨C, f, fd, ["self", "size", "ties"], ds, _, hm, hM, hb, hd, fun w => .nil, fn_body F sc_Web_init (d_Web_init D) (fun w L H ds Q E R p => p) (fun _ z => nomatch z)⟩
theorem mk_Web1 {G : Gb} (D : Facts G) : MkIs false G "Web" 3 4 m_Web_init [(.tg [])] := by
  obtain ⟨C, f, fd, e0, hm, hM, F, z0⟩ := D.f_Web_init
  obtain ⟨ds, hd, hb⟩ := FunD.binds1 (ps := ["self", "size", "ties"]) F 2 0 (by intro h; cases h) rfl fun T kV doc pm an cdv ct us its hu hi => match us, hu, its, hi with | [_, _], _, [_], _ => ⟨_, rfl, rfl⟩
  exact ⟨C, f, fd, ["self", "size", "ties"], ds, _, hm, hM, hb, hd, fun w => (.cons (den_emp z0 w) .nil), fn_body F sc_Web_init (d_Web_init D) (fun w L H ds Q E R p => p) (fun _ z => nomatch z)⟩
def N_read_web : List Str := ["text", "rows", "size", "ties", "at", "words", "numbers"]
theorem nd_read_web : N_read_web.Nodup := by decide +kernel
theorem sc_read_web : FnScope N_read_web ["text"] (defScope s_read_web) := ⟨rfl, rfl, rfl, nd_read_web, rfl, by decide +kernel, by decide +kernel⟩
noncomputable def I1_read_web : IF :=
  (iEnumF (aCons (eSl (eVar 1) (oSome (eC (.int 1))) oNone) aNil))
noncomputable def T1_read_web : GF :=
  (gTupF 2 (gsCons (gSet 4) (gsCons (gSet 5) gsNil)))
noncomputable def B1_read_web : SF :=
  (sSeq (sSet 6 (eCall 2 m_numbers_behind [] (aCons (eVar 5) (aCons (eC (.str "tie")) aNil))))
    (sSeq (sIf (tOrF (fun ρ L => asB ((e2 gIsN (eVar 6) (eC .non)) ρ L)) (tOrF (fun ρ L => asB ((e2 gNe (en gLen (aCons (eVar 6) aNil)) (eC (.int 2))) ρ L)) (fun ρ L => asB ((e2 gGe (e2 gIx (eVar 6) (eC (.int 0))) (e2 gIx (eVar 6) (eC (.int 1)))) ρ L))))
    (sRaiseF "ParseError" "line" (e2 gAdd (eVar 4) (eC (.int 1))))
    sSkip)
    (sSeq (sIf (tAndF (fun ρ L => asB ((e2 gNe (eVar 3) (eLst false aNil)) ρ L)) (fun ρ L => asB ((e2 gGeP (e2 gIx (eVar 3) (e1 gNeg (eC (.int 1)))) (eLo (en gTuple (aCons (eVar 6) aNil)))) ρ L)))
    (sRaiseF "ParseError" "line" (e2 gAdd (eVar 4) (eC (.int 1))))
    sSkip)
    (sExpr (eBm (eVar 3) (aCons (eLo (en gTuple (aCons (eVar 6) aNil))) aNil) gAppend)))))
noncomputable def L1_read_web : SF :=
  (sFor I1_read_web T1_read_web B1_read_web)
noncomputable def F_read_web : SF :=
  (sSeq (sSet 1 (eCall 1 m_words_in [] (aCons (eVar 0) aNil)))
    (sSeq (sSet 2 (eCall 2 m_numbers_behind [] (aCons (e2 gIx (eVar 1) (eC (.int 0))) (aCons (eC (.str "web")) aNil))))
    (sSeq (sIf (tOrF (fun ρ L => asB ((e2 gIsN (eVar 2) (eC .non)) ρ L)) (fun ρ L => asB ((e2 gNe (en gLen (aCons (eVar 2) aNil)) (eC (.int 1))) ρ L)))
    (sRaiseF "ParseError" "line" (eC (.int 0)))
    sSkip)
    (sSeq (sSet 3 (eLst true aNil))
    (sSeq L1_read_web
    (sRet (eMk 3 (mMakeV "Web" m_Web_init) [] (aCons (e2 gIx (eVar 2) (eC (.int 0))) (aCons (en gTuple (aCons (eVar 3) aNil)) aNil)))))))))
noncomputable def m_read_web : List D → Sto → Res D := mDrop 7 F_read_web
theorem u_read_web (a0 : D) (L : Sto) : m_read_web [a0] L = dropR L (fin (F_read_web [some a0, none, none, none, none, none, none] L)) := (rfl)
theorem d_read_web {G : Gb} (D : Facts G) (W : WX) : SSs ⟨G, N_read_web, defScope s_read_web, fun _ => true, 5, false, true, none⟩ W (defBody s_read_web) F_read_web :=
  (ss_cons (ss_set 1 nd_read_web (se_call (fn_words_in D) (Nat.le_of_ble_eq_true rfl) (sa_cons (se_var 0) sa_nil)))
    (ss_cons (ss_set 2 nd_read_web (se_call (fn_numbers_behind D) (Nat.le_of_ble_eq_true rfl) (sa_cons (se_ix (se_var 1) se_int) (sa_cons se_str sa_nil))))
    (ss_cons (ss_if (st_bool (sw_or (st_isN (se_var 2) se_non) (sw_one_or (st_ne (se_len D.bl (sa_cons (se_var 2) sa_nil)) se_int))))
    (ss_one (ss_raiseF D.e_ParseError (Nat.le_of_ble_eq_true rfl) se_int))
    ss_nil)
    (ss_cons (ss_set 3 nd_read_web (se_lst true sa_nil))
    (ss_cons (ss_for (own := [4, 5]) (fi := I1_read_web) (ft := T1_read_web) (g := B1_read_web) (si_enum (sa_cons (se_sl (se_var 1) (so_some se_int) so_none) sa_nil) rfl D.bl.enumerate) (sg_tup (sgs_cons (sg_name 4 nd_read_web) (sgs_cons (sg_name 5 nd_read_web) sgs_nil)))
    (ss_cons (ss_set 6 nd_read_web (se_call (fn_numbers_behind D) (Nat.le_of_ble_eq_true rfl) (sa_cons (se_var 5) (sa_cons se_str sa_nil))))
    (ss_cons (ss_if (st_bool (sw_or (st_isN (se_var 6) se_non) (sw_or (st_ne (se_len D.bl (sa_cons (se_var 6) sa_nil)) se_int) (sw_one_or (st_ge (se_ix (se_var 6) se_int) (se_ix (se_var 6) se_int))))))
    (ss_one (ss_raiseF D.e_ParseError (Nat.le_of_ble_eq_true rfl) (se_add (se_var 4) se_int)))
    ss_nil)
    (ss_cons (ss_if (st_bool (sw_and (st_ne (se_var 3) (se_lst false sa_nil)) (sw_one_and (st_geP (se_ix (se_var 3) (se_neg se_int)) (se_lo (se_tuple D.bl (sa_cons (se_var 6) sa_nil)))))))
    (ss_one (ss_raiseF D.e_ParseError (Nat.le_of_ble_eq_true rfl) (se_add (se_var 4) se_int)))
    ss_nil)
    (ss_one (ss_expr (se_append (se_var 3) (sa_cons (se_lo (se_tuple D.bl (sa_cons (se_var 6) sa_nil))) sa_nil))))))))
    (ss_one (ss_ret (se_makeV (mk_Web0 D) (Nat.le_of_ble_eq_true rfl) (sa_cons (se_ix (se_var 2) se_int) (sa_cons (se_tuple D.bl (sa_cons (se_var 3) sa_nil)) sa_nil))))))))))
theorem fn_read_web {G : Gb} (D : Facts G) : FnIs false G "read_web" 1 6 m_read_web [] := by
  obtain ⟨f, fd, F, g⟩ := D.f_read_web
  have b : Binds G.K fd ["text"] [] := F.bindsN fun _ _ _ _ _ _ us hl => match us, hl with | [_], _ => rfl
  exact fnIs_drop F sc_read_web (d_read_web D) g b .nil (fun _ => .nil) (fun _ z => nomatch z)
def N_read_row : List Str := ["text", "rows", "numbers"]
theorem nd_read_row : N_read_row.Nodup := by decide +kernel
theorem sc_read_row : FnScope N_read_row ["text"] (defScope s_read_row) := ⟨rfl, rfl, rfl, nd_read_row, rfl, by decide +kernel, by decide +kernel⟩
noncomputable def F_read_row : SF :=
  (sSeq (sSet 1 (eCall 1 m_words_in [] (aCons (eVar 0) aNil)))
    (sSeq (sSet 2 (eCall 2 m_numbers_behind [] (aCons (e2 gIx (eVar 1) (eC (.int 0))) (aCons (eC (.str "row")) aNil))))
    (sSeq (sIf (fun ρ L => asB ((e2 gIsN (eVar 2) (eC .non)) ρ L))
    (sRaiseF "ParseError" "line" (eC (.int 0)))
    sSkip)
    (sSeq (sIf (fun ρ L => asB ((e2 gGt (en gLen (aCons (eVar 1) aNil)) (eC (.int 1))) ρ L))
    (sRaiseF "ParseError" "line" (eC (.int 1)))
    sSkip)
    (sRet (en gTuple (aCons (eVar 2) aNil)))))))
noncomputable def m_read_row : List D → Sto → Res D := mOf 3 F_read_row
theorem u_read_row (a0 : D) (L : Sto) : m_read_row [a0] L = fin (F_read_row [some a0, none, none] L) := (rfl)
theorem d_read_row {G : Gb} (D : Facts G) (W : WX) : SSs ⟨G, N_read_row, defScope s_read_row, fun _ => true, 2, false, true, none⟩ W (defBody s_read_row) F_read_row :=
  (ss_cons (ss_set 1 nd_read_row (se_call (fn_words_in D) (Nat.le_of_ble_eq_true rfl) (sa_cons (se_var 0) sa_nil)))
    (ss_cons (ss_set 2 nd_read_row (se_call (fn_numbers_behind D) (Nat.le_of_ble_eq_true rfl) (sa_cons (se_ix (se_var 1) se_int) (sa_cons se_str sa_nil))))
    (ss_cons (ss_if (st_isN (se_var 2) se_non)
    (ss_one (ss_raiseF D.e_ParseError (Nat.le_of_ble_eq_true rfl) se_int))
    ss_nil)
    (ss_cons (ss_if (st_gt (se_len D.bl (sa_cons (se_var 1) sa_nil)) se_int)
    (ss_one (ss_raiseF D.e_ParseError (Nat.le_of_ble_eq_true rfl) se_int))
    ss_nil)
    (ss_one (ss_ret (se_tuple D.bl (sa_cons (se_var 2) sa_nil))))))))
theorem fn_read_row {G : Gb} (D : Facts G) : FnIs false G "read_row" 1 3 m_read_row [] := by
  obtain ⟨f, fd, F, g⟩ := D.f_read_row
  have b : Binds G.K fd ["text"] [] := F.bindsN fun _ _ _ _ _ _ us hl => match us, hl with | [_], _ => rfl
  exact fnIs_plain F sc_read_row (d_read_row D) g b .nil (fun _ => .nil) (fun _ z => nomatch z)
def N_read_chain : List Str := ["text", "found", "at", "words", "numbers"]
theorem nd_read_chain : N_read_chain.Nodup := by decide +kernel
theorem sc_read_chain : FnScope N_read_chain ["text"] (defScope s_read_chain) := ⟨rfl, rfl, rfl, nd_read_chain, rfl, by decide +kernel, by decide +kernel⟩
noncomputable def I1_read_chain : IF :=
  (iEnumF (aCons (eCall 1 m_words_in [] (aCons (eVar 0) aNil)) aNil))
noncomputable def T1_read_chain : GF :=
  (gTupF 2 (gsCons (gSet 2) (gsCons (gSet 3) gsNil)))
noncomputable def B1_read_chain : SF :=
  (sSeq (sSet 4 (eCall 2 m_numbers_behind [] (aCons (eVar 3) (aCons (eC (.str "move")) aNil))))
    (sSeq (sIf (tOrF (fun ρ L => asB ((e2 gIsN (eVar 4) (eC .non)) ρ L)) (fun ρ L => asB ((e2 gNe (en gLen (aCons (eVar 4) aNil)) (eC (.int 2))) ρ L)))
    (sRaiseF "ParseError" "line" (eVar 2))
    sSkip)
    (sExpr (eBm (eVar 1) (aCons (eLo (en gTuple (aCons (eVar 4) aNil))) aNil) gAppend))))
noncomputable def L1_read_chain : SF :=
  (sFor I1_read_chain T1_read_chain B1_read_chain)
noncomputable def F_read_chain : SF :=
  (sSeq (sSet 1 (eLst true aNil))
    (sSeq L1_read_chain
    (sRet (en gTuple (aCons (eVar 1) aNil)))))
noncomputable def m_read_chain : List D → Sto → Res D := mDrop 5 F_read_chain
theorem u_read_chain (a0 : D) (L : Sto) : m_read_chain [a0] L = dropR L (fin (F_read_chain [some a0, none, none, none, none] L)) := (rfl)
theorem d_read_chain {G : Gb} (D : Facts G) (W : WX) : SSs ⟨G, N_read_chain, defScope s_read_chain, fun _ => true, 2, false, true, none⟩ W (defBody s_read_chain) F_read_chain :=
  (ss_cons (ss_set 1 nd_read_chain (se_lst true sa_nil))
    (ss_cons (ss_for (own := [2, 3]) (fi := I1_read_chain) (ft := T1_read_chain) (g := B1_read_chain) (si_enum (sa_cons (se_call (fn_words_in D) (Nat.le_of_ble_eq_true rfl) (sa_cons (se_var 0) sa_nil)) sa_nil) rfl D.bl.enumerate) (sg_tup (sgs_cons (sg_name 2 nd_read_chain) (sgs_cons (sg_name 3 nd_read_chain) sgs_nil)))
    (ss_cons (ss_set 4 nd_read_chain (se_call (fn_numbers_behind D) (Nat.le_of_ble_eq_true rfl) (sa_cons (se_var 3) (sa_cons se_str sa_nil))))
    (ss_cons (ss_if (st_bool (sw_or (st_isN (se_var 4) se_non) (sw_one_or (st_ne (se_len D.bl (sa_cons (se_var 4) sa_nil)) se_int))))
    (ss_one (ss_raiseF D.e_ParseError (Nat.le_of_ble_eq_true rfl) (se_var 2)))
    ss_nil)
    (ss_one (ss_expr (se_append (se_var 1) (sa_cons (se_lo (se_tuple D.bl (sa_cons (se_var 4) sa_nil))) sa_nil)))))))
    (ss_one (ss_ret (se_tuple D.bl (sa_cons (se_var 1) sa_nil))))))
theorem fn_read_chain {G : Gb} (D : Facts G) : FnIs false G "read_chain" 1 3 m_read_chain [] := by
  obtain ⟨f, fd, F, g⟩ := D.f_read_chain
  have b : Binds G.K fd ["text"] [] := F.bindsN fun _ _ _ _ _ _ us hl => match us, hl with | [_], _ => rfl
  exact fnIs_drop F sc_read_chain (d_read_chain D) g b .nil (fun _ => .nil) (fun _ z => nomatch z)
def N_tie_in : List Str := ["text", "numbers", "word"]
theorem nd_tie_in : N_tie_in.Nodup := by decide +kernel
theorem sc_tie_in : FnScope N_tie_in ["text"] (defScope s_tie_in) := ⟨rfl, rfl, rfl, nd_tie_in, rfl, by decide +kernel, by decide +kernel⟩
noncomputable def C1_tie_in : EF :=
  (eLc false [2] (iSeq (eM1 (eVar 0) (eC (.str "-")) (gSplit false))) (gSet 2) tTrue (eCall 1 m_number_in [] (aCons (eVar 2) aNil)))
noncomputable def F_tie_in : SF :=
  (sSeq (sSet 1 C1_tie_in)
    (sSeq (sIf (tOrF (fun ρ L => asB ((e2 gNe (en gLen (aCons (eVar 1) aNil)) (eC (.int 2))) ρ L)) (tOrF (fun ρ L => asB ((e2 gIn (eC .non) (eVar 1)) ρ L)) (fun ρ L => asB ((e2 gGe (e2 gIx (eVar 1) (eC (.int 0))) (e2 gIx (eVar 1) (eC (.int 1)))) ρ L))))
    (sRet (eC .non))
    sSkip)
    (sRet (eTup (aCons (e2 gIx (eVar 1) (eC (.int 0))) (aCons (e2 gIx (eVar 1) (eC (.int 1))) aNil))))))
noncomputable def m_tie_in : List D → Sto → Res D := mOf 3 F_tie_in
theorem d_tie_in {G : Gb} (D : Facts G) (W : WX) : SSs ⟨G, N_tie_in, defScope s_tie_in, fun _ => true, 1, false, true, none⟩ W (defBody s_tie_in) F_tie_in :=
  (ss_cons (ss_setLc 1 false [("word", 2)] nd_tie_in (si_seq (se_split false (se_var 0) se_str)) (by kernel_rfl) (sg_name 2 nd_tie_in) sts_nil (se_call (fn_number_in D) (Nat.le_of_ble_eq_true rfl) (sa_cons (se_var 2) sa_nil)))
    (ss_cons (ss_if (st_bool (sw_or (st_ne (se_len D.bl (sa_cons (se_var 1) sa_nil)) se_int) (sw_or (st_in se_non (se_var 1)) (sw_one_or (st_ge (se_ix (se_var 1) se_int) (se_ix (se_var 1) se_int))))))
    (ss_one (ss_ret se_non))
    ss_nil)
    (ss_one (ss_ret (se_tup (sa_cons (se_ix (se_var 1) se_int) (sa_cons (se_ix (se_var 1) se_int) sa_nil)))))))
theorem fn_tie_in {G : Gb} (D : Facts G) : FnIs false G "tie_in" 1 2 m_tie_in [] := by
  obtain ⟨f, fd, F, g⟩ := D.f_tie_in
  have b : Binds G.K fd ["text"] [] := F.bindsN fun _ _ _ _ _ _ us hl => match us, hl with | [_], _ => rfl
  exact fnIs_plain F sc_tie_in (d_tie_in D) g b .nil (fun _ => .nil) (fun _ z => nomatch z)
def N_ties_behind : List Str := ["words", "ties", "word"]
theorem nd_ties_behind : N_ties_behind.Nodup := by decide +kernel
theorem sc_ties_behind : FnScope N_ties_behind ["words"] (defScope s_ties_behind) := ⟨rfl, rfl, rfl, nd_ties_behind, rfl, by decide +kernel, by decide +kernel⟩
noncomputable def C1_ties_behind : EF :=
  (eLc false [2] (iSeq (eSl (eVar 0) (oSome (eC (.int 1))) oNone)) (gSet 2) tTrue (eCall 1 m_tie_in [] (aCons (eVar 2) aNil)))
noncomputable def F_ties_behind : SF :=
  (sSeq (sIf (fun ρ L => asB ((e2 gEq (eVar 0) (eLst false (aCons (eC (.str "round")) (aCons (eC (.str "-")) aNil)))) ρ L))
    (sRet (eTup aNil))
    sSkip)
    (sSeq (sSet 1 C1_ties_behind)
    (sSeq (sIf (tOrF (fun ρ L => asB ((e2 gNe (e2 gIx (eVar 0) (eC (.int 0))) (eC (.str "round"))) ρ L)) (tOrF (fun ρ L => asB ((e2 gEq (eVar 1) (eLst false aNil)) ρ L)) (tOrF (fun ρ L => asB ((e2 gIn (eC .non) (eVar 1)) ρ L)) (tNotF (tTru (eCall 1 m_is_ascending [] (aCons (eVar 1) aNil)))))))
    (sRet (eC .non))
    sSkip)
    (sRet (en gTuple (aCons (eVar 1) aNil))))))
noncomputable def m_ties_behind : List D → Sto → Res D := mOf 3 F_ties_behind
theorem u_ties_behind (a0 : D) (L : Sto) : m_ties_behind [a0] L = fin (F_ties_behind [some a0, none, none] L) := (rfl)
theorem d_ties_behind {G : Gb} (D : Facts G) (W : WX) : SSs ⟨G, N_ties_behind, defScope s_ties_behind, fun _ => true, 2, false, true, none⟩ W (defBody s_ties_behind) F_ties_behind :=
  (ss_cons (ss_if (st_eq (se_var 0) (se_lst false (sa_cons se_str (sa_cons se_str sa_nil))))
    (ss_one (ss_ret (se_tup sa_nil)))
    ss_nil)
    (ss_cons (ss_setLc 1 false [("word", 2)] nd_ties_behind (si_seq (se_sl (se_var 0) (so_some se_int) so_none)) (by kernel_rfl) (sg_name 2 nd_ties_behind) sts_nil (se_call (fn_tie_in D) (Nat.le_of_ble_eq_true rfl) (sa_cons (se_var 2) sa_nil)))
    (ss_cons (ss_if (st_bool (sw_or (st_ne (se_ix (se_var 0) se_int) se_str) (sw_or (st_eq (se_var 1) (se_lst false sa_nil)) (sw_or (st_in se_non (se_var 1)) (sw_one_or (st_not (st_truth (se_call (fn_is_ascending D) (Nat.le_of_ble_eq_true rfl) (sa_cons (se_var 1) sa_nil)))))))))
    (ss_one (ss_ret se_non))
    ss_nil)
    (ss_one (ss_ret (se_tuple D.bl (sa_cons (se_var 1) sa_nil)))))))
theorem fn_ties_behind {G : Gb} (D : Facts G) : FnIs false G "ties_behind" 1 3 m_ties_behind [] := by
  obtain ⟨f, fd, F, g⟩ := D.f_ties_behind
  have b : Binds G.K fd ["words"] [] := F.bindsN fun _ _ _ _ _ _ us hl => match us, hl with | [_], _ => rfl
  exact fnIs_plain F sc_ties_behind (d_ties_behind D) g b .nil (fun _ => .nil) (fun _ z => nomatch z)
def N_read_rounds : List Str := ["text", "found", "at", "words", "ties"]
theorem nd_read_rounds : N_read_rounds.Nodup := by decide +kernel
theorem sc_read_rounds : FnScope N_read_rounds ["text"] (defScope s_read_rounds) := ⟨rfl, rfl, rfl, nd_read_rounds, rfl, by decide +kernel, by decide +kernel⟩
noncomputable def I1_read_rounds : IF :=
  (iEnumF (aCons (eCall 1 m_words_in [] (aCons (eVar 0) aNil)) aNil))
noncomputable def T1_read_rounds : GF :=
  (gTupF 2 (gsCons (gSet 2) (gsCons (gSet 3) gsNil)))
noncomputable def B1_read_rounds : SF :=
  (sSeq (sSet 4 (eCall 1 m_ties_behind [] (aCons (eVar 3) aNil)))
    (sSeq (sIf (fun ρ L => asB ((e2 gIsN (eVar 4) (eC .non)) ρ L))
    (sRaiseF "ParseError" "line" (eVar 2))
    sSkip)
    (sExpr (eBm (eVar 1) (aCons (eVar 4) aNil) gAppend))))
noncomputable def L1_read_rounds : SF :=
  (sFor I1_read_rounds T1_read_rounds B1_read_rounds)
noncomputable def F_read_rounds : SF :=
  (sSeq (sSet 1 (eLst true aNil))
    (sSeq L1_read_rounds
    (sRet (en gTuple (aCons (eVar 1) aNil)))))
noncomputable def m_read_rounds : List D → Sto → Res D := mDrop 5 F_read_rounds
theorem u_read_rounds (a0 : D) (L : Sto) : m_read_rounds [a0] L = dropR L (fin (F_read_rounds [some a0, none, none, none, none] L)) := (rfl)
theorem d_read_rounds {G : Gb} (D : Facts G) (W : WX) : SSs ⟨G, N_read_rounds, defScope s_read_rounds, fun _ => true, 3, false, true, none⟩ W (defBody s_read_rounds) F_read_rounds :=
  (ss_cons (ss_set 1 nd_read_rounds (se_lst true sa_nil))
    (ss_cons (ss_for (own := [2, 3]) (fi := I1_read_rounds) (ft := T1_read_rounds) (g := B1_read_rounds) (si_enum (sa_cons (se_call (fn_words_in D) (Nat.le_of_ble_eq_true rfl) (sa_cons (se_var 0) sa_nil)) sa_nil) rfl D.bl.enumerate) (sg_tup (sgs_cons (sg_name 2 nd_read_rounds) (sgs_cons (sg_name 3 nd_read_rounds) sgs_nil)))
    (ss_cons (ss_set 4 nd_read_rounds (se_call (fn_ties_behind D) (Nat.le_of_ble_eq_true rfl) (sa_cons (se_var 3) sa_nil)))
    (ss_cons (ss_if (st_isN (se_var 4) se_non)
    (ss_one (ss_raiseF D.e_ParseError (Nat.le_of_ble_eq_true rfl) (se_var 2)))
    ss_nil)
    (ss_one (ss_expr (se_append (se_var 1) (sa_cons (se_var 4) sa_nil)))))))
    (ss_one (ss_ret (se_tuple D.bl (sa_cons (se_var 1) sa_nil))))))
theorem fn_read_rounds {G : Gb} (D : Facts G) : FnIs false G "read_rounds" 1 4 m_read_rounds [] := by
  obtain ⟨f, fd, F, g⟩ := D.f_read_rounds
  have b : Binds G.K fd ["text"] [] := F.bindsN fun _ _ _ _ _ _ us hl => match us, hl with | [_], _ => rfl
  exact fnIs_drop F sc_read_rounds (d_read_rounds D) g b .nil (fun _ => .nil) (fun _ z => nomatch z)
def N_l_all_met : List Str := ["_law_thing", "_law_told"]
theorem nd_l_all_met : N_l_all_met.Nodup := by decide +kernel
theorem sc_l_all_met : FnScope N_l_all_met ["_law_thing"] (defScope s_l_all_met) := ⟨rfl, rfl, rfl, nd_l_all_met, rfl, by decide +kernel, by decide +kernel⟩
noncomputable def F_l_all_met : SF :=
  (sSeq (sSet 1 (eLst true (aCons (eLam m_l_met [] (eCall 1 m_write_web [] (aCons (eVar 0) aNil))) aNil)))
    (sSeq (sExpr (eBm (eVar 1) (aCons (eLam m_l_met [] (eCall 1 m_write_row [] (aCons (eVar 0) aNil))) aNil) gAppend))
    (sSeq (sExpr (eBm (eVar 1) (aCons (eLam m_l_met [] (eCall 1 m_write_chain [] (aCons (eVar 0) aNil))) aNil) gAppend))
    (sSeq (sExpr (eBm (eVar 1) (aCons (eLam m_l_met [] (eCall 1 m_write_rounds [] (aCons (eVar 0) aNil))) aNil) gAppend))
    (sSeq (sExpr (eBm (eVar 1) (aCons (eLam m_l_met [] (eCall 1 m_read_web [] (aCons (eVar 0) aNil))) aNil) gAppend))
    (sSeq (sExpr (eBm (eVar 1) (aCons (eLam m_l_met [] (eCall 1 m_read_row [] (aCons (eVar 0) aNil))) aNil) gAppend))
    (sSeq (sExpr (eBm (eVar 1) (aCons (eLam m_l_met [] (eCall 1 m_read_chain [] (aCons (eVar 0) aNil))) aNil) gAppend))
    (sSeq (sExpr (eBm (eVar 1) (aCons (eLam m_l_met [] (eCall 1 m_read_rounds [] (aCons (eVar 0) aNil))) aNil) gAppend))
    (sRet (eVar 1))))))))))
noncomputable def m_l_all_met : List D → Sto → Res D := mDrop 2 F_l_all_met
theorem u_l_all_met (a0 : D) (L : Sto) : m_l_all_met [a0] L = dropR L (fin (F_l_all_met [some a0, none] L)) := (rfl)
theorem d_l_all_met {G : Gb} (D : Facts G) (W : WX) : SSs ⟨G, N_l_all_met, defScope s_l_all_met, fun _ => true, 8, true, true, (some "<lambda>")⟩ W (defBody s_l_all_met) F_l_all_met :=
  (ss_cons (ss_set 1 nd_l_all_met (se_lst true (sa_cons (se_lam0 (kb := 2) (lm_l_met D (2 + 1)) (Nat.le_of_ble_eq_true rfl) (Nat.le_of_ble_eq_true rfl) rfl D.tf (by kernel_rfl) (fun W => (se_call (fn_write_web D) (Nat.le_of_ble_eq_true rfl) (sa_cons (se_var 0) sa_nil))) (fun _ => rfl)) sa_nil)))
    (ss_cons (ss_expr (se_append (se_var 1) (sa_cons (se_lam0 (kb := 2) (lm_l_met D (2 + 1)) (Nat.le_of_ble_eq_true rfl) (Nat.le_of_ble_eq_true rfl) rfl D.tf (by kernel_rfl) (fun W => (se_call (fn_write_row D) (Nat.le_of_ble_eq_true rfl) (sa_cons (se_var 0) sa_nil))) (fun _ => rfl)) sa_nil)))
    (ss_cons (ss_expr (se_append (se_var 1) (sa_cons (se_lam0 (kb := 3) (lm_l_met D (3 + 1)) (Nat.le_of_ble_eq_true rfl) (Nat.le_of_ble_eq_true rfl) rfl D.tf (by kernel_rfl) (fun W => (se_call (fn_write_chain D) (Nat.le_of_ble_eq_true rfl) (sa_cons (se_var 0) sa_nil))) (fun _ => rfl)) sa_nil)))
    (ss_cons (ss_expr (se_append (se_var 1) (sa_cons (se_lam0 (kb := 4) (lm_l_met D (4 + 1)) (Nat.le_of_ble_eq_true rfl) (Nat.le_of_ble_eq_true rfl) rfl D.tf (by kernel_rfl) (fun W => (se_call (fn_write_rounds D) (Nat.le_of_ble_eq_true rfl) (sa_cons (se_var 0) sa_nil))) (fun _ => rfl)) sa_nil)))
    (ss_cons (ss_expr (se_append (se_var 1) (sa_cons (se_lam0 (kb := 6) (lm_l_met D (6 + 1)) (Nat.le_of_ble_eq_true rfl) (Nat.le_of_ble_eq_true rfl) rfl D.tf (by kernel_rfl) (fun W => (se_call (fn_read_web D) (Nat.le_of_ble_eq_true rfl) (sa_cons (se_var 0) sa_nil))) (fun _ => rfl)) sa_nil)))
    (ss_cons (ss_expr (se_append (se_var 1) (sa_cons (se_lam0 (kb := 3) (lm_l_met D (3 + 1)) (Nat.le_of_ble_eq_true rfl) (Nat.le_of_ble_eq_true rfl) rfl D.tf (by kernel_rfl) (fun W => (se_call (fn_read_row D) (Nat.le_of_ble_eq_true rfl) (sa_cons (se_var 0) sa_nil))) (fun _ => rfl)) sa_nil)))
    (ss_cons (ss_expr (se_append (se_var 1) (sa_cons (se_lam0 (kb := 3) (lm_l_met D (3 + 1)) (Nat.le_of_ble_eq_true rfl) (Nat.le_of_ble_eq_true rfl) rfl D.tf (by kernel_rfl) (fun W => (se_call (fn_read_chain D) (Nat.le_of_ble_eq_true rfl) (sa_cons (se_var 0) sa_nil))) (fun _ => rfl)) sa_nil)))
    (ss_cons (ss_expr (se_append (se_var 1) (sa_cons (se_lam0 (kb := 4) (lm_l_met D (4 + 1)) (Nat.le_of_ble_eq_true rfl) (Nat.le_of_ble_eq_true rfl) rfl D.tf (by kernel_rfl) (fun W => (se_call (fn_read_rounds D) (Nat.le_of_ble_eq_true rfl) (sa_cons (se_var 0) sa_nil))) (fun _ => rfl)) sa_nil)))
    (ss_one (ss_ret (se_var 1)))))))))))
theorem fn_l_all_met {G : Gb} (D : Facts G) : FnIs true G "_law_all_met" 1 9 m_l_all_met [] := by
  obtain ⟨f, fd, F, g, l⟩ := D.f_l_all_met
  have b : Binds G.K fd ["_law_thing"] [] := F.bindsN fun _ _ _ _ _ _ us hl => match us, hl with | [_], _ => rfl
  exact fnIs_drop F sc_l_all_met (d_l_all_met D) g b .nil (fun _ => .nil) (fun q z => by cases z; exact l)
def N_l_roll : List Str := ["_law_dice_here", "_law_total", "_law_number", "_law_one", "_law_two", "_law_drawn"]
theorem nd_l_roll : N_l_roll.Nodup := by decide +kernel
theorem sc_l_roll : FnScope N_l_roll ["_law_dice_here", "_law_total"] (defScope s_l_roll) := ⟨rfl, rfl, rfl, nd_l_roll, rfl, by decide +kernel, by decide +kernel⟩
noncomputable def F_l_roll : SF :=
  (sSeq (sSet 2 (en gInt (aCons (eVar 1) aNil)))
    (sSeq (sIf (fun ρ L => asB ((e2 gGt (e2 gIx (eVar 0) (eC (.int 0))) (eC (.int 0))) ρ L))
    (sSeq (sSet 5 (e2 gMod (e2 gIx (eVar 0) (eC (.int 0))) (eVar 2)))
    (sSeq (sPut (e2 gDiv (e2 gIx (eVar 0) (eC (.int 0))) (eVar 2)) (eVar 0) (eC (.int 0)))
    (sRet (en gInt (aCons (eVar 5) aNil)))))
    sSkip)
    (sSeq (sPut (e2 gAdd (e2 gIx (eVar 0) (eC (.int 2))) (eC (.int 1))) (eVar 0) (eC (.int 2)))
    (sSeq (sSet 3 (e2 gMod (e2 gAdd (e2 gIx (eVar 0) (eC (.int 1))) (e2 gMul (eC (.int 1000171)) (e2 gIx (eVar 0) (eC (.int 2))))) (eC (.int 2305843009213693951))))
    (sSeq (sSet 4 (e2 gAdd (e2 gMul (e2 gMod (e2 gMul (eVar 3) (eVar 3)) (eC (.int 2305843009213693921))) (eVar 3)) (e2 gMul (eC (.int 9419)) (e2 gIx (eVar 0) (eC (.int 2))))))
    (sSeq (sSet 4 (e2 gMod (eVar 4) (eC (.int 2305843009213693907))))
    (sRet (en gInt (aCons (e2 gMod (e2 gDiv (eVar 4) (eC (.int 4096))) (eVar 2)) aNil)))))))))
noncomputable def m_l_roll : List D → Sto → Res D := mOf 6 F_l_roll
theorem d_l_roll {G : Gb} (D : Facts G) (W : WX) : SSs ⟨G, N_l_roll, defScope s_l_roll, fun _ => true, 0, false, true, none⟩ W (defBody s_l_roll) F_l_roll :=
  (ss_cons (ss_set 2 nd_l_roll (se_int1 D.bl (sa_cons (se_var 1) sa_nil)))
    (ss_cons (ss_if (st_gt (se_ix (se_var 0) se_int) se_int)
    (ss_cons (ss_set 5 nd_l_roll (se_mod (se_ix (se_var 0) se_int) (se_var 2)))
    (ss_cons (ss_put (se_div (se_ix (se_var 0) se_int) (se_var 2)) (se_var 0) se_int)
    (ss_one (ss_ret (se_int1 D.bl (sa_cons (se_var 5) sa_nil))))))
    ss_nil)
    (ss_cons (ss_put (se_add (se_ix (se_var 0) se_int) se_int) (se_var 0) se_int)
    (ss_cons (ss_set 3 nd_l_roll (se_mod (se_add (se_ix (se_var 0) se_int) (se_mul se_int (se_ix (se_var 0) se_int))) se_int))
    (ss_cons (ss_set 4 nd_l_roll (se_add (se_mul (se_mod (se_mul (se_var 3) (se_var 3)) se_int) (se_var 3)) (se_mul se_int (se_ix (se_var 0) se_int))))
    (ss_cons (ss_set 4 nd_l_roll (se_mod (se_var 4) se_int))
    (ss_one (ss_ret (se_int1 D.bl (sa_cons (se_mod (se_div (se_var 4) se_int) (se_var 2)) sa_nil))))))))))
theorem fn_l_roll {G : Gb} (D : Facts G) : FnIs false G "_law_roll" 2 1 m_l_roll [] := by
  obtain ⟨f, fd, F, g⟩ := D.f_l_roll
  have b : Binds G.K fd ["_law_dice_here", "_law_total"] [] := F.bindsN fun _ _ _ _ _ _ us hl => match us, hl with | [_, _], _ => rfl
  exact fnIs_plain F sc_l_roll (d_l_roll D) g b .nil (fun _ => .nil) (fun _ z => nomatch z)
def N_l_one_of : List Str := ["_law_dice_here", "_law_items"]
theorem nd_l_one_of : N_l_one_of.Nodup := by decide +kernel
theorem sc_l_one_of : FnScope N_l_one_of ["_law_dice_here", "_law_items"] (defScope s_l_one_of) := ⟨rfl, rfl, rfl, nd_l_one_of, rfl, by decide +kernel, by decide +kernel⟩
noncomputable def F_l_one_of : SF :=
  (sRet (e2 gIx (eVar 1) (eCall 2 m_l_roll [] (aCons (eVar 0) (aCons (en gLen (aCons (eVar 1) aNil)) aNil)))))
noncomputable def m_l_one_of : List D → Sto → Res D := mOf 2 F_l_one_of
theorem d_l_one_of {G : Gb} (D : Facts G) (W : WX) : SSs ⟨G, N_l_one_of, defScope s_l_one_of, fun _ => true, 1, false, true, none⟩ W (defBody s_l_one_of) F_l_one_of :=
  (ss_one (ss_ret (se_ix (se_var 1) (se_call (fn_l_roll D) (Nat.le_of_ble_eq_true rfl) (sa_cons (se_var 0) (sa_cons (se_len D.bl (sa_cons (se_var 1) sa_nil)) sa_nil))))))
theorem fn_l_one_of {G : Gb} (D : Facts G) : FnIs false G "_law_one_of" 2 2 m_l_one_of [] := by
  obtain ⟨f, fd, F, g⟩ := D.f_l_one_of
  have b : Binds G.K fd ["_law_dice_here", "_law_items"] [] := F.bindsN fun _ _ _ _ _ _ us hl => match us, hl with | [_, _], _ => rfl
  exact fnIs_plain F sc_l_one_of (d_l_one_of D) g b .nil (fun _ => .nil) (fun _ z => nomatch z)
def N_l_right : List Str := ["_law_dice_here", "_law_due", "_law_odd", "_law_row", "_law_steps", "_law_things", "_law_thing", "_law_spot", "_law_turn", "_law_at", "_law_word"]
theorem nd_l_right : N_l_right.Nodup := by decide +kernel
theorem sc_l_right : FnScope N_l_right ["_law_dice_here"] (defScope s_l_right) := ⟨rfl, rfl, rfl, nd_l_right, rfl, by decide +kernel, by decide +kernel⟩
noncomputable def C1_l_right : EF :=
  (eLc false [8] (iRange1 (aCons (e2 gAdd (eC (.int 1)) (eCall 2 m_l_roll [] (aCons (eVar 0) (aCons (eC (.int 5)) aNil)))) aNil)) (gSet 8) tTrue (eCall 2 m_l_roll [] (aCons (eVar 0) (aCons (eC (.int 30)) aNil))))
noncomputable def C2_l_right : EF :=
  (eLc false [8] (iRange1 (aCons (e2 gAdd (eC (.int 1)) (eCall 2 m_l_roll [] (aCons (eVar 0) (aCons (eC (.int 3)) aNil)))) aNil)) (gSet 8) tTrue (eTup (aCons (eCall 2 m_l_roll [] (aCons (eVar 0) (aCons (eC (.int 9)) aNil))) (aCons (e2 gAdd (eC (.int 9)) (eCall 2 m_l_roll [] (aCons (eVar 0) (aCons (eC (.int 9)) aNil)))) aNil))))
noncomputable def C3_l_right : EF :=
  (eLc false [9, 10] (iEnumF (aCons (eVar 1) aNil)) (gTupF 2 (gsCons (gSet 9) (gsCons (gSet 10) gsNil))) tTrue (eIf (fun ρ L => asB ((e2 gNe (eVar 9) (eVar 7)) ρ L)) (eVar 10) (eC (.str "fine"))))
noncomputable def I1_l_right : IF :=
  (iSeq (e2 gAdd (eVar 5) (eLst false (aCons (eTupG (aCons (eTup (aCons (eSl (eVar 4) oNone (oSome (eC (.int 1)))) (aCons (eTup aNil) aNil))) (aCons (eC (.int 3)) aNil))) aNil))))
noncomputable def T1_l_right : GF :=
  (gTupF 2 (gsCons (gSet 6) (gsCons (gSet 7) gsNil)))
noncomputable def B1_l_right : SF :=
  (sIf (fun ρ L => asB ((e2 gNe (eCall 1 m_l_all_met [] (aCons (eVar 6) aNil)) C3_l_right) ρ L))
    (sRet (eC (.bl false)))
    sSkip)
noncomputable def L1_l_right : SF :=
  (sFor I1_l_right T1_l_right B1_l_right)
noncomputable def F_l_right : SF :=
  (sSeq (sSet 1 (e2 gAdd (eLst false (aCons (eC (.str "web")) (aCons (eC (.str "row")) (aCons (eC (.str "operation")) (aCons (eC (.str "operation")) aNil))))) (e2 gMul (eLst false (aCons (eC (.str "parse None")) aNil)) (eC (.int 4)))))
    (sSeq (sSet 2 (eLst false (aCons (eC .non) (aCons (eC (.int 0)) (aCons (eLst false aNil) (aCons (eDict0 false) (aCons (eC (.bl true)) (aCons (eTupG aNil) (aCons (eTupG (aCons (eC (.str "0")) aNil)) (aCons (eTupG (aCons (eC .non) aNil)) (aCons (eTupG (aCons (e1 gNeg (eC (.int 1))) aNil)) (aCons (eTupG (aCons (eC (.bl true)) aNil)) (aCons (eLst false (aCons (eC (.str "web 1")) aNil)) (aCons (eTupG (aCons (eTup (aCons (eC (.int 0)) aNil)) aNil)) (aCons (eTupG (aCons (eTup (aCons (eC (.int 0)) (aCons (eC (.int 1)) (aCons (eC (.int 2)) aNil)))) aNil)) (aCons (eTupG (aCons (eTup (aCons (eC (.int 0)) (aCons (e1 gNeg (eC (.int 1))) aNil))) aNil)) aNil))))))))))))))))
    (sSeq (sSet 2 (e2 gAdd (eVar 2) (eLst false (aCons (eTupG (aCons (eTup (aCons (eC (.int 0)) (aCons (eC .non) aNil))) aNil)) (aCons (eTupG (aCons (eLst false (aCons (eC (.int 0)) (aCons (eC (.int 1)) aNil))) aNil)) (aCons (eTupG (aCons (eTup (aCons (eTup (aCons (eC (.int 1)) (aCons (eC (.int 0)) aNil))) aNil)) aNil)) (aCons (eTupG (aCons (eTup (aCons (eTup (aCons (eC (.int 0)) (aCons (eC (.int 1)) aNil))) (aCons (eTup (aCons (eC (.int 0)) (aCons (eC (.int 1)) aNil))) aNil))) aNil)) (aCons (eTupG (aCons (eTup (aCons (eTup (aCons (eC (.int 1)) (aCons (eC (.int 2)) aNil))) (aCons (eTup (aCons (eC (.int 0)) (aCons (eC (.int 1)) aNil))) aNil))) aNil)) (aCons (eTupG (aCons (eTup (aCons (eTup (aCons (eC (.int 0)) (aCons (eC (.int 0)) aNil))) aNil)) aNil)) aNil)))))))))
    (sSeq (sSet 2 (e2 gAdd (eVar 2) (eLst false (aCons (eTupG (aCons (eTup (aCons (eTup (aCons (eC (.int 0)) (aCons (eC (.int 1)) (aCons (eC (.int 2)) aNil)))) aNil)) aNil)) (aCons (eTupG (aCons (eTup (aCons (eTup (aCons (eC (.int 0)) aNil)) aNil)) aNil)) aNil)))))
    (sSeq (sIf (fun ρ L => asB ((e2 gNe (eCall 1 m_l_all_met [] (aCons (eCall 2 m_l_one_of [] (aCons (eVar 0) (aCons (eVar 2) aNil))) aNil)) (eVar 1)) ρ L))
    (sRet (eC (.bl false)))
    sSkip)
    (sSeq (sSet 3 (en gTuple (aCons C1_l_right aNil)))
    (sSeq (sSet 4 (en gTuple (aCons C2_l_right aNil)))
    (sSeq (sSet 5 (eLst false (aCons (eTupG (aCons (eMk 3 (mMakeV "Web" m_Web_init) [(.tg [])] (aCons (e2 gAdd (eC (.int 1)) (eCall 2 m_l_roll [] (aCons (eVar 0) (aCons (eC (.int 10)) aNil)))) aNil)) (aCons (eC (.int 0)) aNil))) (aCons (eTupG (aCons (eVar 3) (aCons (eC (.int 1)) aNil))) (aCons (eTupG (aCons (eVar 4) (aCons (eC (.int 2)) aNil))) (aCons (eTupG (aCons (eTup (aCons (eSl (eVar 4) oNone (oSome (eC (.int 1)))) aNil)) (aCons (eC (.int 3)) aNil))) (aCons (eTupG (aCons (eTup (aCons (eTup aNil) aNil)) (aCons (eC (.int 3)) aNil))) aNil)))))))
    (sSeq L1_l_right
    (sRet (eC (.bl true))))))))))))
noncomputable def m_l_right : List D → Sto → Res D := mOf 11 F_l_right
theorem u_l_right (a0 : D) (L : Sto) : m_l_right [a0] L = fin (F_l_right [some a0, none, none, none, none, none, none, none, none, none, none] L) := (rfl)
theorem d_l_right {G : Gb} (D : Facts G) (W : WX) : SSs ⟨G, N_l_right, defScope s_l_right, fun _ => true, 9, true, true, none⟩ W (defBody s_l_right) F_l_right :=
  (ss_cons (ss_set 1 nd_l_right (se_add (se_lst false (sa_cons se_str (sa_cons se_str (sa_cons se_str (sa_cons se_str sa_nil))))) (se_mul (se_lst false (sa_cons se_str sa_nil)) se_int)))
    (ss_cons (ss_set 2 nd_l_right (se_lst false (sa_cons se_non (sa_cons se_int (sa_cons (se_lst false sa_nil) (sa_cons (se_dict0 false) (sa_cons se_bl (sa_cons (se_tupG sa_nil) (sa_cons (se_tupG (sa_cons se_str sa_nil)) (sa_cons (se_tupG (sa_cons se_non sa_nil)) (sa_cons (se_tupG (sa_cons (se_neg se_int) sa_nil)) (sa_cons (se_tupG (sa_cons se_bl sa_nil)) (sa_cons (se_lst false (sa_cons se_str sa_nil)) (sa_cons (se_tupG (sa_cons (se_tup (sa_cons se_int sa_nil)) sa_nil)) (sa_cons (se_tupG (sa_cons (se_tup (sa_cons se_int (sa_cons se_int (sa_cons se_int sa_nil)))) sa_nil)) (sa_cons (se_tupG (sa_cons (se_tup (sa_cons se_int (sa_cons (se_neg se_int) sa_nil))) sa_nil)) sa_nil))))))))))))))))
    (ss_cons (ss_set 2 nd_l_right (se_add (se_var 2) (se_lst false (sa_cons (se_tupG (sa_cons (se_tup (sa_cons se_int (sa_cons se_non sa_nil))) sa_nil)) (sa_cons (se_tupG (sa_cons (se_lst false (sa_cons se_int (sa_cons se_int sa_nil))) sa_nil)) (sa_cons (se_tupG (sa_cons (se_tup (sa_cons (se_tup (sa_cons se_int (sa_cons se_int sa_nil))) sa_nil)) sa_nil)) (sa_cons (se_tupG (sa_cons (se_tup (sa_cons (se_tup (sa_cons se_int (sa_cons se_int sa_nil))) (sa_cons (se_tup (sa_cons se_int (sa_cons se_int sa_nil))) sa_nil))) sa_nil)) (sa_cons (se_tupG (sa_cons (se_tup (sa_cons (se_tup (sa_cons se_int (sa_cons se_int sa_nil))) (sa_cons (se_tup (sa_cons se_int (sa_cons se_int sa_nil))) sa_nil))) sa_nil)) (sa_cons (se_tupG (sa_cons (se_tup (sa_cons (se_tup (sa_cons se_int (sa_cons se_int sa_nil))) sa_nil)) sa_nil)) sa_nil)))))))))
    (ss_cons (ss_set 2 nd_l_right (se_add (se_var 2) (se_lst false (sa_cons (se_tupG (sa_cons (se_tup (sa_cons (se_tup (sa_cons se_int (sa_cons se_int (sa_cons se_int sa_nil)))) sa_nil)) sa_nil)) (sa_cons (se_tupG (sa_cons (se_tup (sa_cons (se_tup (sa_cons se_int sa_nil)) sa_nil)) sa_nil)) sa_nil)))))
    (ss_cons (ss_if (st_ne (se_call (fn_l_all_met D) (Nat.le_of_ble_eq_true rfl) (sa_cons (se_call (fn_l_one_of D) (Nat.le_of_ble_eq_true rfl) (sa_cons (se_var 0) (sa_cons (se_var 2) sa_nil))) sa_nil)) (se_var 1))
    (ss_one (ss_ret se_bl))
    ss_nil)
    (ss_cons (ss_set 3 nd_l_right (se_tuple D.bl (sa_cons (se_lc false [("_law_turn", 8)] nd_l_right (si_range1 (sa_cons (se_add se_int (se_call (fn_l_roll D) (Nat.le_of_ble_eq_true rfl) (sa_cons (se_var 0) (sa_cons se_int sa_nil)))) sa_nil) rfl D.bl.range) (by kernel_rfl) (sg_name 8 nd_l_right) sts_nil (se_call (fn_l_roll D) (Nat.le_of_ble_eq_true rfl) (sa_cons (se_var 0) (sa_cons se_int sa_nil)))) sa_nil)))
    (ss_cons (ss_set 4 nd_l_right (se_tuple D.bl (sa_cons (se_lc false [("_law_turn", 8)] nd_l_right (si_range1 (sa_cons (se_add se_int (se_call (fn_l_roll D) (Nat.le_of_ble_eq_true rfl) (sa_cons (se_var 0) (sa_cons se_int sa_nil)))) sa_nil) rfl D.bl.range) (by kernel_rfl) (sg_name 8 nd_l_right) sts_nil (se_tup (sa_cons (se_call (fn_l_roll D) (Nat.le_of_ble_eq_true rfl) (sa_cons (se_var 0) (sa_cons se_int sa_nil))) (sa_cons (se_add se_int (se_call (fn_l_roll D) (Nat.le_of_ble_eq_true rfl) (sa_cons (se_var 0) (sa_cons se_int sa_nil)))) sa_nil)))) sa_nil)))
    (ss_cons (ss_set 5 nd_l_right (se_lst false (sa_cons (se_tupG (sa_cons (se_makeV (mk_Web1 D) (Nat.le_of_ble_eq_true rfl) (sa_cons (se_add se_int (se_call (fn_l_roll D) (Nat.le_of_ble_eq_true rfl) (sa_cons (se_var 0) (sa_cons se_int sa_nil)))) sa_nil)) (sa_cons se_int sa_nil))) (sa_cons (se_tupG (sa_cons (se_var 3) (sa_cons se_int sa_nil))) (sa_cons (se_tupG (sa_cons (se_var 4) (sa_cons se_int sa_nil))) (sa_cons (se_tupG (sa_cons (se_tup (sa_cons (se_sl (se_var 4) so_none (so_some se_int)) sa_nil)) (sa_cons se_int sa_nil))) (sa_cons (se_tupG (sa_cons (se_tup (sa_cons (se_tup sa_nil) sa_nil)) (sa_cons se_int sa_nil))) sa_nil)))))))
    (ss_cons (ss_for (own := [6, 7]) (fi := I1_l_right) (ft := T1_l_right) (g := B1_l_right) (si_seq (se_add (se_var 5) (se_lst false (sa_cons (se_tupG (sa_cons (se_tup (sa_cons (se_sl (se_var 4) so_none (so_some se_int)) (sa_cons (se_tup sa_nil) sa_nil))) (sa_cons se_int sa_nil))) sa_nil)))) (sg_tup (sgs_cons (sg_name 6 nd_l_right) (sgs_cons (sg_name 7 nd_l_right) sgs_nil)))
    (ss_one (ss_if (st_ne (se_call (fn_l_all_met D) (Nat.le_of_ble_eq_true rfl) (sa_cons (se_var 6) sa_nil)) (se_lc false [("_law_at", 9), ("_law_word", 10)] nd_l_right (si_enum (sa_cons (se_var 1) sa_nil) rfl D.bl.enumerate) (by kernel_rfl) (sg_tup (sgs_cons (sg_name 9 nd_l_right) (sgs_cons (sg_name 10 nd_l_right) sgs_nil))) sts_nil (se_if (st_ne (se_var 9) (se_var 7)) (se_var 10) se_str)))
    (ss_one (ss_ret se_bl))
    ss_nil)))
    (ss_one (ss_ret se_bl)))))))))))
theorem fn_l_right {G : Gb} (D : Facts G) : FnIs true G "_law_right" 1 10 m_l_right [] := by
  obtain ⟨f, fd, F, g⟩ := D.f_l_right
  have b : Binds G.K fd ["_law_dice_here"] [] := F.bindsN fun _ _ _ _ _ _ us hl => match us, hl with | [_], _ => rfl
  exact fnIs_plain F sc_l_right (d_l_right D) g b .nil (fun _ => .nil) (fun _ z => nomatch z)
def N_law : List Str := ["_law_script", "_law_at", "_law_dice_here", "_law_turn"]
theorem nd_law : N_law.Nodup := by decide +kernel
theorem sc_law : FnScope N_law ["_law_script"] (defScope s_law) := ⟨rfl, rfl, rfl, nd_law, rfl, by decide +kernel, by decide +kernel⟩
noncomputable def I1_law : IF :=
  (iRange1 (aCons (eC (.int 4)) aNil))
noncomputable def T1_law : GF :=
  (gSet 3)
noncomputable def B1_law : SF :=
  (sIf (tNotF (tTru (eCall 1 m_l_right [] (aCons (eVar 2) aNil))))
    (sRet (eC (.bl false)))
    sSkip)
noncomputable def L1_law : SF :=
  (sFor I1_law T1_law B1_law)
noncomputable def I2_law : IF :=
  (iRange1 (aCons (en gMax (aCons (eC (.int 1)) (aCons (en gMin (aCons (eC (.int 8)) (aCons (en gLen (aCons (eVar 0) aNil)) aNil))) aNil))) aNil))
noncomputable def T2_law : GF :=
  (gSet 1)
noncomputable def B2_law : SF :=
  (sSeq (sSet 2 (eCall 2 m_l_dice [] (aCons (eVar 0) (aCons (eVar 1) aNil))))
    L1_law)
noncomputable def L2_law : SF :=
  (sFor I2_law T2_law B2_law)
noncomputable def F_law : SF :=
  (sSeq L2_law
    (sRet (e2 gEq (eSl (eCall 1 m_l_all_met [] (aCons (eC (.str "")) aNil)) oNone (oSome (eC (.int 4)))) (eLst false (aCons (eC (.str "web")) (aCons (eC (.str "row")) (aCons (eC (.str "operation")) (aCons (eC (.str "operation")) aNil))))))))
noncomputable def m_law : List D → Sto → Res D := mOf 4 F_law
theorem u_law (a0 : D) (L : Sto) : m_law [a0] L = fin (F_law [some a0, none, none, none] L) := (rfl)
theorem d_law {G : Gb} (D : Facts G) (W : WX) : SSs ⟨G, N_law, defScope s_law, fun _ => true, 10, true, true, none⟩ W (defBody s_law) F_law :=
  (ss_cons (ss_for (own := [1]) (fi := I2_law) (ft := T2_law) (g := B2_law) (si_range1 (sa_cons (se_max D.bl (sa_cons se_int (sa_cons (se_min D.bl (sa_cons se_int (sa_cons (se_len D.bl (sa_cons (se_var 0) sa_nil)) sa_nil))) sa_nil))) sa_nil) rfl D.bl.range) (sg_name 1 nd_law)
    (ss_cons (ss_set 2 nd_law (se_call (fn_l_dice D) (Nat.le_of_ble_eq_true rfl) (sa_cons (se_var 0) (sa_cons (se_var 1) sa_nil))))
    (ss_one (ss_for (own := [3]) (fi := I1_law) (ft := T1_law) (g := B1_law) (si_range1 (sa_cons se_int sa_nil) rfl D.bl.range) (sg_name 3 nd_law)
    (ss_one (ss_if (st_not (st_truth (se_call (fn_l_right D) (Nat.le_of_ble_eq_true rfl) (sa_cons (se_var 2) sa_nil))))
    (ss_one (ss_ret se_bl))
    ss_nil))))))
    (ss_one (ss_ret (se_eq (se_sl (se_call (fn_l_all_met D) (Nat.le_of_ble_eq_true rfl) (sa_cons se_str sa_nil)) so_none (so_some se_int)) (se_lst false (sa_cons se_str (sa_cons se_str (sa_cons se_str (sa_cons se_str sa_nil)))))))))
def kit (r : Res D) : Res Its := r.bind fun d L1 => match seqOf L1 d with
  | some (xs, s) => .ok ⟨xs, s⟩ L1
  | none => (match d with
    | .dF kvs => .ok ⟨kvs.map fun kv => dOfKey kv.1, []⟩ L1
    | .dG kvs => .ok ⟨kvs.map fun kv => keyT kv.1, []⟩ L1
    | _ => .bad)
def kir1 (r : Res (List D)) : Res Its := r.bind fun ds L1 => match ds with
  | [.int j] => if small62 j = true then .ok ⟨rangeD 0 j.toNat, []⟩ L1 else .bad
  | _ => .bad
def kir2 (r : Res (List D)) : Res Its := r.bind fun ds L1 => match ds with
  | [.int i, .int j] => if small62 i = true ∧ small62 j = true then .ok ⟨rangeD i (j - i).toNat, []⟩ L1 else .bad
  | _ => .bad
def kien (r : Res (List D)) : Res Its := r.bind fun ds L1 => match ds with
  | [d] => (match seqOf L1 d with
    | some (xs, s) => .ok ⟨enumD 0 xs, s⟩ L1
    | none => .bad)
  | _ => .bad
def kizp (r : Res (List D)) : Res Its := r.bind fun ds L1 => match ds with
  | [d, e] => (match seqOf L1 d, seqOf L1 e with
    | some (xs, s), some (ys, t) => .ok ⟨zipD xs ys, s ++ t⟩ L1
    | _, _ => .bad)
  | _ => .bad
def tgk (f : EF) (o : Option Env') (L : Sto) : Res D := match o with
  | some ρ1 => f ρ1 L
  | none => .bad
def tgt (f : TF) (o : Option Env') (L : Sto) : Res Bool := match o with
  | some ρ1 => f ρ1 L
  | none => .bad
def ksl (lo hi : OF) (ρ : Env') (r : Res D) : Res D := r.bind fun d L1 => (lo ρ L1).bind fun l L2 => (hi ρ L2).bind fun u L3 => gSl d l u L3
def ksl2 (d : D) (hi : OF) (ρ : Env') (r : Res (Option Int)) : Res D := r.bind fun l L2 => (hi ρ L2).bind fun u L3 => gSl d l u L3
def ksl3 (d : D) (l : Option Int) (r : Res (Option Int)) : Res D := r.bind fun u L3 => gSl d l u L3
def kso (r : Res D) : Res (Option Int) := r.bind fun d L1 => match d with
  | .int i => .ok (some i) L1
  | _ => .bad
def krg1 (k : List D → Sto → Res D) (r : Res D) : Res D := r.bind fun d L1 => match d with
  | .int j => if rgOk 0 j = true then k (rangeD 0 (j - 0).toNat) L1 else .bad
  | _ => .bad
def krev (r : Res D) : Res D := r.bind fun d L1 => match sqlOf L1 d with
  | some xs => .ok (.lst xs.reverse) L1
  | none => .bad
section
variable {ρ ρ1 : Env'} {L L1 : Sto} {d e : D} {f g : SF} {t u : TF} {fa fb fo fi : EF} {fl : AF} {xs ys ds dd : List D} {i j k : Int} {n m : Nat} {b c : Bool} {lo hi : OF} {o : Option Int} {kk : List D → Sto → Res D}
theorem oJ : iSeq fa ρ L = kit (fa ρ L) := (rfl)
theorem oK : kit (.ok (.lst xs) L) = .ok ⟨xs, []⟩ L := (rfl)
theorem oL : kit (.ok (.tup xs) L) = .ok ⟨xs, []⟩ L := (rfl)
theorem oM : kit (.ok (.tg xs) L) = .ok ⟨xs, []⟩ L := (rfl)
theorem oN {kvs : List (Key × D)} : kit (.ok (.dF kvs) L) = .ok ⟨kvs.map fun kv => dOfKey kv.1, []⟩ L := (rfl)
theorem oO : kit (.ok (.ro xs) L) = .ok ⟨xs, []⟩ L := (rfl)
theorem oQ : iRange1 fl ρ L = kir1 (fl ρ L) := (rfl)
theorem oR : iRange2 fl ρ L = kir2 (fl ρ L) := (rfl)
theorem oS : iEnumF fl ρ L = kien (fl ρ L) := (rfl)
theorem oU : iZipF fl ρ L = kizp (fl ρ L) := (rfl)
theorem oV (h0 : 0 ≤ k) (h : k ≤ 1000000) : kir1 (.ok [.int k] L) = .ok ⟨(List.range k.toNat).map natD, []⟩ L := by
  show (if small62 k = true then Res.ok (Its.mk (rangeD 0 k.toNat) []) L else .bad) = _
  rw [if_pos (small62_of (by omega) h), rangeD0]
theorem oW (h : n ≤ 1000000) : kir1 (.ok [.int (n : Int)] L) = .ok ⟨(List.range n).map natD, []⟩ L := by
  rw [oV (by omega) (by omega)]; rfl
theorem rangeD_nat' (a : Nat) (c : Nat) : rangeD (a : Int) c = (List.range' a c).map natD := by
  unfold rangeD natD
  rw [List.range'_eq_map_range, List.map_map]
  exact List.map_congr_left fun x _ => by simp
theorem oX (h1 : n ≤ 1000000) (h : m ≤ 1000000) : kir2 (.ok [.int (n : Int), .int (m : Int)] L) = .ok ⟨(List.range' n (m - n)).map natD, []⟩ L := by
  unfold kir2
  rw [Res.bind_ok]
  dsimp only
  have z : ((m : Int) - n).toNat = m - n := by omega
  rw [if_pos ⟨small62_of (by omega) (by omega), small62_of (by omega) (by omega)⟩, z, rangeD_nat']
theorem oY : kien (.ok [.lst xs] L) = .ok ⟨enumD 0 xs, []⟩ L := (rfl)
theorem oZ : kien (.ok [.tup xs] L) = .ok ⟨enumD 0 xs, []⟩ L := (rfl)
theorem pA : kien (.ok [.tg xs] L) = .ok ⟨enumD 0 xs, []⟩ L := (rfl)
theorem pB : tgk fa (some ρ) L = fa ρ L := (rfl)
theorem pC : tgt t (some ρ) L = t ρ L := (rfl)
theorem pD : wipeE ρ [] = ρ := (rfl)
theorem pE {v : Nat} {vs : List Nat} : wipeE ρ (v :: vs) = (wipeE ρ vs).set v none := (rfl)
theorem pF {p q : Nat} : gTupF 2 (gsCons (gSet p) (gsCons (gSet q) gsNil)) (.tup [d, e]) ρ = some ((ρ.set p (some d)).set q (some e)) := (rfl)
theorem pG {p q : Nat} : gTupF 2 (gsCons (gSet p) (gsCons (gSet q) gsNil)) (.tg [d, e]) ρ = some ((ρ.set p (some d)).set q (some e)) := (rfl)
theorem pH {p q : Nat} {z : P2} : gTupF 2 (gsCons (gSet p) (gsCons (gSet q) gsNil)) (pairD z) ρ = some ((ρ.set p (some (.int z.1))).set q (some (.int z.2))) := (rfl)
theorem pI : eSl fa lo hi ρ L = ksl lo hi ρ (fa ρ L) := (rfl)
theorem pJ : ksl lo hi ρ (.ok d L) = ksl2 d hi ρ (lo ρ L) := (rfl)
theorem pK : ksl2 d hi ρ (.ok o L) = ksl3 d o (hi ρ L) := (rfl)
theorem pL {o2 : Option Int} : ksl3 d o (.ok o2 L) = gSl d o o2 L := (rfl)
theorem pM : oNone ρ L = .ok none L := (rfl)
theorem pN : oSome fa ρ L = kso (fa ρ L) := (rfl)
theorem pO : kso (.ok (.int i) L) = .ok (some i) L := (rfl)
theorem pP : eRange1 fa kk ρ L = krg1 kk (fa ρ L) := (rfl)
theorem pQ (h : n ≤ 1000) : krg1 kk (.ok (.int (n : Int)) L) = kk ((List.range n).map natD) L := by
  have e : krg1 kk (.ok (.int (n : Int)) L) = if rgOk 0 (n : Int) = true then kk (rangeD 0 ((n : Int) - 0).toNat) L else .bad := Res.bind_ok _ _ _
  rw [e, if_pos (rgOk0 h), Int.sub_zero, Int.toNat_natCast, rangeD0]
theorem pR : eRev fa ρ L = krev (fa ρ L) := (rfl)
theorem pS : krev (.ok (.lst xs) L) = .ok (.lst xs.reverse) L := (rfl)
theorem w_sl_from (h : xs = xs) : gSl (.tup xs) (some (n : Int)) none L = .ok (.tup (xs.drop n)) L := by
  show Res.ok (D.tup (cutD xs (some (n : Int)) none)) L = _
  rw [cutD_from]
theorem pU : gSl (.tg xs) (some (n : Int)) none L = .ok (.tup (xs.drop n)) L := by
  show Res.ok (D.tup (cutD xs (some (n : Int)) none)) L = _
  rw [cutD_from]
theorem pV : gSl (.tup xs) (some 1) none L = .ok (.tup (xs.drop 1)) L := w_sl_from (n := 1) rfl
theorem pW : gSl (.tg xs) (some 1) none L = .ok (.tup (xs.drop 1)) L := pU (n := 1)
theorem gTuple_l (h : xs.length ≤ 16777216) : gTuple [.lst xs] L = .ok (.tg xs) L := gTuple_lst h
theorem gIx_t {a : Nat} {y : D} (hy : xs[a]? = some y) : gIx (.tup xs) (.int (a : Int)) L = .ok y L := by
  unfold gIx
  simp only [lA, atI_nat hy]
theorem pX {x : D} : gIx (.tup (x :: xs)) (.int 0) L = .ok x L := gIx_t (a := 0) rfl
theorem pY {x y : D} : gIx (.tup (x :: y :: xs)) (.int 1) L = .ok y L := gIx_t (a := 1) rfl
theorem pZ {z : P2} : gIx (pairD z) (.int 0) L = .ok (.int z.1) L := pX
theorem qA {z : P2} : gIx (pairD z) (.int 1) L = .ok (.int z.2) L := pY
end
section
variable {it : IF} {tg : GF} {t : TF} {f : EF} {own : List Nat} {ρ : Env'} {L L1 : Sto} {box : Bool}
theorem tgk_some {o : Option Env'} {d : D} (h : tgk f o L = .ok d L1) : ∃ ρ1, o = some ρ1 ∧ f ρ1 L = .ok d L1 := by
  cases o with
  | none => cases h
  | some ρ1 => exact ⟨ρ1, rfl, h⟩
theorem tgt_some {o : Option Env'} {b : Bool} (h : tgt t o L = .ok b L1) : ∃ ρ1, o = some ρ1 ∧ t ρ1 L = .ok b L1 := by
  cases o with
  | none => cases h
  | some ρ1 => exact ⟨ρ1, rfl, h⟩
theorem lc_map {α : Type} (xs : List α) (enc : α → D) (y : α → D) {src : List (Nat × D)} (hi : it ρ L = .ok ⟨xs.map enc, src⟩ L1) (hs : srcOk L1 src) (hl : xs.length ≤ 1000000)
    (h : ∀ a ∈ xs, tgk f (tg (enc a) (wipeE ρ own)) L1 = .ok (y a) L1) : eLc box own it tg tTrue f ρ L = lstOut box (xs.map y) L1 :=
  eLc_map xs enc y hi hs (by omega) fun a ha => tgk_some (h a ha)
theorem lc_filter {α : Type} (xs : List α) (enc : α → D) (p : α → Bool) (y : α → D) {src : List (Nat × D)} (hi : it ρ L = .ok ⟨xs.map enc, src⟩ L1) (hs : srcOk L1 src) (hl : xs.length ≤ 1000000)
    (h : ∀ a ∈ xs, tgt t (tg (enc a) (wipeE ρ own)) L1 = .ok (p a) L1) (h2 : ∀ a ∈ xs, p a = true → tgk f (tg (enc a) (wipeE ρ own)) L1 = .ok (y a) L1) : eLc box own it tg t f ρ L = lstOut box ((xs.filter p).map y) L1 :=
  eLc_filter xs enc p y hi hs (by omega) fun a ha => by
    obtain ⟨ρ1, e1, e2⟩ := tgt_some (h a ha)
    refine ⟨ρ1, e1, e2, fun hp => ?_⟩
    have z := h2 a ha hp
    rw [e1] at z
    exact z
theorem lc_inv {α : Type} (xs : List α) (enc : α → D) (I : Sto → Prop) (P : α → D → Prop) (hi : it ρ L = .ok ⟨xs.map enc, []⟩ L1) (hl : xs.length ≤ 1000000) (h0 : I L1)
    (h : ∀ a ∈ xs, ∀ L, I L → ∃ y L', tgk f (tg (enc a) (wipeE ρ own)) L = .ok y L' ∧ I L' ∧ P a y) :
    ∃ ys L', eLc box own it tg tTrue f ρ L = lstOut box ys L' ∧ I L' ∧ ys.length = xs.length ∧ ∀ (i : Nat) a y, xs[i]? = some a → ys[i]? = some y → P a y :=
  eLc_inv xs enc I P hi (fun _ _ => srcOk_nil) (by omega) h0 fun a ha L hL => by
    obtain ⟨y, L', e1, e2, e3⟩ := h a ha L hL
    obtain ⟨ρ1, k1, k2⟩ := tgk_some e1
    exact ⟨ρ1, y, L', k1, k2, e2, e3⟩
theorem for_list {body : SF} {fi : IF} {α : Type} (xs : List α) (enc : α → D) {src : List (Nat × D)} (hi : fi ρ L = .ok ⟨xs.map enc, src⟩ L1) (I : List α → Env' → Sto → Prop) (h0 : I [] ρ L1)
    (step : ∀ pre a post ρ L, xs = pre ++ a :: post → I pre ρ L → ∃ ρ1 ρ2 L2, tg (enc a) ρ = some ρ1 ∧ body ρ1 L = .nx ρ2 L2 ∧ srcOk L2 src ∧ I (pre ++ [a]) ρ2 L2) : ∃ ρ' L', sFor fi tg body ρ L = .nx ρ' L' ∧ I xs ρ' L' := by
  obtain ⟨ρ', L', e, h⟩ := sFor_inv (tg := tg) (body := body) hi (fun i ρ L => I (xs.take i) ρ L) h0 fun i d ρ L hd hI => by
    dsimp only at hd
    rw [List.getElem?_map] at hd
    obtain ⟨a, ha, rfl⟩ := Option.map_eq_some_iff.mp hd
    have hlt := getElem?_lt ha
    have e1 : xs.take (i + 1) = xs.take i ++ [a] := by rw [List.take_succ, ha]; rfl
    obtain ⟨ρ1, ρ2, L2, k1, k2, k3, k4⟩ := step (xs.take i) a (xs.drop (i + 1)) ρ L (by
      have : xs[i] = a := by rw [List.getElem?_eq_getElem hlt] at ha; exact Option.some.inj ha
      rw [← this, List.getElem_cons_drop, List.take_append_drop]) hI
    exact ⟨ρ1, ρ2, L2, k1, k2, k3, by rw [e1]; exact k4⟩
  dsimp only at h
  rw [List.length_map, List.take_length] at h
  exact ⟨ρ', L', e, h⟩
end
section
variable {L : Sto} {p a b : Int}
theorem gInB_ints (v : Int) (o : List Int) (d : D) (hd : seqOf L d = some (o.map .int, [])) : gInB L (.int v) d = some (decide (v ∈ o)) := by
  unfold gInB
  rw [hd]
  dsimp only
  rw [if_pos ⟨rfl, flat_ints o⟩, any_ints]
theorem gIn_ints (v : Int) (o : List Int) (d : D) (hd : seqOf L d = some (o.map .int, [])) : gIn (.int v) d L = .ok (.bl (decide (v ∈ o))) L := by
  unfold gIn
  rw [gInB_ints v o d hd]
theorem gNotIn_ints' (v : Int) (o : List Int) (d : D) (hd : seqOf L d = some (o.map .int, [])) : gNotIn (.int v) d L = .ok (.bl (!decide (v ∈ o))) L := by
  unfold gNotIn
  rw [gInB_ints v o d hd]
theorem qB : gIn (.int p) (.tup [.int a, .int b]) L = .ok (.bl (decide (p = a) || decide (p = b))) L := by
  have := gIn_ints (L := L) p [a, b] (.tup [.int a, .int b]) rfl
  rw [this]
  congr 2
  simp
theorem qC : gNotIn (.int p) (.tup [.int a, .int b]) L = .ok (.bl (!(decide (p = a) || decide (p = b)))) L := by
  have := gNotIn_ints' (L := L) p [a, b] (.tup [.int a, .int b]) rfl
  rw [this]
  congr 3
  simp
end
def setD (ks : List Int) : D := .dF (ks.map fun k => (.inl k, .bl true))
theorem qD (ks : List Int) {L : Sto} : kit (.ok (setD ks) L) = .ok ⟨ks.map .int, []⟩ L := by
  unfold setD
  rw [oN, List.map_map]
  rfl
theorem dc_lock {own : List Nat} {it : IF} {tg : GF} {t : TF} {step : CS} {ρ : Env'} {L L1 : Sto} {kvs : List (Key × D)} (h : eComp false own (.dK []) it tg t step ρ L = .ok (.dK kvs) L1) : eCompO lockOut own (.dK []) it tg t step ρ L = .ok (.dF kvs) L1 := by
  unfold eComp at h
  unfold eCompO
  cases q : it ρ L with
  | bad => rw [q] at h; cases h
  | err _ _ _ => rw [q] at h; cases h
  | ok its L2 =>
    rw [q] at h
    dsimp only at h ⊢
    cases q2 : cGo its.src tg t step (wipeE ρ own) its.ds (.dK []) L2 with
    | bad => rw [q2] at h; cases h
    | err _ _ _ => rw [q2] at h; cases h
    | ok c L3 =>
      rw [q2] at h
      have e : Res.ok c L3 = Res.ok (.dK kvs) L1 := h
      cases e
      rfl
theorem zipD_map {α β : Type} (f : α → D) (g : β → D) : ∀ (xs : List α) (ys : List β), zipD (xs.map f) (ys.map g) = (xs.zip ys).map fun p => .tup [f p.1, g p.2]
  | [], _ => by simp [zipD]
  | _ :: _, [] => by simp [zipD]
  | x :: xs, y :: ys => by
    have := zipD_map f g xs ys
    unfold zipD at this ⊢
    rw [List.map_cons, List.map_cons, List.zipWith_cons_cons, this, List.zip_cons_cons, List.map_cons]
theorem w_kizp_map {α β : Type} {L : Sto} {f : α → D} {g : β → D} {xs : List α} {ys : List β} {d e : D} (h1 : seqOf L d = some (xs.map f, [])) (h2 : seqOf L e = some (ys.map g, [])) : kizp (.ok [d, e] L) = .ok ⟨(xs.zip ys).map fun p => .tup [f p.1, g p.2], []⟩ L := by
  show (match seqOf L d, seqOf L e with | some (xs, s), some (ys, t) => Res.ok (Its.mk (zipD xs ys) (s ++ t)) L | _, _ => .bad) = _
  rw [h1, h2, ← zipD_map]
  rfl
theorem enumD_map {α : Type} (f : α → D) : ∀ (xs : List α) (n : Nat), enumD n (xs.map f) = (xs.zipIdx n).map fun p => .tup [natD p.2, f p.1]
  | [], _ => rfl
  | x :: xs, n => by
    rw [List.map_cons, List.zipIdx_cons, List.map_cons, ← enumD_map f xs (n + 1)]
    rfl
def kp1 (fv : EF) (r : List (EF × EF)) (ρ : Env') (x : Res D) : Res (List (D × D)) := x.bind fun k L1 => (fv ρ L1).bind fun v L2 => (prsF r ρ L2).bind fun ps L3 => .ok ((k, v) :: ps) L3
def kp2 (k : D) (r : List (EF × EF)) (ρ : Env') (x : Res D) : Res (List (D × D)) := x.bind fun v L2 => (prsF r ρ L2).bind fun ps L3 => .ok ((k, v) :: ps) L3
def kp3 (k v : D) (x : Res (List (D × D))) : Res (List (D × D)) := x.bind fun ps L3 => .ok ((k, v) :: ps) L3
def kdisp (box : Bool) (x : Res (List (D × D))) : Res D := x.bind fun ps L1 => match keyPs ps with
  | some kds => if kds.length ≤ 15 then dOut box (mergeD [] kds) L1 else .bad
  | none => .bad
section
variable {ρ ρ1 : Env'} {L L1 : Sto} {d e k v : D} {fa fb fk fv : EF} {r : List (EF × EF)} {ps : List (D × D)} {bx : Bool} {i j : Int} {a b : Str} {xs ys : List D} {n m : Nat}
theorem qE : eDisp bx r ρ L = kdisp bx (prsF r ρ L) := (rfl)
theorem qF : prsF ((fk, fv) :: r) ρ L = kp1 fv r ρ (fk ρ L) := (rfl)
theorem qG : prsF [] ρ L = .ok [] L := (rfl)
theorem qH : kp1 fv r ρ (.ok k L) = kp2 k r ρ (fv ρ L) := (rfl)
theorem qI : kp2 k r ρ (.ok v L) = kp3 k v (prsF r ρ L) := (rfl)
theorem qJ : kp3 k v (.ok ps L) = .ok ((k, v) :: ps) L := (rfl)
theorem qK : kdisp bx (.ok [(.int i, d)] L) = dOut bx (mergeD [] [(.inl i, d)]) L := (rfl)
theorem qL : kdisp bx (.ok [(.int i, d), (.int j, e)] L) = dOut bx (mergeD [] [(.inl i, d), (.inl j, e)]) L := (rfl)
theorem qM : kdisp bx (.ok [(.str a, d), (.str b, e)] L) = dOut bx (mergeD [] [(.inr a, d), (.inr b, e)]) L := (rfl)
theorem qN {kvs : List (Key × D)} : dOut false kvs L = .ok (.dK kvs) L := (rfl)
theorem qO {kvs : List (Key × D)} : dOut true kvs L = .ok (.loc L.length) (L ++ [.dK kvs]) := (rfl)
end
theorem eqD_pr (p q : P2) : eqD (pairD p) (pairD q) = decide (p = q) := by
  have e : eqD (pairD p) (pairD q) = ((p.1 == q.1) && ((p.2 == q.2) && true)) := by
    unfold pairD
    rw [eqD, eqDL, eqDL, eqDL]
    rfl
  rw [e, Bool.and_true]
  by_cases h : p = q
  · subst h; simp
  · rw [decide_eq_false h]
    by_cases h1 : p.1 = q.1
    · have h2 : p.2 ≠ q.2 := fun z => h (Prod.ext h1 z)
      simp [h1, h2]
    · simp [h1]
theorem okD_pr (n : Nat) (p : P2) : okD (n + 1) (pairD p) = true := by
  unfold pairD
  rw [okD, okDL, okDL, okDL, ok_int, ok_int]
  rfl
theorem okDL_prs (n : Nat) (ps : List P2) : okDL (n + 1) (ps.map pairD) = true := by
  rw [okDL_all, List.all_eq_true]
  intro d hd
  obtain ⟨p, _, rfl⟩ := List.mem_map.mp hd
  exact okD_pr n p
theorem roll_ok {L : Sto} {n : Nat} {a b c t : Int} (hd : L[n]? = some (dice a b c)) (t1 : 1 ≤ t) (t2 : t ≤ 1000) : ∃ r a' b' c', 0 ≤ r ∧ r < t ∧ m_l_roll [.loc n, .int t] L = .ok (.int r) (L.set n (dice a' b' c')) := by
  have hp : 0 < t := by omega
  have hq : t < 2 ^ 64 := by omega
  have s0 : startE 6 [.loc n, .int t] = [some (.loc n), some (.int t), none, none, none, none] := rfl
  have q0 : sSet 2 (en gInt (aCons (eVar 1) aNil)) [some (.loc n), some (.int t), none, none, none, none] L = .nx [some (.loc n), some (.int t), some (.int t), none, none, none] L := rfl
  have ix : ∀ (L : Sto) (a b c : Int) (ρ : Env'), L[n]? = some (dice a b c) → ρ[0]? = some (some (.loc n)) → (DS.e2 gIx (eVar 0) (eC (.int 0)) ρ L = .ok (.int a) L ∧ DS.e2 gIx (eVar 0) (eC (.int 1)) ρ L = .ok (.int b) L ∧ DS.e2 gIx (eVar 0) (eC (.int 2)) ρ L = .ok (.int c) L) := fun L a b c ρ h hρ =>
    ⟨(ev_e2 (ev_var hρ) rfl).trans (gIx_loc (j := 0) h rfl), (ev_e2 (ev_var hρ) rfl).trans (gIx_loc (j := 1) h rfl), (ev_e2 (ev_var hρ) rfl).trans (gIx_loc (j := 2) h rfl)⟩
  by_cases ha : 0 < a
  · obtain ⟨i0, i1, i2⟩ := ix L a b c [some (.loc n), some (.int t), some (.int t), none, none, none] hd rfl
    obtain ⟨j0, j1, j2⟩ := ix L a b c [some (.loc n), some (.int t), some (.int t), none, none, some (.int (a % t))] hd rfl
    refine ⟨a % t, a / t, b, c, Int.emod_nonneg _ (by omega), Int.emod_lt_of_pos _ hp, ?_⟩
    refine ev_m (ev_seq q0 (ev_seqR (ev_if_t (L1 := L) ?_ (ev_seq (ev_set ((ev_e2 i0 (ev_var (d := .int t) rfl)).trans (gMod_int hp))) (ev_seq (ev_put ((ev_e2 j0 (ev_var (d := .int t) rfl)).trans (gDiv_int hp hq)) (ev_var (d := .loc n) rfl) (k := .int 0) rfl (putAt_loc (j := 0) hd (show 0 < 3 by decide))) (ev_ret rfl))))))
    refine ev_asB (fa := DS.e2 gGt (DS.e2 gIx (eVar 0) (eC (.int 0))) (eC (.int 0))) ?_
    rw [ev_e2 i0 (e := .int 0) rfl, kH, decide_eq_true ha]
  · obtain ⟨i0, i1, i2⟩ := ix L a b c [some (.loc n), some (.int t), some (.int t), none, none, none] hd rfl
    have hd2 : (L.set n (dice a b (c + 1)))[n]? = some (dice a b (c + 1)) := set_get hd
    have hmul : ∀ (x y : Int), 0 ≤ x → x < 2 ^ 64 → (-(2 ^ 64) < x ∧ x < 2 ^ 64) ∨ (-(2 ^ 64) < y ∧ y < 2 ^ 64) := fun x y h1 h2 => .inl ⟨by omega, h2⟩
    obtain ⟨one, h1⟩ : ∃ one : Int, (b + 1000171 * (c + 1)) % 2305843009213693951 = one := ⟨_, rfl⟩
    have o0 : 0 ≤ one := by rw [← h1]; exact Int.emod_nonneg _ (by decide)
    have o1 : one < 2 ^ 64 := by
      have : one < 2305843009213693951 := by rw [← h1]; exact Int.emod_lt_of_pos _ (by decide)
      omega
    obtain ⟨sq, h2⟩ : ∃ sq : Int, one * one % 2305843009213693921 = sq := ⟨_, rfl⟩
    have p0 : 0 ≤ sq := by rw [← h2]; exact Int.emod_nonneg _ (by decide)
    have p1 : sq < 2 ^ 64 := by
      have : sq < 2305843009213693921 := by rw [← h2]; exact Int.emod_lt_of_pos _ (by decide)
      omega
    obtain ⟨two, h3⟩ : ∃ two : Int, (sq * one + 9419 * (c + 1)) % 2305843009213693907 = two := ⟨_, rfl⟩
    refine ⟨two / 4096 % t, a, b, c + 1, Int.emod_nonneg _ (by omega), Int.emod_lt_of_pos _ hp, ?_⟩
    obtain ⟨j0, j1, j2⟩ := ix (L.set n (dice a b (c + 1))) a b (c + 1) [some (.loc n), some (.int t), some (.int t), none, none, none] hd2 rfl
    obtain ⟨k0, k1, k2⟩ := ix (L.set n (dice a b (c + 1))) a b (c + 1) [some (.loc n), some (.int t), some (.int t), some (.int one), none, none] hd2 rfl
    refine ev_m (ev_seq q0 (ev_seq (ev_skip ?_) (ev_seq (ev_put ((ev_e2 i2 (e := .int 1) rfl).trans kC) (ev_var (d := .loc n) rfl) (k := .int 2) rfl (putAt_loc (j := 2) hd (show 2 < 3 by decide)))
      (ev_seq (ev_set (d := .int one) (L1 := L.set n (dice a b (c + 1))) ?_) (ev_seq (ev_set (d := .int (sq * one + 9419 * (c + 1))) (L1 := L.set n (dice a b (c + 1))) ?_) (ev_seq (ev_set (d := .int two) (L1 := L.set n (dice a b (c + 1))) ?_) (ev_ret ?_)))))))
    · refine ev_asB (fa := DS.e2 gGt (DS.e2 gIx (eVar 0) (eC (.int 0))) (eC (.int 0))) ?_
      rw [ev_e2 i0 (e := .int 0) rfl, kH, decide_eq_false ha]
    · have z1 : DS.e2 gMul (eC (.int 1000171)) (DS.e2 gIx (eVar 0) (eC (.int 2))) [some (.loc n), some (.int t), some (.int t), none, none, none] (L.set n (dice a b (c + 1))) = .ok (.int (1000171 * (c + 1))) (L.set n (dice a b (c + 1))) :=
        (ev_e2 (d := .int 1000171) rfl j2).trans (gMul_int (.inl ⟨by decide, by decide⟩))
      have z2 := (ev_e2 j1 z1).trans kC
      refine (ev_e2 z2 (e := .int 2305843009213693951) rfl).trans ?_
      rw [gMod_int (by decide), h1]
    · have y3 : eVar 3 [some (.loc n), some (.int t), some (.int t), some (.int one), none, none] (L.set n (dice a b (c + 1))) = .ok (.int one) (L.set n (dice a b (c + 1))) := rfl
      have z1 := (ev_e2 y3 y3).trans (gMul_int (hmul one one o0 o1))
      have z2 : DS.e2 gMod (DS.e2 gMul (eVar 3) (eVar 3)) (eC (.int 2305843009213693921)) [some (.loc n), some (.int t), some (.int t), some (.int one), none, none] (L.set n (dice a b (c + 1))) = .ok (.int sq) (L.set n (dice a b (c + 1))) := by
        rw [ev_e2 z1 (e := .int 2305843009213693921) rfl, gMod_int (by decide), h2]
      have z3 := (ev_e2 z2 y3).trans (gMul_int (hmul sq one p0 p1))
      have z4 : DS.e2 gMul (eC (.int 9419)) (DS.e2 gIx (eVar 0) (eC (.int 2))) [some (.loc n), some (.int t), some (.int t), some (.int one), none, none] (L.set n (dice a b (c + 1))) = .ok (.int (9419 * (c + 1))) (L.set n (dice a b (c + 1))) :=
        (ev_e2 (d := .int 9419) rfl k2).trans (gMul_int (.inl ⟨by decide, by decide⟩))
      exact (ev_e2 z3 z4).trans kC
    · refine (ev_e2 (ev_var (d := .int (sq * one + 9419 * (c + 1))) rfl) (e := .int 2305843009213693907) rfl).trans ?_
      rw [gMod_int (by decide), h3]
    · have z1 := (ev_e2 (fa := eVar 4) (ρ := [some (.loc n), some (.int t), some (.int t), some (.int one), some (.int two), none]) (L := L.set n (dice a b (c + 1))) (ev_var (d := .int two) rfl) (fb := eC (.int 4096)) (e := .int 4096) (L2 := L.set n (dice a b (c + 1))) rfl (k := gDiv)).trans (gDiv_int (by decide) (by decide))
      have z2 := (ev_e2 z1 (fb := eVar 2) (ev_var (d := .int t) rfl) (k := gMod)).trans (gMod_int hp)
      exact (ev_en (ev_one z2)).trans kQ
theorem roll {n : Nat} {L : Sto} {t : Int} (hd : Dc n L) (t1 : 1 ≤ t) (t2 : t ≤ 1000) : ∃ r L', 0 ≤ r ∧ r < t ∧ m_l_roll [.loc n, .int t] L = .ok (.int r) L' ∧ Nxt n L L' ∧ Dc n L' := by
  obtain ⟨a, b, c, e⟩ := hd
  obtain ⟨r, a', b', c', h1, h2, h3⟩ := roll_ok e t1 t2
  exact ⟨r, _, h1, h2, h3, ⟨a', b', c', rfl⟩, ⟨a', b', c', set_get e⟩⟩
theorem one_of {n : Nat} {L : Sto} {xs : List D} (hd : Dc n L) (h1 : 1 ≤ xs.length) (h2 : xs.length ≤ 1000) : ∃ y L', y ∈ xs ∧ m_l_one_of [.loc n, .lst xs] L = .ok y L' ∧ Nxt n L L' ∧ Dc n L' := by
  obtain ⟨r, L', r0, r1, q, hn, hd'⟩ := roll hd (t := (xs.length : Int)) (by omega) (by omega)
  obtain ⟨j, rfl⟩ := Int.eq_ofNat_of_zero_le r0
  have hj : j < xs.length := by omega
  refine ⟨xs[j], L', List.getElem_mem hj, ?_, hn, hd'⟩
  have v1 : eVar 1 (startE 2 [.loc n, .lst xs]) L = .ok (.lst xs) L := rfl
  have v0 : eVar 0 (startE 2 [.loc n, .lst xs]) L = .ok (.loc n) L := rfl
  refine ev_m (ev_ret ((ev_e2 v1 ((ev_call (ev_cons v0 (ev_one ((ev_en (ev_one v1)).trans kN))) rfl).trans q)).trans (gIx_lst (List.getElem?_eq_getElem hj))))
theorem dice_ok (ns : List Int) (k : Nat) (L : Sto) : ∃ a b, m_l_dice [.ro (ns.map .int), .int (k : Int)] L = .ok (.loc L.length) (L ++ [dice a b 0]) := by
  have s0 : startE 6 [.ro (ns.map .int), .int (k : Int)] = [some (.ro (ns.map .int)), some (.int k), none, none, none, none] := rfl
  obtain ⟨cell, hc⟩ : ∃ cell : Int, sIf (fun ρ L => asB ((DS.e2 gLt (eVar 1) (en gLen (aCons (eVar 0) aNil))) ρ L)) (sSet 2 (DS.e2 gIx (eVar 0) (eVar 1))) sSkip [some (.ro (ns.map .int)), some (.int k), some (.int (71 * k + 43)), none, none, none] L
      = .nx [some (.ro (ns.map .int)), some (.int k), some (.int cell), none, none, none] L := by
    have v0 : eVar 0 [some (.ro (ns.map .int)), some (.int k), some (.int (71 * k + 43)), none, none, none] L = .ok (.ro (ns.map .int)) L := rfl
    have v1 : eVar 1 [some (.ro (ns.map .int)), some (.int k), some (.int (71 * k + 43)), none, none, none] L = .ok (.int k) L := rfl
    have c := (ev_e2 v1 ((ev_en (ev_one v0)).trans kO) (k := gLt)).trans kF
    rw [List.length_map] at c
    by_cases h : k < ns.length
    · have h2 : (k : Int) < (ns.length : Int) := by omega
      rw [decide_eq_true h2] at c
      have hg : (ns.map D.int)[k]? = some (.int ns[k]) := by rw [List.getElem?_map, List.getElem?_eq_getElem h]; rfl
      exact ⟨ns[k], ev_if_t (ev_asB c) (ev_set ((ev_e2 v0 v1).trans (gIx_ro hg)))⟩
    · have h2 : ¬ (k : Int) < (ns.length : Int) := by omega
      rw [decide_eq_false h2] at c
      exact ⟨71 * k + 43, ev_skip (ev_asB c)⟩
  have q0 : sSet 2 (DS.e2 gAdd (DS.e2 gMul (eC (.int 71)) (eVar 1)) (eC (.int 43))) [some (.ro (ns.map .int)), some (.int k), none, none, none, none] L = .nx [some (.ro (ns.map .int)), some (.int k), some (.int (71 * k + 43)), none, none, none] L :=
    ev_set ((ev_e2 ((ev_e2 (d := .int 71) (e := .int (k : Int)) rfl rfl).trans (gMul_int (.inl ⟨by decide, by decide⟩))) (e := .int 43) rfl).trans kC)
  obtain ⟨B, hB⟩ : ∃ B : Int, ((10 : Int) ^ 60) ^ 10 = B := ⟨_, rfl⟩
  have hB0 : 0 < B := by rw [← hB]; exact Int.pow_pos (Int.pow_pos (by decide))
  obtain ⟨g, hg⟩ : ∃ g : Int, (if cell < 0 then -cell else cell) % B = g := ⟨_, rfl⟩
  have q3 : sSet 3 (DS.e2 gMod (en gInt (aCons (en gAbs (aCons (eVar 2) aNil)) aNil)) (DS.e2 gPow (DS.e2 gPow (eC (.int 10)) (eC (.int 60))) (eC (.int 10)))) [some (.ro (ns.map .int)), some (.int k), some (.int cell), none, none, none] L
      = .nx [some (.ro (ns.map .int)), some (.int k), some (.int cell), some (.int g), none, none] L := by
    have z : en gInt (aCons (en gAbs (aCons (eVar 2) aNil)) aNil) [some (.ro (ns.map .int)), some (.int k), some (.int cell), none, none, none] L = .ok (.int (if cell < 0 then -cell else cell)) L :=
      (ev_en (ev_one ((ev_en (ev_one (ev_var (d := .int cell) rfl))).trans gAbs_int))).trans kQ
    have z2 := (ev_e2 z (pow600 _ L) (k := gMod)).trans (gMod_int (by rw [hB]; exact hB0))
    rw [hB, hg] at z2
    exact ev_set z2
  have q4 : sSet 4 (DS.e2 gDiv (eVar 3) (DS.e2 gPow (eC (.int 10)) (eC (.int 18)))) [some (.ro (ns.map .int)), some (.int k), some (.int cell), some (.int g), none, none] L
      = .nx [some (.ro (ns.map .int)), some (.int k), some (.int cell), some (.int g), some (.int (g / 10 ^ 18)), none] L :=
    ev_set ((ev_e2 (ev_var (d := .int g) rfl) (pow18 _ L)).trans (gDiv_int (by decide) (by decide)))
  obtain ⟨m, hm⟩ : ∃ m : Int, g % 2147483179 * 57037 + 3217 * (k : Int) + 53 * (if decide (cell < 0) = true then 1 else 0) + 101 = m := ⟨_, rfl⟩
  have q5 : sSet 5 (DS.e2 gAdd (DS.e2 gAdd (DS.e2 gAdd (DS.e2 gMul (DS.e2 gMod (eVar 3) (eC (.int 2147483179))) (eC (.int 57037))) (DS.e2 gMul (eC (.int 3217)) (eVar 1))) (DS.e2 gMul (eC (.int 53)) (en gInt (aCons (DS.e2 gLt (eVar 2) (eC (.int 0))) aNil)))) (eC (.int 101)))
      [some (.ro (ns.map .int)), some (.int k), some (.int cell), some (.int g), some (.int (g / 10 ^ 18)), none] L = .nx [some (.ro (ns.map .int)), some (.int k), some (.int cell), some (.int g), some (.int (g / 10 ^ 18)), some (.int m)] L := by
    have y1 := (ev_e2 (fa := eVar 3) (ρ := [some (.ro (ns.map .int)), some (.int k), some (.int cell), some (.int g), some (.int (g / 10 ^ 18)), none]) (L := L) (ev_var (d := .int g) rfl) (fb := eC (.int 2147483179)) (e := .int 2147483179) (L2 := L) rfl (k := gMod)).trans (gMod_int (by decide))
    have y2 := (ev_e2 y1 (fb := eC (.int 57037)) (e := .int 57037) (L2 := L) rfl (k := gMul)).trans (gMul_int (.inr ⟨by decide, by decide⟩))
    have y3 := (ev_e2 (fa := eC (.int 3217)) (ρ := [some (.ro (ns.map .int)), some (.int k), some (.int cell), some (.int g), some (.int (g / 10 ^ 18)), none]) (L := L) (d := .int 3217) (L1 := L) rfl (fb := eVar 1) (ev_var (d := .int k) rfl) (k := gMul)).trans (gMul_int (.inl ⟨by decide, by decide⟩))
    have y4 := (ev_e2 (fa := eVar 2) (ρ := [some (.ro (ns.map .int)), some (.int k), some (.int cell), some (.int g), some (.int (g / 10 ^ 18)), none]) (L := L) (ev_var (d := .int cell) rfl) (fb := eC (.int 0)) (e := .int 0) (L2 := L) rfl (k := gLt)).trans kF
    have y5 := (ev_en (ev_one y4) (k := gInt)).trans kR
    have y6 := (ev_e2 (fa := eC (.int 53)) (d := .int 53) (L1 := L) rfl y5 (k := gMul)).trans (gMul_int (.inl ⟨by decide, by decide⟩))
    have y7 := (ev_e2 y2 y3 (k := gAdd)).trans kC
    have y8 := (ev_e2 y7 y6 (k := gAdd)).trans kC
    have y9 := (ev_e2 y8 (fb := eC (.int 101)) (e := .int 101) (L2 := L) rfl (k := gAdd)).trans kC
    rw [hm] at y9
    exact ev_set y9
  refine ⟨g / 10 ^ 18, m % 2147483123, ?_⟩
  refine ev_m (ev_seq q0 (ev_seq hc (ev_seq q3 (ev_seq q4 (ev_seq q5 (ev_ret ?_))))))
  have z := (ev_e2 (fa := eVar 5) (ρ := [some (.ro (ns.map .int)), some (.int k), some (.int cell), some (.int g), some (.int (g / 10 ^ 18)), some (.int m)]) (L := L) (ev_var (d := .int m) rfl) (fb := eC (.int 2147483123)) (e := .int 2147483123) (L2 := L) rfl (k := gMod)).trans (gMod_int (by decide))
  have zz := ev_cons (fa := eVar 4) (d := .int (g / 10 ^ 18)) (L1 := L) (ev_var rfl) (ev_cons z (ev_one (fa := eC (.int 0)) (d := .int 0) (L1 := L) rfl))
  unfold eLst
  rw [zz, Res.bind_ok]
  rw [if_pos (show [D.int (g / 10 ^ 18), .int (m % 2147483123), .int 0].length ≤ 16777216 from (show 3 ≤ 16777216 by decide))]
  rfl
theorem okDL_of {n : Nat} {l : List D} (h : ∀ d ∈ l, okD n d = true) : okDL n l = true := by rw [okDL_all]; exact List.all_eq_true.mpr h
theorem belL_of {n : Nat} : ∀ {l : List D}, (∀ d ∈ l, d.bel n = true) → belL n l = true
  | [], _ => rfl
  | d :: l, h => and2' (h d (List.mem_cons_self)) (belL_of fun z hz => h z (List.mem_cons_of_mem _ hz))
theorem rollsN {n : Nat} {L1 : Sto} {k : Nat} {t : Int} {it : IF} {f : EF} {own : List Nat} {tg : GF} {ρ : Env'} {L : Sto} (hd : Dc n L1) (hk : k ≤ 1000) (hi : it ρ L = .ok ⟨(List.range k).map natD, []⟩ L1)
    (hf : ∀ a L, a < k → Dc n L → ∃ x L', tgk f (tg (natD a) (wipeE ρ own)) L = .ok (.int x) L' ∧ Nxt n L L' ∧ 0 ≤ x ∧ x < t) :
    ∃ (r : List Int) (L' : Sto), eLc false own it tg tTrue f ρ L = .ok (.lst (r.map .int)) L' ∧ Nxt n L1 L' ∧ Dc n L' ∧ r.length = k ∧ ∀ x ∈ r, 0 ≤ x ∧ x < t := by
  obtain ⟨ys, L', q, q1, q2, q3⟩ := lc_inv (box := false) (own := own) (tg := tg) (f := f) (List.range k) natD (fun L => Nxt n L1 L ∧ Dc n L) (fun _ y => ∃ x, y = D.int x ∧ 0 ≤ x ∧ x < t) hi (by rw [List.length_range]; omega) ⟨.refl hd, hd⟩
    fun a ha L hL => by
      obtain ⟨x, L', f1, f2, f3, f4⟩ := hf a L (List.mem_range.mp ha) hL.2
      exact ⟨.int x, L', f1, ⟨hL.1.trans f2, f2.dc hL.2⟩, x, rfl, f3, f4⟩
  obtain ⟨r, rfl, hr⟩ := ints_of (ys := ys) (Q := fun x => 0 ≤ x ∧ x < t) fun y hy => by
    obtain ⟨j, hj⟩ := List.getElem?_of_mem hy
    have hlt : j < (List.range k).length := by rw [← q2]; exact getElem?_lt hj
    exact q3 j _ y (List.getElem?_eq_getElem hlt) hj
  refine ⟨r, L', q, q1.1, q1.2, ?_, hr⟩
  rw [List.length_map, List.length_range] at q2
  exact q2
theorem isInt_ii (v l m : Int) (L : Sto) : m_is_integer [.int v, .int l, .int m] L = .ok (.bl (decide (l ≤ v) && decide (v ≤ m))) L := by
  simp only [u_is_integer,F_is_integer,aA,aB,aC,aD,aE,aF,aG,aH,aI,aJ,aK,aL,aM,aN,aO,aP,aQ,aR,aS,aU,aV,aW,aX,aY,aZ,bA,bB,bC,bD,bE,bF,bG,bH,bI,bJ,bK,bL,bM,bN,bO,bQ,bR,bS,bT,bU,bV,bW,bX,bY,bZ,cA,cB,cC,cD,cE,cF,cG,cH,cI,cJ,cK,cL,cO,cP,cQ,cS,cU,cV,cX,cY,cZ,dA,dB,dC,dD,dE,dH,dI,dJ,dL,dM,dN,dO,dQ,dR,dS,dU,dW,dX,dY,dZ,eA,eB,eD,eE,eF,eG,eI,eJ,eK,eM,eN,eO,eP,eQ,eR,eS,eT,eU,eV,eW,eX,eY,eZ,fA,fB,fC,fD,fE,fF,fG,fH,fJ,fK,fM,fN,fO,fP,fQ,fR,fS,fT,fU,fV,fW,fX,fY,fZ,gA,gB,gC,gD,gE,gF,gG,gH,gI,gJ,gK,gL,gM,gN,gO,gQ,gR,gS,gT,gU,gV,gW,gX,gY,gZ,hA,hJ,hO,hQ,hU,hV,hZ,iA,iB,iC,iD,iE,iF,iG,iH,iI,iJ,iK,iL,iM,iN,iO,iP,iQ,iR,iS,iT,iU,iV,iW,iX,iY,iZ,jA,jB,jC,jD,jE,jF,jG,jH,jI,jJ,jK,jL,jM,jN,jO,jP,jQ,jR,jS,jT,jU,jV,jW,jX,jY,jZ,kA,kB,kC,kD,kE,kF,kG,kH,kJ,kK,kL,kM,kN,kO,kP,kQ,kR,kS,kU,kW,kX,kY,kZ,lA,lB,lC,lD,lE,lF,lG,lH,lI,lJ,lK,lL,lM,lN,lO,lP,lQ,lR,lS,lT,lU,lV,lW,lX,lY,lZ,mB,mC,mD,mE,mF,mG,mH,mI,mJ,mK,mL,mM,mN,mO,mP,mQ,mR,mS,mT,mU,mV,mW,mX,mY,mZ,nB,nD,nE,nG,nH,nI,nJ,nK,nM,nN,nO,nP,nQ,nR,nS,nU,nV,nW,nX,nY,nZ,oA,oB,oC,oE,oG,oH,oI,oJ,oK,oL,oM,oN,oO,oQ,oR,oS,oU,oV,oW,oX,oY,oZ,pA,pB,pC,pD,pE,pF,pG,pH,pI,pJ,pK,pL,pM,pN,pO,pP,pQ,pR,pS,pU,pV,pW,pX,pY,pZ,qA,qB,qC,qD,qE,qF,qG,qH,qI,qJ,qK,qL,qM,qN,qO]
  by_cases h : v < l
  · simp [h, Int.not_le.mpr h, gIsN, aA, aB, aC, aD, aE, aF, aG, aH, aI, aJ, aK, aL, aM, aN, aO, aP, aQ, aR, aS, aU, aV, aW, aX, aY, aZ, bA, bB, bC, bD, bE, bF, bG, bH, bI, bJ, bK, bL, bM, bN, bO, bQ, bR, bS, bT, bU, bV, bW, bX, bY, bZ, cA, cB, cC, cD, cE, cF, cG, cH, cI, cJ, cK, cL, cO, cP, cQ, cS, cU, cV, cX, cY, cZ, dA, dB, dC, dD, dE, dH, dI, dJ, dL, dM, dN, dO, dQ, dR, dS, dU, dW, dX, dY, dZ, eA, eB, eD, eE, eF, eG, eI, eJ, eK, eM, eN, eO, eP, eQ, eR, eS, eT, eU, eV, eW, eX, eY, eZ, fA, fB, fC, fD, fE, fF, fG, fH, fJ, fK, fM, fN, fO, fP, fQ, fR, fS, fT, fU, fV, fW, fX, fY, fZ, gA, gB, gC, gD, gE, gF, gG, gH, gI, gJ, gK, gL, gM, gN, gO, gQ, gR, gS, gT, gU, gV, gW, gX, gY, gZ, hA, hJ, hO, hQ, hU, hV, hZ, iA, iB, iC, iD, iE, iF, iG, iH, iI, iJ, iK, iL, iM, iN, iO, iP, iQ, iR, iS, iT, iU, iV, iW, iX, iY, iZ, jA, jB, jC, jD, jE, jF, jG, jH, jI, jJ, jK, jL, jM, jN, jO, jP, jQ, jR, jS, jT, jU, jV, jW, jX, jY, jZ, kA, kB, kC, kD, kE, kF, kG, kH, kJ, kK, kL, kM, kN, kO, kP, kQ, kR, kS, kU, kW, kX, kY, kZ, lA, lB, lC, lD, lE, lF, lG, lH, lI, lJ, lK, lL, lM, lN, lO, lP, lQ, lR, lS, lT, lU, lV, lW, lX, lY, lZ, mB, mC, mD, mE, mF, mG, mH, mI, mJ, mK, mL, mM, mN, mO, mP, mQ, mR, mS, mT, mU, mV, mW, mX, mY, mZ, nB, nD, nE, nG, nH, nI, nJ, nK, nM, nN, nO, nP, nQ, nR, nS, nU, nV, nW, nX, nY, nZ, oA, oB, oC, oE, oG, oH, oI, oJ, oK, oL, oM, oN, oO, oQ, oR, oS, oU, oV, oW, oX, oY, oZ, pA, pB, pC, pD, pE, pF, pG, pH, pI, pJ, pK, pL, pM, pN, pO, pP, pQ, pR, pS, pU, pV, pW, pX, pY, pZ, qA, qB, qC, qD, qE, qF, qG, qH, qI, qJ, qK, qL, qM, qN, qO]
  · simp [h, Int.not_lt.mp h, gIsN, isNonD, aA, aB, aC, aD, aE, aF, aG, aH, aI, aJ, aK, aL, aM, aN, aO, aP, aQ, aR, aS, aU, aV, aW, aX, aY, aZ, bA, bB, bC, bD, bE, bF, bG, bH, bI, bJ, bK, bL, bM, bN, bO, bQ, bR, bS, bT, bU, bV, bW, bX, bY, bZ, cA, cB, cC, cD, cE, cF, cG, cH, cI, cJ, cK, cL, cO, cP, cQ, cS, cU, cV, cX, cY, cZ, dA, dB, dC, dD, dE, dH, dI, dJ, dL, dM, dN, dO, dQ, dR, dS, dU, dW, dX, dY, dZ, eA, eB, eD, eE, eF, eG, eI, eJ, eK, eM, eN, eO, eP, eQ, eR, eS, eT, eU, eV, eW, eX, eY, eZ, fA, fB, fC, fD, fE, fF, fG, fH, fJ, fK, fM, fN, fO, fP, fQ, fR, fS, fT, fU, fV, fW, fX, fY, fZ, gA, gB, gC, gD, gE, gF, gG, gH, gI, gJ, gK, gL, gM, gN, gO, gQ, gR, gS, gT, gU, gV, gW, gX, gY, gZ, hA, hJ, hO, hQ, hU, hV, hZ, iA, iB, iC, iD, iE, iF, iG, iH, iI, iJ, iK, iL, iM, iN, iO, iP, iQ, iR, iS, iT, iU, iV, iW, iX, iY, iZ, jA, jB, jC, jD, jE, jF, jG, jH, jI, jJ, jK, jL, jM, jN, jO, jP, jQ, jR, jS, jT, jU, jV, jW, jX, jY, jZ, kA, kB, kC, kD, kE, kF, kG, kH, kJ, kK, kL, kM, kN, kO, kP, kQ, kR, kS, kU, kW, kX, kY, kZ, lA, lB, lC, lD, lE, lF, lG, lH, lI, lJ, lK, lL, lM, lN, lO, lP, lQ, lR, lS, lT, lU, lV, lW, lX, lY, lZ, mB, mC, mD, mE, mF, mG, mH, mI, mJ, mK, mL, mM, mN, mO, mP, mQ, mR, mS, mT, mU, mV, mW, mX, mY, mZ, nB, nD, nE, nG, nH, nI, nJ, nK, nM, nN, nO, nP, nQ, nR, nS, nU, nV, nW, nX, nY, nZ, oA, oB, oC, oE, oG, oH, oI, oJ, oK, oL, oM, oN, oO, oQ, oR, oS, oU, oV, oW, oX, oY, oZ, pA, pB, pC, pD, pE, pF, pG, pH, pI, pJ, pK, pL, pM, pN, pO, pP, pQ, pR, pS, pU, pV, pW, pX, pY, pZ, qA, qB, qC, qD, qE, qF, qG, qH, qI, qJ, qK, qL, qM, qN, qO]
theorem isInt_in (v l : Int) (L : Sto) : m_is_integer [.int v, .int l, .non] L = .ok (.bl (decide (l ≤ v))) L := by
  simp only [u_is_integer,F_is_integer,aA,aB,aC,aD,aE,aF,aG,aH,aI,aJ,aK,aL,aM,aN,aO,aP,aQ,aR,aS,aU,aV,aW,aX,aY,aZ,bA,bB,bC,bD,bE,bF,bG,bH,bI,bJ,bK,bL,bM,bN,bO,bQ,bR,bS,bT,bU,bV,bW,bX,bY,bZ,cA,cB,cC,cD,cE,cF,cG,cH,cI,cJ,cK,cL,cO,cP,cQ,cS,cU,cV,cX,cY,cZ,dA,dB,dC,dD,dE,dH,dI,dJ,dL,dM,dN,dO,dQ,dR,dS,dU,dW,dX,dY,dZ,eA,eB,eD,eE,eF,eG,eI,eJ,eK,eM,eN,eO,eP,eQ,eR,eS,eT,eU,eV,eW,eX,eY,eZ,fA,fB,fC,fD,fE,fF,fG,fH,fJ,fK,fM,fN,fO,fP,fQ,fR,fS,fT,fU,fV,fW,fX,fY,fZ,gA,gB,gC,gD,gE,gF,gG,gH,gI,gJ,gK,gL,gM,gN,gO,gQ,gR,gS,gT,gU,gV,gW,gX,gY,gZ,hA,hJ,hO,hQ,hU,hV,hZ,iA,iB,iC,iD,iE,iF,iG,iH,iI,iJ,iK,iL,iM,iN,iO,iP,iQ,iR,iS,iT,iU,iV,iW,iX,iY,iZ,jA,jB,jC,jD,jE,jF,jG,jH,jI,jJ,jK,jL,jM,jN,jO,jP,jQ,jR,jS,jT,jU,jV,jW,jX,jY,jZ,kA,kB,kC,kD,kE,kF,kG,kH,kJ,kK,kL,kM,kN,kO,kP,kQ,kR,kS,kU,kW,kX,kY,kZ,lA,lB,lC,lD,lE,lF,lG,lH,lI,lJ,lK,lL,lM,lN,lO,lP,lQ,lR,lS,lT,lU,lV,lW,lX,lY,lZ,mB,mC,mD,mE,mF,mG,mH,mI,mJ,mK,mL,mM,mN,mO,mP,mQ,mR,mS,mT,mU,mV,mW,mX,mY,mZ,nB,nD,nE,nG,nH,nI,nJ,nK,nM,nN,nO,nP,nQ,nR,nS,nU,nV,nW,nX,nY,nZ,oA,oB,oC,oE,oG,oH,oI,oJ,oK,oL,oM,oN,oO,oQ,oR,oS,oU,oV,oW,oX,oY,oZ,pA,pB,pC,pD,pE,pF,pG,pH,pI,pJ,pK,pL,pM,pN,pO,pP,pQ,pR,pS,pU,pV,pW,pX,pY,pZ,qA,qB,qC,qD,qE,qF,qG,qH,qI,qJ,qK,qL,qM,qN,qO]
  by_cases h : v < l
  · simp [h, Int.not_le.mpr h, gIsN, aA, aB, aC, aD, aE, aF, aG, aH, aI, aJ, aK, aL, aM, aN, aO, aP, aQ, aR, aS, aU, aV, aW, aX, aY, aZ, bA, bB, bC, bD, bE, bF, bG, bH, bI, bJ, bK, bL, bM, bN, bO, bQ, bR, bS, bT, bU, bV, bW, bX, bY, bZ, cA, cB, cC, cD, cE, cF, cG, cH, cI, cJ, cK, cL, cO, cP, cQ, cS, cU, cV, cX, cY, cZ, dA, dB, dC, dD, dE, dH, dI, dJ, dL, dM, dN, dO, dQ, dR, dS, dU, dW, dX, dY, dZ, eA, eB, eD, eE, eF, eG, eI, eJ, eK, eM, eN, eO, eP, eQ, eR, eS, eT, eU, eV, eW, eX, eY, eZ, fA, fB, fC, fD, fE, fF, fG, fH, fJ, fK, fM, fN, fO, fP, fQ, fR, fS, fT, fU, fV, fW, fX, fY, fZ, gA, gB, gC, gD, gE, gF, gG, gH, gI, gJ, gK, gL, gM, gN, gO, gQ, gR, gS, gT, gU, gV, gW, gX, gY, gZ, hA, hJ, hO, hQ, hU, hV, hZ, iA, iB, iC, iD, iE, iF, iG, iH, iI, iJ, iK, iL, iM, iN, iO, iP, iQ, iR, iS, iT, iU, iV, iW, iX, iY, iZ, jA, jB, jC, jD, jE, jF, jG, jH, jI, jJ, jK, jL, jM, jN, jO, jP, jQ, jR, jS, jT, jU, jV, jW, jX, jY, jZ, kA, kB, kC, kD, kE, kF, kG, kH, kJ, kK, kL, kM, kN, kO, kP, kQ, kR, kS, kU, kW, kX, kY, kZ, lA, lB, lC, lD, lE, lF, lG, lH, lI, lJ, lK, lL, lM, lN, lO, lP, lQ, lR, lS, lT, lU, lV, lW, lX, lY, lZ, mB, mC, mD, mE, mF, mG, mH, mI, mJ, mK, mL, mM, mN, mO, mP, mQ, mR, mS, mT, mU, mV, mW, mX, mY, mZ, nB, nD, nE, nG, nH, nI, nJ, nK, nM, nN, nO, nP, nQ, nR, nS, nU, nV, nW, nX, nY, nZ, oA, oB, oC, oE, oG, oH, oI, oJ, oK, oL, oM, oN, oO, oQ, oR, oS, oU, oV, oW, oX, oY, oZ, pA, pB, pC, pD, pE, pF, pG, pH, pI, pJ, pK, pL, pM, pN, pO, pP, pQ, pR, pS, pU, pV, pW, pX, pY, pZ, qA, qB, qC, qD, qE, qF, qG, qH, qI, qJ, qK, qL, qM, qN, qO]
  · simp [h, Int.not_lt.mp h, gIsN, isNonD, aA, aB, aC, aD, aE, aF, aG, aH, aI, aJ, aK, aL, aM, aN, aO, aP, aQ, aR, aS, aU, aV, aW, aX, aY, aZ, bA, bB, bC, bD, bE, bF, bG, bH, bI, bJ, bK, bL, bM, bN, bO, bQ, bR, bS, bT, bU, bV, bW, bX, bY, bZ, cA, cB, cC, cD, cE, cF, cG, cH, cI, cJ, cK, cL, cO, cP, cQ, cS, cU, cV, cX, cY, cZ, dA, dB, dC, dD, dE, dH, dI, dJ, dL, dM, dN, dO, dQ, dR, dS, dU, dW, dX, dY, dZ, eA, eB, eD, eE, eF, eG, eI, eJ, eK, eM, eN, eO, eP, eQ, eR, eS, eT, eU, eV, eW, eX, eY, eZ, fA, fB, fC, fD, fE, fF, fG, fH, fJ, fK, fM, fN, fO, fP, fQ, fR, fS, fT, fU, fV, fW, fX, fY, fZ, gA, gB, gC, gD, gE, gF, gG, gH, gI, gJ, gK, gL, gM, gN, gO, gQ, gR, gS, gT, gU, gV, gW, gX, gY, gZ, hA, hJ, hO, hQ, hU, hV, hZ, iA, iB, iC, iD, iE, iF, iG, iH, iI, iJ, iK, iL, iM, iN, iO, iP, iQ, iR, iS, iT, iU, iV, iW, iX, iY, iZ, jA, jB, jC, jD, jE, jF, jG, jH, jI, jJ, jK, jL, jM, jN, jO, jP, jQ, jR, jS, jT, jU, jV, jW, jX, jY, jZ, kA, kB, kC, kD, kE, kF, kG, kH, kJ, kK, kL, kM, kN, kO, kP, kQ, kR, kS, kU, kW, kX, kY, kZ, lA, lB, lC, lD, lE, lF, lG, lH, lI, lJ, lK, lL, lM, lN, lO, lP, lQ, lR, lS, lT, lU, lV, lW, lX, lY, lZ, mB, mC, mD, mE, mF, mG, mH, mI, mJ, mK, mL, mM, mN, mO, mP, mQ, mR, mS, mT, mU, mV, mW, mX, mY, mZ, nB, nD, nE, nG, nH, nI, nJ, nK, nM, nN, nO, nP, nQ, nR, nS, nU, nV, nW, nX, nY, nZ, oA, oB, oC, oE, oG, oH, oI, oJ, oK, oL, oM, oN, oO, oQ, oR, oS, oU, oV, oW, oX, oY, oZ, pA, pB, pC, pD, pE, pF, pG, pH, pI, pJ, pK, pL, pM, pN, pO, pP, pQ, pR, pS, pU, pV, pW, pX, pY, pZ, qA, qB, qC, qD, qE, qF, qG, qH, qI, qJ, qK, qL, qM, qN, qO]
def ltP (p q : P2) : Bool := decide (p.1 < q.1) || (decide (p.1 = q.1) && decide (p.2 < q.2))
theorem ltP_iff {p q : P2} : ltP p q = true ↔ p.1 < q.1 ∨ (p.1 = q.1 ∧ p.2 < q.2) := by unfold ltP; simp
theorem gLt_pr (p q : P2) (L : Sto) : gLt (pairD p) (pairD q) L = .ok (.bl (ltP p q)) L := by
  have e : gLt (pairD p) (pairD q) L = .ok (.bl (HT.lexLt [p.1, p.2] [q.1, q.2])) L := rfl
  rw [e]
  congr 2
  rw [HT.lexLt_cons, HT.lexLt_cons, HT.lexLt_nil_nil]
  unfold ltP
  by_cases h1 : p.1 = q.1
  · rw [if_pos h1]
    by_cases h2 : p.2 = q.2
    · rw [if_pos h2]; simp [h1, h2]
    · rw [if_neg h2]; simp [h1]
  · rw [if_neg h1]; simp [h1]
theorem asc_all {α : Type} {r : α → α → Bool} : ∀ {ps : List α}, ps.Pairwise (fun a b => r a b = true) → (ps.zip (ps.drop 1)).all (fun p => r p.1 p.2) = true
  | [], _ => rfl
  | [a], _ => rfl
  | a :: b :: ps, h => by
    have h2 := asc_all (ps := b :: ps) (List.pairwise_cons.mp h).2
    show (r a b && ((b :: ps).zip ((b :: ps).drop 1)).all fun p => r p.1 p.2) = true
    rw [h2, (List.pairwise_cons.mp h).1 b (List.mem_cons_self)]
    rfl
structure Wb where
  n : Nat
  ts : List P2
structure Wb.Ok (W : Wb) : Prop where
  n1 : 1 ≤ W.n
  n2 : W.n ≤ 20
  asc : W.ts.Pairwise fun p q => ltP p q = true
  inn : ∀ t ∈ W.ts, 0 ≤ t.1 ∧ t.1 < t.2 ∧ t.2 < W.n
  few : W.ts.length ≤ 1000
theorem isAsc_pr {ps : List P2} (h : ps.Pairwise fun p q => ltP p q = true) (hl : ps.length ≤ 1000) (L : Sto) : m_is_ascending [.tg (ps.map pairD)] L = .ok (.bl true) L := by
  have c : C1_is_ascending [some (.tg (ps.map pairD)), none, none] L = .ok (.lst ((ps.zip (ps.drop 1)).map fun p => D.bl (ltP p.1 p.2))) L := by
    refine lc_map (box := false) (ps.zip (ps.drop 1)) (fun p => D.tup [pairD p.1, pairD p.2]) _ ?_ srcOk_nil (by rw [List.length_zip]; omega) fun a ha => ?_
    · simp only [aA,aB,aC,aD,aE,aF,aG,aH,aI,aJ,aK,aL,aM,aN,aO,aP,aQ,aR,aS,aU,aV,aW,aX,aY,aZ,bA,bB,bC,bD,bE,bF,bG,bH,bI,bJ,bK,bL,bM,bN,bO,bQ,bR,bS,bT,bU,bV,bW,bX,bY,bZ,cA,cB,cC,cD,cE,cF,cG,cH,cI,cJ,cK,cL,cO,cP,cQ,cS,cU,cV,cX,cY,cZ,dA,dB,dC,dD,dE,dH,dI,dJ,dL,dM,dN,dO,dQ,dR,dS,dU,dW,dX,dY,dZ,eA,eB,eD,eE,eF,eG,eI,eJ,eK,eM,eN,eO,eP,eQ,eR,eS,eT,eU,eV,eW,eX,eY,eZ,fA,fB,fC,fD,fE,fF,fG,fH,fJ,fK,fM,fN,fO,fP,fQ,fR,fS,fT,fU,fV,fW,fX,fY,fZ,gA,gB,gC,gD,gE,gF,gG,gH,gI,gJ,gK,gL,gM,gN,gO,gQ,gR,gS,gT,gU,gV,gW,gX,gY,gZ,hA,hJ,hO,hQ,hU,hV,hZ,iA,iB,iC,iD,iE,iF,iG,iH,iI,iJ,iK,iL,iM,iN,iO,iP,iQ,iR,iS,iT,iU,iV,iW,iX,iY,iZ,jA,jB,jC,jD,jE,jF,jG,jH,jI,jJ,jK,jL,jM,jN,jO,jP,jQ,jR,jS,jT,jU,jV,jW,jX,jY,jZ,kA,kB,kC,kD,kE,kF,kG,kH,kJ,kK,kL,kM,kN,kO,kP,kQ,kR,kS,kU,kW,kX,kY,kZ,lA,lB,lC,lD,lE,lF,lG,lH,lI,lJ,lK,lL,lM,lN,lO,lP,lQ,lR,lS,lT,lU,lV,lW,lX,lY,lZ,mB,mC,mD,mE,mF,mG,mH,mI,mJ,mK,mL,mM,mN,mO,mP,mQ,mR,mS,mT,mU,mV,mW,mX,mY,mZ,nB,nD,nE,nG,nH,nI,nJ,nK,nM,nN,nO,nP,nQ,nR,nS,nU,nV,nW,nX,nY,nZ,oA,oB,oC,oE,oG,oH,oI,oJ,oK,oL,oM,oN,oO,oQ,oR,oS,oU,oV,oW,oX,oY,oZ,pA,pB,pC,pD,pE,pF,pG,pH,pI,pJ,pK,pL,pM,pN,pO,pP,pQ,pR,pS,pU,pV,pW,pX,pY,pZ,qA,qB,qC,qD,qE,qF,qG,qH,qI,qJ,qK,qL,qM,qN,qO]
      rw [← List.map_drop]
      exact w_kizp_map rfl rfl
    · simp only [aA,aB,aC,aD,aE,aF,aG,aH,aI,aJ,aK,aL,aM,aN,aO,aP,aQ,aR,aS,aU,aV,aW,aX,aY,aZ,bA,bB,bC,bD,bE,bF,bG,bH,bI,bJ,bK,bL,bM,bN,bO,bQ,bR,bS,bT,bU,bV,bW,bX,bY,bZ,cA,cB,cC,cD,cE,cF,cG,cH,cI,cJ,cK,cL,cO,cP,cQ,cS,cU,cV,cX,cY,cZ,dA,dB,dC,dD,dE,dH,dI,dJ,dL,dM,dN,dO,dQ,dR,dS,dU,dW,dX,dY,dZ,eA,eB,eD,eE,eF,eG,eI,eJ,eK,eM,eN,eO,eP,eQ,eR,eS,eT,eU,eV,eW,eX,eY,eZ,fA,fB,fC,fD,fE,fF,fG,fH,fJ,fK,fM,fN,fO,fP,fQ,fR,fS,fT,fU,fV,fW,fX,fY,fZ,gA,gB,gC,gD,gE,gF,gG,gH,gI,gJ,gK,gL,gM,gN,gO,gQ,gR,gS,gT,gU,gV,gW,gX,gY,gZ,hA,hJ,hO,hQ,hU,hV,hZ,iA,iB,iC,iD,iE,iF,iG,iH,iI,iJ,iK,iL,iM,iN,iO,iP,iQ,iR,iS,iT,iU,iV,iW,iX,iY,iZ,jA,jB,jC,jD,jE,jF,jG,jH,jI,jJ,jK,jL,jM,jN,jO,jP,jQ,jR,jS,jT,jU,jV,jW,jX,jY,jZ,kA,kB,kC,kD,kE,kF,kG,kH,kJ,kK,kL,kM,kN,kO,kP,kQ,kR,kS,kU,kW,kX,kY,kZ,lA,lB,lC,lD,lE,lF,lG,lH,lI,lJ,lK,lL,lM,lN,lO,lP,lQ,lR,lS,lT,lU,lV,lW,lX,lY,lZ,mB,mC,mD,mE,mF,mG,mH,mI,mJ,mK,mL,mM,mN,mO,mP,mQ,mR,mS,mT,mU,mV,mW,mX,mY,mZ,nB,nD,nE,nG,nH,nI,nJ,nK,nM,nN,nO,nP,nQ,nR,nS,nU,nV,nW,nX,nY,nZ,oA,oB,oC,oE,oG,oH,oI,oJ,oK,oL,oM,oN,oO,oQ,oR,oS,oU,oV,oW,oX,oY,oZ,pA,pB,pC,pD,pE,pF,pG,pH,pI,pJ,pK,pL,pM,pN,pO,pP,pQ,pR,pS,pU,pV,pW,pX,pY,pZ,qA,qB,qC,qD,qE,qF,qG,qH,qI,qJ,qK,qL,qM,qN,qO,gLt_pr]
  simp only [u_is_ascending,F_is_ascending,aA,aB,aC,aD,aE,aF,aG,aH,aI,aJ,aK,aL,aM,aN,aO,aP,aQ,aR,aS,aU,aV,aW,aX,aY,aZ,bA,bB,bC,bD,bE,bF,bG,bH,bI,bJ,bK,bL,bM,bN,bO,bQ,bR,bS,bT,bU,bV,bW,bX,bY,bZ,cA,cB,cC,cD,cE,cF,cG,cH,cI,cJ,cK,cL,cO,cP,cQ,cS,cU,cV,cX,cY,cZ,dA,dB,dC,dD,dE,dH,dI,dJ,dL,dM,dN,dO,dQ,dR,dS,dU,dW,dX,dY,dZ,eA,eB,eD,eE,eF,eG,eI,eJ,eK,eM,eN,eO,eP,eQ,eR,eS,eT,eU,eV,eW,eX,eY,eZ,fA,fB,fC,fD,fE,fF,fG,fH,fJ,fK,fM,fN,fO,fP,fQ,fR,fS,fT,fU,fV,fW,fX,fY,fZ,gA,gB,gC,gD,gE,gF,gG,gH,gI,gJ,gK,gL,gM,gN,gO,gQ,gR,gS,gT,gU,gV,gW,gX,gY,gZ,hA,hJ,hO,hQ,hU,hV,hZ,iA,iB,iC,iD,iE,iF,iG,iH,iI,iJ,iK,iL,iM,iN,iO,iP,iQ,iR,iS,iT,iU,iV,iW,iX,iY,iZ,jA,jB,jC,jD,jE,jF,jG,jH,jI,jJ,jK,jL,jM,jN,jO,jP,jQ,jR,jS,jT,jU,jV,jW,jX,jY,jZ,kA,kB,kC,kD,kE,kF,kG,kH,kJ,kK,kL,kM,kN,kO,kP,kQ,kR,kS,kU,kW,kX,kY,kZ,lA,lB,lC,lD,lE,lF,lG,lH,lI,lJ,lK,lL,lM,lN,lO,lP,lQ,lR,lS,lT,lU,lV,lW,lX,lY,lZ,mB,mC,mD,mE,mF,mG,mH,mI,mJ,mK,mL,mM,mN,mO,mP,mQ,mR,mS,mT,mU,mV,mW,mX,mY,mZ,nB,nD,nE,nG,nH,nI,nJ,nK,nM,nN,nO,nP,nQ,nR,nS,nU,nV,nW,nX,nY,nZ,oA,oB,oC,oE,oG,oH,oI,oJ,oK,oL,oM,oN,oO,oQ,oR,oS,oU,oV,oW,oX,oY,oZ,pA,pB,pC,pD,pE,pF,pG,pH,pI,pJ,pK,pL,pM,pN,pO,pP,pQ,pR,pS,pU,pV,pW,pX,pY,pZ,qA,qB,qC,qD,qE,qF,qG,qH,qI,qJ,qK,qL,qM,qN,qO,c,gAll_map,asc_all h]
theorem isTie_pr {t : P2} {n : Int} (h0 : 0 ≤ t.1) (h1 : t.1 < t.2) (h2 : t.2 < n) (L : Sto) : m_is_tie [pairD t, .int n] L = .ok (.bl true) L := by
  have c : C1_is_tie [some (pairD t), some (.int n), none] L = .ok (.lst ([t.1, t.2].map fun x => D.bl (decide (0 ≤ x) && decide (x ≤ n - 1)))) L := by
    refine lc_map (box := false) [t.1, t.2] D.int _ (src := []) (L1 := L) rfl srcOk_nil (show 2 ≤ 1000000 by decide) fun a ha => ?_
    simp only [aA,aB,aC,aD,aE,aF,aG,aH,aI,aJ,aK,aL,aM,aN,aO,aP,aQ,aR,aS,aU,aV,aW,aX,aY,aZ,bA,bB,bC,bD,bE,bF,bG,bH,bI,bJ,bK,bL,bM,bN,bO,bQ,bR,bS,bT,bU,bV,bW,bX,bY,bZ,cA,cB,cC,cD,cE,cF,cG,cH,cI,cJ,cK,cL,cO,cP,cQ,cS,cU,cV,cX,cY,cZ,dA,dB,dC,dD,dE,dH,dI,dJ,dL,dM,dN,dO,dQ,dR,dS,dU,dW,dX,dY,dZ,eA,eB,eD,eE,eF,eG,eI,eJ,eK,eM,eN,eO,eP,eQ,eR,eS,eT,eU,eV,eW,eX,eY,eZ,fA,fB,fC,fD,fE,fF,fG,fH,fJ,fK,fM,fN,fO,fP,fQ,fR,fS,fT,fU,fV,fW,fX,fY,fZ,gA,gB,gC,gD,gE,gF,gG,gH,gI,gJ,gK,gL,gM,gN,gO,gQ,gR,gS,gT,gU,gV,gW,gX,gY,gZ,hA,hJ,hO,hQ,hU,hV,hZ,iA,iB,iC,iD,iE,iF,iG,iH,iI,iJ,iK,iL,iM,iN,iO,iP,iQ,iR,iS,iT,iU,iV,iW,iX,iY,iZ,jA,jB,jC,jD,jE,jF,jG,jH,jI,jJ,jK,jL,jM,jN,jO,jP,jQ,jR,jS,jT,jU,jV,jW,jX,jY,jZ,kA,kB,kC,kD,kE,kF,kG,kH,kJ,kK,kL,kM,kN,kO,kP,kQ,kR,kS,kU,kW,kX,kY,kZ,lA,lB,lC,lD,lE,lF,lG,lH,lI,lJ,lK,lL,lM,lN,lO,lP,lQ,lR,lS,lT,lU,lV,lW,lX,lY,lZ,mB,mC,mD,mE,mF,mG,mH,mI,mJ,mK,mL,mM,mN,mO,mP,mQ,mR,mS,mT,mU,mV,mW,mX,mY,mZ,nB,nD,nE,nG,nH,nI,nJ,nK,nM,nN,nO,nP,nQ,nR,nS,nU,nV,nW,nX,nY,nZ,oA,oB,oC,oE,oG,oH,oI,oJ,oK,oL,oM,oN,oO,oQ,oR,oS,oU,oV,oW,oX,oY,oZ,pA,pB,pC,pD,pE,pF,pG,pH,pI,pJ,pK,pL,pM,pN,pO,pP,pQ,pR,pS,pU,pV,pW,pX,pY,pZ,qA,qB,qC,qD,qE,qF,qG,qH,qI,qJ,qK,qL,qM,qN,qO,isInt_ii]
  have e1 : decide (0 ≤ t.1) = true := decide_eq_true h0
  have e2 : decide (0 ≤ t.2) = true := decide_eq_true (by omega)
  have e3 : decide (t.1 ≤ n - 1) = true := decide_eq_true (by omega)
  have e4 : decide (t.2 ≤ n - 1) = true := decide_eq_true (by omega)
  have g1 : gIsiK owns .tup (pairD t) L = .ok (.bl true) L := rfl
  have g2 : gLen [pairD t] L = .ok (.int 2) L := rfl
  have g3 : gNe (.int 2) (.int 2) L = .ok (.bl false) L := sS
  simp only [u_is_tie,F_is_tie,aA,aB,aC,aD,aE,aF,aG,aH,aI,aJ,aK,aL,aM,aN,aO,aP,aQ,aR,aS,aU,aV,aW,aX,aY,aZ,bA,bB,bC,bD,bE,bF,bG,bH,bI,bJ,bK,bL,bM,bN,bO,bQ,bR,bS,bT,bU,bV,bW,bX,bY,bZ,cA,cB,cC,cD,cE,cF,cG,cH,cI,cJ,cK,cL,cO,cP,cQ,cS,cU,cV,cX,cY,cZ,dA,dB,dC,dD,dE,dH,dI,dJ,dL,dM,dN,dO,dQ,dR,dS,dU,dW,dX,dY,dZ,eA,eB,eD,eE,eF,eG,eI,eJ,eK,eM,eN,eO,eP,eQ,eR,eS,eT,eU,eV,eW,eX,eY,eZ,fA,fB,fC,fD,fE,fF,fG,fH,fJ,fK,fM,fN,fO,fP,fQ,fR,fS,fT,fU,fV,fW,fX,fY,fZ,gA,gB,gC,gD,gE,gF,gG,gH,gI,gJ,gK,gL,gM,gN,gO,gQ,gR,gS,gT,gU,gV,gW,gX,gY,gZ,hA,hJ,hO,hQ,hU,hV,hZ,iA,iB,iC,iD,iE,iF,iG,iH,iI,iJ,iK,iL,iM,iN,iO,iP,iQ,iR,iS,iT,iU,iV,iW,iX,iY,iZ,jA,jB,jC,jD,jE,jF,jG,jH,jI,jJ,jK,jL,jM,jN,jO,jP,jQ,jR,jS,jT,jU,jV,jW,jX,jY,jZ,kA,kB,kC,kD,kE,kF,kG,kH,kJ,kK,kL,kM,kN,kO,kP,kQ,kR,kS,kU,kW,kX,kY,kZ,lA,lB,lC,lD,lE,lF,lG,lH,lI,lJ,lK,lL,lM,lN,lO,lP,lQ,lR,lS,lT,lU,lV,lW,lX,lY,lZ,mB,mC,mD,mE,mF,mG,mH,mI,mJ,mK,mL,mM,mN,mO,mP,mQ,mR,mS,mT,mU,mV,mW,mX,mY,mZ,nB,nD,nE,nG,nH,nI,nJ,nK,nM,nN,nO,nP,nQ,nR,nS,nU,nV,nW,nX,nY,nZ,oA,oB,oC,oE,oG,oH,oI,oJ,oK,oL,oM,oN,oO,oQ,oR,oS,oU,oV,oW,oX,oY,oZ,pA,pB,pC,pD,pE,pF,pG,pH,pI,pJ,pK,pL,pM,pN,pO,pP,pQ,pR,pS,pU,pV,pW,pX,pY,pZ,qA,qB,qC,qD,qE,qF,qG,qH,qI,qJ,qK,qL,qM,qN,qO,c,gAll_map,g1,g2,g3,List.all_cons,List.all_nil,e1,e2,e3,e4,Bool.and_self,Bool.not_true,Bool.false_eq_true,if_false,decide_eq_true h1]
def nbr (ts : List P2) (p : Int) : List Int := srtI ((ts.filter fun t => decide (p = t.1) || decide (p = t.2)).map fun t => if t.1 = p then t.2 else t.1)
theorem nbs_ok {ts : List P2} (hl : ts.length ≤ 1000) (p : Int) (L : Sto) : m_neighbours_of [.int p, .tg (ts.map pairD)] L = .ok (.lst ((nbr ts p).map .int)) L := by
  have c : C1_neighbours_of [some (.int p), some (.tg (ts.map pairD)), none, none] L = .ok (.lst (((ts.filter fun t => decide (p = t.1) || decide (p = t.2)).map fun t => if t.1 = p then t.2 else t.1).map .int)) L := by
    rw [List.map_map]
    refine lc_filter (box := false) ts pairD _ _ (by simp only [aA,aB,aC,aD,aE,aF,aG,aH,aI,aJ,aK,aL,aM,aN,aO,aP,aQ,aR,aS,aU,aV,aW,aX,aY,aZ,bA,bB,bC,bD,bE,bF,bG,bH,bI,bJ,bK,bL,bM,bN,bO,bQ,bR,bS,bT,bU,bV,bW,bX,bY,bZ,cA,cB,cC,cD,cE,cF,cG,cH,cI,cJ,cK,cL,cO,cP,cQ,cS,cU,cV,cX,cY,cZ,dA,dB,dC,dD,dE,dH,dI,dJ,dL,dM,dN,dO,dQ,dR,dS,dU,dW,dX,dY,dZ,eA,eB,eD,eE,eF,eG,eI,eJ,eK,eM,eN,eO,eP,eQ,eR,eS,eT,eU,eV,eW,eX,eY,eZ,fA,fB,fC,fD,fE,fF,fG,fH,fJ,fK,fM,fN,fO,fP,fQ,fR,fS,fT,fU,fV,fW,fX,fY,fZ,gA,gB,gC,gD,gE,gF,gG,gH,gI,gJ,gK,gL,gM,gN,gO,gQ,gR,gS,gT,gU,gV,gW,gX,gY,gZ,hA,hJ,hO,hQ,hU,hV,hZ,iA,iB,iC,iD,iE,iF,iG,iH,iI,iJ,iK,iL,iM,iN,iO,iP,iQ,iR,iS,iT,iU,iV,iW,iX,iY,iZ,jA,jB,jC,jD,jE,jF,jG,jH,jI,jJ,jK,jL,jM,jN,jO,jP,jQ,jR,jS,jT,jU,jV,jW,jX,jY,jZ,kA,kB,kC,kD,kE,kF,kG,kH,kJ,kK,kL,kM,kN,kO,kP,kQ,kR,kS,kU,kW,kX,kY,kZ,lA,lB,lC,lD,lE,lF,lG,lH,lI,lJ,lK,lL,lM,lN,lO,lP,lQ,lR,lS,lT,lU,lV,lW,lX,lY,lZ,mB,mC,mD,mE,mF,mG,mH,mI,mJ,mK,mL,mM,mN,mO,mP,mQ,mR,mS,mT,mU,mV,mW,mX,mY,mZ,nB,nD,nE,nG,nH,nI,nJ,nK,nM,nN,nO,nP,nQ,nR,nS,nU,nV,nW,nX,nY,nZ,oA,oB,oC,oE,oG,oH,oI,oJ,oK,oL,oM,oN,oO,oQ,oR,oS,oU,oV,oW,oX,oY,oZ,pA,pB,pC,pD,pE,pF,pG,pH,pI,pJ,pK,pL,pM,pN,pO,pP,pQ,pR,pS,pU,pV,pW,pX,pY,pZ,qA,qB,qC,qD,qE,qF,qG,qH,qI,qJ,qK,qL,qM,qN,qO]) srcOk_nil (by omega) (fun a ha => ?_) fun a ha hp => ?_
    · simp only [aA,aB,aC,aD,aE,aF,aG,aH,aI,aJ,aK,aL,aM,aN,aO,aP,aQ,aR,aS,aU,aV,aW,aX,aY,aZ,bA,bB,bC,bD,bE,bF,bG,bH,bI,bJ,bK,bL,bM,bN,bO,bQ,bR,bS,bT,bU,bV,bW,bX,bY,bZ,cA,cB,cC,cD,cE,cF,cG,cH,cI,cJ,cK,cL,cO,cP,cQ,cS,cU,cV,cX,cY,cZ,dA,dB,dC,dD,dE,dH,dI,dJ,dL,dM,dN,dO,dQ,dR,dS,dU,dW,dX,dY,dZ,eA,eB,eD,eE,eF,eG,eI,eJ,eK,eM,eN,eO,eP,eQ,eR,eS,eT,eU,eV,eW,eX,eY,eZ,fA,fB,fC,fD,fE,fF,fG,fH,fJ,fK,fM,fN,fO,fP,fQ,fR,fS,fT,fU,fV,fW,fX,fY,fZ,gA,gB,gC,gD,gE,gF,gG,gH,gI,gJ,gK,gL,gM,gN,gO,gQ,gR,gS,gT,gU,gV,gW,gX,gY,gZ,hA,hJ,hO,hQ,hU,hV,hZ,iA,iB,iC,iD,iE,iF,iG,iH,iI,iJ,iK,iL,iM,iN,iO,iP,iQ,iR,iS,iT,iU,iV,iW,iX,iY,iZ,jA,jB,jC,jD,jE,jF,jG,jH,jI,jJ,jK,jL,jM,jN,jO,jP,jQ,jR,jS,jT,jU,jV,jW,jX,jY,jZ,kA,kB,kC,kD,kE,kF,kG,kH,kJ,kK,kL,kM,kN,kO,kP,kQ,kR,kS,kU,kW,kX,kY,kZ,lA,lB,lC,lD,lE,lF,lG,lH,lI,lJ,lK,lL,lM,lN,lO,lP,lQ,lR,lS,lT,lU,lV,lW,lX,lY,lZ,mB,mC,mD,mE,mF,mG,mH,mI,mJ,mK,mL,mM,mN,mO,mP,mQ,mR,mS,mT,mU,mV,mW,mX,mY,mZ,nB,nD,nE,nG,nH,nI,nJ,nK,nM,nN,nO,nP,nQ,nR,nS,nU,nV,nW,nX,nY,nZ,oA,oB,oC,oE,oG,oH,oI,oJ,oK,oL,oM,oN,oO,oQ,oR,oS,oU,oV,oW,oX,oY,oZ,pA,pB,pC,pD,pE,pF,pG,pH,pI,pJ,pK,pL,pM,pN,pO,pP,pQ,pR,pS,pU,pV,pW,pX,pY,pZ,qA,qB,qC,qD,qE,qF,qG,qH,qI,qJ,qK,qL,qM,qN,qO]
    · by_cases h : a.1 = p <;> simp only [aA,aB,aC,aD,aE,aF,aG,aH,aI,aJ,aK,aL,aM,aN,aO,aP,aQ,aR,aS,aU,aV,aW,aX,aY,aZ,bA,bB,bC,bD,bE,bF,bG,bH,bI,bJ,bK,bL,bM,bN,bO,bQ,bR,bS,bT,bU,bV,bW,bX,bY,bZ,cA,cB,cC,cD,cE,cF,cG,cH,cI,cJ,cK,cL,cO,cP,cQ,cS,cU,cV,cX,cY,cZ,dA,dB,dC,dD,dE,dH,dI,dJ,dL,dM,dN,dO,dQ,dR,dS,dU,dW,dX,dY,dZ,eA,eB,eD,eE,eF,eG,eI,eJ,eK,eM,eN,eO,eP,eQ,eR,eS,eT,eU,eV,eW,eX,eY,eZ,fA,fB,fC,fD,fE,fF,fG,fH,fJ,fK,fM,fN,fO,fP,fQ,fR,fS,fT,fU,fV,fW,fX,fY,fZ,gA,gB,gC,gD,gE,gF,gG,gH,gI,gJ,gK,gL,gM,gN,gO,gQ,gR,gS,gT,gU,gV,gW,gX,gY,gZ,hA,hJ,hO,hQ,hU,hV,hZ,iA,iB,iC,iD,iE,iF,iG,iH,iI,iJ,iK,iL,iM,iN,iO,iP,iQ,iR,iS,iT,iU,iV,iW,iX,iY,iZ,jA,jB,jC,jD,jE,jF,jG,jH,jI,jJ,jK,jL,jM,jN,jO,jP,jQ,jR,jS,jT,jU,jV,jW,jX,jY,jZ,kA,kB,kC,kD,kE,kF,kG,kH,kJ,kK,kL,kM,kN,kO,kP,kQ,kR,kS,kU,kW,kX,kY,kZ,lA,lB,lC,lD,lE,lF,lG,lH,lI,lJ,lK,lL,lM,lN,lO,lP,lQ,lR,lS,lT,lU,lV,lW,lX,lY,lZ,mB,mC,mD,mE,mF,mG,mH,mI,mJ,mK,mL,mM,mN,mO,mP,mQ,mR,mS,mT,mU,mV,mW,mX,mY,mZ,nB,nD,nE,nG,nH,nI,nJ,nK,nM,nN,nO,nP,nQ,nR,nS,nU,nV,nW,nX,nY,nZ,oA,oB,oC,oE,oG,oH,oI,oJ,oK,oL,oM,oN,oO,oQ,oR,oS,oU,oV,oW,oX,oY,oZ,pA,pB,pC,pD,pE,pF,pG,pH,pI,pJ,pK,pL,pM,pN,pO,pP,pQ,pR,pS,pU,pV,pW,pX,pY,pZ,qA,qB,qC,qD,qE,qF,qG,qH,qI,qJ,qK,qL,qM,qN,qO,sR,h,decide_true,decide_false,Bool.false_eq_true,if_false,if_true,Function.comp]
  have g : ∀ ns : List Int, gSort false [.lst (ns.map .int)] L = .ok (.lst ((srtI ns).map .int)) L := fun ns => by
    unfold gSort
    simp only [lB, dInts_map, kY]
  simp only [u_neighbours_of,F_neighbours_of,aA,aB,aC,aD,aE,aF,aG,aH,aI,aJ,aK,aL,aM,aN,aO,aP,aQ,aR,aS,aU,aV,aW,aX,aY,aZ,bA,bB,bC,bD,bE,bF,bG,bH,bI,bJ,bK,bL,bM,bN,bO,bQ,bR,bS,bT,bU,bV,bW,bX,bY,bZ,cA,cB,cC,cD,cE,cF,cG,cH,cI,cJ,cK,cL,cO,cP,cQ,cS,cU,cV,cX,cY,cZ,dA,dB,dC,dD,dE,dH,dI,dJ,dL,dM,dN,dO,dQ,dR,dS,dU,dW,dX,dY,dZ,eA,eB,eD,eE,eF,eG,eI,eJ,eK,eM,eN,eO,eP,eQ,eR,eS,eT,eU,eV,eW,eX,eY,eZ,fA,fB,fC,fD,fE,fF,fG,fH,fJ,fK,fM,fN,fO,fP,fQ,fR,fS,fT,fU,fV,fW,fX,fY,fZ,gA,gB,gC,gD,gE,gF,gG,gH,gI,gJ,gK,gL,gM,gN,gO,gQ,gR,gS,gT,gU,gV,gW,gX,gY,gZ,hA,hJ,hO,hQ,hU,hV,hZ,iA,iB,iC,iD,iE,iF,iG,iH,iI,iJ,iK,iL,iM,iN,iO,iP,iQ,iR,iS,iT,iU,iV,iW,iX,iY,iZ,jA,jB,jC,jD,jE,jF,jG,jH,jI,jJ,jK,jL,jM,jN,jO,jP,jQ,jR,jS,jT,jU,jV,jW,jX,jY,jZ,kA,kB,kC,kD,kE,kF,kG,kH,kJ,kK,kL,kM,kN,kO,kP,kQ,kR,kS,kU,kW,kX,kY,kZ,lA,lB,lC,lD,lE,lF,lG,lH,lI,lJ,lK,lL,lM,lN,lO,lP,lQ,lR,lS,lT,lU,lV,lW,lX,lY,lZ,mB,mC,mD,mE,mF,mG,mH,mI,mJ,mK,mL,mM,mN,mO,mP,mQ,mR,mS,mT,mU,mV,mW,mX,mY,mZ,nB,nD,nE,nG,nH,nI,nJ,nK,nM,nN,nO,nP,nQ,nR,nS,nU,nV,nW,nX,nY,nZ,oA,oB,oC,oE,oG,oH,oI,oJ,oK,oL,oM,oN,oO,oQ,oR,oS,oU,oV,oW,oX,oY,oZ,pA,pB,pC,pD,pE,pF,pG,pH,pI,pJ,pK,pL,pM,pN,pO,pP,pQ,pR,pS,pU,pV,pW,pX,pY,pZ,qA,qB,qC,qD,qE,qF,qG,qH,qI,qJ,qK,qL,qM,qN,qO,c,g]
  rfl
theorem mem_srtI {x : Int} {ns : List Int} : x ∈ srtI ns ↔ x ∈ ns := (srtI_perm ns).mem_iff
theorem mem_nbr {ts : List P2} (h : ∀ t ∈ ts, t.1 < t.2) {p q : Int} : q ∈ nbr ts p ↔ (p, q) ∈ ts ∨ (q, p) ∈ ts := by
  unfold nbr
  rw [mem_srtI, List.mem_map]
  constructor
  · rintro ⟨t, ht, e⟩
    obtain ⟨hm, hp⟩ := List.mem_filter.mp ht
    simp only [Bool.or_eq_true, decide_eq_true_eq] at hp
    by_cases h1 : t.1 = p
    · rw [if_pos h1] at e
      left
      rw [← h1, ← e]; exact hm
    · rw [if_neg h1] at e
      right
      have h2 : p = t.2 := hp.resolve_left fun z => h1 z.symm
      rw [h2, ← e]; exact hm
  · rintro (hm | hm)
    · exact ⟨_, List.mem_filter.mpr ⟨hm, by simp⟩, by simp⟩
    · have := h _ hm
      refine ⟨_, List.mem_filter.mpr ⟨hm, by simp⟩, ?_⟩
      rw [if_neg (by dsimp only; dsimp only at this; omega)]
theorem nodup_map_on {α β : Type} {f : α → β} : ∀ {xs : List α}, xs.Nodup → (∀ a ∈ xs, ∀ b ∈ xs, f a = f b → a = b) → (xs.map f).Nodup
  | [], _, _ => List.nodup_nil
  | x :: xs, h, k => by
    rw [List.map_cons, List.nodup_cons]
    rw [List.nodup_cons] at h
    refine ⟨fun hm => ?_, nodup_map_on h.2 fun a ha b hb => k a (List.mem_cons_of_mem _ ha) b (List.mem_cons_of_mem _ hb)⟩
    obtain ⟨y, hy, e⟩ := List.mem_map.mp hm
    exact h.1 (k y (List.mem_cons_of_mem _ hy) x (List.mem_cons_self) e ▸ hy)
theorem nodup_ltP {ts : List P2} (h : ts.Pairwise fun p q => ltP p q = true) : ts.Nodup := h.imp fun {a b} hab e => by
  subst e
  rw [ltP_iff] at hab
  omega
theorem nodup_nbr {ts : List P2} (hn : ts.Nodup) (h : ∀ t ∈ ts, t.1 < t.2) (p : Int) : (nbr ts p).Nodup := by
  unfold nbr
  refine (srtI_perm _).nodup_iff.mpr (nodup_map_on (hn.sublist List.filter_sublist) fun a ha b hb e => ?_)
  obtain ⟨ha, pa⟩ := List.mem_filter.mp ha
  obtain ⟨hb, pb⟩ := List.mem_filter.mp hb
  simp only [Bool.or_eq_true, decide_eq_true_eq] at pa pb
  have := h a ha
  have := h b hb
  by_cases h1 : a.1 = p <;> by_cases h2 : b.1 = p <;> simp only [h1, h2, if_true, if_false] at e <;> refine Prod.ext ?_ ?_ <;> omega
theorem len_nbr (ts : List P2) (p : Int) : (nbr ts p).length ≤ ts.length := by
  unfold nbr
  rw [(srtI_perm _).length_eq, List.length_map]
  exact List.length_filter_le _ _
theorem dc_map {it : IF} {tg : GF} {fk fv : EF} {own : List Nat} {ρ : Env'} {L : Sto} {α : Type} (xs : List α) (enc : α → D) (key : α → Key) (kd val : α → D) (hi : it ρ L = .ok ⟨xs.map enc, []⟩ L) (hl : xs.length ≤ 1000000)
    (hk : ∀ a ∈ xs, dKey (kd a) = some (key a)) (h1 : ∀ a ∈ xs, tgk fk (tg (enc a) (wipeE ρ own)) L = .ok (kd a) L) (h2 : ∀ a ∈ xs, tgk fv (tg (enc a) (wipeE ρ own)) L = .ok (val a) L) :
    eComp false own (.dK []) it tg tTrue (stepD fk fv) ρ L = .ok (.dK (mergeD [] (xs.map fun a => (key a, val a)))) L := by
  have q := cGo_dict (src := []) (tg := tg) (step := stepD fk fv) (ρ := wipeE ρ own) (L := L) enc (fun a => [(key a, val a)]) srcOk_nil xs [] (by rw [flatMap_pair, List.length_map, List.length_nil]; omega) fun a ha kvs hl2 => by
    obtain ⟨ρ1, k1, k2⟩ := tgk_some (h1 a ha)
    have k3 := h2 a ha
    rw [k1] at k3
    rw [List.length_singleton] at hl2
    exact ⟨ρ1, k1, stepD_at k2 (hk a ha) k3 (by omega)⟩
  rw [flatMap_pair] at q
  exact (eComp_at hi q).trans rfl
theorem mergeD_set {ks : List Int} (h : ks.Nodup) : D.dF (mergeD [] (ks.map fun k => ((.inl k : Key), D.bl true))) = setD ks := by
  rw [mergeD_new]
  · rfl
  · rw [List.nil_append, List.map_map]
    exact nodup_map_on h fun a _ b _ e => Sum.inl.inj e
def nearD (W : Wb) : D := .tg ((List.range W.n).map fun (i : Nat) => setD (nbr W.ts (i : Int)))
def tiesD (ts : List P2) : D := .tg (ts.map pairD)
theorem near_ok {W : Wb} (h : W.Ok) (L : Sto) : m_near_of [.int W.n, tiesD W.ts] L = .ok (nearD W) L := by
  have n2 := h.n2
  have few := h.few
  have hlt : ∀ t ∈ W.ts, t.1 < t.2 := fun t ht => (h.inn t ht).2.1
  have c : C2_near_of [some (.int W.n), some (tiesD W.ts), none, none] L = .ok (.lst ((List.range W.n).map fun (i : Nat) => setD (nbr W.ts (i : Int)))) L := by
    refine lc_map (box := false) (List.range W.n) natD _ (oW (by omega)) srcOk_nil (by rw [List.length_range]; omega) fun i hi => ?_
    simp only [aA,aB,aC,aD,aE,aF,aG,aH,aI,aJ,aK,aL,aM,aN,aO,aP,aQ,aR,aS,aU,aV,aW,aX,aY,aZ,bA,bB,bC,bD,bE,bF,bG,bH,bI,bJ,bK,bL,bM,bN,bO,bQ,bR,bS,bT,bU,bV,bW,bX,bY,bZ,cA,cB,cC,cD,cE,cF,cG,cH,cI,cJ,cK,cL,cO,cP,cQ,cS,cU,cV,cX,cY,cZ,dA,dB,dC,dD,dE,dH,dI,dJ,dL,dM,dN,dO,dQ,dR,dS,dU,dW,dX,dY,dZ,eA,eB,eD,eE,eF,eG,eI,eJ,eK,eM,eN,eO,eP,eQ,eR,eS,eT,eU,eV,eW,eX,eY,eZ,fA,fB,fC,fD,fE,fF,fG,fH,fJ,fK,fM,fN,fO,fP,fQ,fR,fS,fT,fU,fV,fW,fX,fY,fZ,gA,gB,gC,gD,gE,gF,gG,gH,gI,gJ,gK,gL,gM,gN,gO,gQ,gR,gS,gT,gU,gV,gW,gX,gY,gZ,hA,hJ,hO,hQ,hU,hV,hZ,iA,iB,iC,iD,iE,iF,iG,iH,iI,iJ,iK,iL,iM,iN,iO,iP,iQ,iR,iS,iT,iU,iV,iW,iX,iY,iZ,jA,jB,jC,jD,jE,jF,jG,jH,jI,jJ,jK,jL,jM,jN,jO,jP,jQ,jR,jS,jT,jU,jV,jW,jX,jY,jZ,kA,kB,kC,kD,kE,kF,kG,kH,kJ,kK,kL,kM,kN,kO,kP,kQ,kR,kS,kU,kW,kX,kY,kZ,lA,lB,lC,lD,lE,lF,lG,lH,lI,lJ,lK,lL,lM,lN,lO,lP,lQ,lR,lS,lT,lU,lV,lW,lX,lY,lZ,mB,mC,mD,mE,mF,mG,mH,mI,mJ,mK,mL,mM,mN,mO,mP,mQ,mR,mS,mT,mU,mV,mW,mX,mY,mZ,nB,nD,nE,nG,nH,nI,nJ,nK,nM,nN,nO,nP,nQ,nR,nS,nU,nV,nW,nX,nY,nZ,oA,oB,oC,oE,oG,oH,oI,oJ,oK,oL,oM,oN,oO,oQ,oR,oS,oU,oV,oW,oX,oY,oZ,pA,pB,pC,pD,pE,pF,pG,pH,pI,pJ,pK,pL,pM,pN,pO,pP,pQ,pR,pS,pU,pV,pW,pX,pY,pZ,qA,qB,qC,qD,qE,qF,qG,qH,qI,qJ,qK,qL,qM,qN,qO]
    refine (dc_lock (dc_map (nbr W.ts (i : Int)) D.int .inl .int (fun _ => .bl true) ?_ (by have := len_nbr W.ts (i : Int); omega) (fun _ _ => rfl) (fun a ha => ?_) fun a ha => ?_)).trans (by rw [mergeD_set (nodup_nbr (nodup_ltP h.asc) hlt _)])
    · have e := nbs_ok few (i : Int) L
      unfold tiesD
      simp only [aA,aB,aC,aD,aE,aF,aG,aH,aI,aJ,aK,aL,aM,aN,aO,aP,aQ,aR,aS,aU,aV,aW,aX,aY,aZ,bA,bB,bC,bD,bE,bF,bG,bH,bI,bJ,bK,bL,bM,bN,bO,bQ,bR,bS,bT,bU,bV,bW,bX,bY,bZ,cA,cB,cC,cD,cE,cF,cG,cH,cI,cJ,cK,cL,cO,cP,cQ,cS,cU,cV,cX,cY,cZ,dA,dB,dC,dD,dE,dH,dI,dJ,dL,dM,dN,dO,dQ,dR,dS,dU,dW,dX,dY,dZ,eA,eB,eD,eE,eF,eG,eI,eJ,eK,eM,eN,eO,eP,eQ,eR,eS,eT,eU,eV,eW,eX,eY,eZ,fA,fB,fC,fD,fE,fF,fG,fH,fJ,fK,fM,fN,fO,fP,fQ,fR,fS,fT,fU,fV,fW,fX,fY,fZ,gA,gB,gC,gD,gE,gF,gG,gH,gI,gJ,gK,gL,gM,gN,gO,gQ,gR,gS,gT,gU,gV,gW,gX,gY,gZ,hA,hJ,hO,hQ,hU,hV,hZ,iA,iB,iC,iD,iE,iF,iG,iH,iI,iJ,iK,iL,iM,iN,iO,iP,iQ,iR,iS,iT,iU,iV,iW,iX,iY,iZ,jA,jB,jC,jD,jE,jF,jG,jH,jI,jJ,jK,jL,jM,jN,jO,jP,jQ,jR,jS,jT,jU,jV,jW,jX,jY,jZ,kA,kB,kC,kD,kE,kF,kG,kH,kJ,kK,kL,kM,kN,kO,kP,kQ,kR,kS,kU,kW,kX,kY,kZ,lA,lB,lC,lD,lE,lF,lG,lH,lI,lJ,lK,lL,lM,lN,lO,lP,lQ,lR,lS,lT,lU,lV,lW,lX,lY,lZ,mB,mC,mD,mE,mF,mG,mH,mI,mJ,mK,mL,mM,mN,mO,mP,mQ,mR,mS,mT,mU,mV,mW,mX,mY,mZ,nB,nD,nE,nG,nH,nI,nJ,nK,nM,nN,nO,nP,nQ,nR,nS,nU,nV,nW,nX,nY,nZ,oA,oB,oC,oE,oG,oH,oI,oJ,oK,oL,oM,oN,oO,oQ,oR,oS,oU,oV,oW,oX,oY,oZ,pA,pB,pC,pD,pE,pF,pG,pH,pI,pJ,pK,pL,pM,pN,pO,pP,pQ,pR,pS,pU,pV,pW,pX,pY,pZ,qA,qB,qC,qD,qE,qF,qG,qH,qI,qJ,qK,qL,qM,qN,qO,natD,e]
    · simp only [aA,aB,aC,aD,aE,aF,aG,aH,aI,aJ,aK,aL,aM,aN,aO,aP,aQ,aR,aS,aU,aV,aW,aX,aY,aZ,bA,bB,bC,bD,bE,bF,bG,bH,bI,bJ,bK,bL,bM,bN,bO,bQ,bR,bS,bT,bU,bV,bW,bX,bY,bZ,cA,cB,cC,cD,cE,cF,cG,cH,cI,cJ,cK,cL,cO,cP,cQ,cS,cU,cV,cX,cY,cZ,dA,dB,dC,dD,dE,dH,dI,dJ,dL,dM,dN,dO,dQ,dR,dS,dU,dW,dX,dY,dZ,eA,eB,eD,eE,eF,eG,eI,eJ,eK,eM,eN,eO,eP,eQ,eR,eS,eT,eU,eV,eW,eX,eY,eZ,fA,fB,fC,fD,fE,fF,fG,fH,fJ,fK,fM,fN,fO,fP,fQ,fR,fS,fT,fU,fV,fW,fX,fY,fZ,gA,gB,gC,gD,gE,gF,gG,gH,gI,gJ,gK,gL,gM,gN,gO,gQ,gR,gS,gT,gU,gV,gW,gX,gY,gZ,hA,hJ,hO,hQ,hU,hV,hZ,iA,iB,iC,iD,iE,iF,iG,iH,iI,iJ,iK,iL,iM,iN,iO,iP,iQ,iR,iS,iT,iU,iV,iW,iX,iY,iZ,jA,jB,jC,jD,jE,jF,jG,jH,jI,jJ,jK,jL,jM,jN,jO,jP,jQ,jR,jS,jT,jU,jV,jW,jX,jY,jZ,kA,kB,kC,kD,kE,kF,kG,kH,kJ,kK,kL,kM,kN,kO,kP,kQ,kR,kS,kU,kW,kX,kY,kZ,lA,lB,lC,lD,lE,lF,lG,lH,lI,lJ,lK,lL,lM,lN,lO,lP,lQ,lR,lS,lT,lU,lV,lW,lX,lY,lZ,mB,mC,mD,mE,mF,mG,mH,mI,mJ,mK,mL,mM,mN,mO,mP,mQ,mR,mS,mT,mU,mV,mW,mX,mY,mZ,nB,nD,nE,nG,nH,nI,nJ,nK,nM,nN,nO,nP,nQ,nR,nS,nU,nV,nW,nX,nY,nZ,oA,oB,oC,oE,oG,oH,oI,oJ,oK,oL,oM,oN,oO,oQ,oR,oS,oU,oV,oW,oX,oY,oZ,pA,pB,pC,pD,pE,pF,pG,pH,pI,pJ,pK,pL,pM,pN,pO,pP,pQ,pR,pS,pU,pV,pW,pX,pY,pZ,qA,qB,qC,qD,qE,qF,qG,qH,qI,qJ,qK,qL,qM,qN,qO]
    · simp only [aA,aB,aC,aD,aE,aF,aG,aH,aI,aJ,aK,aL,aM,aN,aO,aP,aQ,aR,aS,aU,aV,aW,aX,aY,aZ,bA,bB,bC,bD,bE,bF,bG,bH,bI,bJ,bK,bL,bM,bN,bO,bQ,bR,bS,bT,bU,bV,bW,bX,bY,bZ,cA,cB,cC,cD,cE,cF,cG,cH,cI,cJ,cK,cL,cO,cP,cQ,cS,cU,cV,cX,cY,cZ,dA,dB,dC,dD,dE,dH,dI,dJ,dL,dM,dN,dO,dQ,dR,dS,dU,dW,dX,dY,dZ,eA,eB,eD,eE,eF,eG,eI,eJ,eK,eM,eN,eO,eP,eQ,eR,eS,eT,eU,eV,eW,eX,eY,eZ,fA,fB,fC,fD,fE,fF,fG,fH,fJ,fK,fM,fN,fO,fP,fQ,fR,fS,fT,fU,fV,fW,fX,fY,fZ,gA,gB,gC,gD,gE,gF,gG,gH,gI,gJ,gK,gL,gM,gN,gO,gQ,gR,gS,gT,gU,gV,gW,gX,gY,gZ,hA,hJ,hO,hQ,hU,hV,hZ,iA,iB,iC,iD,iE,iF,iG,iH,iI,iJ,iK,iL,iM,iN,iO,iP,iQ,iR,iS,iT,iU,iV,iW,iX,iY,iZ,jA,jB,jC,jD,jE,jF,jG,jH,jI,jJ,jK,jL,jM,jN,jO,jP,jQ,jR,jS,jT,jU,jV,jW,jX,jY,jZ,kA,kB,kC,kD,kE,kF,kG,kH,kJ,kK,kL,kM,kN,kO,kP,kQ,kR,kS,kU,kW,kX,kY,kZ,lA,lB,lC,lD,lE,lF,lG,lH,lI,lJ,lK,lL,lM,lN,lO,lP,lQ,lR,lS,lT,lU,lV,lW,lX,lY,lZ,mB,mC,mD,mE,mF,mG,mH,mI,mJ,mK,mL,mM,mN,mO,mP,mQ,mR,mS,mT,mU,mV,mW,mX,mY,mZ,nB,nD,nE,nG,nH,nI,nJ,nK,nM,nN,nO,nP,nQ,nR,nS,nU,nV,nW,nX,nY,nZ,oA,oB,oC,oE,oG,oH,oI,oJ,oK,oL,oM,oN,oO,oQ,oR,oS,oU,oV,oW,oX,oY,oZ,pA,pB,pC,pD,pE,pF,pG,pH,pI,pJ,pK,pL,pM,pN,pO,pP,pQ,pR,pS,pU,pV,pW,pX,pY,pZ,qA,qB,qC,qD,qE,qF,qG,qH,qI,qJ,qK,qL,qM,qN,qO]
  have hl : ((List.range W.n).map fun (i : Nat) => setD (nbr W.ts (i : Int))).length ≤ 16777216 := by rw [List.length_map, List.length_range]; omega
  simp only [u_near_of,F_near_of,aA,aB,aC,aD,aE,aF,aG,aH,aI,aJ,aK,aL,aM,aN,aO,aP,aQ,aR,aS,aU,aV,aW,aX,aY,aZ,bA,bB,bC,bD,bE,bF,bG,bH,bI,bJ,bK,bL,bM,bN,bO,bQ,bR,bS,bT,bU,bV,bW,bX,bY,bZ,cA,cB,cC,cD,cE,cF,cG,cH,cI,cJ,cK,cL,cO,cP,cQ,cS,cU,cV,cX,cY,cZ,dA,dB,dC,dD,dE,dH,dI,dJ,dL,dM,dN,dO,dQ,dR,dS,dU,dW,dX,dY,dZ,eA,eB,eD,eE,eF,eG,eI,eJ,eK,eM,eN,eO,eP,eQ,eR,eS,eT,eU,eV,eW,eX,eY,eZ,fA,fB,fC,fD,fE,fF,fG,fH,fJ,fK,fM,fN,fO,fP,fQ,fR,fS,fT,fU,fV,fW,fX,fY,fZ,gA,gB,gC,gD,gE,gF,gG,gH,gI,gJ,gK,gL,gM,gN,gO,gQ,gR,gS,gT,gU,gV,gW,gX,gY,gZ,hA,hJ,hO,hQ,hU,hV,hZ,iA,iB,iC,iD,iE,iF,iG,iH,iI,iJ,iK,iL,iM,iN,iO,iP,iQ,iR,iS,iT,iU,iV,iW,iX,iY,iZ,jA,jB,jC,jD,jE,jF,jG,jH,jI,jJ,jK,jL,jM,jN,jO,jP,jQ,jR,jS,jT,jU,jV,jW,jX,jY,jZ,kA,kB,kC,kD,kE,kF,kG,kH,kJ,kK,kL,kM,kN,kO,kP,kQ,kR,kS,kU,kW,kX,kY,kZ,lA,lB,lC,lD,lE,lF,lG,lH,lI,lJ,lK,lL,lM,lN,lO,lP,lQ,lR,lS,lT,lU,lV,lW,lX,lY,lZ,mB,mC,mD,mE,mF,mG,mH,mI,mJ,mK,mL,mM,mN,mO,mP,mQ,mR,mS,mT,mU,mV,mW,mX,mY,mZ,nB,nD,nE,nG,nH,nI,nJ,nK,nM,nN,nO,nP,nQ,nR,nS,nU,nV,nW,nX,nY,nZ,oA,oB,oC,oE,oG,oH,oI,oJ,oK,oL,oM,oN,oO,oQ,oR,oS,oU,oV,oW,oX,oY,oZ,pA,pB,pC,pD,pE,pF,pG,pH,pI,pJ,pK,pL,pM,pN,pO,pP,pQ,pR,pS,pU,pV,pW,pX,pY,pZ,qA,qB,qC,qD,qE,qF,qG,qH,qI,qJ,qK,qL,qM,qN,qO,c,gTuple_l hl]
  rfl
def webD (W : Wb) : D := .ins "Web" [("own_size", .int W.n), ("own_ties", tiesD W.ts), ("own_near", nearD W), ("own_places", .tg ((List.range W.n).map natD))]
theorem put_new {c f : Str} {y : D} {n : Nat} {L : Sto} {fs : List (Str × D)} (h : L[n]? = some (.ins c fs)) (hl : fs.length < 1000) : gFldPut c f y (.loc n) L = some (L.set n (.ins c (putFD f y fs))) := by
  simp only [gFldPut, h, true_and, hl, if_true]
theorem last_get {L : Sto} {d : D} : (L ++ [d])[L.length]? = some d := by simp
theorem last_set {L : Sto} {d e : D} : (L ++ [d]).set L.length e = L ++ [e] := by
  rw [List.set_append_right _ _ (Nat.le_refl _), Nat.sub_self]; rfl
theorem put_last {c f : Str} {y : D} {L : Sto} {fs : List (Str × D)} (hl : fs.length < 1000) : gFldPut c f y (.loc L.length) (L ++ [.ins c fs]) = some (L ++ [.ins c (putFD f y fs)]) := by
  rw [put_new last_get hl, last_set]
abbrev fs1 (a : D) : List (Str × D) := [("own_size", a)]
abbrev fs2 (a b : D) : List (Str × D) := [("own_size", a), ("own_ties", b)]
abbrev fs3 (a b c : D) : List (Str × D) := [("own_size", a), ("own_ties", b), ("own_near", c)]
abbrev fs4 (a b c d : D) : List (Str × D) := [("own_size", a), ("own_ties", b), ("own_near", c), ("own_places", d)]
section
variable {L : Sto} {a b c d : D}
theorem pl1 : gFldPut "Web" "own_size" a (.loc L.length) (L ++ [.ins "Web" []]) = some (L ++ [.ins "Web" (fs1 a)]) := put_last (fs := []) (show 0 < 1000 by decide)
theorem pl2 : gFldPut "Web" "own_ties" b (.loc L.length) (L ++ [.ins "Web" (fs1 a)]) = some (L ++ [.ins "Web" (fs2 a b)]) := put_last (fs := fs1 a) (show 1 < 1000 by decide)
theorem pl3 : gFldPut "Web" "own_near" c (.loc L.length) (L ++ [.ins "Web" (fs2 a b)]) = some (L ++ [.ins "Web" (fs3 a b c)]) := put_last (fs := fs2 a b) (show 2 < 1000 by decide)
theorem pl4 : gFldPut "Web" "own_places" d (.loc L.length) (L ++ [.ins "Web" (fs3 a b c)]) = some (L ++ [.ins "Web" (fs4 a b c d)]) := put_last (fs := fs3 a b c) (show 3 < 1000 by decide)
end
theorem checked_ok {W : Wb} (h : W.Ok) (h10 : W.n ≤ 10) (L : Sto) : m_checked [.int W.n, tiesD W.ts] L = .ok (.sl "Parts" [.int W.n, tiesD W.ts]) L := by
  have n1 := h.n1
  have c : C1_checked [some (.int W.n), some (tiesD W.ts), none] L = .ok (.lst (W.ts.map fun _ => D.bl true)) L := by
    refine lc_map (box := false) W.ts pairD _ (src := []) (L1 := L) rfl srcOk_nil (by have := h.few; omega) fun t ht => ?_
    have k := h.inn t ht
    simp only [aA,aB,aC,aD,aE,aF,aG,aH,aI,aJ,aK,aL,aM,aN,aO,aP,aQ,aR,aS,aU,aV,aW,aX,aY,aZ,bA,bB,bC,bD,bE,bF,bG,bH,bI,bJ,bK,bL,bM,bN,bO,bQ,bR,bS,bT,bU,bV,bW,bX,bY,bZ,cA,cB,cC,cD,cE,cF,cG,cH,cI,cJ,cK,cL,cO,cP,cQ,cS,cU,cV,cX,cY,cZ,dA,dB,dC,dD,dE,dH,dI,dJ,dL,dM,dN,dO,dQ,dR,dS,dU,dW,dX,dY,dZ,eA,eB,eD,eE,eF,eG,eI,eJ,eK,eM,eN,eO,eP,eQ,eR,eS,eT,eU,eV,eW,eX,eY,eZ,fA,fB,fC,fD,fE,fF,fG,fH,fJ,fK,fM,fN,fO,fP,fQ,fR,fS,fT,fU,fV,fW,fX,fY,fZ,gA,gB,gC,gD,gE,gF,gG,gH,gI,gJ,gK,gL,gM,gN,gO,gQ,gR,gS,gT,gU,gV,gW,gX,gY,gZ,hA,hJ,hO,hQ,hU,hV,hZ,iA,iB,iC,iD,iE,iF,iG,iH,iI,iJ,iK,iL,iM,iN,iO,iP,iQ,iR,iS,iT,iU,iV,iW,iX,iY,iZ,jA,jB,jC,jD,jE,jF,jG,jH,jI,jJ,jK,jL,jM,jN,jO,jP,jQ,jR,jS,jT,jU,jV,jW,jX,jY,jZ,kA,kB,kC,kD,kE,kF,kG,kH,kJ,kK,kL,kM,kN,kO,kP,kQ,kR,kS,kU,kW,kX,kY,kZ,lA,lB,lC,lD,lE,lF,lG,lH,lI,lJ,lK,lL,lM,lN,lO,lP,lQ,lR,lS,lT,lU,lV,lW,lX,lY,lZ,mB,mC,mD,mE,mF,mG,mH,mI,mJ,mK,mL,mM,mN,mO,mP,mQ,mR,mS,mT,mU,mV,mW,mX,mY,mZ,nB,nD,nE,nG,nH,nI,nJ,nK,nM,nN,nO,nP,nQ,nR,nS,nU,nV,nW,nX,nY,nZ,oA,oB,oC,oE,oG,oH,oI,oJ,oK,oL,oM,oN,oO,oQ,oR,oS,oU,oV,oW,oX,oY,oZ,pA,pB,pC,pD,pE,pF,pG,pH,pI,pJ,pK,pL,pM,pN,pO,pP,pQ,pR,pS,pU,pV,pW,pX,pY,pZ,qA,qB,qC,qD,qE,qF,qG,qH,qI,qJ,qK,qL,qM,qN,qO,isTie_pr (n := (W.n : Int)) k.1 k.2.1 k.2.2]
  have a : (W.ts.all fun _ => true) = true := by simp
  have e1 : decide ((1 : Int) ≤ (W.n : Int)) = true := decide_eq_true (by omega)
  have e2 : decide ((W.n : Int) ≤ 10) = true := decide_eq_true (by omega)
  have g : gIsiK owns .tup (tiesD W.ts) L = .ok (.bl true) L := mS
  have k : m_is_ascending [tiesD W.ts] L = .ok (.bl true) L := isAsc_pr h.asc h.few L
  simp only [u_checked,F_checked,aA,aB,aC,aD,aE,aF,aG,aH,aI,aJ,aK,aL,aM,aN,aO,aP,aQ,aR,aS,aU,aV,aW,aX,aY,aZ,bA,bB,bC,bD,bE,bF,bG,bH,bI,bJ,bK,bL,bM,bN,bO,bQ,bR,bS,bT,bU,bV,bW,bX,bY,bZ,cA,cB,cC,cD,cE,cF,cG,cH,cI,cJ,cK,cL,cO,cP,cQ,cS,cU,cV,cX,cY,cZ,dA,dB,dC,dD,dE,dH,dI,dJ,dL,dM,dN,dO,dQ,dR,dS,dU,dW,dX,dY,dZ,eA,eB,eD,eE,eF,eG,eI,eJ,eK,eM,eN,eO,eP,eQ,eR,eS,eT,eU,eV,eW,eX,eY,eZ,fA,fB,fC,fD,fE,fF,fG,fH,fJ,fK,fM,fN,fO,fP,fQ,fR,fS,fT,fU,fV,fW,fX,fY,fZ,gA,gB,gC,gD,gE,gF,gG,gH,gI,gJ,gK,gL,gM,gN,gO,gQ,gR,gS,gT,gU,gV,gW,gX,gY,gZ,hA,hJ,hO,hQ,hU,hV,hZ,iA,iB,iC,iD,iE,iF,iG,iH,iI,iJ,iK,iL,iM,iN,iO,iP,iQ,iR,iS,iT,iU,iV,iW,iX,iY,iZ,jA,jB,jC,jD,jE,jF,jG,jH,jI,jJ,jK,jL,jM,jN,jO,jP,jQ,jR,jS,jT,jU,jV,jW,jX,jY,jZ,kA,kB,kC,kD,kE,kF,kG,kH,kJ,kK,kL,kM,kN,kO,kP,kQ,kR,kS,kU,kW,kX,kY,kZ,lA,lB,lC,lD,lE,lF,lG,lH,lI,lJ,lK,lL,lM,lN,lO,lP,lQ,lR,lS,lT,lU,lV,lW,lX,lY,lZ,mB,mC,mD,mE,mF,mG,mH,mI,mJ,mK,mL,mM,mN,mO,mP,mQ,mR,mS,mT,mU,mV,mW,mX,mY,mZ,nB,nD,nE,nG,nH,nI,nJ,nK,nM,nN,nO,nP,nQ,nR,nS,nU,nV,nW,nX,nY,nZ,oA,oB,oC,oE,oG,oH,oI,oJ,oK,oL,oM,oN,oO,oQ,oR,oS,oU,oV,oW,oX,oY,oZ,pA,pB,pC,pD,pE,pF,pG,pH,pI,pJ,pK,pL,pM,pN,pO,pP,pQ,pR,pS,pU,pV,pW,pX,pY,pZ,qA,qB,qC,qD,qE,qF,qG,qH,qI,qJ,qK,qL,qM,qN,qO,isInt_ii,e1,e2,Bool.and_self,Bool.not_true,Bool.false_eq_true,if_false,c,gAll_map,a,g,k]
theorem webInit_plain {W : Wb} (h : W.Ok) (h10 : W.n ≤ 10) (L : Sto) : m_Web_init [.loc L.length, .int W.n, tiesD W.ts] (L ++ [.ins "Web" []]) = .ok .non (L ++ [webD W]) := by
  have n2 := h.n2
  have ck := fun L => checked_ok h h10 L
  have e := fun L => near_ok h L
  have hl : ((List.range W.n).map natD).length ≤ 16777216 := by rw [List.length_map, List.length_range]; omega
  have t : ∀ L : Sto, gTuple [.lst ((List.range W.n).map natD)] L = .ok (.tg ((List.range W.n).map natD)) L := fun L => gTuple_l hl
  have k : ∀ L : Sto, krg1 (lstOut false) (.ok (.int (W.n : Int)) L) = .ok (.lst ((List.range W.n).map natD)) L := fun L => pQ (by omega)
  simp only [u_Web_init,F_Web_init,aA,aB,aC,aD,aE,aF,aG,aH,aI,aJ,aK,aL,aM,aN,aO,aP,aQ,aR,aS,aU,aV,aW,aX,aY,aZ,bA,bB,bC,bD,bE,bF,bG,bH,bI,bJ,bK,bL,bM,bN,bO,bQ,bR,bS,bT,bU,bV,bW,bX,bY,bZ,cA,cB,cC,cD,cE,cF,cG,cH,cI,cJ,cK,cL,cO,cP,cQ,cS,cU,cV,cX,cY,cZ,dA,dB,dC,dD,dE,dH,dI,dJ,dL,dM,dN,dO,dQ,dR,dS,dU,dW,dX,dY,dZ,eA,eB,eD,eE,eF,eG,eI,eJ,eK,eM,eN,eO,eP,eQ,eR,eS,eT,eU,eV,eW,eX,eY,eZ,fA,fB,fC,fD,fE,fF,fG,fH,fJ,fK,fM,fN,fO,fP,fQ,fR,fS,fT,fU,fV,fW,fX,fY,fZ,gA,gB,gC,gD,gE,gF,gG,gH,gI,gJ,gK,gL,gM,gN,gO,gQ,gR,gS,gT,gU,gV,gW,gX,gY,gZ,hA,hJ,hO,hQ,hU,hV,hZ,iA,iB,iC,iD,iE,iF,iG,iH,iI,iJ,iK,iL,iM,iN,iO,iP,iQ,iR,iS,iT,iU,iV,iW,iX,iY,iZ,jA,jB,jC,jD,jE,jF,jG,jH,jI,jJ,jK,jL,jM,jN,jO,jP,jQ,jR,jS,jT,jU,jV,jW,jX,jY,jZ,kA,kB,kC,kD,kE,kF,kG,kH,kJ,kK,kL,kM,kN,kO,kP,kQ,kR,kS,kU,kW,kX,kY,kZ,lA,lB,lC,lD,lE,lF,lG,lH,lI,lJ,lK,lL,lM,lN,lO,lP,lQ,lR,lS,lT,lU,lV,lW,lX,lY,lZ,mB,mC,mD,mE,mF,mG,mH,mI,mJ,mK,mL,mM,mN,mO,mP,mQ,mR,mS,mT,mU,mV,mW,mX,mY,mZ,nB,nD,nE,nG,nH,nI,nJ,nK,nM,nN,nO,nP,nQ,nR,nS,nU,nV,nW,nX,nY,nZ,oA,oB,oC,oE,oG,oH,oI,oJ,oK,oL,oM,oN,oO,oQ,oR,oS,oU,oV,oW,oX,oY,oZ,pA,pB,pC,pD,pE,pF,pG,pH,pI,pJ,pK,pL,pM,pN,pO,pP,pQ,pR,pS,pU,pV,pW,pX,pY,pZ,qA,qB,qC,qD,qE,qF,qG,qH,qI,qJ,qK,qL,qM,qN,qO,ck,if_true,Bool.false_eq_true,if_false,e,t,k,pl1,pl2,pl3,pl4]
  rfl
theorem bel_map {α : Type} {f : α → D} (h : ∀ a n, (f a).bel n = true) (n : Nat) (xs : List α) : belL n (xs.map f) = true := belL_of fun d hd => by
  obtain ⟨a, _, rfl⟩ := List.mem_map.mp hd
  exact h a n
theorem bel_set (n : Nat) : ∀ ks : List Int, (setD ks).bel n = true := fun ks => by
  show belK n (ks.map fun k => ((.inl k : Key), D.bl true)) = true
  induction ks with
  | nil => rfl
  | cons k ks ih => rw [List.map_cons]; exact and2' rfl ih
theorem bel_ties (n : Nat) (ts : List P2) : (tiesD ts).bel n = true := bel_map (fun _ _ => rfl) n ts
theorem bel_web (n : Nat) (W : Wb) : (webD W).bel n = true := by
  show belF n (fs4 (.int W.n) (tiesD W.ts) (nearD W) (.tg ((List.range W.n).map natD))) = true
  have h3 : (nearD W).bel n = true := bel_map (fun i n => bel_set n _) n _
  have h4 : (D.tg ((List.range W.n).map natD)).bel n = true := bel_map (fun _ _ => rfl) n _
  exact and2' rfl (and2' (bel_ties n W.ts) (and2' h3 (and2' h4 rfl)))
theorem mkV {c : Str} {m : List D → Sto → Res D} {ds : List D} {L : Sto} {d : D} (h : m (.loc L.length :: ds) (L ++ [.ins c []]) = .ok .non (L ++ [d])) (hb : d.bel L.length = true) : mMakeV c m ds L = .ok d L := by
  unfold mMakeV mMake
  rw [h]
  exact drop_last hb
theorem mkWeb {W : Wb} (h : W.Ok) (h10 : W.n ≤ 10) (L : Sto) : mMakeV "Web" m_Web_init [.int W.n, tiesD W.ts] L = .ok (webD W) L := mkV (webInit_plain h h10 L) (bel_web _ W)
theorem mkWeb0 {n : Nat} (h1 : 1 ≤ n) (h10 : n ≤ 10) (L : Sto) : mMakeV "Web" m_Web_init [.int n, .tg []] L = .ok (webD ⟨n, []⟩) L :=
  mkWeb (W := ⟨n, []⟩) ⟨h1, by show n ≤ 20; omega, .nil, (fun _ h => nomatch h), Nat.zero_le _⟩ h10 L
section
variable {W : Wb} {L : Sto}
theorem fl_ties : gFld "Web" "own_ties" (webD W) L = .ok (tiesD W.ts) L := (rfl)
theorem isiWeb : gIsiO owns "Web" (webD W) L = .ok (.bl true) L := (rfl)
theorem reqWeb : m_require_web [webD W] L = .ok .non L := by
  simp only [u_require_web,F_require_web,aA,aB,aC,aD,aE,aF,aG,aH,aI,aJ,aK,aL,aM,aN,aO,aP,aQ,aR,aS,aU,aV,aW,aX,aY,aZ,bA,bB,bC,bD,bE,bF,bG,bH,bI,bJ,bK,bL,bM,bN,bO,bQ,bR,bS,bT,bU,bV,bW,bX,bY,bZ,cA,cB,cC,cD,cE,cF,cG,cH,cI,cJ,cK,cL,cO,cP,cQ,cS,cU,cV,cX,cY,cZ,dA,dB,dC,dD,dE,dH,dI,dJ,dL,dM,dN,dO,dQ,dR,dS,dU,dW,dX,dY,dZ,eA,eB,eD,eE,eF,eG,eI,eJ,eK,eM,eN,eO,eP,eQ,eR,eS,eT,eU,eV,eW,eX,eY,eZ,fA,fB,fC,fD,fE,fF,fG,fH,fJ,fK,fM,fN,fO,fP,fQ,fR,fS,fT,fU,fV,fW,fX,fY,fZ,gA,gB,gC,gD,gE,gF,gG,gH,gI,gJ,gK,gL,gM,gN,gO,gQ,gR,gS,gT,gU,gV,gW,gX,gY,gZ,hA,hJ,hO,hQ,hU,hV,hZ,iA,iB,iC,iD,iE,iF,iG,iH,iI,iJ,iK,iL,iM,iN,iO,iP,iQ,iR,iS,iT,iU,iV,iW,iX,iY,iZ,jA,jB,jC,jD,jE,jF,jG,jH,jI,jJ,jK,jL,jM,jN,jO,jP,jQ,jR,jS,jT,jU,jV,jW,jX,jY,jZ,kA,kB,kC,kD,kE,kF,kG,kH,kJ,kK,kL,kM,kN,kO,kP,kQ,kR,kS,kU,kW,kX,kY,kZ,lA,lB,lC,lD,lE,lF,lG,lH,lI,lJ,lK,lL,lM,lN,lO,lP,lQ,lR,lS,lT,lU,lV,lW,lX,lY,lZ,mB,mC,mD,mE,mF,mG,mH,mI,mJ,mK,mL,mM,mN,mO,mP,mQ,mR,mS,mT,mU,mV,mW,mX,mY,mZ,nB,nD,nE,nG,nH,nI,nJ,nK,nM,nN,nO,nP,nQ,nR,nS,nU,nV,nW,nX,nY,nZ,oA,oB,oC,oE,oG,oH,oI,oJ,oK,oL,oM,oN,oO,oQ,oR,oS,oU,oV,oW,oX,oY,oZ,pA,pB,pC,pD,pE,pF,pG,pH,pI,pJ,pK,pL,pM,pN,pO,pP,pQ,pR,pS,pU,pV,pW,pX,pY,pZ,qA,qB,qC,qD,qE,qF,qG,qH,qI,qJ,qK,qL,qM,qN,qO,isiWeb,Bool.not_true,Bool.false_eq_true,if_false]
end
def hueAt (r : List Int) (p : Int) : Int := r.getD p.toNat 0
structure Col (W : Wb) (h : Int) (r : List Int) : Prop where
  len : r.length = W.n
  inn : ∀ x ∈ r, 0 ≤ x ∧ x < h
  ties : ∀ t ∈ W.ts, hueAt r t.1 ≠ hueAt r t.2
def kast (g : AF) (ρ : Env') (r : Res D) : Res (List D) := r.bind fun d L1 => match seqOf L1 d with
  | some (xs, _) => (g ρ L1).bind fun ds L2 => .ok (xs ++ ds) L2
  | none => .bad
section
variable {c x : Str} {n : Nat} {m : List D → Sto → Res D} {fo : EF} {fl g : AF} {ρ : Env'} {L : Sto} {W V : Wb} {d e o : D} {xs ds dd : List D} {b : Bool}
theorem y_star : aStar fo g ρ L = kast g ρ (fo ρ L) := (rfl)
end
theorem cutD_to (xs : List D) (k : Nat) : cutD xs none (some (k : Int)) = xs.take k := by
  unfold cutD
  have e1 : HT.sIx xs.length 0 none = 0 := rfl
  rw [e1, List.drop_zero, Nat.sub_zero]
  have e2 : HT.sIx xs.length xs.length (some (k : Int)) = min k xs.length := by
    show (if (k : Int) < 0 then ((k : Int) + xs.length).toNat else min (k : Int).toNat xs.length) = _
    rw [if_neg (by omega)]; rfl
  rw [e2]
  by_cases h : k ≤ xs.length
  · rw [Nat.min_eq_left h]
  · rw [Nat.min_eq_right (by omega), List.take_length, List.take_of_length_le (by omega)]
theorem w_sl_to {xs : List D} {k : Nat} {L : Sto} : gSl (.lst xs) none (some (k : Int)) L = .ok (.lst (xs.take k)) L := by
  have e : gSl (.lst xs) none (some (k : Int)) L = .ok (.lst (cutD xs none (some (k : Int)))) L := rfl
  rw [e, cutD_to]
def rowP (n i : Nat) : List P2 := (List.range' (i + 1) (n - (i + 1))).map fun (j : Nat) => ((i : Int), (j : Int))
def allP (n : Nat) : List P2 := (List.range n).flatMap (rowP n)
theorem mem_rowP {n i : Nat} {p : P2} : p ∈ rowP n i ↔ p.1 = i ∧ (i : Int) < p.2 ∧ p.2 < n := by
  unfold rowP
  rw [List.mem_map]
  constructor
  · rintro ⟨j, hj, rfl⟩
    have := List.mem_range'_1.mp hj
    exact ⟨rfl, by dsimp only; omega, by dsimp only; omega⟩
  · rintro ⟨h1, h2, h3⟩
    obtain ⟨j, hj⟩ := Int.eq_ofNat_of_zero_le (show 0 ≤ p.2 by omega)
    exact ⟨j, List.mem_range'_1.mpr (by omega), Prod.ext h1.symm hj.symm⟩
theorem mem_allP {n : Nat} {p : P2} : p ∈ allP n ↔ 0 ≤ p.1 ∧ p.1 < p.2 ∧ p.2 < n := by
  unfold allP
  rw [List.mem_flatMap]
  constructor
  · rintro ⟨i, hi, hp⟩
    have := mem_rowP.mp hp
    have := List.mem_range.mp hi
    omega
  · rintro ⟨h1, h2, h3⟩
    obtain ⟨i, hi⟩ := Int.eq_ofNat_of_zero_le h1
    exact ⟨i, List.mem_range.mpr (by omega), mem_rowP.mpr ⟨hi, by omega, h3⟩⟩
theorem len_allP {n : Nat} (h : n ≤ 10) : (allP n).length ≤ 45 := by
  have : ∀ n, n < 11 → (allP n).length ≤ 45 := by decide
  exact this n (by omega)
structure TiesOk (n : Nat) (ps : List P2) : Prop where
  few : ps.length ≤ 45
  inn : ∀ p ∈ ps, 0 ≤ p.1 ∧ p.1 < p.2 ∧ p.2 < n
theorem TiesOk.sub {n : Nat} {ps : List P2} (h : ps.Sublist (allP n)) (hn : n ≤ 10) : TiesOk n ps := ⟨Nat.le_trans h.length_le (len_allP hn), fun p hp => mem_allP.mp (h.subset hp)⟩
section
variable {dn n : Nat} {L : Sto} {x4 x5 x6 x7 x8 x9 x10 x11 x12 x13 : Option D} {s : D}
abbrev env0 (dn n : Nat) (s : D) (x4 x5 x6 x7 x8 x9 x10 x11 x12 x13 : Option D) : Env' := [some (.loc dn), some (.int n), some s, some (.lst ((allP n).map pairD)), x4, x5, x6, x7, x8, x9, x10, x11, x12, x13]
end
section
variable {it : IF} {tg : GF} {t : TF} {f : EF} {body : SF} {own : List Nat} {ρ : Env'} {L L1 : Sto} {box : Bool}
end
section
variable {L : Sto} {ps : List P2} {ns : List Int}
theorem len_setP : (setP ps).length ≤ ps.length := by
  unfold setP
  rw [(srtP_perm _).length_eq]
  have : ∀ r : List P2, (ddup r).length ≤ r.length := by
    intro r
    induction r with
    | nil => exact Nat.le_refl _
    | cons a r ih =>
      unfold ddup
      split
      · rw [List.length_cons]; omega
      · rw [List.length_cons, List.length_cons]; omega
  exact this ps
end
def freeO (W : Wb) (row : List (Option Int)) (p h : Int) : List Nat := (List.range h.toNat).filter fun (c : Nat) => !decide (some (c : Int) ∈ (nbr W.ts p).map fun q => row.getD q.toNat none)
structure Part (W : Wb) (h : Int) (row : List (Option Int)) : Prop where
  len : row.length = W.n
  inn : ∀ (i : Nat) c, row[i]? = some (some c) → 0 ≤ c ∧ c < h
  dif : ∀ t ∈ W.ts, ∀ c, row[t.1.toNat]? = some (some c) → row[t.2.toNat]? ≠ some (some c)
theorem getD_some {row : List (Option Int)} {i : Nat} {c : Int} (h : row[i]? = some (some c)) : row.getD i none = some c := by
  unfold List.getD
  rw [h]; rfl
theorem Part.set {W : Wb} (hW : W.Ok) {h : Int} {row : List (Option Int)} (P : Part W h row) {p : Nat} (hp : p < W.n) {c : Nat} (hc : c ∈ freeO W row (p : Int) h) : Part W h (row.set p (some (c : Int))) := by
  obtain ⟨hr, hf⟩ := List.mem_filter.mp hc
  have hr := List.mem_range.mp hr
  simp only [Bool.not_eq_true', decide_eq_false_iff_not] at hf
  have hlt : ∀ t ∈ W.ts, t.1 < t.2 := fun t ht => (hW.inn t ht).2.1
  have free : ∀ q, q ∈ nbr W.ts (p : Int) → row[q.toNat]? ≠ some (some (c : Int)) := fun q hq e => hf (List.mem_map.mpr ⟨q, hq, getD_some e⟩)
  have hpl : p < row.length := by rw [P.len]; exact hp
  refine ⟨by rw [List.length_set]; exact P.len, fun i x e => ?_, fun t ht x e1 e2 => ?_⟩
  · by_cases hi : p = i
    · subst hi
      rw [List.getElem?_set_self hpl] at e
      cases e
      omega
    · rw [List.getElem?_set_ne hi] at e
      exact P.inn i x e
  · have k := hW.inn t ht
    by_cases h1 : p = t.1.toNat
    · have z : t.1 = (p : Int) := by omega
      have hq : t.2 ∈ nbr W.ts (p : Int) := (mem_nbr hlt).mpr (.inl (by rw [← z]; exact ht))
      rw [h1, List.getElem?_set_self (by rw [← h1]; exact hpl)] at e1
      cases e1
      rw [List.getElem?_set_ne (by omega)] at e2
      exact free _ hq e2
    · rw [List.getElem?_set_ne h1] at e1
      by_cases h2 : p = t.2.toNat
      · have z : t.2 = (p : Int) := by omega
        have hq : t.1 ∈ nbr W.ts (p : Int) := (mem_nbr hlt).mpr (.inr (by rw [← z]; exact ht))
        rw [h2, List.getElem?_set_self (by rw [← h2]; exact hpl)] at e2
        cases e2
        exact free _ hq e1
      · rw [List.getElem?_set_ne h2] at e2
        exact P.dif t ht x e1 e2
def ascI (ps : List Int) : Bool := (ps.zip (ps.drop 1)).all fun p => decide (p.1 < p.2)
theorem isiT {d : D} {ps : List Int} (hd : d = .tg (ps.map .int) ∨ d = .tup (ps.map .int)) (L : Sto) : gIsiK owns .tup d L = .ok (.bl true) L := by
  rcases hd with rfl | rfl <;> rfl
structure Pls (n : Nat) (ps : List Int) : Prop where
  asc : ps.Pairwise (· < ·)
  inn : ∀ x ∈ ps, 0 ≤ x ∧ x < n
theorem Pls.as_ {n : Nat} {ps : List Int} (h : Pls n ps) : ascI ps = true := asc_all (r := fun a b => decide (a < b)) (h.asc.imp fun h => decide_eq_true h)
theorem Pls.nd {n : Nat} {ps : List Int} (h : Pls n ps) : ps.Nodup := h.asc.imp fun {a b} h e => by omega
theorem asc_len : ∀ {ps : List Int} {a n : Int}, ps.Pairwise (· < ·) → (∀ x ∈ ps, a ≤ x ∧ x < n) → (ps.length : Int) ≤ max 0 (n - a)
  | [], _, _, _, _ => by simp; omega
  | p :: ps, a, n, h, hi => by
    obtain ⟨h1, h2⟩ := List.pairwise_cons.mp h
    have i := asc_len (ps := ps) (a := p + 1) (n := n) h2 fun x hx => ⟨by have := h1 x hx; omega, (hi x (List.mem_cons_of_mem _ hx)).2⟩
    have := hi p (List.mem_cons_self)
    rw [List.length_cons]
    omega
theorem Pls.len {n : Nat} {ps : List Int} (h : Pls n ps) : ps.length ≤ n := by
  have := asc_len h.asc h.inn
  omega
theorem same_len {ms ns : List P2} (h1 : ms.Nodup) (h2 : ns.Nodup) (h : ∀ x, x ∈ ms ↔ x ∈ ns) : ms.length = ns.length :=
  ((ddup_perm h1 h).trans (ddup_perm h2 fun x => Iff.rfl).symm).length_eq
theorem eqDL_prs : ∀ r r' : List P2, eqDL (r.map pairD) (r'.map pairD) = decide (r = r')
  | [], [] => rfl
  | [], y :: r' => rfl
  | x :: r, [] => rfl
  | x :: r, y :: r' => by
    rw [List.map_cons, List.map_cons, eqDL, eqDL_prs r r', eqD_pr]
    by_cases h : x = y
    · subst h; simp
    · simp [h]
theorem len_sub {n : Nat} {ts : List P2} (hn : n ≤ 10) (hd : ts.Nodup) (hi : ∀ t ∈ ts, 0 ≤ t.1 ∧ t.1 < t.2 ∧ t.2 < n) : ts.length ≤ 45 := by
  have e : ts.length = (((ddup (allP n)).filter fun t => decide (t ∈ ts))).length := same_len hd ((nodup_ddup _).filter _) fun x => by
    rw [List.mem_filter, mem_ddup, mem_allP, decide_eq_true_iff]
    exact ⟨fun h => ⟨hi x h, h⟩, fun h => h.2⟩
  have l1 := List.length_filter_le (fun t => decide (t ∈ ts)) (ddup (allP n))
  have l2 : (ddup (allP n)).length ≤ (allP n).length := by
    have := len_setP (ps := allP n)
    have e2 : (setP (allP n)).length = (ddup (allP n)).length := (srtP_perm _).length_eq
    omega
  have l3 := len_allP hn
  omega
theorem Wb.Ok.l45 {W : Wb} (h : W.Ok) (h10 : W.n ≤ 10) : W.ts.length ≤ 45 := len_sub h10 (nodup_ltP h.asc) h.inn
theorem eq_emp {ps : List Int} (h1 : 1 ≤ ps.length) {d : D} (hd : d = .tg (ps.map .int) ∨ d = .tup (ps.map .int)) (L : Sto) : gEq d (.tup []) L = .ok (.bl false) L := by
  have e0 : eqDL (ps.map D.int) [] = false := by
    cases ps with
    | nil => simp at h1
    | cons a t => rfl
  rcases hd with rfl | rfl
  · rw [gEq_ev (by rw [seen_tg]; exact okRow ps) (by rw [seen_tup, okD, okDL]), seen_tg, seen_tup, eqD, e0]
  · rw [gEq_ev (by rw [seen_tup, okD]; exact okDL_ints _ _) (by rw [seen_tup, okD, okDL]), seen_tup, seen_tup, eqD, e0]
def asc (l : List Nat) : Prop := ∀ c ∈ l, c < 128
theorem asc_app {a b : List Nat} (h : asc a) (k : asc b) : asc (a ++ b) := fun c hc => (List.mem_append.mp hc).elim (h c) (k c)
theorem sok {l : List Nat} (h : asc l) : PyData.strOk (SX.S l) = true := by
  unfold PyData.strOk
  rw [List.all_toArray, List.all_eq_true]
  intro c hc
  exact decide_eq_true (Nat.lt_trans (h c hc) (by decide))
theorem gEq_S {a b : List Nat} (ha : asc a) (hb : asc b) (L : Sto) : gEq (.str (SX.S a)) (.str (SX.S b)) L = .ok (.bl (decide (a = b))) L := by
  rw [gEq_ev (d := .str (SX.S a)) (e := .str (SX.S b)) (sok ha) (sok hb)]
  show Res.ok (D.bl (SX.S a == SX.S b)) L = _
  rw [SX.S_beq_eq]
theorem gNe_S {a b : List Nat} (ha : asc a) (hb : asc b) (L : Sto) : gNe (.str (SX.S a)) (.str (SX.S b)) L = .ok (.bl (!decide (a = b))) L := by
  rw [gNe_ev (d := .str (SX.S a)) (e := .str (SX.S b)) (sok ha) (sok hb)]
  show Res.ok (D.bl (!(SX.S a == SX.S b))) L = _
  rw [SX.S_beq_eq]
def nu (i : Int) : List Nat := TL.numL i.toNat
theorem nu_str {i : Int} (h : 0 ≤ i) : Str.ofString (toString i) = SX.S (nu i) := by
  obtain ⟨n, rfl⟩ := Int.eq_ofNat_of_zero_le h
  exact SX.num_S n
theorem nu_dig (i : Int) : ∀ c ∈ nu i, 48 ≤ c ∧ c ≤ 57 := fun c hc => TL.numL_digits _ c hc
theorem nu_asc (i : Int) : asc (nu i) := fun c hc => by have := nu_dig i c hc; omega
theorem nu_len {i : Int} (h0 : 0 ≤ i) (h1 : i < 10000) : (nu i).length ≤ 4 := TL.numL_len (by decide) (by omega)
def kjoin (fs : List EF) (acc : Str) (ρ : Env') (r : Res D) : Res D := r.bind fun d L1 => match d with
  | .str y => if (acc ++ y).length ≤ 1000 then eJoin fs (acc ++ y) ρ L1 else .bad
  | _ => .bad
def km0 (g : D → D → Sto → Res D) (fb : EF) (ρ : Env') (r : Res D) : Res D := r.bind fun d L1 => if isStr d = true then (fb ρ L1).bind fun e L2 => g d e L2 else .bad
def km1 (g : D → D → Sto → Res D) (d : D) (r : Res D) : Res D := r.bind fun e L2 => g d e L2
section
variable {f : EF} {fs : List EF} {ρ : Env'} {L : Sto} {g : D → D → Sto → Res D} {fa fb : EF} {s : Str} {e : D}
theorem y_join {acc : Str} : eJoin (f :: fs) acc ρ L = kjoin fs acc ρ (f ρ L) := (rfl)
theorem y_join0 {acc : Str} : eJoin [] acc ρ L = .ok (.str acc) L := (rfl)
theorem y_kjoin {a b : List Nat} (h : a.length + b.length ≤ 1000) : kjoin fs (SX.S a) ρ (.ok (.str (SX.S b)) L) = eJoin fs (SX.S (a ++ b)) ρ L := by
  have z : kjoin fs (SX.S a) ρ (.ok (.str (SX.S b)) L) = if (SX.S a ++ SX.S b).length ≤ 1000 then eJoin fs (SX.S a ++ SX.S b) ρ L else .bad := rfl
  rw [z, SX.S_cat, SX.S_len, List.length_append, if_pos h]
theorem y_m1 : eM1 fa fb g ρ L = km0 g fb ρ (fa ρ L) := (rfl)
theorem y_km0 : km0 g fb ρ (.ok (.str s) L) = km1 g (.str s) (fb ρ L) := (rfl)
theorem y_km1 {d : D} : km1 g d (.ok e L) = g d e L := (rfl)
theorem gFmt_nu {i : Int} (h0 : 0 ≤ i) (h1 : i < 10000) : gFmt (.int i) L = .ok (.str (SX.S (nu i))) L := by
  rw [← nu_str h0]
  exact if_pos (by omega)
theorem gStr_nu {i : Int} (h0 : 0 ≤ i) (h1 : i < 10000) : gStr [.int i] L = .ok (.str (SX.S (nu i))) L := by
  rw [← nu_str h0]
  refine if_pos ?_
  by_cases hz : i.natAbs = 0
  · rw [hz]; decide
  · exact Nat.lt_trans ((Nat.log2_lt hz).mpr (Nat.lt_trans (by omega : i.natAbs < 10000) (by decide : 10000 < 2 ^ 20))) (by decide)
end
theorem dStrs_map : ∀ ls : List (List Nat), dStrs (ls.map fun l => D.str (SX.S l)) = some (ls.map SX.S)
  | [] => rfl
  | l :: ls => by
    rw [List.map_cons, dStrs, dStrs_map ls]
    rfl
theorem sum_le {k : Nat} : ∀ {ls : List (List Nat)}, (∀ l ∈ ls, l.length ≤ k) → (ls.map (·.length)).sum ≤ ls.length * k
  | [], _ => by simp
  | l :: ls, h => by
    have h1 := h l List.mem_cons_self
    have h2 := sum_le (ls := ls) fun x hx => h x (List.mem_cons_of_mem _ hx)
    rw [List.map_cons, List.sum_cons, List.length_cons, Nat.succ_mul]
    omega
theorem gJoinS_S {a : List Nat} {ls : List (List Nat)} {k : Nat} (hk : ∀ l ∈ ls, l.length ≤ k) (h : ls.length * k + ls.length * a.length ≤ 10000) (L : Sto) : gJoinS (.str (SX.S a)) (.lst (ls.map fun l => D.str (SX.S l))) L = .ok (.str (SX.S (TL.joinL a ls))) L := by
  unfold gJoinS
  dsimp only
  rw [lB]
  dsimp only
  rw [dStrs_map]
  dsimp only
  rw [SX.lens, List.length_map, SX.S_len, if_pos (by have := sum_le hk; omega), SX.join_S]
theorem gSplit_S {a b : List Nat} (hb : b ≠ []) (hk : b.all (· < 256) = true) (ha : a.length ≤ 10000) (L : Sto) : gSplit false (.str (SX.S a)) (.str (SX.S b)) L = .ok (.lst ((TL.spl b 0 [] a).map fun l => D.str (SX.S l))) L := by
  unfold gSplit
  dsimp only
  rw [SX.S_len, SX.S_len, if_pos ⟨fun z => hb (List.length_eq_zero_iff.mp z), ha⟩, kY, SX.split_S hb hk, List.map_map]
  rfl
def ln (ws : List (List Nat)) : List Nat := TL.joinL [32] ws
def tx (ls : List (List (List Nat))) : List Nat := TL.joinL [10] (ls.map ln)
def wordsD (ws : List (List Nat)) : D := .lst (ws.map fun w => D.str (SX.S w))
theorem joinL_mem {s : List Nat} : ∀ {ps : List (List Nat)} {c : Nat}, c ∈ TL.joinL s ps → c ∈ s ∨ ∃ p ∈ ps, c ∈ p
  | [], c, h => by cases h
  | [p], c, h => .inr ⟨p, List.mem_cons_self, h⟩
  | p :: q :: r, c, h => by
    rcases List.mem_append.mp (show c ∈ p ++ (s ++ TL.joinL s (q :: r)) from h) with h | h
    · exact .inr ⟨p, List.mem_cons_self, h⟩
    · rcases List.mem_append.mp h with h | h
      · exact .inl h
      · rcases joinL_mem (ps := q :: r) h with h | ⟨x, hx, h⟩
        · exact .inl h
        · exact .inr ⟨x, List.mem_cons_of_mem _ hx, h⟩
def wOk (w : List Nat) : Prop := ∀ c ∈ w, c < 128 ∧ c ≠ 10 ∧ c ≠ 32
def lnOk (ws : List (List Nat)) : Prop := ws ≠ [] ∧ ∀ w ∈ ws, wOk w
theorem spl_ln {ws : List (List Nat)} (h : lnOk ws) : TL.spl [32] 0 [] (ln ws) = ws := SX.spl_join h.1 fun w hw hc => (h.2 w hw 32 hc).2.2 rfl
theorem spl_tx {ls : List (List (List Nat))} (hne : ls ≠ []) (h : ∀ ws ∈ ls, lnOk ws) : TL.spl [10] 0 [] (tx ls) = ls.map ln := by
  refine SX.spl_join (fun z => hne (List.map_eq_nil_iff.mp z)) fun p hp hc => ?_
  obtain ⟨ws, hws, rfl⟩ := List.mem_map.mp hp
  rcases joinL_mem hc with h1 | ⟨w, hw, h1⟩
  · cases List.mem_singleton.mp h1
  · exact ((h ws hws).2 w hw 10 h1).2.1 rfl
theorem joinL_len {s : List Nat} {k : Nat} : ∀ {ps : List (List Nat)}, (∀ p ∈ ps, p.length ≤ k) → (TL.joinL s ps).length ≤ ps.length * (k + s.length)
  | [], _ => by simp [TL.joinL]
  | [p], h => by
    have := h p List.mem_cons_self
    show p.length ≤ 1 * (k + s.length)
    omega
  | p :: q :: r, h => by
    have h1 := h p List.mem_cons_self
    have h2 := joinL_len (s := s) (ps := q :: r) fun x hx => h x (List.mem_cons_of_mem _ hx)
    show (p ++ (s ++ TL.joinL s (q :: r))).length ≤ _
    rw [List.length_append, List.length_append]
    rw [show (p :: q :: r).length = (q :: r).length + 1 from rfl, Nat.succ_mul]
    omega
theorem s_nl : ("\n" : Str) = SX.S [10] := by decide +kernel
theorem s_bk : (" " : Str) = SX.S [32] := by decide +kernel
theorem s_da : ("-" : Str) = SX.S [45] := by decide +kernel
section
variable {L : Sto} {xs : List D} {x : D}
theorem ix_l0 : gIx (.lst (x :: xs)) (.int 0) L = .ok x L := gIx_lst (j := 0) rfl
theorem sl_l1 : gSl (.lst (x :: xs)) (some 1) none L = .ok (.lst xs) L := by
  show Res.ok (D.lst (cutD (x :: xs) (some ((1 : Nat) : Int)) none)) L = _
  rw [cutD_from]
  rfl
end
def Num (i : Int) : Prop := 0 ≤ i ∧ i < 10000
structure TxOk (ls : List (List (List Nat))) : Prop where
  ne : ls ≠ []
  ok : ∀ ws ∈ ls, lnOk ws
  len : ls.length ≤ 50
  ws : ∀ ws ∈ ls, ws.length ≤ 14
  w : ∀ ws ∈ ls, ∀ w ∈ ws, w.length ≤ 9
theorem TxOk.ln {ls : List (List (List Nat))} (T : TxOk ls) {ws : List (List Nat)} (h : ws ∈ ls) : (ln ws).length ≤ 140 := by
  have j : (TL.joinL [32] ws).length ≤ ws.length * 10 := joinL_len (s := [32]) (k := 9) (T.w ws h)
  unfold DS.ln
  have := Nat.mul_le_mul_right 10 (T.ws ws h)
  omega
theorem TxOk.tx {ls : List (List (List Nat))} (T : TxOk ls) : (tx ls).length ≤ 7050 := by
  have j : (TL.joinL [10] (ls.map DS.ln)).length ≤ (ls.map DS.ln).length * 141 := joinL_len (s := [10]) (k := 140) (ps := ls.map DS.ln) fun p hp => by
    obtain ⟨ws, hws, rfl⟩ := List.mem_map.mp hp
    exact T.ln hws
  rw [List.length_map] at j
  unfold DS.tx
  have := Nat.mul_le_mul_right 141 T.len
  omega
theorem words_ok {ls : List (List (List Nat))} (T : TxOk ls) (L : Sto) : m_words_in [.str (SX.S (tx ls))] L = .ok (.lst (ls.map wordsD)) L := by
  have g1 := gSplit_S (a := tx ls) (b := [10]) (by decide) (by decide) (by have := T.tx; omega) L
  rw [spl_tx T.ne T.ok, List.map_map] at g1
  have c : C1_words_in [some (.str (SX.S (tx ls))), none] L = .ok (.lst (ls.map wordsD)) L := by
    refine lc_map (box := false) ls (fun ws => D.str (SX.S (ln ws))) wordsD (src := []) (L1 := L) ?_ srcOk_nil (by have := T.len; omega) fun ws hws => ?_
    · simp only [aA,aB,aC,aD,aE,aF,aG,aH,aI,aJ,aK,aL,aM,aN,aO,aP,aQ,aR,aS,aU,aV,aW,aX,aY,aZ,bA,bB,bC,bD,bE,bF,bG,bH,bI,bJ,bK,bL,bM,bN,bO,bQ,bR,bS,bT,bU,bV,bW,bX,bY,bZ,cA,cB,cC,cD,cE,cF,cG,cH,cI,cJ,cK,cL,cO,cP,cQ,cS,cU,cV,cX,cY,cZ,dA,dB,dC,dD,dE,dH,dI,dJ,dL,dM,dN,dO,dQ,dR,dS,dU,dW,dX,dY,dZ,eA,eB,eD,eE,eF,eG,eI,eJ,eK,eM,eN,eO,eP,eQ,eR,eS,eT,eU,eV,eW,eX,eY,eZ,fA,fB,fC,fD,fE,fF,fG,fH,fJ,fK,fM,fN,fO,fP,fQ,fR,fS,fT,fU,fV,fW,fX,fY,fZ,gA,gB,gC,gD,gE,gF,gG,gH,gI,gJ,gK,gL,gM,gN,gO,gQ,gR,gS,gT,gU,gV,gW,gX,gY,gZ,hA,hJ,hO,hQ,hU,hV,hZ,iA,iB,iC,iD,iE,iF,iG,iH,iI,iJ,iK,iL,iM,iN,iO,iP,iQ,iR,iS,iT,iU,iV,iW,iX,iY,iZ,jA,jB,jC,jD,jE,jF,jG,jH,jI,jJ,jK,jL,jM,jN,jO,jP,jQ,jR,jS,jT,jU,jV,jW,jX,jY,jZ,kA,kB,kC,kD,kE,kF,kG,kH,kJ,kK,kL,kM,kN,kO,kP,kQ,kR,kS,kU,kW,kX,kY,kZ,lA,lB,lC,lD,lE,lF,lG,lH,lI,lJ,lK,lL,lM,lN,lO,lP,lQ,lR,lS,lT,lU,lV,lW,lX,lY,lZ,mB,mC,mD,mE,mF,mG,mH,mI,mJ,mK,mL,mM,mN,mO,mP,mQ,mR,mS,mT,mU,mV,mW,mX,mY,mZ,nB,nD,nE,nG,nH,nI,nJ,nK,nM,nN,nO,nP,nQ,nR,nS,nU,nV,nW,nX,nY,nZ,oA,oB,oC,oE,oG,oH,oI,oJ,oK,oL,oM,oN,oO,oQ,oR,oS,oU,oV,oW,oX,oY,oZ,pA,pB,pC,pD,pE,pF,pG,pH,pI,pJ,pK,pL,pM,pN,pO,pP,pQ,pR,pS,pU,pV,pW,pX,pY,pZ,qA,qB,qC,qD,qE,qF,qG,qH,qI,qJ,qK,qL,qM,qN,qO,y_m1,y_km0,y_km1,s_nl,g1]
      rfl
    · have g2 := gSplit_S (a := ln ws) (b := [32]) (by decide) (by decide) (by have := T.ln hws; omega) L
      rw [spl_ln (T.ok ws hws)] at g2
      simp only [aA,aB,aC,aD,aE,aF,aG,aH,aI,aJ,aK,aL,aM,aN,aO,aP,aQ,aR,aS,aU,aV,aW,aX,aY,aZ,bA,bB,bC,bD,bE,bF,bG,bH,bI,bJ,bK,bL,bM,bN,bO,bQ,bR,bS,bT,bU,bV,bW,bX,bY,bZ,cA,cB,cC,cD,cE,cF,cG,cH,cI,cJ,cK,cL,cO,cP,cQ,cS,cU,cV,cX,cY,cZ,dA,dB,dC,dD,dE,dH,dI,dJ,dL,dM,dN,dO,dQ,dR,dS,dU,dW,dX,dY,dZ,eA,eB,eD,eE,eF,eG,eI,eJ,eK,eM,eN,eO,eP,eQ,eR,eS,eT,eU,eV,eW,eX,eY,eZ,fA,fB,fC,fD,fE,fF,fG,fH,fJ,fK,fM,fN,fO,fP,fQ,fR,fS,fT,fU,fV,fW,fX,fY,fZ,gA,gB,gC,gD,gE,gF,gG,gH,gI,gJ,gK,gL,gM,gN,gO,gQ,gR,gS,gT,gU,gV,gW,gX,gY,gZ,hA,hJ,hO,hQ,hU,hV,hZ,iA,iB,iC,iD,iE,iF,iG,iH,iI,iJ,iK,iL,iM,iN,iO,iP,iQ,iR,iS,iT,iU,iV,iW,iX,iY,iZ,jA,jB,jC,jD,jE,jF,jG,jH,jI,jJ,jK,jL,jM,jN,jO,jP,jQ,jR,jS,jT,jU,jV,jW,jX,jY,jZ,kA,kB,kC,kD,kE,kF,kG,kH,kJ,kK,kL,kM,kN,kO,kP,kQ,kR,kS,kU,kW,kX,kY,kZ,lA,lB,lC,lD,lE,lF,lG,lH,lI,lJ,lK,lL,lM,lN,lO,lP,lQ,lR,lS,lT,lU,lV,lW,lX,lY,lZ,mB,mC,mD,mE,mF,mG,mH,mI,mJ,mK,mL,mM,mN,mO,mP,mQ,mR,mS,mT,mU,mV,mW,mX,mY,mZ,nB,nD,nE,nG,nH,nI,nJ,nK,nM,nN,nO,nP,nQ,nR,nS,nU,nV,nW,nX,nY,nZ,oA,oB,oC,oE,oG,oH,oI,oJ,oK,oL,oM,oN,oO,oQ,oR,oS,oU,oV,oW,oX,oY,oZ,pA,pB,pC,pD,pE,pF,pG,pH,pI,pJ,pK,pL,pM,pN,pO,pP,pQ,pR,pS,pU,pV,pW,pX,pY,pZ,qA,qB,qC,qD,qE,qF,qG,qH,qI,qJ,qK,qL,qM,qN,qO,y_m1,y_km0,y_km1,s_bk,g2]
      rfl
  simp only [u_words_in,F_words_in,aA,aB,aC,aD,aE,aF,aG,aH,aI,aJ,aK,aL,aM,aN,aO,aP,aQ,aR,aS,aU,aV,aW,aX,aY,aZ,bA,bB,bC,bD,bE,bF,bG,bH,bI,bJ,bK,bL,bM,bN,bO,bQ,bR,bS,bT,bU,bV,bW,bX,bY,bZ,cA,cB,cC,cD,cE,cF,cG,cH,cI,cJ,cK,cL,cO,cP,cQ,cS,cU,cV,cX,cY,cZ,dA,dB,dC,dD,dE,dH,dI,dJ,dL,dM,dN,dO,dQ,dR,dS,dU,dW,dX,dY,dZ,eA,eB,eD,eE,eF,eG,eI,eJ,eK,eM,eN,eO,eP,eQ,eR,eS,eT,eU,eV,eW,eX,eY,eZ,fA,fB,fC,fD,fE,fF,fG,fH,fJ,fK,fM,fN,fO,fP,fQ,fR,fS,fT,fU,fV,fW,fX,fY,fZ,gA,gB,gC,gD,gE,gF,gG,gH,gI,gJ,gK,gL,gM,gN,gO,gQ,gR,gS,gT,gU,gV,gW,gX,gY,gZ,hA,hJ,hO,hQ,hU,hV,hZ,iA,iB,iC,iD,iE,iF,iG,iH,iI,iJ,iK,iL,iM,iN,iO,iP,iQ,iR,iS,iT,iU,iV,iW,iX,iY,iZ,jA,jB,jC,jD,jE,jF,jG,jH,jI,jJ,jK,jL,jM,jN,jO,jP,jQ,jR,jS,jT,jU,jV,jW,jX,jY,jZ,kA,kB,kC,kD,kE,kF,kG,kH,kJ,kK,kL,kM,kN,kO,kP,kQ,kR,kS,kU,kW,kX,kY,kZ,lA,lB,lC,lD,lE,lF,lG,lH,lI,lJ,lK,lL,lM,lN,lO,lP,lQ,lR,lS,lT,lU,lV,lW,lX,lY,lZ,mB,mC,mD,mE,mF,mG,mH,mI,mJ,mK,mL,mM,mN,mO,mP,mQ,mR,mS,mT,mU,mV,mW,mX,mY,mZ,nB,nD,nE,nG,nH,nI,nJ,nK,nM,nN,nO,nP,nQ,nR,nS,nU,nV,nW,nX,nY,nZ,oA,oB,oC,oE,oG,oH,oI,oJ,oK,oL,oM,oN,oO,oQ,oR,oS,oU,oV,oW,oX,oY,oZ,pA,pB,pC,pD,pE,pF,pG,pH,pI,pJ,pK,pL,pM,pN,pO,pP,pQ,pR,pS,pU,pV,pW,pX,pY,pZ,qA,qB,qC,qD,qE,qF,qG,qH,qI,qJ,qK,qL,qM,qN,qO,c,Bool.not_true,Bool.false_eq_true,if_false]
def cW : List Nat := [119, 101, 98]
def cT : List Nat := [116, 105, 101]
def cR : List Nat := [114, 111, 119]
def cM : List Nat := [109, 111, 118, 101]
def cN : List Nat := [114, 111, 117, 110, 100]
theorem s_W : ("web" : Str) = SX.S cW := by decide +kernel
theorem s_R : ("row" : Str) = SX.S cR := by decide +kernel
theorem s_M : ("move" : Str) = SX.S cM := by decide +kernel
theorem s_N : ("round" : Str) = SX.S cN := by decide +kernel
theorem a_W : asc cW := by unfold asc cW; decide
theorem a_R : asc cR := by unfold asc cR; decide
theorem a_M : asc cM := by unfold asc cM; decide
theorem a_N : asc cN := by unfold asc cN; decide
def prW (k : List Nat) (t : P2) : List (List Nat) := [k, nu t.1, nu t.2]
def rowW (r : List Int) : List (List Nat) := cR :: r.map nu
def tieW (t : P2) : List Nat := nu t.1 ++ ([45] ++ nu t.2)
def lotW (l : List P2) : List (List Nat) := cN :: (if l = [] then [[45]] else l.map tieW)
def webL (W : Wb) : List (List (List Nat)) := [cW, nu (W.n : Int)] :: W.ts.map (prW cT)
def PrN (t : P2) : Prop := Num t.1 ∧ Num t.2
theorem sl_lD {xs : List D} {L : Sto} : gSl (.lst xs) (some 1) none L = .ok (.lst (xs.drop 1)) L := by
  show Res.ok (D.lst (cutD xs (some ((1 : Nat) : Int)) none)) L = _
  rw [cutD_from]
def IsP (d : D) (ps : List P2) : Prop := d = .tg (ps.map pairD) ∨ d = .tup (ps.map pairD) ∨ d = .lst (ps.map pairD)
theorem isAsc_D {d : D} {ps : List P2} (hd : IsP d ps) (h : ps.Pairwise fun p q => ltP p q = true) (hl : ps.length ≤ 1000) (L : Sto) : m_is_ascending [d] L = .ok (.bl true) L := by
  have c : C1_is_ascending [some d, none, none] L = .ok (.lst ((ps.zip (ps.drop 1)).map fun p => D.bl (ltP p.1 p.2))) L := by
    refine lc_map (box := false) (ps.zip (ps.drop 1)) (fun p => D.tup [pairD p.1, pairD p.2]) _ ?_ srcOk_nil (by rw [List.length_zip]; omega) fun a ha => ?_
    · rcases hd with rfl | rfl | rfl
      · simp only [aA,aB,aC,aD,aE,aF,aG,aH,aI,aJ,aK,aL,aM,aN,aO,aP,aQ,aR,aS,aU,aV,aW,aX,aY,aZ,bA,bB,bC,bD,bE,bF,bG,bH,bI,bJ,bK,bL,bM,bN,bO,bQ,bR,bS,bT,bU,bV,bW,bX,bY,bZ,cA,cB,cC,cD,cE,cF,cG,cH,cI,cJ,cK,cL,cO,cP,cQ,cS,cU,cV,cX,cY,cZ,dA,dB,dC,dD,dE,dH,dI,dJ,dL,dM,dN,dO,dQ,dR,dS,dU,dW,dX,dY,dZ,eA,eB,eD,eE,eF,eG,eI,eJ,eK,eM,eN,eO,eP,eQ,eR,eS,eT,eU,eV,eW,eX,eY,eZ,fA,fB,fC,fD,fE,fF,fG,fH,fJ,fK,fM,fN,fO,fP,fQ,fR,fS,fT,fU,fV,fW,fX,fY,fZ,gA,gB,gC,gD,gE,gF,gG,gH,gI,gJ,gK,gL,gM,gN,gO,gQ,gR,gS,gT,gU,gV,gW,gX,gY,gZ,hA,hJ,hO,hQ,hU,hV,hZ,iA,iB,iC,iD,iE,iF,iG,iH,iI,iJ,iK,iL,iM,iN,iO,iP,iQ,iR,iS,iT,iU,iV,iW,iX,iY,iZ,jA,jB,jC,jD,jE,jF,jG,jH,jI,jJ,jK,jL,jM,jN,jO,jP,jQ,jR,jS,jT,jU,jV,jW,jX,jY,jZ,kA,kB,kC,kD,kE,kF,kG,kH,kJ,kK,kL,kM,kN,kO,kP,kQ,kR,kS,kU,kW,kX,kY,kZ,lA,lB,lC,lD,lE,lF,lG,lH,lI,lJ,lK,lL,lM,lN,lO,lP,lQ,lR,lS,lT,lU,lV,lW,lX,lY,lZ,mB,mC,mD,mE,mF,mG,mH,mI,mJ,mK,mL,mM,mN,mO,mP,mQ,mR,mS,mT,mU,mV,mW,mX,mY,mZ,nB,nD,nE,nG,nH,nI,nJ,nK,nM,nN,nO,nP,nQ,nR,nS,nU,nV,nW,nX,nY,nZ,oA,oB,oC,oE,oG,oH,oI,oJ,oK,oL,oM,oN,oO,oQ,oR,oS,oU,oV,oW,oX,oY,oZ,pA,pB,pC,pD,pE,pF,pG,pH,pI,pJ,pK,pL,pM,pN,pO,pP,pQ,pR,pS,pU,pV,pW,pX,pY,pZ,qA,qB,qC,qD,qE,qF,qG,qH,qI,qJ,qK,qL,qM,qN,qO]
        rw [← List.map_drop]
        exact w_kizp_map rfl rfl
      · simp only [aA,aB,aC,aD,aE,aF,aG,aH,aI,aJ,aK,aL,aM,aN,aO,aP,aQ,aR,aS,aU,aV,aW,aX,aY,aZ,bA,bB,bC,bD,bE,bF,bG,bH,bI,bJ,bK,bL,bM,bN,bO,bQ,bR,bS,bT,bU,bV,bW,bX,bY,bZ,cA,cB,cC,cD,cE,cF,cG,cH,cI,cJ,cK,cL,cO,cP,cQ,cS,cU,cV,cX,cY,cZ,dA,dB,dC,dD,dE,dH,dI,dJ,dL,dM,dN,dO,dQ,dR,dS,dU,dW,dX,dY,dZ,eA,eB,eD,eE,eF,eG,eI,eJ,eK,eM,eN,eO,eP,eQ,eR,eS,eT,eU,eV,eW,eX,eY,eZ,fA,fB,fC,fD,fE,fF,fG,fH,fJ,fK,fM,fN,fO,fP,fQ,fR,fS,fT,fU,fV,fW,fX,fY,fZ,gA,gB,gC,gD,gE,gF,gG,gH,gI,gJ,gK,gL,gM,gN,gO,gQ,gR,gS,gT,gU,gV,gW,gX,gY,gZ,hA,hJ,hO,hQ,hU,hV,hZ,iA,iB,iC,iD,iE,iF,iG,iH,iI,iJ,iK,iL,iM,iN,iO,iP,iQ,iR,iS,iT,iU,iV,iW,iX,iY,iZ,jA,jB,jC,jD,jE,jF,jG,jH,jI,jJ,jK,jL,jM,jN,jO,jP,jQ,jR,jS,jT,jU,jV,jW,jX,jY,jZ,kA,kB,kC,kD,kE,kF,kG,kH,kJ,kK,kL,kM,kN,kO,kP,kQ,kR,kS,kU,kW,kX,kY,kZ,lA,lB,lC,lD,lE,lF,lG,lH,lI,lJ,lK,lL,lM,lN,lO,lP,lQ,lR,lS,lT,lU,lV,lW,lX,lY,lZ,mB,mC,mD,mE,mF,mG,mH,mI,mJ,mK,mL,mM,mN,mO,mP,mQ,mR,mS,mT,mU,mV,mW,mX,mY,mZ,nB,nD,nE,nG,nH,nI,nJ,nK,nM,nN,nO,nP,nQ,nR,nS,nU,nV,nW,nX,nY,nZ,oA,oB,oC,oE,oG,oH,oI,oJ,oK,oL,oM,oN,oO,oQ,oR,oS,oU,oV,oW,oX,oY,oZ,pA,pB,pC,pD,pE,pF,pG,pH,pI,pJ,pK,pL,pM,pN,pO,pP,pQ,pR,pS,pU,pV,pW,pX,pY,pZ,qA,qB,qC,qD,qE,qF,qG,qH,qI,qJ,qK,qL,qM,qN,qO]
        rw [← List.map_drop]
        exact w_kizp_map rfl rfl
      · simp only [aA,aB,aC,aD,aE,aF,aG,aH,aI,aJ,aK,aL,aM,aN,aO,aP,aQ,aR,aS,aU,aV,aW,aX,aY,aZ,bA,bB,bC,bD,bE,bF,bG,bH,bI,bJ,bK,bL,bM,bN,bO,bQ,bR,bS,bT,bU,bV,bW,bX,bY,bZ,cA,cB,cC,cD,cE,cF,cG,cH,cI,cJ,cK,cL,cO,cP,cQ,cS,cU,cV,cX,cY,cZ,dA,dB,dC,dD,dE,dH,dI,dJ,dL,dM,dN,dO,dQ,dR,dS,dU,dW,dX,dY,dZ,eA,eB,eD,eE,eF,eG,eI,eJ,eK,eM,eN,eO,eP,eQ,eR,eS,eT,eU,eV,eW,eX,eY,eZ,fA,fB,fC,fD,fE,fF,fG,fH,fJ,fK,fM,fN,fO,fP,fQ,fR,fS,fT,fU,fV,fW,fX,fY,fZ,gA,gB,gC,gD,gE,gF,gG,gH,gI,gJ,gK,gL,gM,gN,gO,gQ,gR,gS,gT,gU,gV,gW,gX,gY,gZ,hA,hJ,hO,hQ,hU,hV,hZ,iA,iB,iC,iD,iE,iF,iG,iH,iI,iJ,iK,iL,iM,iN,iO,iP,iQ,iR,iS,iT,iU,iV,iW,iX,iY,iZ,jA,jB,jC,jD,jE,jF,jG,jH,jI,jJ,jK,jL,jM,jN,jO,jP,jQ,jR,jS,jT,jU,jV,jW,jX,jY,jZ,kA,kB,kC,kD,kE,kF,kG,kH,kJ,kK,kL,kM,kN,kO,kP,kQ,kR,kS,kU,kW,kX,kY,kZ,lA,lB,lC,lD,lE,lF,lG,lH,lI,lJ,lK,lL,lM,lN,lO,lP,lQ,lR,lS,lT,lU,lV,lW,lX,lY,lZ,mB,mC,mD,mE,mF,mG,mH,mI,mJ,mK,mL,mM,mN,mO,mP,mQ,mR,mS,mT,mU,mV,mW,mX,mY,mZ,nB,nD,nE,nG,nH,nI,nJ,nK,nM,nN,nO,nP,nQ,nR,nS,nU,nV,nW,nX,nY,nZ,oA,oB,oC,oE,oG,oH,oI,oJ,oK,oL,oM,oN,oO,oQ,oR,oS,oU,oV,oW,oX,oY,oZ,pA,pB,pC,pD,pE,pF,pG,pH,pI,pJ,pK,pL,pM,pN,pO,pP,pQ,pR,pS,pU,pV,pW,pX,pY,pZ,qA,qB,qC,qD,qE,qF,qG,qH,qI,qJ,qK,qL,qM,qN,qO,sl_lD]
        rw [← List.map_drop]
        exact w_kizp_map rfl rfl
    · simp only [aA,aB,aC,aD,aE,aF,aG,aH,aI,aJ,aK,aL,aM,aN,aO,aP,aQ,aR,aS,aU,aV,aW,aX,aY,aZ,bA,bB,bC,bD,bE,bF,bG,bH,bI,bJ,bK,bL,bM,bN,bO,bQ,bR,bS,bT,bU,bV,bW,bX,bY,bZ,cA,cB,cC,cD,cE,cF,cG,cH,cI,cJ,cK,cL,cO,cP,cQ,cS,cU,cV,cX,cY,cZ,dA,dB,dC,dD,dE,dH,dI,dJ,dL,dM,dN,dO,dQ,dR,dS,dU,dW,dX,dY,dZ,eA,eB,eD,eE,eF,eG,eI,eJ,eK,eM,eN,eO,eP,eQ,eR,eS,eT,eU,eV,eW,eX,eY,eZ,fA,fB,fC,fD,fE,fF,fG,fH,fJ,fK,fM,fN,fO,fP,fQ,fR,fS,fT,fU,fV,fW,fX,fY,fZ,gA,gB,gC,gD,gE,gF,gG,gH,gI,gJ,gK,gL,gM,gN,gO,gQ,gR,gS,gT,gU,gV,gW,gX,gY,gZ,hA,hJ,hO,hQ,hU,hV,hZ,iA,iB,iC,iD,iE,iF,iG,iH,iI,iJ,iK,iL,iM,iN,iO,iP,iQ,iR,iS,iT,iU,iV,iW,iX,iY,iZ,jA,jB,jC,jD,jE,jF,jG,jH,jI,jJ,jK,jL,jM,jN,jO,jP,jQ,jR,jS,jT,jU,jV,jW,jX,jY,jZ,kA,kB,kC,kD,kE,kF,kG,kH,kJ,kK,kL,kM,kN,kO,kP,kQ,kR,kS,kU,kW,kX,kY,kZ,lA,lB,lC,lD,lE,lF,lG,lH,lI,lJ,lK,lL,lM,lN,lO,lP,lQ,lR,lS,lT,lU,lV,lW,lX,lY,lZ,mB,mC,mD,mE,mF,mG,mH,mI,mJ,mK,mL,mM,mN,mO,mP,mQ,mR,mS,mT,mU,mV,mW,mX,mY,mZ,nB,nD,nE,nG,nH,nI,nJ,nK,nM,nN,nO,nP,nQ,nR,nS,nU,nV,nW,nX,nY,nZ,oA,oB,oC,oE,oG,oH,oI,oJ,oK,oL,oM,oN,oO,oQ,oR,oS,oU,oV,oW,oX,oY,oZ,pA,pB,pC,pD,pE,pF,pG,pH,pI,pJ,pK,pL,pM,pN,pO,pP,pQ,pR,pS,pU,pV,pW,pX,pY,pZ,qA,qB,qC,qD,qE,qF,qG,qH,qI,qJ,qK,qL,qM,qN,qO,gLt_pr]
  simp only [u_is_ascending,F_is_ascending,aA,aB,aC,aD,aE,aF,aG,aH,aI,aJ,aK,aL,aM,aN,aO,aP,aQ,aR,aS,aU,aV,aW,aX,aY,aZ,bA,bB,bC,bD,bE,bF,bG,bH,bI,bJ,bK,bL,bM,bN,bO,bQ,bR,bS,bT,bU,bV,bW,bX,bY,bZ,cA,cB,cC,cD,cE,cF,cG,cH,cI,cJ,cK,cL,cO,cP,cQ,cS,cU,cV,cX,cY,cZ,dA,dB,dC,dD,dE,dH,dI,dJ,dL,dM,dN,dO,dQ,dR,dS,dU,dW,dX,dY,dZ,eA,eB,eD,eE,eF,eG,eI,eJ,eK,eM,eN,eO,eP,eQ,eR,eS,eT,eU,eV,eW,eX,eY,eZ,fA,fB,fC,fD,fE,fF,fG,fH,fJ,fK,fM,fN,fO,fP,fQ,fR,fS,fT,fU,fV,fW,fX,fY,fZ,gA,gB,gC,gD,gE,gF,gG,gH,gI,gJ,gK,gL,gM,gN,gO,gQ,gR,gS,gT,gU,gV,gW,gX,gY,gZ,hA,hJ,hO,hQ,hU,hV,hZ,iA,iB,iC,iD,iE,iF,iG,iH,iI,iJ,iK,iL,iM,iN,iO,iP,iQ,iR,iS,iT,iU,iV,iW,iX,iY,iZ,jA,jB,jC,jD,jE,jF,jG,jH,jI,jJ,jK,jL,jM,jN,jO,jP,jQ,jR,jS,jT,jU,jV,jW,jX,jY,jZ,kA,kB,kC,kD,kE,kF,kG,kH,kJ,kK,kL,kM,kN,kO,kP,kQ,kR,kS,kU,kW,kX,kY,kZ,lA,lB,lC,lD,lE,lF,lG,lH,lI,lJ,lK,lL,lM,lN,lO,lP,lQ,lR,lS,lT,lU,lV,lW,lX,lY,lZ,mB,mC,mD,mE,mF,mG,mH,mI,mJ,mK,mL,mM,mN,mO,mP,mQ,mR,mS,mT,mU,mV,mW,mX,mY,mZ,nB,nD,nE,nG,nH,nI,nJ,nK,nM,nN,nO,nP,nQ,nR,nS,nU,nV,nW,nX,nY,nZ,oA,oB,oC,oE,oG,oH,oI,oJ,oK,oL,oM,oN,oO,oQ,oR,oS,oU,oV,oW,oX,oY,oZ,pA,pB,pC,pD,pE,pF,pG,pH,pI,pJ,pK,pL,pM,pN,pO,pP,pQ,pR,pS,pU,pV,pW,pX,pY,pZ,qA,qB,qC,qD,qE,qF,qG,qH,qI,qJ,qK,qL,qM,qN,qO,c,gAll_map,asc_all h]
theorem eqDL_S : ∀ ws vs : List (List Nat), eqDL (ws.map fun w => D.str (SX.S w)) (vs.map fun w => D.str (SX.S w)) = decide (ws = vs)
  | [], [] => rfl
  | [], v :: vs => rfl
  | w :: ws, [] => rfl
  | w :: ws, v :: vs => by
    have e : eqDL ((w :: ws).map fun w => D.str (SX.S w)) ((v :: vs).map fun w => D.str (SX.S w)) = ((SX.S w == SX.S v) && eqDL (ws.map fun w => D.str (SX.S w)) (vs.map fun w => D.str (SX.S w))) := by
      rw [List.map_cons, List.map_cons, eqDL, eqD]
    rw [e, SX.S_beq_eq, eqDL_S ws vs]
    by_cases h1 : w = v <;> by_cases h2 : ws = vs <;> simp [h1, h2]
theorem okDL_S {n : Nat} {ws : List (List Nat)} (h : ∀ w ∈ ws, asc w) : okDL n (ws.map fun w => D.str (SX.S w)) = true := okDL_of fun d hd => by
  obtain ⟨w, hw, rfl⟩ := List.mem_map.mp hd
  cases n <;> exact sok (h w hw)
theorem gEq_words {ws vs : List (List Nat)} (h : ∀ w ∈ ws, asc w) (k : ∀ w ∈ vs, asc w) (L : Sto) : gEq (wordsD ws) (wordsD vs) L = .ok (.bl (decide (ws = vs))) L := by
  have o1 : okD 60 (seen L (wordsD ws)) = true := okDL_S (n := 59) h
  have o2 : okD 60 (seen L (wordsD vs)) = true := okDL_S (n := 59) k
  rw [gEq_ev o1 o2]
  have e : eqD (seen L (wordsD ws)) (seen L (wordsD vs)) = eqDL (ws.map fun w => D.str (SX.S w)) (vs.map fun w => D.str (SX.S w)) := by
    show eqD (.lst _) (.lst _) = _
    rw [eqD]
  rw [e, eqDL_S]
theorem tieW_len {t : P2} (h : PrN t) : (tieW t).length ≤ 9 := by
  have l1 := nu_len h.1.1 h.1.2
  have l2 := nu_len h.2.1 h.2.2
  unfold tieW
  rw [List.length_append, List.length_append, List.length_singleton]
  omega
theorem tieW_asc (t : P2) : asc (tieW t) := asc_app (nu_asc _) (asc_app (fun c hc => by rw [List.mem_singleton.mp hc]; decide) (nu_asc _))
structure LotN (l : List P2) : Prop where
  asc : l.Pairwise fun p q => ltP p q = true
  inn : ∀ t ∈ l, PrN t ∧ t.1 < t.2
  len : l.length ≤ 6
theorem lotW_asc (l : List P2) : ∀ w ∈ lotW l, asc w := fun w hw => by
  unfold lotW at hw
  rcases List.mem_cons.mp hw with rfl | hw
  · exact a_N
  · split at hw
    · rw [List.mem_singleton.mp hw]
      intro c hc
      rw [List.mem_singleton.mp hc]; decide
    · obtain ⟨t, _, rfl⟩ := List.mem_map.mp hw
      exact tieW_asc t
theorem s_emp : Str.empty = SX.S [] := by decide +kernel
section
variable {f g h k : EF} {ρ : Env'} {L : Sto} {a b c d : List Nat} {xs : List D}
theorem jn2 (hf : f ρ L = .ok (.str (SX.S a)) L) (hg : g ρ L = .ok (.str (SX.S b)) L) (n : a.length + b.length ≤ 1000) : eJoin [f, g] Str.empty ρ L = .ok (.str (SX.S (a ++ b))) L := by
  rw [y_join, hf, s_emp, y_kjoin (by simp; omega), y_join, hg, List.nil_append, y_kjoin n, y_join0]
theorem jn3 (hf : f ρ L = .ok (.str (SX.S a)) L) (hg : g ρ L = .ok (.str (SX.S b)) L) (hh : h ρ L = .ok (.str (SX.S c)) L) (n : a.length + b.length + c.length ≤ 1000) : eJoin [f, g, h] Str.empty ρ L = .ok (.str (SX.S (a ++ (b ++ c)))) L := by
  rw [y_join, hf, s_emp, y_kjoin (by simp; omega), y_join, hg, List.nil_append, y_kjoin (by omega), y_join, hh, y_kjoin (by rw [List.length_append]; omega), y_join0, List.append_assoc]
theorem jn4 (hf : f ρ L = .ok (.str (SX.S a)) L) (hg : g ρ L = .ok (.str (SX.S b)) L) (hh : h ρ L = .ok (.str (SX.S c)) L) (hk : k ρ L = .ok (.str (SX.S d)) L) (n : a.length + b.length + c.length + d.length ≤ 1000) : eJoin [f, g, h, k] Str.empty ρ L = .ok (.str (SX.S (a ++ (b ++ (c ++ d))))) L := by
  rw [y_join, hf, s_emp, y_kjoin (by simp; omega), y_join, hg, List.nil_append, y_kjoin (by omega), y_join, hh, y_kjoin (by rw [List.length_append]; omega), y_join, hk, y_kjoin (by rw [List.length_append, List.length_append]; omega), y_join0, List.append_assoc, List.append_assoc]
theorem y_kast : kast aNil ρ (.ok (.lst xs) L) = .ok xs L := by
  show Res.ok (xs ++ []) L = _
  rw [List.append_nil]
theorem y_klst {ds : List D} (h : ds.length ≤ 1000000) : klst false (.ok ds L) = .ok (.lst ds) L := if_pos (e := Res.bad) (show ds.length ≤ 16777216 by omega)
end
def cWb : List Nat := [119, 101, 98, 32]
def cTb : List Nat := [116, 105, 101, 32]
def cMb : List Nat := [109, 111, 118, 101, 32]
theorem s_Wb : ("web " : Str) = SX.S cWb := by decide +kernel
theorem s_Tb : ("tie " : Str) = SX.S cTb := by decide +kernel
theorem s_Mb : ("move " : Str) = SX.S cMb := by decide +kernel
theorem prW_T (t : P2) : cTb ++ (nu t.1 ++ ([32] ++ nu t.2)) = ln (prW cT t) := rfl
theorem prW_M (t : P2) : cMb ++ (nu t.1 ++ ([32] ++ nu t.2)) = ln (prW cM t) := rfl
theorem webW_n (n : Int) : cWb ++ nu n = ln [cW, nu n] := rfl
theorem ln_pr (k : List Nat) (t : P2) : ln (prW k t) = k ++ ([32] ++ (nu t.1 ++ ([32] ++ nu t.2))) := rfl
theorem prW_len {k : List Nat} (hk : k.length ≤ 4) {t : P2} (h : PrN t) : (ln (prW k t)).length ≤ 14 := by
  have l1 := nu_len h.1.1 h.1.2
  have l2 := nu_len h.2.1 h.2.2
  rw [ln_pr]
  simp only [List.length_append, List.length_singleton]
  omega
theorem web_num {W : Wb} (hW : W.Ok) : Num (W.n : Int) ∧ ∀ t ∈ W.ts, PrN t := ⟨⟨by omega, by have := hW.n2; omega⟩, fun t ht => by
  have := hW.inn t ht
  have := hW.n2
  exact ⟨⟨by omega, by omega⟩, ⟨by omega, by omega⟩⟩⟩
theorem tx_cons (w : List (List Nat)) (ws : List (List (List Nat))) : tx (w :: ws) = TL.joinL [10] (ln w :: ws.map ln) := rfl
theorem join_pr {k : List Nat} (hk : k.length ≤ 4) {ps : List P2} (hp : ∀ t ∈ ps, PrN t) : ∀ l ∈ ps.map (fun t => ln (prW k t)), l.length ≤ 14 := fun l hl => by
  obtain ⟨t, ht, rfl⟩ := List.mem_map.mp hl
  exact prW_len hk (hp t ht)
theorem web_join {W : Wb} (hW : W.Ok) (h10 : W.n ≤ 10) (h45 : W.ts.length ≤ 45) (L : Sto) :
    gJoinS (.str (SX.S [10])) (.lst (D.str (SX.S (ln [cW, nu (W.n : Int)])) :: W.ts.map fun t => D.str (SX.S (ln (prW cT t))))) L = .ok (.str (SX.S (tx (webL W)))) L := by
  obtain ⟨hn, ht⟩ := web_num hW
  have g := gJoinS_S (a := [10]) (ls := ln [cW, nu (W.n : Int)] :: W.ts.map fun t => ln (prW cT t)) (k := 14) (fun l hl => by
    rcases List.mem_cons.mp hl with rfl | hl
    · rw [← webW_n, List.length_append]
      have := nu_len hn.1 hn.2
      show 4 + _ ≤ _
      omega
    · exact join_pr (by decide) ht l hl) (by rw [List.length_cons, List.length_map, List.length_singleton]; omega) L
  rw [List.map_cons, List.map_map] at g
  have e : TL.joinL [10] (ln [cW, nu (W.n : Int)] :: W.ts.map fun t => ln (prW cT t)) = tx (webL W) := by
    unfold webL
    rw [tx_cons, List.map_map]
    rfl
  rw [e] at g
  exact g
theorem writeWeb_ok {W : Wb} (hW : W.Ok) (h10 : W.n ≤ 10) (L : Sto) : m_write_web [webD W] L = .ok (.str (SX.S (tx (webL W)))) L := by
  obtain ⟨hn, ht⟩ := web_num hW
  have h45 := hW.l45 h10
  have c : C1_write_web [some (webD W), none, none] L = .ok (.lst (W.ts.map fun t => D.str (SX.S (ln (prW cT t))))) L := by
    refine lc_map (box := false) W.ts pairD (fun t => D.str (SX.S (ln (prW cT t)))) (src := []) (L1 := L) ?_ srcOk_nil (by omega) fun t hx => ?_
    · simp only [aA,aB,aC,aD,aE,aF,aG,aH,aI,aJ,aK,aL,aM,aN,aO,aP,aQ,aR,aS,aU,aV,aW,aX,aY,aZ,bA,bB,bC,bD,bE,bF,bG,bH,bI,bJ,bK,bL,bM,bN,bO,bQ,bR,bS,bT,bU,bV,bW,bX,bY,bZ,cA,cB,cC,cD,cE,cF,cG,cH,cI,cJ,cK,cL,cO,cP,cQ,cS,cU,cV,cX,cY,cZ,dA,dB,dC,dD,dE,dH,dI,dJ,dL,dM,dN,dO,dQ,dR,dS,dU,dW,dX,dY,dZ,eA,eB,eD,eE,eF,eG,eI,eJ,eK,eM,eN,eO,eP,eQ,eR,eS,eT,eU,eV,eW,eX,eY,eZ,fA,fB,fC,fD,fE,fF,fG,fH,fJ,fK,fM,fN,fO,fP,fQ,fR,fS,fT,fU,fV,fW,fX,fY,fZ,gA,gB,gC,gD,gE,gF,gG,gH,gI,gJ,gK,gL,gM,gN,gO,gQ,gR,gS,gT,gU,gV,gW,gX,gY,gZ,hA,hJ,hO,hQ,hU,hV,hZ,iA,iB,iC,iD,iE,iF,iG,iH,iI,iJ,iK,iL,iM,iN,iO,iP,iQ,iR,iS,iT,iU,iV,iW,iX,iY,iZ,jA,jB,jC,jD,jE,jF,jG,jH,jI,jJ,jK,jL,jM,jN,jO,jP,jQ,jR,jS,jT,jU,jV,jW,jX,jY,jZ,kA,kB,kC,kD,kE,kF,kG,kH,kJ,kK,kL,kM,kN,kO,kP,kQ,kR,kS,kU,kW,kX,kY,kZ,lA,lB,lC,lD,lE,lF,lG,lH,lI,lJ,lK,lL,lM,lN,lO,lP,lQ,lR,lS,lT,lU,lV,lW,lX,lY,lZ,mB,mC,mD,mE,mF,mG,mH,mI,mJ,mK,mL,mM,mN,mO,mP,mQ,mR,mS,mT,mU,mV,mW,mX,mY,mZ,nB,nD,nE,nG,nH,nI,nJ,nK,nM,nN,nO,nP,nQ,nR,nS,nU,nV,nW,nX,nY,nZ,oA,oB,oC,oE,oG,oH,oI,oJ,oK,oL,oM,oN,oO,oQ,oR,oS,oU,oV,oW,oX,oY,oZ,pA,pB,pC,pD,pE,pF,pG,pH,pI,pJ,pK,pL,pM,pN,pO,pP,pQ,pR,pS,pU,pV,pW,pX,pY,pZ,qA,qB,qC,qD,qE,qF,qG,qH,qI,qJ,qK,qL,qM,qN,qO,fl_ties,tiesD]
    · have h := ht t hx
      have l1 := nu_len h.1.1 h.1.2
      have l2 := nu_len h.2.1 h.2.2
      have f1 : ∀ ρ : Env', eC (.str "tie ") ρ L = .ok (.str (SX.S cTb)) L := fun ρ => by rw [← s_Tb]; rfl
      have f3 : ∀ ρ : Env', eC (.str " ") ρ L = .ok (.str (SX.S [32])) L := fun ρ => by rw [← s_bk]; rfl
      refine (jn4 (f1 _) (b := nu t.1) ?_ (f3 _) (d := nu t.2) ?_ ?_).trans ?_
      · exact gFmt_nu h.1.1 h.1.2
      · exact gFmt_nu h.2.1 h.2.2
      · show 4 + _ + 1 + _ ≤ _
        omega
      · rw [prW_T]
  have j : ∀ ρ : Env', eJoin [eC (.str "web "), e1 gFmt (eFld "Web" "own_size" (eVar 0))] Str.empty (some (webD W) :: ρ) L = .ok (.str (SX.S (ln [cW, nu (W.n : Int)]))) L := fun ρ => by
    have l1 := nu_len hn.1 hn.2
    refine (jn2 (a := cWb) (b := nu (W.n : Int)) (by rw [← s_Wb]; rfl) ?_ ?_).trans (by rw [webW_n])
    · exact gFmt_nu hn.1 hn.2
    · show 4 + _ ≤ _
      omega
  have g := web_join hW h10 h45 L
  have kl := y_klst (L := L) (ds := D.str (SX.S (ln [cW, nu (W.n : Int)])) :: W.ts.map fun t => D.str (SX.S (ln (prW cT t)))) (by rw [List.length_cons, List.length_map]; omega)
  simp only [u_write_web,F_write_web,aA,aB,aC,aD,aE,aF,aG,aH,aI,aJ,aK,aL,aM,aN,aO,aP,aQ,aR,aS,aU,aV,aW,aX,aY,aZ,bA,bB,bC,bD,bE,bF,bG,bH,bI,bJ,bK,bL,bM,bN,bO,bQ,bR,bS,bT,bU,bV,bW,bX,bY,bZ,cA,cB,cC,cD,cE,cF,cG,cH,cI,cJ,cK,cL,cO,cP,cQ,cS,cU,cV,cX,cY,cZ,dA,dB,dC,dD,dE,dH,dI,dJ,dL,dM,dN,dO,dQ,dR,dS,dU,dW,dX,dY,dZ,eA,eB,eD,eE,eF,eG,eI,eJ,eK,eM,eN,eO,eP,eQ,eR,eS,eT,eU,eV,eW,eX,eY,eZ,fA,fB,fC,fD,fE,fF,fG,fH,fJ,fK,fM,fN,fO,fP,fQ,fR,fS,fT,fU,fV,fW,fX,fY,fZ,gA,gB,gC,gD,gE,gF,gG,gH,gI,gJ,gK,gL,gM,gN,gO,gQ,gR,gS,gT,gU,gV,gW,gX,gY,gZ,hA,hJ,hO,hQ,hU,hV,hZ,iA,iB,iC,iD,iE,iF,iG,iH,iI,iJ,iK,iL,iM,iN,iO,iP,iQ,iR,iS,iT,iU,iV,iW,iX,iY,iZ,jA,jB,jC,jD,jE,jF,jG,jH,jI,jJ,jK,jL,jM,jN,jO,jP,jQ,jR,jS,jT,jU,jV,jW,jX,jY,jZ,kA,kB,kC,kD,kE,kF,kG,kH,kJ,kK,kL,kM,kN,kO,kP,kQ,kR,kS,kU,kW,kX,kY,kZ,lA,lB,lC,lD,lE,lF,lG,lH,lI,lJ,lK,lL,lM,lN,lO,lP,lQ,lR,lS,lT,lU,lV,lW,lX,lY,lZ,mB,mC,mD,mE,mF,mG,mH,mI,mJ,mK,mL,mM,mN,mO,mP,mQ,mR,mS,mT,mU,mV,mW,mX,mY,mZ,nB,nD,nE,nG,nH,nI,nJ,nK,nM,nN,nO,nP,nQ,nR,nS,nU,nV,nW,nX,nY,nZ,oA,oB,oC,oE,oG,oH,oI,oJ,oK,oL,oM,oN,oO,oQ,oR,oS,oU,oV,oW,oX,oY,oZ,pA,pB,pC,pD,pE,pF,pG,pH,pI,pJ,pK,pL,pM,pN,pO,pP,pQ,pR,pS,pU,pV,pW,pX,pY,pZ,qA,qB,qC,qD,qE,qF,qG,qH,qI,qJ,qK,qL,qM,qN,qO,reqWeb,y_m1,y_km0,s_nl]
  simp only [dI,aI,j,aJ,aK,y_star,c,y_kast,kl,y_km1,g,aA,aB,aC,aD,aE,aF,aG,aH,aI,aJ,aK,aL,aM,aN,aO,aP,aQ,aR,aS,aU,aV,aW,aX,aY,aZ,bA,bB,bC,bD,bE,bF,bG,bH,bI,bJ,bK,bL,bM,bN,bO,bQ,bR,bS,bT,bU,bV,bW,bX,bY,bZ,cA,cB,cC,cD,cE,cF,cG,cH,cI,cJ,cK,cL,cO,cP,cQ,cS,cU,cV,cX,cY,cZ,dA,dB,dC,dD,dE,dH,dI,dJ,dL,dM,dN,dO,dQ,dR,dS,dU,dW,dX,dY,dZ,eA,eB,eD,eE,eF,eG,eI,eJ,eK,eM,eN,eO,eP,eQ,eR,eS,eT,eU,eV,eW,eX,eY,eZ,fA,fB,fC,fD,fE,fF,fG,fH,fJ,fK,fM,fN,fO,fP,fQ,fR,fS,fT,fU,fV,fW,fX,fY,fZ,gA,gB,gC,gD,gE,gF,gG,gH,gI,gJ,gK,gL,gM,gN,gO,gQ,gR,gS,gT,gU,gV,gW,gX,gY,gZ,hA,hJ,hO,hQ,hU,hV,hZ,iA,iB,iC,iD,iE,iF,iG,iH,iI,iJ,iK,iL,iM,iN,iO,iP,iQ,iR,iS,iT,iU,iV,iW,iX,iY,iZ,jA,jB,jC,jD,jE,jF,jG,jH,jI,jJ,jK,jL,jM,jN,jO,jP,jQ,jR,jS,jT,jU,jV,jW,jX,jY,jZ,kA,kB,kC,kD,kE,kF,kG,kH,kJ,kK,kL,kM,kN,kO,kP,kQ,kR,kS,kU,kW,kX,kY,kZ,lA,lB,lC,lD,lE,lF,lG,lH,lI,lJ,lK,lL,lM,lN,lO,lP,lQ,lR,lS,lT,lU,lV,lW,lX,lY,lZ,mB,mC,mD,mE,mF,mG,mH,mI,mJ,mK,mL,mM,mN,mO,mP,mQ,mR,mS,mT,mU,mV,mW,mX,mY,mZ,nB,nD,nE,nG,nH,nI,nJ,nK,nM,nN,nO,nP,nQ,nR,nS,nU,nV,nW,nX,nY,nZ,oA,oB,oC,oE,oG,oH,oI,oJ,oK,oL,oM,oN,oO,oQ,oR,oS,oU,oV,oW,oX,oY,oZ,pA,pB,pC,pD,pE,pF,pG,pH,pI,pJ,pK,pL,pM,pN,pO,pP,pQ,pR,pS,pU,pV,pW,pX,pY,pZ,qA,qB,qC,qD,qE,qF,qG,qH,qI,qJ,qK,qL,qM,qN,qO]
theorem isIntL {r : List Int} (hr : ∀ x ∈ r, Num x) : (r.all fun x => decide (0 ≤ x)) = true := List.all_eq_true.mpr fun x hx => decide_eq_true (hr x hx).1
theorem row_join {r : List Int} (hr : ∀ x ∈ r, Num x) (hl : r.length ≤ 20) (L : Sto) : gJoinS (.str (SX.S [32])) (.lst (D.str (SX.S cR) :: r.map fun x => D.str (SX.S (nu x)))) L = .ok (.str (SX.S (tx [rowW r]))) L := by
  have g := gJoinS_S (a := [32]) (ls := rowW r) (k := 4) (fun l hl => by
    rcases List.mem_cons.mp hl with rfl | hl
    · decide
    · obtain ⟨x, hx, rfl⟩ := List.mem_map.mp hl
      exact nu_len (hr x hx).1 (hr x hx).2) (by unfold rowW; rw [List.length_cons, List.length_map, List.length_singleton]; omega) L
  unfold rowW at g
  rw [List.map_cons, List.map_map] at g
  exact g
theorem writeRow_ok {r : List Int} (hne : r ≠ []) (hr : ∀ x ∈ r, Num x) (hl : r.length ≤ 20) (L : Sto) : m_write_row [rowD r] L = .ok (.str (SX.S (tx [rowW r]))) L := by
  have c1 : C1_write_row [some (rowD r), none] L = .ok (.lst (r.map fun x => D.bl (decide (0 ≤ x)))) L := by
    refine lc_map (box := false) r D.int _ (src := []) (L1 := L) rfl srcOk_nil (by omega) fun x hx => ?_
    simp only [aA,aB,aC,aD,aE,aF,aG,aH,aI,aJ,aK,aL,aM,aN,aO,aP,aQ,aR,aS,aU,aV,aW,aX,aY,aZ,bA,bB,bC,bD,bE,bF,bG,bH,bI,bJ,bK,bL,bM,bN,bO,bQ,bR,bS,bT,bU,bV,bW,bX,bY,bZ,cA,cB,cC,cD,cE,cF,cG,cH,cI,cJ,cK,cL,cO,cP,cQ,cS,cU,cV,cX,cY,cZ,dA,dB,dC,dD,dE,dH,dI,dJ,dL,dM,dN,dO,dQ,dR,dS,dU,dW,dX,dY,dZ,eA,eB,eD,eE,eF,eG,eI,eJ,eK,eM,eN,eO,eP,eQ,eR,eS,eT,eU,eV,eW,eX,eY,eZ,fA,fB,fC,fD,fE,fF,fG,fH,fJ,fK,fM,fN,fO,fP,fQ,fR,fS,fT,fU,fV,fW,fX,fY,fZ,gA,gB,gC,gD,gE,gF,gG,gH,gI,gJ,gK,gL,gM,gN,gO,gQ,gR,gS,gT,gU,gV,gW,gX,gY,gZ,hA,hJ,hO,hQ,hU,hV,hZ,iA,iB,iC,iD,iE,iF,iG,iH,iI,iJ,iK,iL,iM,iN,iO,iP,iQ,iR,iS,iT,iU,iV,iW,iX,iY,iZ,jA,jB,jC,jD,jE,jF,jG,jH,jI,jJ,jK,jL,jM,jN,jO,jP,jQ,jR,jS,jT,jU,jV,jW,jX,jY,jZ,kA,kB,kC,kD,kE,kF,kG,kH,kJ,kK,kL,kM,kN,kO,kP,kQ,kR,kS,kU,kW,kX,kY,kZ,lA,lB,lC,lD,lE,lF,lG,lH,lI,lJ,lK,lL,lM,lN,lO,lP,lQ,lR,lS,lT,lU,lV,lW,lX,lY,lZ,mB,mC,mD,mE,mF,mG,mH,mI,mJ,mK,mL,mM,mN,mO,mP,mQ,mR,mS,mT,mU,mV,mW,mX,mY,mZ,nB,nD,nE,nG,nH,nI,nJ,nK,nM,nN,nO,nP,nQ,nR,nS,nU,nV,nW,nX,nY,nZ,oA,oB,oC,oE,oG,oH,oI,oJ,oK,oL,oM,oN,oO,oQ,oR,oS,oU,oV,oW,oX,oY,oZ,pA,pB,pC,pD,pE,pF,pG,pH,pI,pJ,pK,pL,pM,pN,pO,pP,pQ,pR,pS,pU,pV,pW,pX,pY,pZ,qA,qB,qC,qD,qE,qF,qG,qH,qI,qJ,qK,qL,qM,qN,qO,isInt_in]
  have c2 : C2_write_row [some (rowD r), none] L = .ok (.lst (r.map fun x => D.str (SX.S (nu x)))) L := by
    refine lc_map (box := false) r D.int _ (src := []) (L1 := L) rfl srcOk_nil (by omega) fun x hx => ?_
    simp only [aA,aB,aC,aD,aE,aF,aG,aH,aI,aJ,aK,aL,aM,aN,aO,aP,aQ,aR,aS,aU,aV,aW,aX,aY,aZ,bA,bB,bC,bD,bE,bF,bG,bH,bI,bJ,bK,bL,bM,bN,bO,bQ,bR,bS,bT,bU,bV,bW,bX,bY,bZ,cA,cB,cC,cD,cE,cF,cG,cH,cI,cJ,cK,cL,cO,cP,cQ,cS,cU,cV,cX,cY,cZ,dA,dB,dC,dD,dE,dH,dI,dJ,dL,dM,dN,dO,dQ,dR,dS,dU,dW,dX,dY,dZ,eA,eB,eD,eE,eF,eG,eI,eJ,eK,eM,eN,eO,eP,eQ,eR,eS,eT,eU,eV,eW,eX,eY,eZ,fA,fB,fC,fD,fE,fF,fG,fH,fJ,fK,fM,fN,fO,fP,fQ,fR,fS,fT,fU,fV,fW,fX,fY,fZ,gA,gB,gC,gD,gE,gF,gG,gH,gI,gJ,gK,gL,gM,gN,gO,gQ,gR,gS,gT,gU,gV,gW,gX,gY,gZ,hA,hJ,hO,hQ,hU,hV,hZ,iA,iB,iC,iD,iE,iF,iG,iH,iI,iJ,iK,iL,iM,iN,iO,iP,iQ,iR,iS,iT,iU,iV,iW,iX,iY,iZ,jA,jB,jC,jD,jE,jF,jG,jH,jI,jJ,jK,jL,jM,jN,jO,jP,jQ,jR,jS,jT,jU,jV,jW,jX,jY,jZ,kA,kB,kC,kD,kE,kF,kG,kH,kJ,kK,kL,kM,kN,kO,kP,kQ,kR,kS,kU,kW,kX,kY,kZ,lA,lB,lC,lD,lE,lF,lG,lH,lI,lJ,lK,lL,lM,lN,lO,lP,lQ,lR,lS,lT,lU,lV,lW,lX,lY,lZ,mB,mC,mD,mE,mF,mG,mH,mI,mJ,mK,mL,mM,mN,mO,mP,mQ,mR,mS,mT,mU,mV,mW,mX,mY,mZ,nB,nD,nE,nG,nH,nI,nJ,nK,nM,nN,nO,nP,nQ,nR,nS,nU,nV,nW,nX,nY,nZ,oA,oB,oC,oE,oG,oH,oI,oJ,oK,oL,oM,oN,oO,oQ,oR,oS,oU,oV,oW,oX,oY,oZ,pA,pB,pC,pD,pE,pF,pG,pH,pI,pJ,pK,pL,pM,pN,pO,pP,pQ,pR,pS,pU,pV,pW,pX,pY,pZ,qA,qB,qC,qD,qE,qF,qG,qH,qI,qJ,qK,qL,qM,qN,qO,gStr_nu (hr x hx).1 (hr x hx).2]
  have e := eq_emp (ps := r) (List.length_pos_iff.mpr hne) (.inl rfl) L
  have e' : gEq (rowD r) (.tup []) L = .ok (.bl false) L := e
  have t := isiT (ps := r) (.inl rfl) L
  have t' : gIsiK owns .tup (rowD r) L = .ok (.bl true) L := t
  have nt : newT [] L = .ok (.tup []) L := z_newT (show 0 ≤ 16777216 by decide)
  have g := row_join hr hl L
  have kl := y_klst (L := L) (ds := D.str (SX.S cR) :: r.map fun x => D.str (SX.S (nu x))) (by rw [List.length_cons, List.length_map]; omega)
  simp only [u_write_row,F_write_row,aA,aB,aC,aD,aE,aF,aG,aH,aI,aJ,aK,aL,aM,aN,aO,aP,aQ,aR,aS,aU,aV,aW,aX,aY,aZ,bA,bB,bC,bD,bE,bF,bG,bH,bI,bJ,bK,bL,bM,bN,bO,bQ,bR,bS,bT,bU,bV,bW,bX,bY,bZ,cA,cB,cC,cD,cE,cF,cG,cH,cI,cJ,cK,cL,cO,cP,cQ,cS,cU,cV,cX,cY,cZ,dA,dB,dC,dD,dE,dH,dI,dJ,dL,dM,dN,dO,dQ,dR,dS,dU,dW,dX,dY,dZ,eA,eB,eD,eE,eF,eG,eI,eJ,eK,eM,eN,eO,eP,eQ,eR,eS,eT,eU,eV,eW,eX,eY,eZ,fA,fB,fC,fD,fE,fF,fG,fH,fJ,fK,fM,fN,fO,fP,fQ,fR,fS,fT,fU,fV,fW,fX,fY,fZ,gA,gB,gC,gD,gE,gF,gG,gH,gI,gJ,gK,gL,gM,gN,gO,gQ,gR,gS,gT,gU,gV,gW,gX,gY,gZ,hA,hJ,hO,hQ,hU,hV,hZ,iA,iB,iC,iD,iE,iF,iG,iH,iI,iJ,iK,iL,iM,iN,iO,iP,iQ,iR,iS,iT,iU,iV,iW,iX,iY,iZ,jA,jB,jC,jD,jE,jF,jG,jH,jI,jJ,jK,jL,jM,jN,jO,jP,jQ,jR,jS,jT,jU,jV,jW,jX,jY,jZ,kA,kB,kC,kD,kE,kF,kG,kH,kJ,kK,kL,kM,kN,kO,kP,kQ,kR,kS,kU,kW,kX,kY,kZ,lA,lB,lC,lD,lE,lF,lG,lH,lI,lJ,lK,lL,lM,lN,lO,lP,lQ,lR,lS,lT,lU,lV,lW,lX,lY,lZ,mB,mC,mD,mE,mF,mG,mH,mI,mJ,mK,mL,mM,mN,mO,mP,mQ,mR,mS,mT,mU,mV,mW,mX,mY,mZ,nB,nD,nE,nG,nH,nI,nJ,nK,nM,nN,nO,nP,nQ,nR,nS,nU,nV,nW,nX,nY,nZ,oA,oB,oC,oE,oG,oH,oI,oJ,oK,oL,oM,oN,oO,oQ,oR,oS,oU,oV,oW,oX,oY,oZ,pA,pB,pC,pD,pE,pF,pG,pH,pI,pJ,pK,pL,pM,pN,pO,pP,pQ,pR,pS,pU,pV,pW,pX,pY,pZ,qA,qB,qC,qD,qE,qF,qG,qH,qI,qJ,qK,qL,qM,qN,qO,t',e',nt,c1,gAll_map,isIntL hr,Bool.not_true,Bool.false_eq_true,if_false,y_m1,y_km0,s_bk]
  simp only [dI,aI,aJ,aK,y_star,c2,y_kast,kl,y_km1,s_R,dD,g,aA,aB,aC,aD,aE,aF,aG,aH,aI,aJ,aK,aL,aM,aN,aO,aP,aQ,aR,aS,aU,aV,aW,aX,aY,aZ,bA,bB,bC,bD,bE,bF,bG,bH,bI,bJ,bK,bL,bM,bN,bO,bQ,bR,bS,bT,bU,bV,bW,bX,bY,bZ,cA,cB,cC,cD,cE,cF,cG,cH,cI,cJ,cK,cL,cO,cP,cQ,cS,cU,cV,cX,cY,cZ,dA,dB,dC,dD,dE,dH,dI,dJ,dL,dM,dN,dO,dQ,dR,dS,dU,dW,dX,dY,dZ,eA,eB,eD,eE,eF,eG,eI,eJ,eK,eM,eN,eO,eP,eQ,eR,eS,eT,eU,eV,eW,eX,eY,eZ,fA,fB,fC,fD,fE,fF,fG,fH,fJ,fK,fM,fN,fO,fP,fQ,fR,fS,fT,fU,fV,fW,fX,fY,fZ,gA,gB,gC,gD,gE,gF,gG,gH,gI,gJ,gK,gL,gM,gN,gO,gQ,gR,gS,gT,gU,gV,gW,gX,gY,gZ,hA,hJ,hO,hQ,hU,hV,hZ,iA,iB,iC,iD,iE,iF,iG,iH,iI,iJ,iK,iL,iM,iN,iO,iP,iQ,iR,iS,iT,iU,iV,iW,iX,iY,iZ,jA,jB,jC,jD,jE,jF,jG,jH,jI,jJ,jK,jL,jM,jN,jO,jP,jQ,jR,jS,jT,jU,jV,jW,jX,jY,jZ,kA,kB,kC,kD,kE,kF,kG,kH,kJ,kK,kL,kM,kN,kO,kP,kQ,kR,kS,kU,kW,kX,kY,kZ,lA,lB,lC,lD,lE,lF,lG,lH,lI,lJ,lK,lL,lM,lN,lO,lP,lQ,lR,lS,lT,lU,lV,lW,lX,lY,lZ,mB,mC,mD,mE,mF,mG,mH,mI,mJ,mK,mL,mM,mN,mO,mP,mQ,mR,mS,mT,mU,mV,mW,mX,mY,mZ,nB,nD,nE,nG,nH,nI,nJ,nK,nM,nN,nO,nP,nQ,nR,nS,nU,nV,nW,nX,nY,nZ,oA,oB,oC,oE,oG,oH,oI,oJ,oK,oL,oM,oN,oO,oQ,oR,oS,oU,oV,oW,oX,oY,oZ,pA,pB,pC,pD,pE,pF,pG,pH,pI,pJ,pK,pL,pM,pN,pO,pP,pQ,pR,pS,pU,pV,pW,pX,pY,pZ,qA,qB,qC,qD,qE,qF,qG,qH,qI,qJ,qK,qL,qM,qN,qO]
theorem areNum_pr {t : P2} (h : PrN t) (L : Sto) : m_are_numbers [pairD t, .int 2] L = .ok (.bl true) L := by
  have c1 : C1_are_numbers [some (pairD t), some (.int 2), none] L = .ok (.lst ([t.1, t.2].map fun x => D.bl (decide (0 ≤ x)))) L := by
    refine lc_map (box := false) [t.1, t.2] D.int _ (src := []) (L1 := L) rfl srcOk_nil (show 2 ≤ 1000000 by decide) fun x hx => ?_
    simp only [aA,aB,aC,aD,aE,aF,aG,aH,aI,aJ,aK,aL,aM,aN,aO,aP,aQ,aR,aS,aU,aV,aW,aX,aY,aZ,bA,bB,bC,bD,bE,bF,bG,bH,bI,bJ,bK,bL,bM,bN,bO,bQ,bR,bS,bT,bU,bV,bW,bX,bY,bZ,cA,cB,cC,cD,cE,cF,cG,cH,cI,cJ,cK,cL,cO,cP,cQ,cS,cU,cV,cX,cY,cZ,dA,dB,dC,dD,dE,dH,dI,dJ,dL,dM,dN,dO,dQ,dR,dS,dU,dW,dX,dY,dZ,eA,eB,eD,eE,eF,eG,eI,eJ,eK,eM,eN,eO,eP,eQ,eR,eS,eT,eU,eV,eW,eX,eY,eZ,fA,fB,fC,fD,fE,fF,fG,fH,fJ,fK,fM,fN,fO,fP,fQ,fR,fS,fT,fU,fV,fW,fX,fY,fZ,gA,gB,gC,gD,gE,gF,gG,gH,gI,gJ,gK,gL,gM,gN,gO,gQ,gR,gS,gT,gU,gV,gW,gX,gY,gZ,hA,hJ,hO,hQ,hU,hV,hZ,iA,iB,iC,iD,iE,iF,iG,iH,iI,iJ,iK,iL,iM,iN,iO,iP,iQ,iR,iS,iT,iU,iV,iW,iX,iY,iZ,jA,jB,jC,jD,jE,jF,jG,jH,jI,jJ,jK,jL,jM,jN,jO,jP,jQ,jR,jS,jT,jU,jV,jW,jX,jY,jZ,kA,kB,kC,kD,kE,kF,kG,kH,kJ,kK,kL,kM,kN,kO,kP,kQ,kR,kS,kU,kW,kX,kY,kZ,lA,lB,lC,lD,lE,lF,lG,lH,lI,lJ,lK,lL,lM,lN,lO,lP,lQ,lR,lS,lT,lU,lV,lW,lX,lY,lZ,mB,mC,mD,mE,mF,mG,mH,mI,mJ,mK,mL,mM,mN,mO,mP,mQ,mR,mS,mT,mU,mV,mW,mX,mY,mZ,nB,nD,nE,nG,nH,nI,nJ,nK,nM,nN,nO,nP,nQ,nR,nS,nU,nV,nW,nX,nY,nZ,oA,oB,oC,oE,oG,oH,oI,oJ,oK,oL,oM,oN,oO,oQ,oR,oS,oU,oV,oW,oX,oY,oZ,pA,pB,pC,pD,pE,pF,pG,pH,pI,pJ,pK,pL,pM,pN,pO,pP,pQ,pR,pS,pU,pV,pW,pX,pY,pZ,qA,qB,qC,qD,qE,qF,qG,qH,qI,qJ,qK,qL,qM,qN,qO,isInt_in]
  have g1 : gIsiK owns .tup (pairD t) L = .ok (.bl true) L := rfl
  have g2 : gLen [pairD t] L = .ok (.int 2) L := rfl
  have g3 : gEq (.int 2) (.int 2) L = .ok (.bl true) L := sR
  have al : ([t.1, t.2].all fun x => decide (0 ≤ x)) = true := by simp [h.1.1, h.2.1]
  simp only [u_are_numbers,F_are_numbers,aA,aB,aC,aD,aE,aF,aG,aH,aI,aJ,aK,aL,aM,aN,aO,aP,aQ,aR,aS,aU,aV,aW,aX,aY,aZ,bA,bB,bC,bD,bE,bF,bG,bH,bI,bJ,bK,bL,bM,bN,bO,bQ,bR,bS,bT,bU,bV,bW,bX,bY,bZ,cA,cB,cC,cD,cE,cF,cG,cH,cI,cJ,cK,cL,cO,cP,cQ,cS,cU,cV,cX,cY,cZ,dA,dB,dC,dD,dE,dH,dI,dJ,dL,dM,dN,dO,dQ,dR,dS,dU,dW,dX,dY,dZ,eA,eB,eD,eE,eF,eG,eI,eJ,eK,eM,eN,eO,eP,eQ,eR,eS,eT,eU,eV,eW,eX,eY,eZ,fA,fB,fC,fD,fE,fF,fG,fH,fJ,fK,fM,fN,fO,fP,fQ,fR,fS,fT,fU,fV,fW,fX,fY,fZ,gA,gB,gC,gD,gE,gF,gG,gH,gI,gJ,gK,gL,gM,gN,gO,gQ,gR,gS,gT,gU,gV,gW,gX,gY,gZ,hA,hJ,hO,hQ,hU,hV,hZ,iA,iB,iC,iD,iE,iF,iG,iH,iI,iJ,iK,iL,iM,iN,iO,iP,iQ,iR,iS,iT,iU,iV,iW,iX,iY,iZ,jA,jB,jC,jD,jE,jF,jG,jH,jI,jJ,jK,jL,jM,jN,jO,jP,jQ,jR,jS,jT,jU,jV,jW,jX,jY,jZ,kA,kB,kC,kD,kE,kF,kG,kH,kJ,kK,kL,kM,kN,kO,kP,kQ,kR,kS,kU,kW,kX,kY,kZ,lA,lB,lC,lD,lE,lF,lG,lH,lI,lJ,lK,lL,lM,lN,lO,lP,lQ,lR,lS,lT,lU,lV,lW,lX,lY,lZ,mB,mC,mD,mE,mF,mG,mH,mI,mJ,mK,mL,mM,mN,mO,mP,mQ,mR,mS,mT,mU,mV,mW,mX,mY,mZ,nB,nD,nE,nG,nH,nI,nJ,nK,nM,nN,nO,nP,nQ,nR,nS,nU,nV,nW,nX,nY,nZ,oA,oB,oC,oE,oG,oH,oI,oJ,oK,oL,oM,oN,oO,oQ,oR,oS,oU,oV,oW,oX,oY,oZ,pA,pB,pC,pD,pE,pF,pG,pH,pI,pJ,pK,pL,pM,pN,pO,pP,pQ,pR,pS,pU,pV,pW,pX,pY,pZ,qA,qB,qC,qD,qE,qF,qG,qH,qI,qJ,qK,qL,qM,qN,qO,g1,g2,g3,c1,gAll_map,al,if_true]
theorem eq_empP {ps : List P2} (L : Sto) : gEq (.tg (ps.map pairD)) (.tup []) L = .ok (.bl (decide (ps = []))) L ∧ gEq (.tup (ps.map pairD)) (.tup []) L = .ok (.bl (decide (ps = []))) L := by
  have e0 : eqDL (ps.map pairD) [] = decide (ps = []) := eqDL_prs ps []
  constructor
  · rw [gEq_ev (by rw [seen_tg, okD]; exact okDL_prs _ _) (by rw [seen_tup, okD, okDL]), seen_tg, seen_tup, eqD, e0]
  · rw [gEq_ev (by rw [seen_tup, okD]; exact okDL_prs _ _) (by rw [seen_tup, okD, okDL]), seen_tup, seen_tup, eqD, e0]
theorem ne_empP {ps : List P2} (L : Sto) : gNe (.tg (ps.map pairD)) (.tup []) L = .ok (.bl (!decide (ps = []))) L ∧ gNe (.tup (ps.map pairD)) (.tup []) L = .ok (.bl (!decide (ps = []))) L := by
  have e0 : eqDL (ps.map pairD) [] = decide (ps = []) := eqDL_prs ps []
  constructor
  · rw [gNe_ev (by rw [seen_tg, okD]; exact okDL_prs _ _) (by rw [seen_tup, okD, okDL]), seen_tg, seen_tup, eqD, e0]
  · rw [gNe_ev (by rw [seen_tup, okD]; exact okDL_prs _ _) (by rw [seen_tup, okD, okDL]), seen_tup, seen_tup, eqD, e0]
theorem chain_join {ps : List P2} (hp : ∀ t ∈ ps, PrN t) (hl : ps.length ≤ 20) (L : Sto) : gJoinS (.str (SX.S [10])) (.lst (ps.map fun t => D.str (SX.S (ln (prW cM t))))) L = .ok (.str (SX.S (tx (ps.map (prW cM))))) L := by
  have g := gJoinS_S (a := [10]) (ls := ps.map fun t => ln (prW cM t)) (k := 14) (join_pr (by decide) hp) (by rw [List.length_map, List.length_singleton]; omega) L
  rw [List.map_map] at g
  have e : TL.joinL [10] (ps.map fun t => ln (prW cM t)) = tx (ps.map (prW cM)) := by
    unfold tx
    rw [List.map_map]
    rfl
  rw [e] at g
  exact g
theorem writeChain_ok {ps : List P2} (hne : ps ≠ []) (hp : ∀ t ∈ ps, PrN t) (hl : ps.length ≤ 20) (L : Sto) : m_write_chain [.tg (ps.map pairD)] L = .ok (.str (SX.S (tx (ps.map (prW cM))))) L := by
  have c1 : C1_write_chain [some (.tg (ps.map pairD)), none, none, none] L = .ok (.lst (ps.map fun _ => D.bl true)) L := by
    refine lc_map (box := false) ps pairD (fun _ => D.bl true) (src := []) (L1 := L) rfl srcOk_nil (by omega) fun x hx => ?_
    simp only [aA,aB,aC,aD,aE,aF,aG,aH,aI,aJ,aK,aL,aM,aN,aO,aP,aQ,aR,aS,aU,aV,aW,aX,aY,aZ,bA,bB,bC,bD,bE,bF,bG,bH,bI,bJ,bK,bL,bM,bN,bO,bQ,bR,bS,bT,bU,bV,bW,bX,bY,bZ,cA,cB,cC,cD,cE,cF,cG,cH,cI,cJ,cK,cL,cO,cP,cQ,cS,cU,cV,cX,cY,cZ,dA,dB,dC,dD,dE,dH,dI,dJ,dL,dM,dN,dO,dQ,dR,dS,dU,dW,dX,dY,dZ,eA,eB,eD,eE,eF,eG,eI,eJ,eK,eM,eN,eO,eP,eQ,eR,eS,eT,eU,eV,eW,eX,eY,eZ,fA,fB,fC,fD,fE,fF,fG,fH,fJ,fK,fM,fN,fO,fP,fQ,fR,fS,fT,fU,fV,fW,fX,fY,fZ,gA,gB,gC,gD,gE,gF,gG,gH,gI,gJ,gK,gL,gM,gN,gO,gQ,gR,gS,gT,gU,gV,gW,gX,gY,gZ,hA,hJ,hO,hQ,hU,hV,hZ,iA,iB,iC,iD,iE,iF,iG,iH,iI,iJ,iK,iL,iM,iN,iO,iP,iQ,iR,iS,iT,iU,iV,iW,iX,iY,iZ,jA,jB,jC,jD,jE,jF,jG,jH,jI,jJ,jK,jL,jM,jN,jO,jP,jQ,jR,jS,jT,jU,jV,jW,jX,jY,jZ,kA,kB,kC,kD,kE,kF,kG,kH,kJ,kK,kL,kM,kN,kO,kP,kQ,kR,kS,kU,kW,kX,kY,kZ,lA,lB,lC,lD,lE,lF,lG,lH,lI,lJ,lK,lL,lM,lN,lO,lP,lQ,lR,lS,lT,lU,lV,lW,lX,lY,lZ,mB,mC,mD,mE,mF,mG,mH,mI,mJ,mK,mL,mM,mN,mO,mP,mQ,mR,mS,mT,mU,mV,mW,mX,mY,mZ,nB,nD,nE,nG,nH,nI,nJ,nK,nM,nN,nO,nP,nQ,nR,nS,nU,nV,nW,nX,nY,nZ,oA,oB,oC,oE,oG,oH,oI,oJ,oK,oL,oM,oN,oO,oQ,oR,oS,oU,oV,oW,oX,oY,oZ,pA,pB,pC,pD,pE,pF,pG,pH,pI,pJ,pK,pL,pM,pN,pO,pP,pQ,pR,pS,pU,pV,pW,pX,pY,pZ,qA,qB,qC,qD,qE,qF,qG,qH,qI,qJ,qK,qL,qM,qN,qO,areNum_pr (hp x hx)]
  have al : (ps.all fun _ => true) = true := List.all_eq_true.mpr fun _ _ => rfl
  have ga := gAll_map (L := L) ps fun _ => true
  rw [al] at ga
  have c2 : C2_write_chain [some (.tg (ps.map pairD)), none, none, none] L = .ok (.lst (ps.map fun t => D.str (SX.S (ln (prW cM t))))) L := by
    refine lc_map (box := false) ps pairD _ (src := []) (L1 := L) rfl srcOk_nil (by omega) fun t hx => ?_
    have h := hp t hx
    have l1 := nu_len h.1.1 h.1.2
    have l2 := nu_len h.2.1 h.2.2
    have f1 : ∀ ρ : Env', eC (.str "move ") ρ L = .ok (.str (SX.S cMb)) L := fun ρ => by rw [← s_Mb]; rfl
    have f3 : ∀ ρ : Env', eC (.str " ") ρ L = .ok (.str (SX.S [32])) L := fun ρ => by rw [← s_bk]; rfl
    refine (jn4 (f1 _) (b := nu t.1) ?_ (f3 _) (d := nu t.2) ?_ ?_).trans ?_
    · exact gFmt_nu h.1.1 h.1.2
    · exact gFmt_nu h.2.1 h.2.2
    · show 5 + _ + 1 + _ ≤ _
      omega
    · rw [prW_M]
  have e := (eq_empP (ps := ps) L).1
  rw [decide_eq_false hne] at e
  have t' : gIsiK owns .tup (.tg (ps.map pairD)) L = .ok (.bl true) L := rfl
  have nt : newT [] L = .ok (.tup []) L := z_newT (show 0 ≤ 16777216 by decide)
  have g := chain_join hp hl L
  simp only [u_write_chain,F_write_chain,aA,aB,aC,aD,aE,aF,aG,aH,aI,aJ,aK,aL,aM,aN,aO,aP,aQ,aR,aS,aU,aV,aW,aX,aY,aZ,bA,bB,bC,bD,bE,bF,bG,bH,bI,bJ,bK,bL,bM,bN,bO,bQ,bR,bS,bT,bU,bV,bW,bX,bY,bZ,cA,cB,cC,cD,cE,cF,cG,cH,cI,cJ,cK,cL,cO,cP,cQ,cS,cU,cV,cX,cY,cZ,dA,dB,dC,dD,dE,dH,dI,dJ,dL,dM,dN,dO,dQ,dR,dS,dU,dW,dX,dY,dZ,eA,eB,eD,eE,eF,eG,eI,eJ,eK,eM,eN,eO,eP,eQ,eR,eS,eT,eU,eV,eW,eX,eY,eZ,fA,fB,fC,fD,fE,fF,fG,fH,fJ,fK,fM,fN,fO,fP,fQ,fR,fS,fT,fU,fV,fW,fX,fY,fZ,gA,gB,gC,gD,gE,gF,gG,gH,gI,gJ,gK,gL,gM,gN,gO,gQ,gR,gS,gT,gU,gV,gW,gX,gY,gZ,hA,hJ,hO,hQ,hU,hV,hZ,iA,iB,iC,iD,iE,iF,iG,iH,iI,iJ,iK,iL,iM,iN,iO,iP,iQ,iR,iS,iT,iU,iV,iW,iX,iY,iZ,jA,jB,jC,jD,jE,jF,jG,jH,jI,jJ,jK,jL,jM,jN,jO,jP,jQ,jR,jS,jT,jU,jV,jW,jX,jY,jZ,kA,kB,kC,kD,kE,kF,kG,kH,kJ,kK,kL,kM,kN,kO,kP,kQ,kR,kS,kU,kW,kX,kY,kZ,lA,lB,lC,lD,lE,lF,lG,lH,lI,lJ,lK,lL,lM,lN,lO,lP,lQ,lR,lS,lT,lU,lV,lW,lX,lY,lZ,mB,mC,mD,mE,mF,mG,mH,mI,mJ,mK,mL,mM,mN,mO,mP,mQ,mR,mS,mT,mU,mV,mW,mX,mY,mZ,nB,nD,nE,nG,nH,nI,nJ,nK,nM,nN,nO,nP,nQ,nR,nS,nU,nV,nW,nX,nY,nZ,oA,oB,oC,oE,oG,oH,oI,oJ,oK,oL,oM,oN,oO,oQ,oR,oS,oU,oV,oW,oX,oY,oZ,pA,pB,pC,pD,pE,pF,pG,pH,pI,pJ,pK,pL,pM,pN,pO,pP,pQ,pR,pS,pU,pV,pW,pX,pY,pZ,qA,qB,qC,qD,qE,qF,qG,qH,qI,qJ,qK,qL,qM,qN,qO,t',e,nt,c1,ga,Bool.not_true,Bool.false_eq_true,if_false,y_m1,y_km0,y_km1,s_nl,c2,g]
abbrev RQ4 := Bool × List P2
def encQ (q : RQ4) : D := if q.1 = true then .tg (q.2.map pairD) else .tup (q.2.map pairD)
theorem encQ_or (q : RQ4) : encQ q = .tg (q.2.map pairD) ∨ encQ q = .tup (q.2.map pairD) := by
  unfold encQ
  split
  · exact .inl rfl
  · exact .inr rfl
theorem isP_Q (q : RQ4) : IsP (encQ q) q.2 := (encQ_or q).elim .inl fun h => .inr (.inl h)
theorem kit_Q (q : RQ4) (L : Sto) : kit (.ok (encQ q) L) = .ok ⟨q.2.map pairD, []⟩ L := by
  rcases encQ_or q with e | e <;> rw [e] <;> rfl
theorem isi_Q (q : RQ4) (L : Sto) : gIsiK owns .tup (encQ q) L = .ok (.bl true) L := by
  rcases encQ_or q with e | e <;> rw [e] <;> rfl
theorem ne_Q (q : RQ4) (L : Sto) : gNe (encQ q) (.tup []) L = .ok (.bl (!decide (q.2 = []))) L := by
  rcases encQ_or q with e | e <;> rw [e]
  · exact (ne_empP L).1
  · exact (ne_empP L).2
theorem isRound_ok {q : RQ4} (h : LotN q.2) (L : Sto) : m_is_round [encQ q] L = .ok (.bl true) L := by
  have c1 : C1_is_round [some (encQ q), none] L = .ok (.lst (q.2.map fun _ => D.bl true)) L := by
    refine lc_map (box := false) q.2 pairD (fun _ => D.bl true) (src := []) (L1 := L) ?_ srcOk_nil (by have := h.len; omega) fun x hx => ?_
    · simp only [aA,aB,aC,aD,aE,aF,aG,aH,aI,aJ,aK,aL,aM,aN,aO,aP,aQ,aR,aS,aU,aV,aW,aX,aY,aZ,bA,bB,bC,bD,bE,bF,bG,bH,bI,bJ,bK,bL,bM,bN,bO,bQ,bR,bS,bT,bU,bV,bW,bX,bY,bZ,cA,cB,cC,cD,cE,cF,cG,cH,cI,cJ,cK,cL,cO,cP,cQ,cS,cU,cV,cX,cY,cZ,dA,dB,dC,dD,dE,dH,dI,dJ,dL,dM,dN,dO,dQ,dR,dS,dU,dW,dX,dY,dZ,eA,eB,eD,eE,eF,eG,eI,eJ,eK,eM,eN,eO,eP,eQ,eR,eS,eT,eU,eV,eW,eX,eY,eZ,fA,fB,fC,fD,fE,fF,fG,fH,fJ,fK,fM,fN,fO,fP,fQ,fR,fS,fT,fU,fV,fW,fX,fY,fZ,gA,gB,gC,gD,gE,gF,gG,gH,gI,gJ,gK,gL,gM,gN,gO,gQ,gR,gS,gT,gU,gV,gW,gX,gY,gZ,hA,hJ,hO,hQ,hU,hV,hZ,iA,iB,iC,iD,iE,iF,iG,iH,iI,iJ,iK,iL,iM,iN,iO,iP,iQ,iR,iS,iT,iU,iV,iW,iX,iY,iZ,jA,jB,jC,jD,jE,jF,jG,jH,jI,jJ,jK,jL,jM,jN,jO,jP,jQ,jR,jS,jT,jU,jV,jW,jX,jY,jZ,kA,kB,kC,kD,kE,kF,kG,kH,kJ,kK,kL,kM,kN,kO,kP,kQ,kR,kS,kU,kW,kX,kY,kZ,lA,lB,lC,lD,lE,lF,lG,lH,lI,lJ,lK,lL,lM,lN,lO,lP,lQ,lR,lS,lT,lU,lV,lW,lX,lY,lZ,mB,mC,mD,mE,mF,mG,mH,mI,mJ,mK,mL,mM,mN,mO,mP,mQ,mR,mS,mT,mU,mV,mW,mX,mY,mZ,nB,nD,nE,nG,nH,nI,nJ,nK,nM,nN,nO,nP,nQ,nR,nS,nU,nV,nW,nX,nY,nZ,oA,oB,oC,oE,oG,oH,oI,oJ,oK,oL,oM,oN,oO,oQ,oR,oS,oU,oV,oW,oX,oY,oZ,pA,pB,pC,pD,pE,pF,pG,pH,pI,pJ,pK,pL,pM,pN,pO,pP,pQ,pR,pS,pU,pV,pW,pX,pY,pZ,qA,qB,qC,qD,qE,qF,qG,qH,qI,qJ,qK,qL,qM,qN,qO,kit_Q]
    · have lt : decide (x.1 < x.2) = true := decide_eq_true (h.inn x hx).2
      simp only [aA,aB,aC,aD,aE,aF,aG,aH,aI,aJ,aK,aL,aM,aN,aO,aP,aQ,aR,aS,aU,aV,aW,aX,aY,aZ,bA,bB,bC,bD,bE,bF,bG,bH,bI,bJ,bK,bL,bM,bN,bO,bQ,bR,bS,bT,bU,bV,bW,bX,bY,bZ,cA,cB,cC,cD,cE,cF,cG,cH,cI,cJ,cK,cL,cO,cP,cQ,cS,cU,cV,cX,cY,cZ,dA,dB,dC,dD,dE,dH,dI,dJ,dL,dM,dN,dO,dQ,dR,dS,dU,dW,dX,dY,dZ,eA,eB,eD,eE,eF,eG,eI,eJ,eK,eM,eN,eO,eP,eQ,eR,eS,eT,eU,eV,eW,eX,eY,eZ,fA,fB,fC,fD,fE,fF,fG,fH,fJ,fK,fM,fN,fO,fP,fQ,fR,fS,fT,fU,fV,fW,fX,fY,fZ,gA,gB,gC,gD,gE,gF,gG,gH,gI,gJ,gK,gL,gM,gN,gO,gQ,gR,gS,gT,gU,gV,gW,gX,gY,gZ,hA,hJ,hO,hQ,hU,hV,hZ,iA,iB,iC,iD,iE,iF,iG,iH,iI,iJ,iK,iL,iM,iN,iO,iP,iQ,iR,iS,iT,iU,iV,iW,iX,iY,iZ,jA,jB,jC,jD,jE,jF,jG,jH,jI,jJ,jK,jL,jM,jN,jO,jP,jQ,jR,jS,jT,jU,jV,jW,jX,jY,jZ,kA,kB,kC,kD,kE,kF,kG,kH,kJ,kK,kL,kM,kN,kO,kP,kQ,kR,kS,kU,kW,kX,kY,kZ,lA,lB,lC,lD,lE,lF,lG,lH,lI,lJ,lK,lL,lM,lN,lO,lP,lQ,lR,lS,lT,lU,lV,lW,lX,lY,lZ,mB,mC,mD,mE,mF,mG,mH,mI,mJ,mK,mL,mM,mN,mO,mP,mQ,mR,mS,mT,mU,mV,mW,mX,mY,mZ,nB,nD,nE,nG,nH,nI,nJ,nK,nM,nN,nO,nP,nQ,nR,nS,nU,nV,nW,nX,nY,nZ,oA,oB,oC,oE,oG,oH,oI,oJ,oK,oL,oM,oN,oO,oQ,oR,oS,oU,oV,oW,oX,oY,oZ,pA,pB,pC,pD,pE,pF,pG,pH,pI,pJ,pK,pL,pM,pN,pO,pP,pQ,pR,pS,pU,pV,pW,pX,pY,pZ,qA,qB,qC,qD,qE,qF,qG,qH,qI,qJ,qK,qL,qM,qN,qO,areNum_pr (h.inn x hx).1,if_true,lt]
  have al : (q.2.all fun _ => true) = true := List.all_eq_true.mpr fun _ _ => rfl
  have ga := gAll_map (L := L) q.2 fun _ => true
  rw [al] at ga
  have as := isAsc_D (isP_Q q) h.asc (by have := h.len; omega) L
  simp only [u_is_round,F_is_round,aA,aB,aC,aD,aE,aF,aG,aH,aI,aJ,aK,aL,aM,aN,aO,aP,aQ,aR,aS,aU,aV,aW,aX,aY,aZ,bA,bB,bC,bD,bE,bF,bG,bH,bI,bJ,bK,bL,bM,bN,bO,bQ,bR,bS,bT,bU,bV,bW,bX,bY,bZ,cA,cB,cC,cD,cE,cF,cG,cH,cI,cJ,cK,cL,cO,cP,cQ,cS,cU,cV,cX,cY,cZ,dA,dB,dC,dD,dE,dH,dI,dJ,dL,dM,dN,dO,dQ,dR,dS,dU,dW,dX,dY,dZ,eA,eB,eD,eE,eF,eG,eI,eJ,eK,eM,eN,eO,eP,eQ,eR,eS,eT,eU,eV,eW,eX,eY,eZ,fA,fB,fC,fD,fE,fF,fG,fH,fJ,fK,fM,fN,fO,fP,fQ,fR,fS,fT,fU,fV,fW,fX,fY,fZ,gA,gB,gC,gD,gE,gF,gG,gH,gI,gJ,gK,gL,gM,gN,gO,gQ,gR,gS,gT,gU,gV,gW,gX,gY,gZ,hA,hJ,hO,hQ,hU,hV,hZ,iA,iB,iC,iD,iE,iF,iG,iH,iI,iJ,iK,iL,iM,iN,iO,iP,iQ,iR,iS,iT,iU,iV,iW,iX,iY,iZ,jA,jB,jC,jD,jE,jF,jG,jH,jI,jJ,jK,jL,jM,jN,jO,jP,jQ,jR,jS,jT,jU,jV,jW,jX,jY,jZ,kA,kB,kC,kD,kE,kF,kG,kH,kJ,kK,kL,kM,kN,kO,kP,kQ,kR,kS,kU,kW,kX,kY,kZ,lA,lB,lC,lD,lE,lF,lG,lH,lI,lJ,lK,lL,lM,lN,lO,lP,lQ,lR,lS,lT,lU,lV,lW,lX,lY,lZ,mB,mC,mD,mE,mF,mG,mH,mI,mJ,mK,mL,mM,mN,mO,mP,mQ,mR,mS,mT,mU,mV,mW,mX,mY,mZ,nB,nD,nE,nG,nH,nI,nJ,nK,nM,nN,nO,nP,nQ,nR,nS,nU,nV,nW,nX,nY,nZ,oA,oB,oC,oE,oG,oH,oI,oJ,oK,oL,oM,oN,oO,oQ,oR,oS,oU,oV,oW,oX,oY,oZ,pA,pB,pC,pD,pE,pF,pG,pH,pI,pJ,pK,pL,pM,pN,pO,pP,pQ,pR,pS,pU,pV,pW,pX,pY,pZ,qA,qB,qC,qD,qE,qF,qG,qH,qI,qJ,qK,qL,qM,qN,qO,isi_Q,c1,ga,as,Bool.not_true,Bool.false_eq_true,if_false]
def lotL (l : List P2) : List (List Nat) := if l = [] then [[45]] else l.map tieW
theorem lotW_L (l : List P2) : lotW l = cN :: lotL l := rfl
theorem lotL_len {l : List P2} (h : LotN l) : (∀ w ∈ lotL l, w.length ≤ 9) ∧ (lotL l).length ≤ 6 := by
  unfold lotL
  split
  · exact ⟨fun w hw => by rw [List.mem_singleton.mp hw]; decide, by decide⟩
  · refine ⟨fun w hw => ?_, by rw [List.length_map]; exact h.len⟩
    obtain ⟨t, ht, rfl⟩ := List.mem_map.mp hw
    exact tieW_len (h.inn t ht).1
theorem lot_join {l : List P2} (h : LotN l) (L : Sto) : gJoinS (.str (SX.S [32])) (.lst (D.str (SX.S cN) :: (lotL l).map fun w => D.str (SX.S w))) L = .ok (.str (SX.S (ln (lotW l)))) L := by
  obtain ⟨h1, h2⟩ := lotL_len h
  have g := gJoinS_S (a := [32]) (ls := cN :: lotL l) (k := 9) (fun w hw => by
    rcases List.mem_cons.mp hw with rfl | hw
    · decide
    · exact h1 w hw) (by rw [List.length_cons, List.length_singleton]; omega) L
  rw [List.map_cons] at g
  exact g
theorem lotT_len {l : List P2} (h : LotN l) : (ln (lotW l)).length ≤ 70 := by
  obtain ⟨h1, h2⟩ := lotL_len h
  have := joinL_len (s := [32]) (k := 9) (ps := lotW l) fun w hw => by
    rw [lotW_L] at hw
    rcases List.mem_cons.mp hw with rfl | hw
    · decide
    · exact h1 w hw
  rw [lotW_L, List.length_cons, List.length_singleton] at this
  unfold ln
  rw [lotW_L]
  omega
theorem rounds_join {ls : List (List P2)} (h : ∀ l ∈ ls, LotN l) (hl : ls.length ≤ 20) (L : Sto) : gJoinS (.str (SX.S [10])) (.lst (ls.map fun l => D.str (SX.S (ln (lotW l))))) L = .ok (.str (SX.S (tx (ls.map lotW)))) L := by
  have g := gJoinS_S (a := [10]) (ls := ls.map fun l => ln (lotW l)) (k := 70) (fun w hw => by
    obtain ⟨l, hl, rfl⟩ := List.mem_map.mp hw
    exact lotT_len (h l hl)) (by rw [List.length_map, List.length_singleton]; omega) L
  rw [List.map_map] at g
  have e : TL.joinL [10] (ls.map fun l => ln (lotW l)) = tx (ls.map lotW) := by
    unfold tx
    rw [List.map_map]
    rfl
  rw [e] at g
  exact g
theorem writeRounds_D {qs : List RQ4} {d : D} (hd : d = .tg (qs.map encQ) ∨ d = .tup (qs.map encQ)) (hne : qs ≠ []) (hq : ∀ q ∈ qs, LotN q.2) (hl : qs.length ≤ 20) (L : Sto) : m_write_rounds [d] L = .ok (.str (SX.S (tx ((qs.map Prod.snd).map lotW)))) L := by
  have kt : kit (.ok d L) = .ok ⟨qs.map encQ, []⟩ L := by rcases hd with rfl | rfl <;> rfl
  have c1 : C1_write_rounds [some d, none, none, none, none, none] L = .ok (.lst (qs.map fun _ => D.bl true)) L := by
    refine lc_map (box := false) qs encQ (fun _ => D.bl true) (src := []) (L1 := L) (by simp only [aA,aB,aC,aD,aE,aF,aG,aH,aI,aJ,aK,aL,aM,aN,aO,aP,aQ,aR,aS,aU,aV,aW,aX,aY,aZ,bA,bB,bC,bD,bE,bF,bG,bH,bI,bJ,bK,bL,bM,bN,bO,bQ,bR,bS,bT,bU,bV,bW,bX,bY,bZ,cA,cB,cC,cD,cE,cF,cG,cH,cI,cJ,cK,cL,cO,cP,cQ,cS,cU,cV,cX,cY,cZ,dA,dB,dC,dD,dE,dH,dI,dJ,dL,dM,dN,dO,dQ,dR,dS,dU,dW,dX,dY,dZ,eA,eB,eD,eE,eF,eG,eI,eJ,eK,eM,eN,eO,eP,eQ,eR,eS,eT,eU,eV,eW,eX,eY,eZ,fA,fB,fC,fD,fE,fF,fG,fH,fJ,fK,fM,fN,fO,fP,fQ,fR,fS,fT,fU,fV,fW,fX,fY,fZ,gA,gB,gC,gD,gE,gF,gG,gH,gI,gJ,gK,gL,gM,gN,gO,gQ,gR,gS,gT,gU,gV,gW,gX,gY,gZ,hA,hJ,hO,hQ,hU,hV,hZ,iA,iB,iC,iD,iE,iF,iG,iH,iI,iJ,iK,iL,iM,iN,iO,iP,iQ,iR,iS,iT,iU,iV,iW,iX,iY,iZ,jA,jB,jC,jD,jE,jF,jG,jH,jI,jJ,jK,jL,jM,jN,jO,jP,jQ,jR,jS,jT,jU,jV,jW,jX,jY,jZ,kA,kB,kC,kD,kE,kF,kG,kH,kJ,kK,kL,kM,kN,kO,kP,kQ,kR,kS,kU,kW,kX,kY,kZ,lA,lB,lC,lD,lE,lF,lG,lH,lI,lJ,lK,lL,lM,lN,lO,lP,lQ,lR,lS,lT,lU,lV,lW,lX,lY,lZ,mB,mC,mD,mE,mF,mG,mH,mI,mJ,mK,mL,mM,mN,mO,mP,mQ,mR,mS,mT,mU,mV,mW,mX,mY,mZ,nB,nD,nE,nG,nH,nI,nJ,nK,nM,nN,nO,nP,nQ,nR,nS,nU,nV,nW,nX,nY,nZ,oA,oB,oC,oE,oG,oH,oI,oJ,oK,oL,oM,oN,oO,oQ,oR,oS,oU,oV,oW,oX,oY,oZ,pA,pB,pC,pD,pE,pF,pG,pH,pI,pJ,pK,pL,pM,pN,pO,pP,pQ,pR,pS,pU,pV,pW,pX,pY,pZ,qA,qB,qC,qD,qE,qF,qG,qH,qI,qJ,qK,qL,qM,qN,qO,kt]) srcOk_nil (by omega) fun x hx => ?_
    simp only [aA,aB,aC,aD,aE,aF,aG,aH,aI,aJ,aK,aL,aM,aN,aO,aP,aQ,aR,aS,aU,aV,aW,aX,aY,aZ,bA,bB,bC,bD,bE,bF,bG,bH,bI,bJ,bK,bL,bM,bN,bO,bQ,bR,bS,bT,bU,bV,bW,bX,bY,bZ,cA,cB,cC,cD,cE,cF,cG,cH,cI,cJ,cK,cL,cO,cP,cQ,cS,cU,cV,cX,cY,cZ,dA,dB,dC,dD,dE,dH,dI,dJ,dL,dM,dN,dO,dQ,dR,dS,dU,dW,dX,dY,dZ,eA,eB,eD,eE,eF,eG,eI,eJ,eK,eM,eN,eO,eP,eQ,eR,eS,eT,eU,eV,eW,eX,eY,eZ,fA,fB,fC,fD,fE,fF,fG,fH,fJ,fK,fM,fN,fO,fP,fQ,fR,fS,fT,fU,fV,fW,fX,fY,fZ,gA,gB,gC,gD,gE,gF,gG,gH,gI,gJ,gK,gL,gM,gN,gO,gQ,gR,gS,gT,gU,gV,gW,gX,gY,gZ,hA,hJ,hO,hQ,hU,hV,hZ,iA,iB,iC,iD,iE,iF,iG,iH,iI,iJ,iK,iL,iM,iN,iO,iP,iQ,iR,iS,iT,iU,iV,iW,iX,iY,iZ,jA,jB,jC,jD,jE,jF,jG,jH,jI,jJ,jK,jL,jM,jN,jO,jP,jQ,jR,jS,jT,jU,jV,jW,jX,jY,jZ,kA,kB,kC,kD,kE,kF,kG,kH,kJ,kK,kL,kM,kN,kO,kP,kQ,kR,kS,kU,kW,kX,kY,kZ,lA,lB,lC,lD,lE,lF,lG,lH,lI,lJ,lK,lL,lM,lN,lO,lP,lQ,lR,lS,lT,lU,lV,lW,lX,lY,lZ,mB,mC,mD,mE,mF,mG,mH,mI,mJ,mK,mL,mM,mN,mO,mP,mQ,mR,mS,mT,mU,mV,mW,mX,mY,mZ,nB,nD,nE,nG,nH,nI,nJ,nK,nM,nN,nO,nP,nQ,nR,nS,nU,nV,nW,nX,nY,nZ,oA,oB,oC,oE,oG,oH,oI,oJ,oK,oL,oM,oN,oO,oQ,oR,oS,oU,oV,oW,oX,oY,oZ,pA,pB,pC,pD,pE,pF,pG,pH,pI,pJ,pK,pL,pM,pN,pO,pP,pQ,pR,pS,pU,pV,pW,pX,pY,pZ,qA,qB,qC,qD,qE,qF,qG,qH,qI,qJ,qK,qL,qM,qN,qO,isRound_ok (hq x hx)]
  have al : (qs.all fun _ => true) = true := List.all_eq_true.mpr fun _ _ => rfl
  have ga := gAll_map (L := L) qs fun _ => true
  rw [al] at ga
  have nt : ∀ M, newT [] M = .ok (.tup []) M := fun M => z_newT (show 0 ≤ 16777216 by decide)
  have c3 : C3_write_rounds [some d, none, none, none, none, none] L = .ok (.lst (qs.map fun q => wordsD (lotL q.2))) L := by
    refine lc_map (box := false) qs encQ _ (src := []) (L1 := L) (by simp only [aA,aB,aC,aD,aE,aF,aG,aH,aI,aJ,aK,aL,aM,aN,aO,aP,aQ,aR,aS,aU,aV,aW,aX,aY,aZ,bA,bB,bC,bD,bE,bF,bG,bH,bI,bJ,bK,bL,bM,bN,bO,bQ,bR,bS,bT,bU,bV,bW,bX,bY,bZ,cA,cB,cC,cD,cE,cF,cG,cH,cI,cJ,cK,cL,cO,cP,cQ,cS,cU,cV,cX,cY,cZ,dA,dB,dC,dD,dE,dH,dI,dJ,dL,dM,dN,dO,dQ,dR,dS,dU,dW,dX,dY,dZ,eA,eB,eD,eE,eF,eG,eI,eJ,eK,eM,eN,eO,eP,eQ,eR,eS,eT,eU,eV,eW,eX,eY,eZ,fA,fB,fC,fD,fE,fF,fG,fH,fJ,fK,fM,fN,fO,fP,fQ,fR,fS,fT,fU,fV,fW,fX,fY,fZ,gA,gB,gC,gD,gE,gF,gG,gH,gI,gJ,gK,gL,gM,gN,gO,gQ,gR,gS,gT,gU,gV,gW,gX,gY,gZ,hA,hJ,hO,hQ,hU,hV,hZ,iA,iB,iC,iD,iE,iF,iG,iH,iI,iJ,iK,iL,iM,iN,iO,iP,iQ,iR,iS,iT,iU,iV,iW,iX,iY,iZ,jA,jB,jC,jD,jE,jF,jG,jH,jI,jJ,jK,jL,jM,jN,jO,jP,jQ,jR,jS,jT,jU,jV,jW,jX,jY,jZ,kA,kB,kC,kD,kE,kF,kG,kH,kJ,kK,kL,kM,kN,kO,kP,kQ,kR,kS,kU,kW,kX,kY,kZ,lA,lB,lC,lD,lE,lF,lG,lH,lI,lJ,lK,lL,lM,lN,lO,lP,lQ,lR,lS,lT,lU,lV,lW,lX,lY,lZ,mB,mC,mD,mE,mF,mG,mH,mI,mJ,mK,mL,mM,mN,mO,mP,mQ,mR,mS,mT,mU,mV,mW,mX,mY,mZ,nB,nD,nE,nG,nH,nI,nJ,nK,nM,nN,nO,nP,nQ,nR,nS,nU,nV,nW,nX,nY,nZ,oA,oB,oC,oE,oG,oH,oI,oJ,oK,oL,oM,oN,oO,oQ,oR,oS,oU,oV,oW,oX,oY,oZ,pA,pB,pC,pD,pE,pF,pG,pH,pI,pJ,pK,pL,pM,pN,pO,pP,pQ,pR,pS,pU,pV,pW,pX,pY,pZ,qA,qB,qC,qD,qE,qF,qG,qH,qI,qJ,qK,qL,qM,qN,qO,kt]) srcOk_nil (by omega) fun q hx => ?_
    have h := hq q hx
    have c2 : C2_write_rounds [some d, none, some (encQ q), none, none, none] L = .ok (.lst (q.2.map fun t => D.str (SX.S (tieW t)))) L := by
      refine lc_map (box := false) q.2 pairD _ (src := []) (L1 := L) ?_ srcOk_nil (by have := h.len; omega) fun t ht => ?_
      · simp only [aA,aB,aC,aD,aE,aF,aG,aH,aI,aJ,aK,aL,aM,aN,aO,aP,aQ,aR,aS,aU,aV,aW,aX,aY,aZ,bA,bB,bC,bD,bE,bF,bG,bH,bI,bJ,bK,bL,bM,bN,bO,bQ,bR,bS,bT,bU,bV,bW,bX,bY,bZ,cA,cB,cC,cD,cE,cF,cG,cH,cI,cJ,cK,cL,cO,cP,cQ,cS,cU,cV,cX,cY,cZ,dA,dB,dC,dD,dE,dH,dI,dJ,dL,dM,dN,dO,dQ,dR,dS,dU,dW,dX,dY,dZ,eA,eB,eD,eE,eF,eG,eI,eJ,eK,eM,eN,eO,eP,eQ,eR,eS,eT,eU,eV,eW,eX,eY,eZ,fA,fB,fC,fD,fE,fF,fG,fH,fJ,fK,fM,fN,fO,fP,fQ,fR,fS,fT,fU,fV,fW,fX,fY,fZ,gA,gB,gC,gD,gE,gF,gG,gH,gI,gJ,gK,gL,gM,gN,gO,gQ,gR,gS,gT,gU,gV,gW,gX,gY,gZ,hA,hJ,hO,hQ,hU,hV,hZ,iA,iB,iC,iD,iE,iF,iG,iH,iI,iJ,iK,iL,iM,iN,iO,iP,iQ,iR,iS,iT,iU,iV,iW,iX,iY,iZ,jA,jB,jC,jD,jE,jF,jG,jH,jI,jJ,jK,jL,jM,jN,jO,jP,jQ,jR,jS,jT,jU,jV,jW,jX,jY,jZ,kA,kB,kC,kD,kE,kF,kG,kH,kJ,kK,kL,kM,kN,kO,kP,kQ,kR,kS,kU,kW,kX,kY,kZ,lA,lB,lC,lD,lE,lF,lG,lH,lI,lJ,lK,lL,lM,lN,lO,lP,lQ,lR,lS,lT,lU,lV,lW,lX,lY,lZ,mB,mC,mD,mE,mF,mG,mH,mI,mJ,mK,mL,mM,mN,mO,mP,mQ,mR,mS,mT,mU,mV,mW,mX,mY,mZ,nB,nD,nE,nG,nH,nI,nJ,nK,nM,nN,nO,nP,nQ,nR,nS,nU,nV,nW,nX,nY,nZ,oA,oB,oC,oE,oG,oH,oI,oJ,oK,oL,oM,oN,oO,oQ,oR,oS,oU,oV,oW,oX,oY,oZ,pA,pB,pC,pD,pE,pF,pG,pH,pI,pJ,pK,pL,pM,pN,pO,pP,pQ,pR,pS,pU,pV,pW,pX,pY,pZ,qA,qB,qC,qD,qE,qF,qG,qH,qI,qJ,qK,qL,qM,qN,qO,kit_Q]
      · have hn := (h.inn t ht).1
        have l1 := nu_len hn.1.1 hn.1.2
        have l2 := nu_len hn.2.1 hn.2.2
        have f3 : ∀ ρ : Env', eC (.str "-") ρ L = .ok (.str (SX.S [45])) L := fun ρ => by rw [← s_da]; rfl
        refine (jn3 (a := nu t.1) ?_ (f3 _) (c := nu t.2) ?_ ?_).trans ?_
        · exact gFmt_nu hn.1.1 hn.1.2
        · exact gFmt_nu hn.2.1 hn.2.2
        · show _ + 1 + _ ≤ _
          omega
        · rfl
    by_cases e : q.2 = []
    · have d1 : decide (q.2 = []) = true := decide_eq_true e
      have : lotL q.2 = [[45]] := if_pos e
      simp only [aA,aB,aC,aD,aE,aF,aG,aH,aI,aJ,aK,aL,aM,aN,aO,aP,aQ,aR,aS,aU,aV,aW,aX,aY,aZ,bA,bB,bC,bD,bE,bF,bG,bH,bI,bJ,bK,bL,bM,bN,bO,bQ,bR,bS,bT,bU,bV,bW,bX,bY,bZ,cA,cB,cC,cD,cE,cF,cG,cH,cI,cJ,cK,cL,cO,cP,cQ,cS,cU,cV,cX,cY,cZ,dA,dB,dC,dD,dE,dH,dI,dJ,dL,dM,dN,dO,dQ,dR,dS,dU,dW,dX,dY,dZ,eA,eB,eD,eE,eF,eG,eI,eJ,eK,eM,eN,eO,eP,eQ,eR,eS,eT,eU,eV,eW,eX,eY,eZ,fA,fB,fC,fD,fE,fF,fG,fH,fJ,fK,fM,fN,fO,fP,fQ,fR,fS,fT,fU,fV,fW,fX,fY,fZ,gA,gB,gC,gD,gE,gF,gG,gH,gI,gJ,gK,gL,gM,gN,gO,gQ,gR,gS,gT,gU,gV,gW,gX,gY,gZ,hA,hJ,hO,hQ,hU,hV,hZ,iA,iB,iC,iD,iE,iF,iG,iH,iI,iJ,iK,iL,iM,iN,iO,iP,iQ,iR,iS,iT,iU,iV,iW,iX,iY,iZ,jA,jB,jC,jD,jE,jF,jG,jH,jI,jJ,jK,jL,jM,jN,jO,jP,jQ,jR,jS,jT,jU,jV,jW,jX,jY,jZ,kA,kB,kC,kD,kE,kF,kG,kH,kJ,kK,kL,kM,kN,kO,kP,kQ,kR,kS,kU,kW,kX,kY,kZ,lA,lB,lC,lD,lE,lF,lG,lH,lI,lJ,lK,lL,lM,lN,lO,lP,lQ,lR,lS,lT,lU,lV,lW,lX,lY,lZ,mB,mC,mD,mE,mF,mG,mH,mI,mJ,mK,mL,mM,mN,mO,mP,mQ,mR,mS,mT,mU,mV,mW,mX,mY,mZ,nB,nD,nE,nG,nH,nI,nJ,nK,nM,nN,nO,nP,nQ,nR,nS,nU,nV,nW,nX,nY,nZ,oA,oB,oC,oE,oG,oH,oI,oJ,oK,oL,oM,oN,oO,oQ,oR,oS,oU,oV,oW,oX,oY,oZ,pA,pB,pC,pD,pE,pF,pG,pH,pI,pJ,pK,pL,pM,pN,pO,pP,pQ,pR,pS,pU,pV,pW,pX,pY,pZ,qA,qB,qC,qD,qE,qF,qG,qH,qI,qJ,qK,qL,qM,qN,qO,nt,ne_Q,d1,Bool.not_true,Bool.false_eq_true,if_false,this,s_da,wordsD,List.map_cons,List.map_nil]
    · have d1 : decide (q.2 = []) = false := decide_eq_false e
      have : lotL q.2 = q.2.map tieW := if_neg e
      simp only [aA,aB,aC,aD,aE,aF,aG,aH,aI,aJ,aK,aL,aM,aN,aO,aP,aQ,aR,aS,aU,aV,aW,aX,aY,aZ,bA,bB,bC,bD,bE,bF,bG,bH,bI,bJ,bK,bL,bM,bN,bO,bQ,bR,bS,bT,bU,bV,bW,bX,bY,bZ,cA,cB,cC,cD,cE,cF,cG,cH,cI,cJ,cK,cL,cO,cP,cQ,cS,cU,cV,cX,cY,cZ,dA,dB,dC,dD,dE,dH,dI,dJ,dL,dM,dN,dO,dQ,dR,dS,dU,dW,dX,dY,dZ,eA,eB,eD,eE,eF,eG,eI,eJ,eK,eM,eN,eO,eP,eQ,eR,eS,eT,eU,eV,eW,eX,eY,eZ,fA,fB,fC,fD,fE,fF,fG,fH,fJ,fK,fM,fN,fO,fP,fQ,fR,fS,fT,fU,fV,fW,fX,fY,fZ,gA,gB,gC,gD,gE,gF,gG,gH,gI,gJ,gK,gL,gM,gN,gO,gQ,gR,gS,gT,gU,gV,gW,gX,gY,gZ,hA,hJ,hO,hQ,hU,hV,hZ,iA,iB,iC,iD,iE,iF,iG,iH,iI,iJ,iK,iL,iM,iN,iO,iP,iQ,iR,iS,iT,iU,iV,iW,iX,iY,iZ,jA,jB,jC,jD,jE,jF,jG,jH,jI,jJ,jK,jL,jM,jN,jO,jP,jQ,jR,jS,jT,jU,jV,jW,jX,jY,jZ,kA,kB,kC,kD,kE,kF,kG,kH,kJ,kK,kL,kM,kN,kO,kP,kQ,kR,kS,kU,kW,kX,kY,kZ,lA,lB,lC,lD,lE,lF,lG,lH,lI,lJ,lK,lL,lM,lN,lO,lP,lQ,lR,lS,lT,lU,lV,lW,lX,lY,lZ,mB,mC,mD,mE,mF,mG,mH,mI,mJ,mK,mL,mM,mN,mO,mP,mQ,mR,mS,mT,mU,mV,mW,mX,mY,mZ,nB,nD,nE,nG,nH,nI,nJ,nK,nM,nN,nO,nP,nQ,nR,nS,nU,nV,nW,nX,nY,nZ,oA,oB,oC,oE,oG,oH,oI,oJ,oK,oL,oM,oN,oO,oQ,oR,oS,oU,oV,oW,oX,oY,oZ,pA,pB,pC,pD,pE,pF,pG,pH,pI,pJ,pK,pL,pM,pN,pO,pP,pQ,pR,pS,pU,pV,pW,pX,pY,pZ,qA,qB,qC,qD,qE,qF,qG,qH,qI,qJ,qK,qL,qM,qN,qO,nt,ne_Q,d1,Bool.not_false,if_true,c2,this,wordsD,List.map_map]
      rfl
  have c4 : C4_write_rounds [some d, some (.lst (qs.map fun q => wordsD (lotL q.2))), none, none, none, none] L = .ok (.lst (qs.map fun q => D.str (SX.S (ln (lotW q.2))))) L := by
    refine lc_map (box := false) qs (fun q => wordsD (lotL q.2)) _ (src := []) (L1 := L) ?_ srcOk_nil (by omega) fun q hx => ?_
    · simp only [aA,aB,aC,aD,aE,aF,aG,aH,aI,aJ,aK,aL,aM,aN,aO,aP,aQ,aR,aS,aU,aV,aW,aX,aY,aZ,bA,bB,bC,bD,bE,bF,bG,bH,bI,bJ,bK,bL,bM,bN,bO,bQ,bR,bS,bT,bU,bV,bW,bX,bY,bZ,cA,cB,cC,cD,cE,cF,cG,cH,cI,cJ,cK,cL,cO,cP,cQ,cS,cU,cV,cX,cY,cZ,dA,dB,dC,dD,dE,dH,dI,dJ,dL,dM,dN,dO,dQ,dR,dS,dU,dW,dX,dY,dZ,eA,eB,eD,eE,eF,eG,eI,eJ,eK,eM,eN,eO,eP,eQ,eR,eS,eT,eU,eV,eW,eX,eY,eZ,fA,fB,fC,fD,fE,fF,fG,fH,fJ,fK,fM,fN,fO,fP,fQ,fR,fS,fT,fU,fV,fW,fX,fY,fZ,gA,gB,gC,gD,gE,gF,gG,gH,gI,gJ,gK,gL,gM,gN,gO,gQ,gR,gS,gT,gU,gV,gW,gX,gY,gZ,hA,hJ,hO,hQ,hU,hV,hZ,iA,iB,iC,iD,iE,iF,iG,iH,iI,iJ,iK,iL,iM,iN,iO,iP,iQ,iR,iS,iT,iU,iV,iW,iX,iY,iZ,jA,jB,jC,jD,jE,jF,jG,jH,jI,jJ,jK,jL,jM,jN,jO,jP,jQ,jR,jS,jT,jU,jV,jW,jX,jY,jZ,kA,kB,kC,kD,kE,kF,kG,kH,kJ,kK,kL,kM,kN,kO,kP,kQ,kR,kS,kU,kW,kX,kY,kZ,lA,lB,lC,lD,lE,lF,lG,lH,lI,lJ,lK,lL,lM,lN,lO,lP,lQ,lR,lS,lT,lU,lV,lW,lX,lY,lZ,mB,mC,mD,mE,mF,mG,mH,mI,mJ,mK,mL,mM,mN,mO,mP,mQ,mR,mS,mT,mU,mV,mW,mX,mY,mZ,nB,nD,nE,nG,nH,nI,nJ,nK,nM,nN,nO,nP,nQ,nR,nS,nU,nV,nW,nX,nY,nZ,oA,oB,oC,oE,oG,oH,oI,oJ,oK,oL,oM,oN,oO,oQ,oR,oS,oU,oV,oW,oX,oY,oZ,pA,pB,pC,pD,pE,pF,pG,pH,pI,pJ,pK,pL,pM,pN,pO,pP,pQ,pR,pS,pU,pV,pW,pX,pY,pZ,qA,qB,qC,qD,qE,qF,qG,qH,qI,qJ,qK,qL,qM,qN,qO]
    · have g := lot_join (hq q hx) L
      have h6 := (lotL_len (hq q hx)).2
      have kl := y_klst (L := L) (ds := D.str (SX.S cN) :: (lotL q.2).map fun w => D.str (SX.S w)) (by rw [List.length_cons, List.length_map]; omega)
      simp only [aA,aB,aC,aD,aE,aF,aG,aH,aI,aJ,aK,aL,aM,aN,aO,aP,aQ,aR,aS,aU,aV,aW,aX,aY,aZ,bA,bB,bC,bD,bE,bF,bG,bH,bI,bJ,bK,bL,bM,bN,bO,bQ,bR,bS,bT,bU,bV,bW,bX,bY,bZ,cA,cB,cC,cD,cE,cF,cG,cH,cI,cJ,cK,cL,cO,cP,cQ,cS,cU,cV,cX,cY,cZ,dA,dB,dC,dD,dE,dH,dI,dJ,dL,dM,dN,dO,dQ,dR,dS,dU,dW,dX,dY,dZ,eA,eB,eD,eE,eF,eG,eI,eJ,eK,eM,eN,eO,eP,eQ,eR,eS,eT,eU,eV,eW,eX,eY,eZ,fA,fB,fC,fD,fE,fF,fG,fH,fJ,fK,fM,fN,fO,fP,fQ,fR,fS,fT,fU,fV,fW,fX,fY,fZ,gA,gB,gC,gD,gE,gF,gG,gH,gI,gJ,gK,gL,gM,gN,gO,gQ,gR,gS,gT,gU,gV,gW,gX,gY,gZ,hA,hJ,hO,hQ,hU,hV,hZ,iA,iB,iC,iD,iE,iF,iG,iH,iI,iJ,iK,iL,iM,iN,iO,iP,iQ,iR,iS,iT,iU,iV,iW,iX,iY,iZ,jA,jB,jC,jD,jE,jF,jG,jH,jI,jJ,jK,jL,jM,jN,jO,jP,jQ,jR,jS,jT,jU,jV,jW,jX,jY,jZ,kA,kB,kC,kD,kE,kF,kG,kH,kJ,kK,kL,kM,kN,kO,kP,kQ,kR,kS,kU,kW,kX,kY,kZ,lA,lB,lC,lD,lE,lF,lG,lH,lI,lJ,lK,lL,lM,lN,lO,lP,lQ,lR,lS,lT,lU,lV,lW,lX,lY,lZ,mB,mC,mD,mE,mF,mG,mH,mI,mJ,mK,mL,mM,mN,mO,mP,mQ,mR,mS,mT,mU,mV,mW,mX,mY,mZ,nB,nD,nE,nG,nH,nI,nJ,nK,nM,nN,nO,nP,nQ,nR,nS,nU,nV,nW,nX,nY,nZ,oA,oB,oC,oE,oG,oH,oI,oJ,oK,oL,oM,oN,oO,oQ,oR,oS,oU,oV,oW,oX,oY,oZ,pA,pB,pC,pD,pE,pF,pG,pH,pI,pJ,pK,pL,pM,pN,pO,pP,pQ,pR,pS,pU,pV,pW,pX,pY,pZ,qA,qB,qC,qD,qE,qF,qG,qH,qI,qJ,qK,qL,qM,qN,qO,y_m1,y_km0,s_bk]
      simp only [dI,aI,aJ,aK,y_star,y_kast,kl,y_km1,s_N,dD,wordsD,g,aA,aB,aC,aD,aE,aF,aG,aH,aI,aJ,aK,aL,aM,aN,aO,aP,aQ,aR,aS,aU,aV,aW,aX,aY,aZ,bA,bB,bC,bD,bE,bF,bG,bH,bI,bJ,bK,bL,bM,bN,bO,bQ,bR,bS,bT,bU,bV,bW,bX,bY,bZ,cA,cB,cC,cD,cE,cF,cG,cH,cI,cJ,cK,cL,cO,cP,cQ,cS,cU,cV,cX,cY,cZ,dA,dB,dC,dD,dE,dH,dI,dJ,dL,dM,dN,dO,dQ,dR,dS,dU,dW,dX,dY,dZ,eA,eB,eD,eE,eF,eG,eI,eJ,eK,eM,eN,eO,eP,eQ,eR,eS,eT,eU,eV,eW,eX,eY,eZ,fA,fB,fC,fD,fE,fF,fG,fH,fJ,fK,fM,fN,fO,fP,fQ,fR,fS,fT,fU,fV,fW,fX,fY,fZ,gA,gB,gC,gD,gE,gF,gG,gH,gI,gJ,gK,gL,gM,gN,gO,gQ,gR,gS,gT,gU,gV,gW,gX,gY,gZ,hA,hJ,hO,hQ,hU,hV,hZ,iA,iB,iC,iD,iE,iF,iG,iH,iI,iJ,iK,iL,iM,iN,iO,iP,iQ,iR,iS,iT,iU,iV,iW,iX,iY,iZ,jA,jB,jC,jD,jE,jF,jG,jH,jI,jJ,jK,jL,jM,jN,jO,jP,jQ,jR,jS,jT,jU,jV,jW,jX,jY,jZ,kA,kB,kC,kD,kE,kF,kG,kH,kJ,kK,kL,kM,kN,kO,kP,kQ,kR,kS,kU,kW,kX,kY,kZ,lA,lB,lC,lD,lE,lF,lG,lH,lI,lJ,lK,lL,lM,lN,lO,lP,lQ,lR,lS,lT,lU,lV,lW,lX,lY,lZ,mB,mC,mD,mE,mF,mG,mH,mI,mJ,mK,mL,mM,mN,mO,mP,mQ,mR,mS,mT,mU,mV,mW,mX,mY,mZ,nB,nD,nE,nG,nH,nI,nJ,nK,nM,nN,nO,nP,nQ,nR,nS,nU,nV,nW,nX,nY,nZ,oA,oB,oC,oE,oG,oH,oI,oJ,oK,oL,oM,oN,oO,oQ,oR,oS,oU,oV,oW,oX,oY,oZ,pA,pB,pC,pD,pE,pF,pG,pH,pI,pJ,pK,pL,pM,pN,pO,pP,pQ,pR,pS,pU,pV,pW,pX,pY,pZ,qA,qB,qC,qD,qE,qF,qG,qH,qI,qJ,qK,qL,qM,qN,qO]
  have e : gEq d (.tup []) L = .ok (.bl false) L := by
    obtain ⟨q, qs', rfl⟩ := List.exists_cons_of_ne_nil hne
    have o1 : okDL 59 ((q :: qs').map encQ) = true := okDL_of fun d hd => by
      obtain ⟨p, _, rfl⟩ := List.mem_map.mp hd
      rcases encQ_or p with e | e <;> rw [e, okD] <;> exact okDL_prs _ _
    rcases hd with rfl | rfl
    · rw [gEq_ev (by rw [seen_tg, okD]; exact o1) (by rw [seen_tup, okD, okDL]), seen_tg, seen_tup, eqD]
      rfl
    · rw [gEq_ev (by rw [seen_tup, okD]; exact o1) (by rw [seen_tup, okD, okDL]), seen_tup, seen_tup, eqD]
      rfl
  have t' : gIsiK owns .tup d L = .ok (.bl true) L := by rcases hd with rfl | rfl <;> rfl
  have g := rounds_join (ls := qs.map Prod.snd) (fun l hl => by
    obtain ⟨q, hx, rfl⟩ := List.mem_map.mp hl
    exact hq q hx) (by rw [List.length_map]; exact hl) L
  rw [List.map_map] at g
  have g' : gJoinS (.str (SX.S [10])) (.lst (qs.map fun q => D.str (SX.S (ln (lotW q.2))))) L = .ok (.str (SX.S (tx ((qs.map Prod.snd).map lotW)))) L := g
  simp only [u_write_rounds,F_write_rounds,aA,aB,aC,aD,aE,aF,aG,aH,aI,aJ,aK,aL,aM,aN,aO,aP,aQ,aR,aS,aU,aV,aW,aX,aY,aZ,bA,bB,bC,bD,bE,bF,bG,bH,bI,bJ,bK,bL,bM,bN,bO,bQ,bR,bS,bT,bU,bV,bW,bX,bY,bZ,cA,cB,cC,cD,cE,cF,cG,cH,cI,cJ,cK,cL,cO,cP,cQ,cS,cU,cV,cX,cY,cZ,dA,dB,dC,dD,dE,dH,dI,dJ,dL,dM,dN,dO,dQ,dR,dS,dU,dW,dX,dY,dZ,eA,eB,eD,eE,eF,eG,eI,eJ,eK,eM,eN,eO,eP,eQ,eR,eS,eT,eU,eV,eW,eX,eY,eZ,fA,fB,fC,fD,fE,fF,fG,fH,fJ,fK,fM,fN,fO,fP,fQ,fR,fS,fT,fU,fV,fW,fX,fY,fZ,gA,gB,gC,gD,gE,gF,gG,gH,gI,gJ,gK,gL,gM,gN,gO,gQ,gR,gS,gT,gU,gV,gW,gX,gY,gZ,hA,hJ,hO,hQ,hU,hV,hZ,iA,iB,iC,iD,iE,iF,iG,iH,iI,iJ,iK,iL,iM,iN,iO,iP,iQ,iR,iS,iT,iU,iV,iW,iX,iY,iZ,jA,jB,jC,jD,jE,jF,jG,jH,jI,jJ,jK,jL,jM,jN,jO,jP,jQ,jR,jS,jT,jU,jV,jW,jX,jY,jZ,kA,kB,kC,kD,kE,kF,kG,kH,kJ,kK,kL,kM,kN,kO,kP,kQ,kR,kS,kU,kW,kX,kY,kZ,lA,lB,lC,lD,lE,lF,lG,lH,lI,lJ,lK,lL,lM,lN,lO,lP,lQ,lR,lS,lT,lU,lV,lW,lX,lY,lZ,mB,mC,mD,mE,mF,mG,mH,mI,mJ,mK,mL,mM,mN,mO,mP,mQ,mR,mS,mT,mU,mV,mW,mX,mY,mZ,nB,nD,nE,nG,nH,nI,nJ,nK,nM,nN,nO,nP,nQ,nR,nS,nU,nV,nW,nX,nY,nZ,oA,oB,oC,oE,oG,oH,oI,oJ,oK,oL,oM,oN,oO,oQ,oR,oS,oU,oV,oW,oX,oY,oZ,pA,pB,pC,pD,pE,pF,pG,pH,pI,pJ,pK,pL,pM,pN,pO,pP,pQ,pR,pS,pU,pV,pW,pX,pY,pZ,qA,qB,qC,qD,qE,qF,qG,qH,qI,qJ,qK,qL,qM,qN,qO,t',e,nt,c1,ga,Bool.not_true,Bool.false_eq_true,if_false,c3,y_m1,y_km0,y_km1,s_nl,c4,g']
section
variable {act : Sto → Res D} {L L1 : Sto} {d : D} {p : List (Str × D)} {s : Str}
theorem met_ok (h : act L = .ok d L1) : m_l_met act L = .ok (.str "fine") L1 := by
  unfold m_l_met mMet
  rw [h]
theorem met_web (h : act L = .err "InvalidWeb" p L1) : m_l_met act L = .ok (.str "web") L1 := by
  unfold m_l_met mMet
  rw [h]
  rfl
theorem met_row (h : act L = .err "InvalidRow" p L1) : m_l_met act L = .ok (.str "row") L1 := by
  unfold m_l_met mMet
  rw [h]
  rfl
theorem met_op (h : act L = .err "InvalidOperation" p L1) : m_l_met act L = .ok (.str "operation") L1 := by
  unfold m_l_met mMet
  rw [h]
  rfl
end
structure NotInt (lo hi : Int) (d : D) : Prop where
  no : ∀ L, m_is_integer [d, .int lo, .int hi] L = .ok (.bl false) L
  bel : ∀ n, d.bel n = true
section
variable {d : D} {lo hi : Int} {L : Sto}
theorem sInt_in {i : Int} : m_is_integer [.int i, .int lo, .non] L = .ok (.bl (decide (lo ≤ i))) L := by
  by_cases h : i < lo
  · have h2 : ¬ lo ≤ i := by omega
    simp only [u_is_integer,F_is_integer,aA,aB,aC,aD,aE,aF,aG,aH,aI,aJ,aK,aL,aM,aN,aO,aP,aQ,aR,aS,aU,aV,aW,aX,aY,aZ,bA,bB,bC,bD,bE,bF,bG,bH,bI,bJ,bK,bL,bM,bN,bO,bQ,bR,bS,bT,bU,bV,bW,bX,bY,bZ,cA,cB,cC,cD,cE,cF,cG,cH,cI,cJ,cK,cL,cO,cP,cQ,cS,cU,cV,cX,cY,cZ,dA,dB,dC,dD,dE,dH,dI,dJ,dL,dM,dN,dO,dQ,dR,dS,dU,dW,dX,dY,dZ,eA,eB,eD,eE,eF,eG,eI,eJ,eK,eM,eN,eO,eP,eQ,eR,eS,eT,eU,eV,eW,eX,eY,eZ,fA,fB,fC,fD,fE,fF,fG,fH,fJ,fK,fM,fN,fO,fP,fQ,fR,fS,fT,fU,fV,fW,fX,fY,fZ,gA,gB,gC,gD,gE,gF,gG,gH,gI,gJ,gK,gL,gM,gN,gO,gQ,gR,gS,gT,gU,gV,gW,gX,gY,gZ,hA,hJ,hO,hQ,hU,hV,hZ,iA,iB,iC,iD,iE,iF,iG,iH,iI,iJ,iK,iL,iM,iN,iO,iP,iQ,iR,iS,iT,iU,iV,iW,iX,iY,iZ,jA,jB,jC,jD,jE,jF,jG,jH,jI,jJ,jK,jL,jM,jN,jO,jP,jQ,jR,jS,jT,jU,jV,jW,jX,jY,jZ,kA,kB,kC,kD,kE,kF,kG,kH,kJ,kK,kL,kM,kN,kO,kP,kQ,kR,kS,kU,kW,kX,kY,kZ,lA,lB,lC,lD,lE,lF,lG,lH,lI,lJ,lK,lL,lM,lN,lO,lP,lQ,lR,lS,lT,lU,lV,lW,lX,lY,lZ,mB,mC,mD,mE,mF,mG,mH,mI,mJ,mK,mL,mM,mN,mO,mP,mQ,mR,mS,mT,mU,mV,mW,mX,mY,mZ,nB,nD,nE,nG,nH,nI,nJ,nK,nM,nN,nO,nP,nQ,nR,nS,nU,nV,nW,nX,nY,nZ,oA,oB,oC,oE,oG,oH,oI,oJ,oK,oL,oM,oN,oO,oQ,oR,oS,oU,oV,oW,oX,oY,oZ,pA,pB,pC,pD,pE,pF,pG,pH,pI,pJ,pK,pL,pM,pN,pO,pP,pQ,pR,pS,pU,pV,pW,pX,pY,pZ,qA,qB,qC,qD,qE,qF,qG,qH,qI,qJ,qK,qL,qM,qN,qO,qP,qQ,qR,qS,qT,qU,qV,qW,qX,qY,qZ,rA,rB,rC,rD,rE,rF,rG,rH,rJ,rK,rL,rM,rN,rO,rP,rQ,rR,rS,rT,rV,rW,rX,rY,rZ,sA,sD,sE,sF,sG,sH,sJ,sK,sL,sM,sN,sO,sP,sQ,kG,kF,kK,sR,sS,sT,sU,kF,h,h2,decide_true,decide_false,Bool.not_true,Bool.false_eq_true,if_false,if_true]
  · have h2 : lo ≤ i := by omega
    have nn : ∀ L, gIsN .non .non L = .ok (.bl true) L := fun _ => rfl
    simp only [u_is_integer,F_is_integer,aA,aB,aC,aD,aE,aF,aG,aH,aI,aJ,aK,aL,aM,aN,aO,aP,aQ,aR,aS,aU,aV,aW,aX,aY,aZ,bA,bB,bC,bD,bE,bF,bG,bH,bI,bJ,bK,bL,bM,bN,bO,bQ,bR,bS,bT,bU,bV,bW,bX,bY,bZ,cA,cB,cC,cD,cE,cF,cG,cH,cI,cJ,cK,cL,cO,cP,cQ,cS,cU,cV,cX,cY,cZ,dA,dB,dC,dD,dE,dH,dI,dJ,dL,dM,dN,dO,dQ,dR,dS,dU,dW,dX,dY,dZ,eA,eB,eD,eE,eF,eG,eI,eJ,eK,eM,eN,eO,eP,eQ,eR,eS,eT,eU,eV,eW,eX,eY,eZ,fA,fB,fC,fD,fE,fF,fG,fH,fJ,fK,fM,fN,fO,fP,fQ,fR,fS,fT,fU,fV,fW,fX,fY,fZ,gA,gB,gC,gD,gE,gF,gG,gH,gI,gJ,gK,gL,gM,gN,gO,gQ,gR,gS,gT,gU,gV,gW,gX,gY,gZ,hA,hJ,hO,hQ,hU,hV,hZ,iA,iB,iC,iD,iE,iF,iG,iH,iI,iJ,iK,iL,iM,iN,iO,iP,iQ,iR,iS,iT,iU,iV,iW,iX,iY,iZ,jA,jB,jC,jD,jE,jF,jG,jH,jI,jJ,jK,jL,jM,jN,jO,jP,jQ,jR,jS,jT,jU,jV,jW,jX,jY,jZ,kA,kB,kC,kD,kE,kF,kG,kH,kJ,kK,kL,kM,kN,kO,kP,kQ,kR,kS,kU,kW,kX,kY,kZ,lA,lB,lC,lD,lE,lF,lG,lH,lI,lJ,lK,lL,lM,lN,lO,lP,lQ,lR,lS,lT,lU,lV,lW,lX,lY,lZ,mB,mC,mD,mE,mF,mG,mH,mI,mJ,mK,mL,mM,mN,mO,mP,mQ,mR,mS,mT,mU,mV,mW,mX,mY,mZ,nB,nD,nE,nG,nH,nI,nJ,nK,nM,nN,nO,nP,nQ,nR,nS,nU,nV,nW,nX,nY,nZ,oA,oB,oC,oE,oG,oH,oI,oJ,oK,oL,oM,oN,oO,oQ,oR,oS,oU,oV,oW,oX,oY,oZ,pA,pB,pC,pD,pE,pF,pG,pH,pI,pJ,pK,pL,pM,pN,pO,pP,pQ,pR,pS,pU,pV,pW,pX,pY,pZ,qA,qB,qC,qD,qE,qF,qG,qH,qI,qJ,qK,qL,qM,qN,qO,qP,qQ,qR,qS,qT,qU,qV,qW,qX,qY,qZ,rA,rB,rC,rD,rE,rF,rG,rH,rJ,rK,rL,rM,rN,rO,rP,rQ,rR,rS,rT,rV,rW,rX,rY,rZ,sA,sD,sE,sF,sG,sH,sJ,sK,sL,sM,sN,sO,sP,sQ,kG,kF,kK,sR,sS,sT,sU,kF,kG,nn,h,h2,decide_true,decide_false,Bool.not_true,Bool.false_eq_true,if_false,if_true]
end
def Ext (n : Nat) (L M : Sto) : Prop := ∃ X tl, M = X ++ tl ∧ Nxt n L X
theorem Ext.of {n : Nat} {L M : Sto} (h : Nxt n L M) : Ext n L M := ⟨M, [], (List.append_nil _).symm, h⟩
theorem Ext.drop {n : Nat} {L M : Sto} (hd : Dc n L) (h : Ext n L M) (b : Bool) : ∃ L', dropR L (.ok (.bl b) M) = .ok (.bl b) L' ∧ Nxt n L L' ∧ Dc n L' := by
  obtain ⟨X, t, rfl, x⟩ := h
  refine ⟨X, ?_, x, x.dc hd⟩
  refine (drop_val (nxt_take x _) rfl).trans ?_
  rw [← nxt_len x, List.take_left]
structure Tp (d : D) (xs : List D) : Prop where
  t : ∀ L, gIsiK owns .tup d L = .ok (.bl true) L
  l : ∀ L, gLen [d] L = .ok (.int (xs.length : Nat)) L
  s : ∀ L, kit (.ok d L) = .ok ⟨xs, []⟩ L
structure NotWeb (d : D) : Prop where
  no : ∀ L, gIsiO owns "Web" d L = .ok (.bl false) L
section
variable {W : Wb} {d e f : D} {h lo hi : Int} {L : Sto}
theorem rWeb_no (h : NotWeb d) : m_require_web [d] L = .err "InvalidWeb" [] L := by
  simp only [u_require_web,F_require_web,aA,aB,aC,aD,aE,aF,aG,aH,aI,aJ,aK,aL,aM,aN,aO,aP,aQ,aR,aS,aU,aV,aW,aX,aY,aZ,bA,bB,bC,bD,bE,bF,bG,bH,bI,bJ,bK,bL,bM,bN,bO,bQ,bR,bS,bT,bU,bV,bW,bX,bY,bZ,cA,cB,cC,cD,cE,cF,cG,cH,cI,cJ,cK,cL,cO,cP,cQ,cS,cU,cV,cX,cY,cZ,dA,dB,dC,dD,dE,dH,dI,dJ,dL,dM,dN,dO,dQ,dR,dS,dU,dW,dX,dY,dZ,eA,eB,eD,eE,eF,eG,eI,eJ,eK,eM,eN,eO,eP,eQ,eR,eS,eT,eU,eV,eW,eX,eY,eZ,fA,fB,fC,fD,fE,fF,fG,fH,fJ,fK,fM,fN,fO,fP,fQ,fR,fS,fT,fU,fV,fW,fX,fY,fZ,gA,gB,gC,gD,gE,gF,gG,gH,gI,gJ,gK,gL,gM,gN,gO,gQ,gR,gS,gT,gU,gV,gW,gX,gY,gZ,hA,hJ,hO,hQ,hU,hV,hZ,iA,iB,iC,iD,iE,iF,iG,iH,iI,iJ,iK,iL,iM,iN,iO,iP,iQ,iR,iS,iT,iU,iV,iW,iX,iY,iZ,jA,jB,jC,jD,jE,jF,jG,jH,jI,jJ,jK,jL,jM,jN,jO,jP,jQ,jR,jS,jT,jU,jV,jW,jX,jY,jZ,kA,kB,kC,kD,kE,kF,kG,kH,kJ,kK,kL,kM,kN,kO,kP,kQ,kR,kS,kU,kW,kX,kY,kZ,lA,lB,lC,lD,lE,lF,lG,lH,lI,lJ,lK,lL,lM,lN,lO,lP,lQ,lR,lS,lT,lU,lV,lW,lX,lY,lZ,mB,mC,mD,mE,mF,mG,mH,mI,mJ,mK,mL,mM,mN,mO,mP,mQ,mR,mS,mT,mU,mV,mW,mX,mY,mZ,nB,nD,nE,nG,nH,nI,nJ,nK,nM,nN,nO,nP,nQ,nR,nS,nU,nV,nW,nX,nY,nZ,oA,oB,oC,oE,oG,oH,oI,oJ,oK,oL,oM,oN,oO,oQ,oR,oS,oU,oV,oW,oX,oY,oZ,pA,pB,pC,pD,pE,pF,pG,pH,pI,pJ,pK,pL,pM,pN,pO,pP,pQ,pR,pS,pU,pV,pW,pX,pY,pZ,qA,qB,qC,qD,qE,qF,qG,qH,qI,qJ,qK,qL,qM,qN,qO,qP,qQ,qR,qS,qT,qU,qV,qW,qX,qY,qZ,rA,rB,rC,rD,rE,rF,rG,rH,rJ,rK,rL,rM,rN,rO,rP,rQ,rR,rS,rT,rV,rW,rX,rY,rZ,sA,sD,sE,sF,sG,sH,sJ,sK,sL,sM,sN,sO,sP,sQ,kG,kF,kK,sR,sS,sT,sU,h.no,Bool.not_false,if_true]
end
theorem met_parse {act : Sto → Res D} {L L1 : Sto} {d : D} {s : Str} (h : act L = .err "ParseError" [("line", d)] L1) (r : Told "parse " d s) : m_l_met act L = .ok (.str s) L1 := by
  obtain ⟨_, t, r1, r2⟩ := r
  have q : hRep "ParseError" "line" "parse " "ParseError" [("line", d)] ((List.replicate 2 none).set 1 none) L1 = .ok (.str s) L1 := by
    have k : hFld "ParseError" "line" "ParseError" [("line", d)] ((List.replicate 2 none).set 1 none) L1 = .ok d L1 := rfl
    unfold hRep
    simp only [aA,aB,aC,aD,aE,aF,aG,aH,aI,aJ,aK,aL,aM,aN,aO,aP,aQ,aR,aS,aU,aV,aW,aX,aY,aZ,bA,bB,bC,bD,bE,bF,bG,bH,bI,bJ,bK,bL,bM,bN,bO,bQ,bR,bS,bT,bU,bV,bW,bX,bY,bZ,cA,cB,cC,cD,cE,cF,cG,cH,cI,cJ,cK,cL,cO,cP,cQ,cS,cU,cV,cX,cY,cZ,dA,dB,dC,dD,dE,dH,dI,dJ,dL,dM,dN,dO,dQ,dR,dS,dU,dW,dX,dY,dZ,eA,eB,eD,eE,eF,eG,eI,eJ,eK,eM,eN,eO,eP,eQ,eR,eS,eT,eU,eV,eW,eX,eY,eZ,fA,fB,fC,fD,fE,fF,fG,fH,fJ,fK,fM,fN,fO,fP,fQ,fR,fS,fT,fU,fV,fW,fX,fY,fZ,gA,gB,gC,gD,gE,gF,gG,gH,gI,gJ,gK,gL,gM,gN,gO,gQ,gR,gS,gT,gU,gV,gW,gX,gY,gZ,hA,hJ,hO,hQ,hU,hV,hZ,iA,iB,iC,iD,iE,iF,iG,iH,iI,iJ,iK,iL,iM,iN,iO,iP,iQ,iR,iS,iT,iU,iV,iW,iX,iY,iZ,jA,jB,jC,jD,jE,jF,jG,jH,jI,jJ,jK,jL,jM,jN,jO,jP,jQ,jR,jS,jT,jU,jV,jW,jX,jY,jZ,kA,kB,kC,kD,kE,kF,kG,kH,kJ,kK,kL,kM,kN,kO,kP,kQ,kR,kS,kU,kW,kX,kY,kZ,lA,lB,lC,lD,lE,lF,lG,lH,lI,lJ,lK,lL,lM,lN,lO,lP,lQ,lR,lS,lT,lU,lV,lW,lX,lY,lZ,mB,mC,mD,mE,mF,mG,mH,mI,mJ,mK,mL,mM,mN,mO,mP,mQ,mR,mS,mT,mU,mV,mW,mX,mY,mZ,nB,nD,nE,nG,nH,nI,nJ,nK,nM,nN,nO,nP,nQ,nR,nS,nU,nV,nW,nX,nY,nZ,oA,oB,oC,oE,oG,oH,oI,oJ,oK,oL,oM,oN,oO,oQ,oR,oS,oU,oV,oW,oX,oY,oZ,pA,pB,pC,pD,pE,pF,pG,pH,pI,pJ,pK,pL,pM,pN,pO,pP,pQ,pR,pS,pU,pV,pW,pX,pY,pZ,qA,qB,qC,qD,qE,qF,qG,qH,qI,qJ,qK,qL,qM,qN,qO,k,r1,r2]
  have e : m_l_met act L = fin2 "fine" (Cl.run ⟨"ParseError", some 1, none, hRep "ParseError" "line" "parse "⟩ "ParseError" [("line", d)] (List.replicate 2 none) L1) := by
    unfold m_l_met mMet
    rw [h]
    rfl
  rw [e]
  unfold Cl.run
  dsimp only
  rw [if_pos (by decide), q]
  rfl
theorem told_pn : Told "parse " .non "parse None" := by
  have h := told_of (t := "parse ") (d := .non) (p := .none) rfl (fun _ => rfl) (by decide +kernel) (by decide +kernel) (by decide +kernel) (by decide +kernel) (by decide +kernel) (by decide +kernel)
  exact h
section
variable {d x : D} {L : Sto}
theorem dropErr {cl fld : Str} {d : D} {tl : List D} (h : ∀ n, d.bel n = true) : dropR L (.err cl [(fld, d)] (L ++ tl)) = .err cl [(fld, d)] L := by
  have e : belF L.length [(fld, d)] = true := and2' (h _) rfl
  rw [dropR_err takeOk_app e, List.take_left]
theorem ww_not (h : NotWeb d) : m_write_web [d] L = .err "InvalidWeb" [] L := by
  simp only [u_write_web,F_write_web,aA,aB,aC,aD,aE,aF,aG,aH,aI,aJ,aK,aL,aM,aN,aO,aP,aQ,aR,aS,aU,aV,aW,aX,aY,aZ,bA,bB,bC,bD,bE,bF,bG,bH,bI,bJ,bK,bL,bM,bN,bO,bQ,bR,bS,bT,bU,bV,bW,bX,bY,bZ,cA,cB,cC,cD,cE,cF,cG,cH,cI,cJ,cK,cL,cO,cP,cQ,cS,cU,cV,cX,cY,cZ,dA,dB,dC,dD,dE,dH,dI,dJ,dL,dM,dN,dO,dQ,dR,dS,dU,dW,dX,dY,dZ,eA,eB,eD,eE,eF,eG,eI,eJ,eK,eM,eN,eO,eP,eQ,eR,eS,eT,eU,eV,eW,eX,eY,eZ,fA,fB,fC,fD,fE,fF,fG,fH,fJ,fK,fM,fN,fO,fP,fQ,fR,fS,fT,fU,fV,fW,fX,fY,fZ,gA,gB,gC,gD,gE,gF,gG,gH,gI,gJ,gK,gL,gM,gN,gO,gQ,gR,gS,gT,gU,gV,gW,gX,gY,gZ,hA,hJ,hO,hQ,hU,hV,hZ,iA,iB,iC,iD,iE,iF,iG,iH,iI,iJ,iK,iL,iM,iN,iO,iP,iQ,iR,iS,iT,iU,iV,iW,iX,iY,iZ,jA,jB,jC,jD,jE,jF,jG,jH,jI,jJ,jK,jL,jM,jN,jO,jP,jQ,jR,jS,jT,jU,jV,jW,jX,jY,jZ,kA,kB,kC,kD,kE,kF,kG,kH,kJ,kK,kL,kM,kN,kO,kP,kQ,kR,kS,kU,kW,kX,kY,kZ,lA,lB,lC,lD,lE,lF,lG,lH,lI,lJ,lK,lL,lM,lN,lO,lP,lQ,lR,lS,lT,lU,lV,lW,lX,lY,lZ,mB,mC,mD,mE,mF,mG,mH,mI,mJ,mK,mL,mM,mN,mO,mP,mQ,mR,mS,mT,mU,mV,mW,mX,mY,mZ,nB,nD,nE,nG,nH,nI,nJ,nK,nM,nN,nO,nP,nQ,nR,nS,nU,nV,nW,nX,nY,nZ,oA,oB,oC,oE,oG,oH,oI,oJ,oK,oL,oM,oN,oO,oQ,oR,oS,oU,oV,oW,oX,oY,oZ,pA,pB,pC,pD,pE,pF,pG,pH,pI,pJ,pK,pL,pM,pN,pO,pP,pQ,pR,pS,pU,pV,pW,pX,pY,pZ,qA,qB,qC,qD,qE,qF,qG,qH,qI,qJ,qK,qL,qM,qN,qO,qP,qQ,qR,qS,qT,qU,qV,qW,qX,qY,qZ,rA,rB,rC,rD,rE,rF,rG,rH,rJ,rK,rL,rM,rN,rO,rP,rQ,rR,rS,rT,rV,rW,rX,rY,rZ,sA,sD,sE,sF,sG,sH,sJ,sK,sL,sM,sN,sO,sP,sQ,kG,kF,kK,sR,sS,sT,sU,rWeb_no h]
theorem wr_not (h : ∀ L, gIsiK owns .tup d L = .ok (.bl false) L) : m_write_row [d] L = .err "InvalidRow" [] L := by
  simp only [u_write_row,F_write_row,aA,aB,aC,aD,aE,aF,aG,aH,aI,aJ,aK,aL,aM,aN,aO,aP,aQ,aR,aS,aU,aV,aW,aX,aY,aZ,bA,bB,bC,bD,bE,bF,bG,bH,bI,bJ,bK,bL,bM,bN,bO,bQ,bR,bS,bT,bU,bV,bW,bX,bY,bZ,cA,cB,cC,cD,cE,cF,cG,cH,cI,cJ,cK,cL,cO,cP,cQ,cS,cU,cV,cX,cY,cZ,dA,dB,dC,dD,dE,dH,dI,dJ,dL,dM,dN,dO,dQ,dR,dS,dU,dW,dX,dY,dZ,eA,eB,eD,eE,eF,eG,eI,eJ,eK,eM,eN,eO,eP,eQ,eR,eS,eT,eU,eV,eW,eX,eY,eZ,fA,fB,fC,fD,fE,fF,fG,fH,fJ,fK,fM,fN,fO,fP,fQ,fR,fS,fT,fU,fV,fW,fX,fY,fZ,gA,gB,gC,gD,gE,gF,gG,gH,gI,gJ,gK,gL,gM,gN,gO,gQ,gR,gS,gT,gU,gV,gW,gX,gY,gZ,hA,hJ,hO,hQ,hU,hV,hZ,iA,iB,iC,iD,iE,iF,iG,iH,iI,iJ,iK,iL,iM,iN,iO,iP,iQ,iR,iS,iT,iU,iV,iW,iX,iY,iZ,jA,jB,jC,jD,jE,jF,jG,jH,jI,jJ,jK,jL,jM,jN,jO,jP,jQ,jR,jS,jT,jU,jV,jW,jX,jY,jZ,kA,kB,kC,kD,kE,kF,kG,kH,kJ,kK,kL,kM,kN,kO,kP,kQ,kR,kS,kU,kW,kX,kY,kZ,lA,lB,lC,lD,lE,lF,lG,lH,lI,lJ,lK,lL,lM,lN,lO,lP,lQ,lR,lS,lT,lU,lV,lW,lX,lY,lZ,mB,mC,mD,mE,mF,mG,mH,mI,mJ,mK,mL,mM,mN,mO,mP,mQ,mR,mS,mT,mU,mV,mW,mX,mY,mZ,nB,nD,nE,nG,nH,nI,nJ,nK,nM,nN,nO,nP,nQ,nR,nS,nU,nV,nW,nX,nY,nZ,oA,oB,oC,oE,oG,oH,oI,oJ,oK,oL,oM,oN,oO,oQ,oR,oS,oU,oV,oW,oX,oY,oZ,pA,pB,pC,pD,pE,pF,pG,pH,pI,pJ,pK,pL,pM,pN,pO,pP,pQ,pR,pS,pU,pV,pW,pX,pY,pZ,qA,qB,qC,qD,qE,qF,qG,qH,qI,qJ,qK,qL,qM,qN,qO,qP,qQ,qR,qS,qT,qU,qV,qW,qX,qY,qZ,rA,rB,rC,rD,rE,rF,rG,rH,rJ,rK,rL,rM,rN,rO,rP,rQ,rR,rS,rT,rV,rW,rX,rY,rZ,sA,sD,sE,sF,sG,sH,sJ,sK,sL,sM,sN,sO,sP,sQ,kG,kF,kK,sR,sS,sT,sU,h,Bool.not_false,if_true]
theorem wc_not (h : ∀ L, gIsiK owns .tup d L = .ok (.bl false) L) : m_write_chain [d] L = .err "InvalidOperation" [] L := by
  simp only [u_write_chain,F_write_chain,aA,aB,aC,aD,aE,aF,aG,aH,aI,aJ,aK,aL,aM,aN,aO,aP,aQ,aR,aS,aU,aV,aW,aX,aY,aZ,bA,bB,bC,bD,bE,bF,bG,bH,bI,bJ,bK,bL,bM,bN,bO,bQ,bR,bS,bT,bU,bV,bW,bX,bY,bZ,cA,cB,cC,cD,cE,cF,cG,cH,cI,cJ,cK,cL,cO,cP,cQ,cS,cU,cV,cX,cY,cZ,dA,dB,dC,dD,dE,dH,dI,dJ,dL,dM,dN,dO,dQ,dR,dS,dU,dW,dX,dY,dZ,eA,eB,eD,eE,eF,eG,eI,eJ,eK,eM,eN,eO,eP,eQ,eR,eS,eT,eU,eV,eW,eX,eY,eZ,fA,fB,fC,fD,fE,fF,fG,fH,fJ,fK,fM,fN,fO,fP,fQ,fR,fS,fT,fU,fV,fW,fX,fY,fZ,gA,gB,gC,gD,gE,gF,gG,gH,gI,gJ,gK,gL,gM,gN,gO,gQ,gR,gS,gT,gU,gV,gW,gX,gY,gZ,hA,hJ,hO,hQ,hU,hV,hZ,iA,iB,iC,iD,iE,iF,iG,iH,iI,iJ,iK,iL,iM,iN,iO,iP,iQ,iR,iS,iT,iU,iV,iW,iX,iY,iZ,jA,jB,jC,jD,jE,jF,jG,jH,jI,jJ,jK,jL,jM,jN,jO,jP,jQ,jR,jS,jT,jU,jV,jW,jX,jY,jZ,kA,kB,kC,kD,kE,kF,kG,kH,kJ,kK,kL,kM,kN,kO,kP,kQ,kR,kS,kU,kW,kX,kY,kZ,lA,lB,lC,lD,lE,lF,lG,lH,lI,lJ,lK,lL,lM,lN,lO,lP,lQ,lR,lS,lT,lU,lV,lW,lX,lY,lZ,mB,mC,mD,mE,mF,mG,mH,mI,mJ,mK,mL,mM,mN,mO,mP,mQ,mR,mS,mT,mU,mV,mW,mX,mY,mZ,nB,nD,nE,nG,nH,nI,nJ,nK,nM,nN,nO,nP,nQ,nR,nS,nU,nV,nW,nX,nY,nZ,oA,oB,oC,oE,oG,oH,oI,oJ,oK,oL,oM,oN,oO,oQ,oR,oS,oU,oV,oW,oX,oY,oZ,pA,pB,pC,pD,pE,pF,pG,pH,pI,pJ,pK,pL,pM,pN,pO,pP,pQ,pR,pS,pU,pV,pW,pX,pY,pZ,qA,qB,qC,qD,qE,qF,qG,qH,qI,qJ,qK,qL,qM,qN,qO,qP,qQ,qR,qS,qT,qU,qV,qW,qX,qY,qZ,rA,rB,rC,rD,rE,rF,rG,rH,rJ,rK,rL,rM,rN,rO,rP,rQ,rR,rS,rT,rV,rW,rX,rY,rZ,sA,sD,sE,sF,sG,sH,sJ,sK,sL,sM,sN,sO,sP,sQ,kG,kF,kK,sR,sS,sT,sU,h,Bool.not_false,if_true]
theorem wo_not (h : ∀ L, gIsiK owns .tup d L = .ok (.bl false) L) : m_write_rounds [d] L = .err "InvalidOperation" [] L := by
  simp only [u_write_rounds,F_write_rounds,aA,aB,aC,aD,aE,aF,aG,aH,aI,aJ,aK,aL,aM,aN,aO,aP,aQ,aR,aS,aU,aV,aW,aX,aY,aZ,bA,bB,bC,bD,bE,bF,bG,bH,bI,bJ,bK,bL,bM,bN,bO,bQ,bR,bS,bT,bU,bV,bW,bX,bY,bZ,cA,cB,cC,cD,cE,cF,cG,cH,cI,cJ,cK,cL,cO,cP,cQ,cS,cU,cV,cX,cY,cZ,dA,dB,dC,dD,dE,dH,dI,dJ,dL,dM,dN,dO,dQ,dR,dS,dU,dW,dX,dY,dZ,eA,eB,eD,eE,eF,eG,eI,eJ,eK,eM,eN,eO,eP,eQ,eR,eS,eT,eU,eV,eW,eX,eY,eZ,fA,fB,fC,fD,fE,fF,fG,fH,fJ,fK,fM,fN,fO,fP,fQ,fR,fS,fT,fU,fV,fW,fX,fY,fZ,gA,gB,gC,gD,gE,gF,gG,gH,gI,gJ,gK,gL,gM,gN,gO,gQ,gR,gS,gT,gU,gV,gW,gX,gY,gZ,hA,hJ,hO,hQ,hU,hV,hZ,iA,iB,iC,iD,iE,iF,iG,iH,iI,iJ,iK,iL,iM,iN,iO,iP,iQ,iR,iS,iT,iU,iV,iW,iX,iY,iZ,jA,jB,jC,jD,jE,jF,jG,jH,jI,jJ,jK,jL,jM,jN,jO,jP,jQ,jR,jS,jT,jU,jV,jW,jX,jY,jZ,kA,kB,kC,kD,kE,kF,kG,kH,kJ,kK,kL,kM,kN,kO,kP,kQ,kR,kS,kU,kW,kX,kY,kZ,lA,lB,lC,lD,lE,lF,lG,lH,lI,lJ,lK,lL,lM,lN,lO,lP,lQ,lR,lS,lT,lU,lV,lW,lX,lY,lZ,mB,mC,mD,mE,mF,mG,mH,mI,mJ,mK,mL,mM,mN,mO,mP,mQ,mR,mS,mT,mU,mV,mW,mX,mY,mZ,nB,nD,nE,nG,nH,nI,nJ,nK,nM,nN,nO,nP,nQ,nR,nS,nU,nV,nW,nX,nY,nZ,oA,oB,oC,oE,oG,oH,oI,oJ,oK,oL,oM,oN,oO,oQ,oR,oS,oU,oV,oW,oX,oY,oZ,pA,pB,pC,pD,pE,pF,pG,pH,pI,pJ,pK,pL,pM,pN,pO,pP,pQ,pR,pS,pU,pV,pW,pX,pY,pZ,qA,qB,qC,qD,qE,qF,qG,qH,qI,qJ,qK,qL,qM,qN,qO,qP,qQ,qR,qS,qT,qU,qV,qW,qX,qY,qZ,rA,rB,rC,rD,rE,rF,rG,rH,rJ,rK,rL,rM,rN,rO,rP,rQ,rR,rS,rT,rV,rW,rX,rY,rZ,sA,sD,sE,sF,sG,sH,sJ,sK,sL,sM,sN,sO,sP,sQ,kG,kF,kK,sR,sS,sT,sU,h,Bool.not_false,if_true]
theorem rw_not (h : ∀ L, gIsiK owns .str d L = .ok (.bl false) L) : m_words_in [d] L = .err "ParseError" [("line", .non)] L := by
  simp only [u_words_in,F_words_in,aA,aB,aC,aD,aE,aF,aG,aH,aI,aJ,aK,aL,aM,aN,aO,aP,aQ,aR,aS,aU,aV,aW,aX,aY,aZ,bA,bB,bC,bD,bE,bF,bG,bH,bI,bJ,bK,bL,bM,bN,bO,bQ,bR,bS,bT,bU,bV,bW,bX,bY,bZ,cA,cB,cC,cD,cE,cF,cG,cH,cI,cJ,cK,cL,cO,cP,cQ,cS,cU,cV,cX,cY,cZ,dA,dB,dC,dD,dE,dH,dI,dJ,dL,dM,dN,dO,dQ,dR,dS,dU,dW,dX,dY,dZ,eA,eB,eD,eE,eF,eG,eI,eJ,eK,eM,eN,eO,eP,eQ,eR,eS,eT,eU,eV,eW,eX,eY,eZ,fA,fB,fC,fD,fE,fF,fG,fH,fJ,fK,fM,fN,fO,fP,fQ,fR,fS,fT,fU,fV,fW,fX,fY,fZ,gA,gB,gC,gD,gE,gF,gG,gH,gI,gJ,gK,gL,gM,gN,gO,gQ,gR,gS,gT,gU,gV,gW,gX,gY,gZ,hA,hJ,hO,hQ,hU,hV,hZ,iA,iB,iC,iD,iE,iF,iG,iH,iI,iJ,iK,iL,iM,iN,iO,iP,iQ,iR,iS,iT,iU,iV,iW,iX,iY,iZ,jA,jB,jC,jD,jE,jF,jG,jH,jI,jJ,jK,jL,jM,jN,jO,jP,jQ,jR,jS,jT,jU,jV,jW,jX,jY,jZ,kA,kB,kC,kD,kE,kF,kG,kH,kJ,kK,kL,kM,kN,kO,kP,kQ,kR,kS,kU,kW,kX,kY,kZ,lA,lB,lC,lD,lE,lF,lG,lH,lI,lJ,lK,lL,lM,lN,lO,lP,lQ,lR,lS,lT,lU,lV,lW,lX,lY,lZ,mB,mC,mD,mE,mF,mG,mH,mI,mJ,mK,mL,mM,mN,mO,mP,mQ,mR,mS,mT,mU,mV,mW,mX,mY,mZ,nB,nD,nE,nG,nH,nI,nJ,nK,nM,nN,nO,nP,nQ,nR,nS,nU,nV,nW,nX,nY,nZ,oA,oB,oC,oE,oG,oH,oI,oJ,oK,oL,oM,oN,oO,oQ,oR,oS,oU,oV,oW,oX,oY,oZ,pA,pB,pC,pD,pE,pF,pG,pH,pI,pJ,pK,pL,pM,pN,pO,pP,pQ,pR,pS,pU,pV,pW,pX,pY,pZ,qA,qB,qC,qD,qE,qF,qG,qH,qI,qJ,qK,qL,qM,qN,qO,qP,qQ,qR,qS,qT,qU,qV,qW,qX,qY,qZ,rA,rB,rC,rD,rE,rF,rG,rH,rJ,rK,rL,rM,rN,rO,rP,rQ,rR,rS,rT,rV,rW,rX,rY,rZ,sA,sD,sE,sF,sG,sH,sJ,sK,sL,sM,sN,sO,sP,sQ,kG,kF,kK,sR,sS,sT,sU,h,Bool.not_false,if_true]
theorem rdw_not (h : ∀ L, gIsiK owns .str d L = .ok (.bl false) L) : m_read_web [d] L = .err "ParseError" [("line", .non)] L := by
  have w := rw_not h (L := L)
  simp only [u_read_web,F_read_web,aA,aB,aC,aD,aE,aF,aG,aH,aI,aJ,aK,aL,aM,aN,aO,aP,aQ,aR,aS,aU,aV,aW,aX,aY,aZ,bA,bB,bC,bD,bE,bF,bG,bH,bI,bJ,bK,bL,bM,bN,bO,bQ,bR,bS,bT,bU,bV,bW,bX,bY,bZ,cA,cB,cC,cD,cE,cF,cG,cH,cI,cJ,cK,cL,cO,cP,cQ,cS,cU,cV,cX,cY,cZ,dA,dB,dC,dD,dE,dH,dI,dJ,dL,dM,dN,dO,dQ,dR,dS,dU,dW,dX,dY,dZ,eA,eB,eD,eE,eF,eG,eI,eJ,eK,eM,eN,eO,eP,eQ,eR,eS,eT,eU,eV,eW,eX,eY,eZ,fA,fB,fC,fD,fE,fF,fG,fH,fJ,fK,fM,fN,fO,fP,fQ,fR,fS,fT,fU,fV,fW,fX,fY,fZ,gA,gB,gC,gD,gE,gF,gG,gH,gI,gJ,gK,gL,gM,gN,gO,gQ,gR,gS,gT,gU,gV,gW,gX,gY,gZ,hA,hJ,hO,hQ,hU,hV,hZ,iA,iB,iC,iD,iE,iF,iG,iH,iI,iJ,iK,iL,iM,iN,iO,iP,iQ,iR,iS,iT,iU,iV,iW,iX,iY,iZ,jA,jB,jC,jD,jE,jF,jG,jH,jI,jJ,jK,jL,jM,jN,jO,jP,jQ,jR,jS,jT,jU,jV,jW,jX,jY,jZ,kA,kB,kC,kD,kE,kF,kG,kH,kJ,kK,kL,kM,kN,kO,kP,kQ,kR,kS,kU,kW,kX,kY,kZ,lA,lB,lC,lD,lE,lF,lG,lH,lI,lJ,lK,lL,lM,lN,lO,lP,lQ,lR,lS,lT,lU,lV,lW,lX,lY,lZ,mB,mC,mD,mE,mF,mG,mH,mI,mJ,mK,mL,mM,mN,mO,mP,mQ,mR,mS,mT,mU,mV,mW,mX,mY,mZ,nB,nD,nE,nG,nH,nI,nJ,nK,nM,nN,nO,nP,nQ,nR,nS,nU,nV,nW,nX,nY,nZ,oA,oB,oC,oE,oG,oH,oI,oJ,oK,oL,oM,oN,oO,oQ,oR,oS,oU,oV,oW,oX,oY,oZ,pA,pB,pC,pD,pE,pF,pG,pH,pI,pJ,pK,pL,pM,pN,pO,pP,pQ,pR,pS,pU,pV,pW,pX,pY,pZ,qA,qB,qC,qD,qE,qF,qG,qH,qI,qJ,qK,qL,qM,qN,qO,qP,qQ,qR,qS,qT,qU,qV,qW,qX,qY,qZ,rA,rB,rC,rD,rE,rF,rG,rH,rJ,rK,rL,rM,rN,rO,rP,rQ,rR,rS,rT,rV,rW,rX,rY,rZ,sA,sD,sE,sF,sG,sH,sJ,sK,sL,sM,sN,sO,sP,sQ,kG,kF,kK,sR,sS,sT,sU,w]
  exact x_drop1 fun _ => rfl
theorem rdr_not (h : ∀ L, gIsiK owns .str d L = .ok (.bl false) L) : m_read_row [d] L = .err "ParseError" [("line", .non)] L := by
  have w := rw_not h (L := L)
  simp only [u_read_row,F_read_row,aA,aB,aC,aD,aE,aF,aG,aH,aI,aJ,aK,aL,aM,aN,aO,aP,aQ,aR,aS,aU,aV,aW,aX,aY,aZ,bA,bB,bC,bD,bE,bF,bG,bH,bI,bJ,bK,bL,bM,bN,bO,bQ,bR,bS,bT,bU,bV,bW,bX,bY,bZ,cA,cB,cC,cD,cE,cF,cG,cH,cI,cJ,cK,cL,cO,cP,cQ,cS,cU,cV,cX,cY,cZ,dA,dB,dC,dD,dE,dH,dI,dJ,dL,dM,dN,dO,dQ,dR,dS,dU,dW,dX,dY,dZ,eA,eB,eD,eE,eF,eG,eI,eJ,eK,eM,eN,eO,eP,eQ,eR,eS,eT,eU,eV,eW,eX,eY,eZ,fA,fB,fC,fD,fE,fF,fG,fH,fJ,fK,fM,fN,fO,fP,fQ,fR,fS,fT,fU,fV,fW,fX,fY,fZ,gA,gB,gC,gD,gE,gF,gG,gH,gI,gJ,gK,gL,gM,gN,gO,gQ,gR,gS,gT,gU,gV,gW,gX,gY,gZ,hA,hJ,hO,hQ,hU,hV,hZ,iA,iB,iC,iD,iE,iF,iG,iH,iI,iJ,iK,iL,iM,iN,iO,iP,iQ,iR,iS,iT,iU,iV,iW,iX,iY,iZ,jA,jB,jC,jD,jE,jF,jG,jH,jI,jJ,jK,jL,jM,jN,jO,jP,jQ,jR,jS,jT,jU,jV,jW,jX,jY,jZ,kA,kB,kC,kD,kE,kF,kG,kH,kJ,kK,kL,kM,kN,kO,kP,kQ,kR,kS,kU,kW,kX,kY,kZ,lA,lB,lC,lD,lE,lF,lG,lH,lI,lJ,lK,lL,lM,lN,lO,lP,lQ,lR,lS,lT,lU,lV,lW,lX,lY,lZ,mB,mC,mD,mE,mF,mG,mH,mI,mJ,mK,mL,mM,mN,mO,mP,mQ,mR,mS,mT,mU,mV,mW,mX,mY,mZ,nB,nD,nE,nG,nH,nI,nJ,nK,nM,nN,nO,nP,nQ,nR,nS,nU,nV,nW,nX,nY,nZ,oA,oB,oC,oE,oG,oH,oI,oJ,oK,oL,oM,oN,oO,oQ,oR,oS,oU,oV,oW,oX,oY,oZ,pA,pB,pC,pD,pE,pF,pG,pH,pI,pJ,pK,pL,pM,pN,pO,pP,pQ,pR,pS,pU,pV,pW,pX,pY,pZ,qA,qB,qC,qD,qE,qF,qG,qH,qI,qJ,qK,qL,qM,qN,qO,qP,qQ,qR,qS,qT,qU,qV,qW,qX,qY,qZ,rA,rB,rC,rD,rE,rF,rG,rH,rJ,rK,rL,rM,rN,rO,rP,rQ,rR,rS,rT,rV,rW,rX,rY,rZ,sA,sD,sE,sF,sG,sH,sJ,sK,sL,sM,sN,sO,sP,sQ,kG,kF,kK,sR,sS,sT,sU,w]
theorem rdc_not (h : ∀ L, gIsiK owns .str d L = .ok (.bl false) L) : m_read_chain [d] L = .err "ParseError" [("line", .non)] L := by
  have w : ∀ M, m_words_in [d] M = .err "ParseError" [("line", .non)] M := fun M => rw_not h
  have q : sFor I1_read_chain T1_read_chain B1_read_chain [some d, some (.loc L.length), none, none, none] (L ++ [.lst []]) = .err "ParseError" [("line", .non)] [some d, some (.loc L.length), none, none, none] (L ++ [.lst []]) := by
    have e : I1_read_chain [some d, some (.loc L.length), none, none, none] (L ++ [.lst []]) = .err "ParseError" [("line", .non)] (L ++ [.lst []]) := by
      simp only [I1_read_chain,aA,aB,aC,aD,aE,aF,aG,aH,aI,aJ,aK,aL,aM,aN,aO,aP,aQ,aR,aS,aU,aV,aW,aX,aY,aZ,bA,bB,bC,bD,bE,bF,bG,bH,bI,bJ,bK,bL,bM,bN,bO,bQ,bR,bS,bT,bU,bV,bW,bX,bY,bZ,cA,cB,cC,cD,cE,cF,cG,cH,cI,cJ,cK,cL,cO,cP,cQ,cS,cU,cV,cX,cY,cZ,dA,dB,dC,dD,dE,dH,dI,dJ,dL,dM,dN,dO,dQ,dR,dS,dU,dW,dX,dY,dZ,eA,eB,eD,eE,eF,eG,eI,eJ,eK,eM,eN,eO,eP,eQ,eR,eS,eT,eU,eV,eW,eX,eY,eZ,fA,fB,fC,fD,fE,fF,fG,fH,fJ,fK,fM,fN,fO,fP,fQ,fR,fS,fT,fU,fV,fW,fX,fY,fZ,gA,gB,gC,gD,gE,gF,gG,gH,gI,gJ,gK,gL,gM,gN,gO,gQ,gR,gS,gT,gU,gV,gW,gX,gY,gZ,hA,hJ,hO,hQ,hU,hV,hZ,iA,iB,iC,iD,iE,iF,iG,iH,iI,iJ,iK,iL,iM,iN,iO,iP,iQ,iR,iS,iT,iU,iV,iW,iX,iY,iZ,jA,jB,jC,jD,jE,jF,jG,jH,jI,jJ,jK,jL,jM,jN,jO,jP,jQ,jR,jS,jT,jU,jV,jW,jX,jY,jZ,kA,kB,kC,kD,kE,kF,kG,kH,kJ,kK,kL,kM,kN,kO,kP,kQ,kR,kS,kU,kW,kX,kY,kZ,lA,lB,lC,lD,lE,lF,lG,lH,lI,lJ,lK,lL,lM,lN,lO,lP,lQ,lR,lS,lT,lU,lV,lW,lX,lY,lZ,mB,mC,mD,mE,mF,mG,mH,mI,mJ,mK,mL,mM,mN,mO,mP,mQ,mR,mS,mT,mU,mV,mW,mX,mY,mZ,nB,nD,nE,nG,nH,nI,nJ,nK,nM,nN,nO,nP,nQ,nR,nS,nU,nV,nW,nX,nY,nZ,oA,oB,oC,oE,oG,oH,oI,oJ,oK,oL,oM,oN,oO,oQ,oR,oS,oU,oV,oW,oX,oY,oZ,pA,pB,pC,pD,pE,pF,pG,pH,pI,pJ,pK,pL,pM,pN,pO,pP,pQ,pR,pS,pU,pV,pW,pX,pY,pZ,qA,qB,qC,qD,qE,qF,qG,qH,qI,qJ,qK,qL,qM,qN,qO,qP,qQ,qR,qS,qT,qU,qV,qW,qX,qY,qZ,rA,rB,rC,rD,rE,rF,rG,rH,rJ,rK,rL,rM,rN,rO,rP,rQ,rR,rS,rT,rV,rW,rX,rY,rZ,sA,sD,sE,sF,sG,sH,sJ,sK,sL,sM,sN,sO,sP,sQ,kG,kF,kK,sR,sS,sT,sU,w]
      rfl
    unfold sFor
    rw [e]
  simp only [u_read_chain,F_read_chain,aA,aB,aC,aD,aE,aF,aG,aH,aI,aJ,aK,aL,aM,aN,aO,aP,aQ,aR,aS,aU,aV,aW,aX,aY,aZ,bA,bB,bC,bD,bE,bF,bG,bH,bI,bJ,bK,bL,bM,bN,bO,bQ,bR,bS,bT,bU,bV,bW,bX,bY,bZ,cA,cB,cC,cD,cE,cF,cG,cH,cI,cJ,cK,cL,cO,cP,cQ,cS,cU,cV,cX,cY,cZ,dA,dB,dC,dD,dE,dH,dI,dJ,dL,dM,dN,dO,dQ,dR,dS,dU,dW,dX,dY,dZ,eA,eB,eD,eE,eF,eG,eI,eJ,eK,eM,eN,eO,eP,eQ,eR,eS,eT,eU,eV,eW,eX,eY,eZ,fA,fB,fC,fD,fE,fF,fG,fH,fJ,fK,fM,fN,fO,fP,fQ,fR,fS,fT,fU,fV,fW,fX,fY,fZ,gA,gB,gC,gD,gE,gF,gG,gH,gI,gJ,gK,gL,gM,gN,gO,gQ,gR,gS,gT,gU,gV,gW,gX,gY,gZ,hA,hJ,hO,hQ,hU,hV,hZ,iA,iB,iC,iD,iE,iF,iG,iH,iI,iJ,iK,iL,iM,iN,iO,iP,iQ,iR,iS,iT,iU,iV,iW,iX,iY,iZ,jA,jB,jC,jD,jE,jF,jG,jH,jI,jJ,jK,jL,jM,jN,jO,jP,jQ,jR,jS,jT,jU,jV,jW,jX,jY,jZ,kA,kB,kC,kD,kE,kF,kG,kH,kJ,kK,kL,kM,kN,kO,kP,kQ,kR,kS,kU,kW,kX,kY,kZ,lA,lB,lC,lD,lE,lF,lG,lH,lI,lJ,lK,lL,lM,lN,lO,lP,lQ,lR,lS,lT,lU,lV,lW,lX,lY,lZ,mB,mC,mD,mE,mF,mG,mH,mI,mJ,mK,mL,mM,mN,mO,mP,mQ,mR,mS,mT,mU,mV,mW,mX,mY,mZ,nB,nD,nE,nG,nH,nI,nJ,nK,nM,nN,nO,nP,nQ,nR,nS,nU,nV,nW,nX,nY,nZ,oA,oB,oC,oE,oG,oH,oI,oJ,oK,oL,oM,oN,oO,oQ,oR,oS,oU,oV,oW,oX,oY,oZ,pA,pB,pC,pD,pE,pF,pG,pH,pI,pJ,pK,pL,pM,pN,pO,pP,pQ,pR,pS,pU,pV,pW,pX,pY,pZ,qA,qB,qC,qD,qE,qF,qG,qH,qI,qJ,qK,qL,qM,qN,qO,qP,qQ,qR,qS,qT,qU,qV,qW,qX,qY,qZ,rA,rB,rC,rD,rE,rF,rG,rH,rJ,rK,rL,rM,rN,rO,rP,rQ,rR,rS,rT,rV,rW,rX,rY,rZ,sA,sD,sE,sF,sG,sH,sJ,sK,sL,sM,sN,sO,sP,sQ,kG,kF,kK,sR,sS,sT,sU,L1_read_chain,q]
  exact dropErr fun _ => rfl
theorem rdo_not (h : ∀ L, gIsiK owns .str d L = .ok (.bl false) L) : m_read_rounds [d] L = .err "ParseError" [("line", .non)] L := by
  have w : ∀ M, m_words_in [d] M = .err "ParseError" [("line", .non)] M := fun M => rw_not h
  have q : sFor I1_read_rounds T1_read_rounds B1_read_rounds [some d, some (.loc L.length), none, none, none] (L ++ [.lst []]) = .err "ParseError" [("line", .non)] [some d, some (.loc L.length), none, none, none] (L ++ [.lst []]) := by
    have e : I1_read_rounds [some d, some (.loc L.length), none, none, none] (L ++ [.lst []]) = .err "ParseError" [("line", .non)] (L ++ [.lst []]) := by
      simp only [I1_read_rounds,aA,aB,aC,aD,aE,aF,aG,aH,aI,aJ,aK,aL,aM,aN,aO,aP,aQ,aR,aS,aU,aV,aW,aX,aY,aZ,bA,bB,bC,bD,bE,bF,bG,bH,bI,bJ,bK,bL,bM,bN,bO,bQ,bR,bS,bT,bU,bV,bW,bX,bY,bZ,cA,cB,cC,cD,cE,cF,cG,cH,cI,cJ,cK,cL,cO,cP,cQ,cS,cU,cV,cX,cY,cZ,dA,dB,dC,dD,dE,dH,dI,dJ,dL,dM,dN,dO,dQ,dR,dS,dU,dW,dX,dY,dZ,eA,eB,eD,eE,eF,eG,eI,eJ,eK,eM,eN,eO,eP,eQ,eR,eS,eT,eU,eV,eW,eX,eY,eZ,fA,fB,fC,fD,fE,fF,fG,fH,fJ,fK,fM,fN,fO,fP,fQ,fR,fS,fT,fU,fV,fW,fX,fY,fZ,gA,gB,gC,gD,gE,gF,gG,gH,gI,gJ,gK,gL,gM,gN,gO,gQ,gR,gS,gT,gU,gV,gW,gX,gY,gZ,hA,hJ,hO,hQ,hU,hV,hZ,iA,iB,iC,iD,iE,iF,iG,iH,iI,iJ,iK,iL,iM,iN,iO,iP,iQ,iR,iS,iT,iU,iV,iW,iX,iY,iZ,jA,jB,jC,jD,jE,jF,jG,jH,jI,jJ,jK,jL,jM,jN,jO,jP,jQ,jR,jS,jT,jU,jV,jW,jX,jY,jZ,kA,kB,kC,kD,kE,kF,kG,kH,kJ,kK,kL,kM,kN,kO,kP,kQ,kR,kS,kU,kW,kX,kY,kZ,lA,lB,lC,lD,lE,lF,lG,lH,lI,lJ,lK,lL,lM,lN,lO,lP,lQ,lR,lS,lT,lU,lV,lW,lX,lY,lZ,mB,mC,mD,mE,mF,mG,mH,mI,mJ,mK,mL,mM,mN,mO,mP,mQ,mR,mS,mT,mU,mV,mW,mX,mY,mZ,nB,nD,nE,nG,nH,nI,nJ,nK,nM,nN,nO,nP,nQ,nR,nS,nU,nV,nW,nX,nY,nZ,oA,oB,oC,oE,oG,oH,oI,oJ,oK,oL,oM,oN,oO,oQ,oR,oS,oU,oV,oW,oX,oY,oZ,pA,pB,pC,pD,pE,pF,pG,pH,pI,pJ,pK,pL,pM,pN,pO,pP,pQ,pR,pS,pU,pV,pW,pX,pY,pZ,qA,qB,qC,qD,qE,qF,qG,qH,qI,qJ,qK,qL,qM,qN,qO,qP,qQ,qR,qS,qT,qU,qV,qW,qX,qY,qZ,rA,rB,rC,rD,rE,rF,rG,rH,rJ,rK,rL,rM,rN,rO,rP,rQ,rR,rS,rT,rV,rW,rX,rY,rZ,sA,sD,sE,sF,sG,sH,sJ,sK,sL,sM,sN,sO,sP,sQ,kG,kF,kK,sR,sS,sT,sU,w]
      rfl
    unfold sFor
    rw [e]
  simp only [u_read_rounds,F_read_rounds,aA,aB,aC,aD,aE,aF,aG,aH,aI,aJ,aK,aL,aM,aN,aO,aP,aQ,aR,aS,aU,aV,aW,aX,aY,aZ,bA,bB,bC,bD,bE,bF,bG,bH,bI,bJ,bK,bL,bM,bN,bO,bQ,bR,bS,bT,bU,bV,bW,bX,bY,bZ,cA,cB,cC,cD,cE,cF,cG,cH,cI,cJ,cK,cL,cO,cP,cQ,cS,cU,cV,cX,cY,cZ,dA,dB,dC,dD,dE,dH,dI,dJ,dL,dM,dN,dO,dQ,dR,dS,dU,dW,dX,dY,dZ,eA,eB,eD,eE,eF,eG,eI,eJ,eK,eM,eN,eO,eP,eQ,eR,eS,eT,eU,eV,eW,eX,eY,eZ,fA,fB,fC,fD,fE,fF,fG,fH,fJ,fK,fM,fN,fO,fP,fQ,fR,fS,fT,fU,fV,fW,fX,fY,fZ,gA,gB,gC,gD,gE,gF,gG,gH,gI,gJ,gK,gL,gM,gN,gO,gQ,gR,gS,gT,gU,gV,gW,gX,gY,gZ,hA,hJ,hO,hQ,hU,hV,hZ,iA,iB,iC,iD,iE,iF,iG,iH,iI,iJ,iK,iL,iM,iN,iO,iP,iQ,iR,iS,iT,iU,iV,iW,iX,iY,iZ,jA,jB,jC,jD,jE,jF,jG,jH,jI,jJ,jK,jL,jM,jN,jO,jP,jQ,jR,jS,jT,jU,jV,jW,jX,jY,jZ,kA,kB,kC,kD,kE,kF,kG,kH,kJ,kK,kL,kM,kN,kO,kP,kQ,kR,kS,kU,kW,kX,kY,kZ,lA,lB,lC,lD,lE,lF,lG,lH,lI,lJ,lK,lL,lM,lN,lO,lP,lQ,lR,lS,lT,lU,lV,lW,lX,lY,lZ,mB,mC,mD,mE,mF,mG,mH,mI,mJ,mK,mL,mM,mN,mO,mP,mQ,mR,mS,mT,mU,mV,mW,mX,mY,mZ,nB,nD,nE,nG,nH,nI,nJ,nK,nM,nN,nO,nP,nQ,nR,nS,nU,nV,nW,nX,nY,nZ,oA,oB,oC,oE,oG,oH,oI,oJ,oK,oL,oM,oN,oO,oQ,oR,oS,oU,oV,oW,oX,oY,oZ,pA,pB,pC,pD,pE,pF,pG,pH,pI,pJ,pK,pL,pM,pN,pO,pP,pQ,pR,pS,pU,pV,pW,pX,pY,pZ,qA,qB,qC,qD,qE,qF,qG,qH,qI,qJ,qK,qL,qM,qN,qO,qP,qQ,qR,qS,qT,qU,qV,qW,qX,qY,qZ,rA,rB,rC,rD,rE,rF,rG,rH,rJ,rK,rL,rM,rN,rO,rP,rQ,rR,rS,rT,rV,rW,rX,rY,rZ,sA,sD,sE,sF,sG,sH,sJ,sK,sL,sM,sN,sO,sP,sQ,kG,kF,kK,sR,sS,sT,sU,L1_read_rounds,q]
  exact dropErr fun _ => rfl
variable {xs : List D}
theorem eq_any (o : okDL 59 xs = true) (hn : xs ≠ []) (hd : d = .tg xs ∨ d = .tup xs) (L : Sto) : gEq d (.tup []) L = .ok (.bl false) L := by
  obtain ⟨x, ys, rfl⟩ := List.exists_cons_of_ne_nil hn
  rcases hd with rfl | rfl
  · rw [gEq_ev (by rw [seen_tg, okD]; exact o) (by rw [seen_tup, okD, okDL]), seen_tg, seen_tup, eqD]
    rfl
  · rw [gEq_ev (by rw [seen_tup, okD]; exact o) (by rw [seen_tup, okD, okDL]), seen_tup, seen_tup, eqD]
    rfl
theorem kit_any (hd : d = .tg xs ∨ d = .tup xs) (L : Sto) : kit (.ok d L) = .ok ⟨xs.map id, []⟩ L := by rw [List.map_id]; rcases hd with rfl | rfl <;> rfl
theorem isi_anyT (hd : d = .tg xs ∨ d = .tup xs) (L : Sto) : gIsiK owns .tup d L = .ok (.bl true) L := by rcases hd with rfl | rfl <;> rfl
theorem wr_any {b : D → Bool} (o : okDL 59 xs = true) (hl : xs.length ≤ 100) (h : ∀ x ∈ xs, ∀ L, m_is_integer [x, .int 0, .non] L = .ok (.bl (b x)) L) (k : xs.all b = false) (hd : d = .tg xs ∨ d = .tup xs) : m_write_row [d] L = .err "InvalidRow" [] L := by
  have c1 : C1_write_row [some d, none] L = .ok (.lst (xs.map fun x => D.bl (b x))) L := by
    refine lc_map (box := false) xs id (fun x => D.bl (b x)) (src := []) (L1 := L) (by simp only [aA,aB,aC,aD,aE,aF,aG,aH,aI,aJ,aK,aL,aM,aN,aO,aP,aQ,aR,aS,aU,aV,aW,aX,aY,aZ,bA,bB,bC,bD,bE,bF,bG,bH,bI,bJ,bK,bL,bM,bN,bO,bQ,bR,bS,bT,bU,bV,bW,bX,bY,bZ,cA,cB,cC,cD,cE,cF,cG,cH,cI,cJ,cK,cL,cO,cP,cQ,cS,cU,cV,cX,cY,cZ,dA,dB,dC,dD,dE,dH,dI,dJ,dL,dM,dN,dO,dQ,dR,dS,dU,dW,dX,dY,dZ,eA,eB,eD,eE,eF,eG,eI,eJ,eK,eM,eN,eO,eP,eQ,eR,eS,eT,eU,eV,eW,eX,eY,eZ,fA,fB,fC,fD,fE,fF,fG,fH,fJ,fK,fM,fN,fO,fP,fQ,fR,fS,fT,fU,fV,fW,fX,fY,fZ,gA,gB,gC,gD,gE,gF,gG,gH,gI,gJ,gK,gL,gM,gN,gO,gQ,gR,gS,gT,gU,gV,gW,gX,gY,gZ,hA,hJ,hO,hQ,hU,hV,hZ,iA,iB,iC,iD,iE,iF,iG,iH,iI,iJ,iK,iL,iM,iN,iO,iP,iQ,iR,iS,iT,iU,iV,iW,iX,iY,iZ,jA,jB,jC,jD,jE,jF,jG,jH,jI,jJ,jK,jL,jM,jN,jO,jP,jQ,jR,jS,jT,jU,jV,jW,jX,jY,jZ,kA,kB,kC,kD,kE,kF,kG,kH,kJ,kK,kL,kM,kN,kO,kP,kQ,kR,kS,kU,kW,kX,kY,kZ,lA,lB,lC,lD,lE,lF,lG,lH,lI,lJ,lK,lL,lM,lN,lO,lP,lQ,lR,lS,lT,lU,lV,lW,lX,lY,lZ,mB,mC,mD,mE,mF,mG,mH,mI,mJ,mK,mL,mM,mN,mO,mP,mQ,mR,mS,mT,mU,mV,mW,mX,mY,mZ,nB,nD,nE,nG,nH,nI,nJ,nK,nM,nN,nO,nP,nQ,nR,nS,nU,nV,nW,nX,nY,nZ,oA,oB,oC,oE,oG,oH,oI,oJ,oK,oL,oM,oN,oO,oQ,oR,oS,oU,oV,oW,oX,oY,oZ,pA,pB,pC,pD,pE,pF,pG,pH,pI,pJ,pK,pL,pM,pN,pO,pP,pQ,pR,pS,pU,pV,pW,pX,pY,pZ,qA,qB,qC,qD,qE,qF,qG,qH,qI,qJ,qK,qL,qM,qN,qO,kit_any hd]) srcOk_nil (by omega) fun x hx => ?_
    simp only [aA,aB,aC,aD,aE,aF,aG,aH,aI,aJ,aK,aL,aM,aN,aO,aP,aQ,aR,aS,aU,aV,aW,aX,aY,aZ,bA,bB,bC,bD,bE,bF,bG,bH,bI,bJ,bK,bL,bM,bN,bO,bQ,bR,bS,bT,bU,bV,bW,bX,bY,bZ,cA,cB,cC,cD,cE,cF,cG,cH,cI,cJ,cK,cL,cO,cP,cQ,cS,cU,cV,cX,cY,cZ,dA,dB,dC,dD,dE,dH,dI,dJ,dL,dM,dN,dO,dQ,dR,dS,dU,dW,dX,dY,dZ,eA,eB,eD,eE,eF,eG,eI,eJ,eK,eM,eN,eO,eP,eQ,eR,eS,eT,eU,eV,eW,eX,eY,eZ,fA,fB,fC,fD,fE,fF,fG,fH,fJ,fK,fM,fN,fO,fP,fQ,fR,fS,fT,fU,fV,fW,fX,fY,fZ,gA,gB,gC,gD,gE,gF,gG,gH,gI,gJ,gK,gL,gM,gN,gO,gQ,gR,gS,gT,gU,gV,gW,gX,gY,gZ,hA,hJ,hO,hQ,hU,hV,hZ,iA,iB,iC,iD,iE,iF,iG,iH,iI,iJ,iK,iL,iM,iN,iO,iP,iQ,iR,iS,iT,iU,iV,iW,iX,iY,iZ,jA,jB,jC,jD,jE,jF,jG,jH,jI,jJ,jK,jL,jM,jN,jO,jP,jQ,jR,jS,jT,jU,jV,jW,jX,jY,jZ,kA,kB,kC,kD,kE,kF,kG,kH,kJ,kK,kL,kM,kN,kO,kP,kQ,kR,kS,kU,kW,kX,kY,kZ,lA,lB,lC,lD,lE,lF,lG,lH,lI,lJ,lK,lL,lM,lN,lO,lP,lQ,lR,lS,lT,lU,lV,lW,lX,lY,lZ,mB,mC,mD,mE,mF,mG,mH,mI,mJ,mK,mL,mM,mN,mO,mP,mQ,mR,mS,mT,mU,mV,mW,mX,mY,mZ,nB,nD,nE,nG,nH,nI,nJ,nK,nM,nN,nO,nP,nQ,nR,nS,nU,nV,nW,nX,nY,nZ,oA,oB,oC,oE,oG,oH,oI,oJ,oK,oL,oM,oN,oO,oQ,oR,oS,oU,oV,oW,oX,oY,oZ,pA,pB,pC,pD,pE,pF,pG,pH,pI,pJ,pK,pL,pM,pN,pO,pP,pQ,pR,pS,pU,pV,pW,pX,pY,pZ,qA,qB,qC,qD,qE,qF,qG,qH,qI,qJ,qK,qL,qM,qN,qO,id,h x hx]
  have nt : newT [] L = .ok (.tup []) L := z_newT (show 0 ≤ 16777216 by decide)
  have ga := gAll_map (L := L) xs b
  rw [k] at ga
  have hn : xs ≠ [] := fun e => by rw [e] at k; cases k
  simp only [u_write_row,F_write_row,aA,aB,aC,aD,aE,aF,aG,aH,aI,aJ,aK,aL,aM,aN,aO,aP,aQ,aR,aS,aU,aV,aW,aX,aY,aZ,bA,bB,bC,bD,bE,bF,bG,bH,bI,bJ,bK,bL,bM,bN,bO,bQ,bR,bS,bT,bU,bV,bW,bX,bY,bZ,cA,cB,cC,cD,cE,cF,cG,cH,cI,cJ,cK,cL,cO,cP,cQ,cS,cU,cV,cX,cY,cZ,dA,dB,dC,dD,dE,dH,dI,dJ,dL,dM,dN,dO,dQ,dR,dS,dU,dW,dX,dY,dZ,eA,eB,eD,eE,eF,eG,eI,eJ,eK,eM,eN,eO,eP,eQ,eR,eS,eT,eU,eV,eW,eX,eY,eZ,fA,fB,fC,fD,fE,fF,fG,fH,fJ,fK,fM,fN,fO,fP,fQ,fR,fS,fT,fU,fV,fW,fX,fY,fZ,gA,gB,gC,gD,gE,gF,gG,gH,gI,gJ,gK,gL,gM,gN,gO,gQ,gR,gS,gT,gU,gV,gW,gX,gY,gZ,hA,hJ,hO,hQ,hU,hV,hZ,iA,iB,iC,iD,iE,iF,iG,iH,iI,iJ,iK,iL,iM,iN,iO,iP,iQ,iR,iS,iT,iU,iV,iW,iX,iY,iZ,jA,jB,jC,jD,jE,jF,jG,jH,jI,jJ,jK,jL,jM,jN,jO,jP,jQ,jR,jS,jT,jU,jV,jW,jX,jY,jZ,kA,kB,kC,kD,kE,kF,kG,kH,kJ,kK,kL,kM,kN,kO,kP,kQ,kR,kS,kU,kW,kX,kY,kZ,lA,lB,lC,lD,lE,lF,lG,lH,lI,lJ,lK,lL,lM,lN,lO,lP,lQ,lR,lS,lT,lU,lV,lW,lX,lY,lZ,mB,mC,mD,mE,mF,mG,mH,mI,mJ,mK,mL,mM,mN,mO,mP,mQ,mR,mS,mT,mU,mV,mW,mX,mY,mZ,nB,nD,nE,nG,nH,nI,nJ,nK,nM,nN,nO,nP,nQ,nR,nS,nU,nV,nW,nX,nY,nZ,oA,oB,oC,oE,oG,oH,oI,oJ,oK,oL,oM,oN,oO,oQ,oR,oS,oU,oV,oW,oX,oY,oZ,pA,pB,pC,pD,pE,pF,pG,pH,pI,pJ,pK,pL,pM,pN,pO,pP,pQ,pR,pS,pU,pV,pW,pX,pY,pZ,qA,qB,qC,qD,qE,qF,qG,qH,qI,qJ,qK,qL,qM,qN,qO,qP,qQ,qR,qS,qT,qU,qV,qW,qX,qY,qZ,rA,rB,rC,rD,rE,rF,rG,rH,rJ,rK,rL,rM,rN,rO,rP,rQ,rR,rS,rT,rV,rW,rX,rY,rZ,sA,sD,sE,sF,sG,sH,sJ,sK,sL,sM,sN,sO,sP,sQ,kG,kF,kK,sR,sS,sT,sU,isi_anyT hd,eq_any o hn hd,nt,c1,ga,Bool.not_true,Bool.not_false,Bool.false_eq_true,if_false,if_true]
theorem wc_any {b : D → Bool} (o : okDL 59 xs = true) (hl : xs.length ≤ 100) (h : ∀ x ∈ xs, ∀ L, m_are_numbers [x, .int 2] L = .ok (.bl (b x)) L) (k : xs.all b = false) (hd : d = .tg xs ∨ d = .tup xs) : m_write_chain [d] L = .err "InvalidOperation" [] L := by
  have c1 : C1_write_chain [some d, none, none, none] L = .ok (.lst (xs.map fun x => D.bl (b x))) L := by
    refine lc_map (box := false) xs id (fun x => D.bl (b x)) (src := []) (L1 := L) (by simp only [aA,aB,aC,aD,aE,aF,aG,aH,aI,aJ,aK,aL,aM,aN,aO,aP,aQ,aR,aS,aU,aV,aW,aX,aY,aZ,bA,bB,bC,bD,bE,bF,bG,bH,bI,bJ,bK,bL,bM,bN,bO,bQ,bR,bS,bT,bU,bV,bW,bX,bY,bZ,cA,cB,cC,cD,cE,cF,cG,cH,cI,cJ,cK,cL,cO,cP,cQ,cS,cU,cV,cX,cY,cZ,dA,dB,dC,dD,dE,dH,dI,dJ,dL,dM,dN,dO,dQ,dR,dS,dU,dW,dX,dY,dZ,eA,eB,eD,eE,eF,eG,eI,eJ,eK,eM,eN,eO,eP,eQ,eR,eS,eT,eU,eV,eW,eX,eY,eZ,fA,fB,fC,fD,fE,fF,fG,fH,fJ,fK,fM,fN,fO,fP,fQ,fR,fS,fT,fU,fV,fW,fX,fY,fZ,gA,gB,gC,gD,gE,gF,gG,gH,gI,gJ,gK,gL,gM,gN,gO,gQ,gR,gS,gT,gU,gV,gW,gX,gY,gZ,hA,hJ,hO,hQ,hU,hV,hZ,iA,iB,iC,iD,iE,iF,iG,iH,iI,iJ,iK,iL,iM,iN,iO,iP,iQ,iR,iS,iT,iU,iV,iW,iX,iY,iZ,jA,jB,jC,jD,jE,jF,jG,jH,jI,jJ,jK,jL,jM,jN,jO,jP,jQ,jR,jS,jT,jU,jV,jW,jX,jY,jZ,kA,kB,kC,kD,kE,kF,kG,kH,kJ,kK,kL,kM,kN,kO,kP,kQ,kR,kS,kU,kW,kX,kY,kZ,lA,lB,lC,lD,lE,lF,lG,lH,lI,lJ,lK,lL,lM,lN,lO,lP,lQ,lR,lS,lT,lU,lV,lW,lX,lY,lZ,mB,mC,mD,mE,mF,mG,mH,mI,mJ,mK,mL,mM,mN,mO,mP,mQ,mR,mS,mT,mU,mV,mW,mX,mY,mZ,nB,nD,nE,nG,nH,nI,nJ,nK,nM,nN,nO,nP,nQ,nR,nS,nU,nV,nW,nX,nY,nZ,oA,oB,oC,oE,oG,oH,oI,oJ,oK,oL,oM,oN,oO,oQ,oR,oS,oU,oV,oW,oX,oY,oZ,pA,pB,pC,pD,pE,pF,pG,pH,pI,pJ,pK,pL,pM,pN,pO,pP,pQ,pR,pS,pU,pV,pW,pX,pY,pZ,qA,qB,qC,qD,qE,qF,qG,qH,qI,qJ,qK,qL,qM,qN,qO,kit_any hd]) srcOk_nil (by omega) fun x hx => ?_
    simp only [aA,aB,aC,aD,aE,aF,aG,aH,aI,aJ,aK,aL,aM,aN,aO,aP,aQ,aR,aS,aU,aV,aW,aX,aY,aZ,bA,bB,bC,bD,bE,bF,bG,bH,bI,bJ,bK,bL,bM,bN,bO,bQ,bR,bS,bT,bU,bV,bW,bX,bY,bZ,cA,cB,cC,cD,cE,cF,cG,cH,cI,cJ,cK,cL,cO,cP,cQ,cS,cU,cV,cX,cY,cZ,dA,dB,dC,dD,dE,dH,dI,dJ,dL,dM,dN,dO,dQ,dR,dS,dU,dW,dX,dY,dZ,eA,eB,eD,eE,eF,eG,eI,eJ,eK,eM,eN,eO,eP,eQ,eR,eS,eT,eU,eV,eW,eX,eY,eZ,fA,fB,fC,fD,fE,fF,fG,fH,fJ,fK,fM,fN,fO,fP,fQ,fR,fS,fT,fU,fV,fW,fX,fY,fZ,gA,gB,gC,gD,gE,gF,gG,gH,gI,gJ,gK,gL,gM,gN,gO,gQ,gR,gS,gT,gU,gV,gW,gX,gY,gZ,hA,hJ,hO,hQ,hU,hV,hZ,iA,iB,iC,iD,iE,iF,iG,iH,iI,iJ,iK,iL,iM,iN,iO,iP,iQ,iR,iS,iT,iU,iV,iW,iX,iY,iZ,jA,jB,jC,jD,jE,jF,jG,jH,jI,jJ,jK,jL,jM,jN,jO,jP,jQ,jR,jS,jT,jU,jV,jW,jX,jY,jZ,kA,kB,kC,kD,kE,kF,kG,kH,kJ,kK,kL,kM,kN,kO,kP,kQ,kR,kS,kU,kW,kX,kY,kZ,lA,lB,lC,lD,lE,lF,lG,lH,lI,lJ,lK,lL,lM,lN,lO,lP,lQ,lR,lS,lT,lU,lV,lW,lX,lY,lZ,mB,mC,mD,mE,mF,mG,mH,mI,mJ,mK,mL,mM,mN,mO,mP,mQ,mR,mS,mT,mU,mV,mW,mX,mY,mZ,nB,nD,nE,nG,nH,nI,nJ,nK,nM,nN,nO,nP,nQ,nR,nS,nU,nV,nW,nX,nY,nZ,oA,oB,oC,oE,oG,oH,oI,oJ,oK,oL,oM,oN,oO,oQ,oR,oS,oU,oV,oW,oX,oY,oZ,pA,pB,pC,pD,pE,pF,pG,pH,pI,pJ,pK,pL,pM,pN,pO,pP,pQ,pR,pS,pU,pV,pW,pX,pY,pZ,qA,qB,qC,qD,qE,qF,qG,qH,qI,qJ,qK,qL,qM,qN,qO,id,h x hx]
  have nt : newT [] L = .ok (.tup []) L := z_newT (show 0 ≤ 16777216 by decide)
  have ga := gAll_map (L := L) xs b
  rw [k] at ga
  have hn : xs ≠ [] := fun e => by rw [e] at k; cases k
  simp only [u_write_chain,F_write_chain,aA,aB,aC,aD,aE,aF,aG,aH,aI,aJ,aK,aL,aM,aN,aO,aP,aQ,aR,aS,aU,aV,aW,aX,aY,aZ,bA,bB,bC,bD,bE,bF,bG,bH,bI,bJ,bK,bL,bM,bN,bO,bQ,bR,bS,bT,bU,bV,bW,bX,bY,bZ,cA,cB,cC,cD,cE,cF,cG,cH,cI,cJ,cK,cL,cO,cP,cQ,cS,cU,cV,cX,cY,cZ,dA,dB,dC,dD,dE,dH,dI,dJ,dL,dM,dN,dO,dQ,dR,dS,dU,dW,dX,dY,dZ,eA,eB,eD,eE,eF,eG,eI,eJ,eK,eM,eN,eO,eP,eQ,eR,eS,eT,eU,eV,eW,eX,eY,eZ,fA,fB,fC,fD,fE,fF,fG,fH,fJ,fK,fM,fN,fO,fP,fQ,fR,fS,fT,fU,fV,fW,fX,fY,fZ,gA,gB,gC,gD,gE,gF,gG,gH,gI,gJ,gK,gL,gM,gN,gO,gQ,gR,gS,gT,gU,gV,gW,gX,gY,gZ,hA,hJ,hO,hQ,hU,hV,hZ,iA,iB,iC,iD,iE,iF,iG,iH,iI,iJ,iK,iL,iM,iN,iO,iP,iQ,iR,iS,iT,iU,iV,iW,iX,iY,iZ,jA,jB,jC,jD,jE,jF,jG,jH,jI,jJ,jK,jL,jM,jN,jO,jP,jQ,jR,jS,jT,jU,jV,jW,jX,jY,jZ,kA,kB,kC,kD,kE,kF,kG,kH,kJ,kK,kL,kM,kN,kO,kP,kQ,kR,kS,kU,kW,kX,kY,kZ,lA,lB,lC,lD,lE,lF,lG,lH,lI,lJ,lK,lL,lM,lN,lO,lP,lQ,lR,lS,lT,lU,lV,lW,lX,lY,lZ,mB,mC,mD,mE,mF,mG,mH,mI,mJ,mK,mL,mM,mN,mO,mP,mQ,mR,mS,mT,mU,mV,mW,mX,mY,mZ,nB,nD,nE,nG,nH,nI,nJ,nK,nM,nN,nO,nP,nQ,nR,nS,nU,nV,nW,nX,nY,nZ,oA,oB,oC,oE,oG,oH,oI,oJ,oK,oL,oM,oN,oO,oQ,oR,oS,oU,oV,oW,oX,oY,oZ,pA,pB,pC,pD,pE,pF,pG,pH,pI,pJ,pK,pL,pM,pN,pO,pP,pQ,pR,pS,pU,pV,pW,pX,pY,pZ,qA,qB,qC,qD,qE,qF,qG,qH,qI,qJ,qK,qL,qM,qN,qO,qP,qQ,qR,qS,qT,qU,qV,qW,qX,qY,qZ,rA,rB,rC,rD,rE,rF,rG,rH,rJ,rK,rL,rM,rN,rO,rP,rQ,rR,rS,rT,rV,rW,rX,rY,rZ,sA,sD,sE,sF,sG,sH,sJ,sK,sL,sM,sN,sO,sP,sQ,kG,kF,kK,sR,sS,sT,sU,isi_anyT hd,eq_any o hn hd,nt,c1,ga,Bool.not_true,Bool.not_false,Bool.false_eq_true,if_false,if_true]
theorem wo_any {b : D → Bool} (o : okDL 59 xs = true) (hl : xs.length ≤ 100) (h : ∀ x ∈ xs, ∀ L, m_is_round [x] L = .ok (.bl (b x)) L) (k : xs.all b = false) (hd : d = .tg xs ∨ d = .tup xs) : m_write_rounds [d] L = .err "InvalidOperation" [] L := by
  have c1 : C1_write_rounds [some d, none, none, none, none, none] L = .ok (.lst (xs.map fun x => D.bl (b x))) L := by
    refine lc_map (box := false) xs id (fun x => D.bl (b x)) (src := []) (L1 := L) (by simp only [aA,aB,aC,aD,aE,aF,aG,aH,aI,aJ,aK,aL,aM,aN,aO,aP,aQ,aR,aS,aU,aV,aW,aX,aY,aZ,bA,bB,bC,bD,bE,bF,bG,bH,bI,bJ,bK,bL,bM,bN,bO,bQ,bR,bS,bT,bU,bV,bW,bX,bY,bZ,cA,cB,cC,cD,cE,cF,cG,cH,cI,cJ,cK,cL,cO,cP,cQ,cS,cU,cV,cX,cY,cZ,dA,dB,dC,dD,dE,dH,dI,dJ,dL,dM,dN,dO,dQ,dR,dS,dU,dW,dX,dY,dZ,eA,eB,eD,eE,eF,eG,eI,eJ,eK,eM,eN,eO,eP,eQ,eR,eS,eT,eU,eV,eW,eX,eY,eZ,fA,fB,fC,fD,fE,fF,fG,fH,fJ,fK,fM,fN,fO,fP,fQ,fR,fS,fT,fU,fV,fW,fX,fY,fZ,gA,gB,gC,gD,gE,gF,gG,gH,gI,gJ,gK,gL,gM,gN,gO,gQ,gR,gS,gT,gU,gV,gW,gX,gY,gZ,hA,hJ,hO,hQ,hU,hV,hZ,iA,iB,iC,iD,iE,iF,iG,iH,iI,iJ,iK,iL,iM,iN,iO,iP,iQ,iR,iS,iT,iU,iV,iW,iX,iY,iZ,jA,jB,jC,jD,jE,jF,jG,jH,jI,jJ,jK,jL,jM,jN,jO,jP,jQ,jR,jS,jT,jU,jV,jW,jX,jY,jZ,kA,kB,kC,kD,kE,kF,kG,kH,kJ,kK,kL,kM,kN,kO,kP,kQ,kR,kS,kU,kW,kX,kY,kZ,lA,lB,lC,lD,lE,lF,lG,lH,lI,lJ,lK,lL,lM,lN,lO,lP,lQ,lR,lS,lT,lU,lV,lW,lX,lY,lZ,mB,mC,mD,mE,mF,mG,mH,mI,mJ,mK,mL,mM,mN,mO,mP,mQ,mR,mS,mT,mU,mV,mW,mX,mY,mZ,nB,nD,nE,nG,nH,nI,nJ,nK,nM,nN,nO,nP,nQ,nR,nS,nU,nV,nW,nX,nY,nZ,oA,oB,oC,oE,oG,oH,oI,oJ,oK,oL,oM,oN,oO,oQ,oR,oS,oU,oV,oW,oX,oY,oZ,pA,pB,pC,pD,pE,pF,pG,pH,pI,pJ,pK,pL,pM,pN,pO,pP,pQ,pR,pS,pU,pV,pW,pX,pY,pZ,qA,qB,qC,qD,qE,qF,qG,qH,qI,qJ,qK,qL,qM,qN,qO,kit_any hd]) srcOk_nil (by omega) fun x hx => ?_
    simp only [aA,aB,aC,aD,aE,aF,aG,aH,aI,aJ,aK,aL,aM,aN,aO,aP,aQ,aR,aS,aU,aV,aW,aX,aY,aZ,bA,bB,bC,bD,bE,bF,bG,bH,bI,bJ,bK,bL,bM,bN,bO,bQ,bR,bS,bT,bU,bV,bW,bX,bY,bZ,cA,cB,cC,cD,cE,cF,cG,cH,cI,cJ,cK,cL,cO,cP,cQ,cS,cU,cV,cX,cY,cZ,dA,dB,dC,dD,dE,dH,dI,dJ,dL,dM,dN,dO,dQ,dR,dS,dU,dW,dX,dY,dZ,eA,eB,eD,eE,eF,eG,eI,eJ,eK,eM,eN,eO,eP,eQ,eR,eS,eT,eU,eV,eW,eX,eY,eZ,fA,fB,fC,fD,fE,fF,fG,fH,fJ,fK,fM,fN,fO,fP,fQ,fR,fS,fT,fU,fV,fW,fX,fY,fZ,gA,gB,gC,gD,gE,gF,gG,gH,gI,gJ,gK,gL,gM,gN,gO,gQ,gR,gS,gT,gU,gV,gW,gX,gY,gZ,hA,hJ,hO,hQ,hU,hV,hZ,iA,iB,iC,iD,iE,iF,iG,iH,iI,iJ,iK,iL,iM,iN,iO,iP,iQ,iR,iS,iT,iU,iV,iW,iX,iY,iZ,jA,jB,jC,jD,jE,jF,jG,jH,jI,jJ,jK,jL,jM,jN,jO,jP,jQ,jR,jS,jT,jU,jV,jW,jX,jY,jZ,kA,kB,kC,kD,kE,kF,kG,kH,kJ,kK,kL,kM,kN,kO,kP,kQ,kR,kS,kU,kW,kX,kY,kZ,lA,lB,lC,lD,lE,lF,lG,lH,lI,lJ,lK,lL,lM,lN,lO,lP,lQ,lR,lS,lT,lU,lV,lW,lX,lY,lZ,mB,mC,mD,mE,mF,mG,mH,mI,mJ,mK,mL,mM,mN,mO,mP,mQ,mR,mS,mT,mU,mV,mW,mX,mY,mZ,nB,nD,nE,nG,nH,nI,nJ,nK,nM,nN,nO,nP,nQ,nR,nS,nU,nV,nW,nX,nY,nZ,oA,oB,oC,oE,oG,oH,oI,oJ,oK,oL,oM,oN,oO,oQ,oR,oS,oU,oV,oW,oX,oY,oZ,pA,pB,pC,pD,pE,pF,pG,pH,pI,pJ,pK,pL,pM,pN,pO,pP,pQ,pR,pS,pU,pV,pW,pX,pY,pZ,qA,qB,qC,qD,qE,qF,qG,qH,qI,qJ,qK,qL,qM,qN,qO,id,h x hx]
  have nt : newT [] L = .ok (.tup []) L := z_newT (show 0 ≤ 16777216 by decide)
  have ga := gAll_map (L := L) xs b
  rw [k] at ga
  have hn : xs ≠ [] := fun e => by rw [e] at k; cases k
  simp only [u_write_rounds,F_write_rounds,aA,aB,aC,aD,aE,aF,aG,aH,aI,aJ,aK,aL,aM,aN,aO,aP,aQ,aR,aS,aU,aV,aW,aX,aY,aZ,bA,bB,bC,bD,bE,bF,bG,bH,bI,bJ,bK,bL,bM,bN,bO,bQ,bR,bS,bT,bU,bV,bW,bX,bY,bZ,cA,cB,cC,cD,cE,cF,cG,cH,cI,cJ,cK,cL,cO,cP,cQ,cS,cU,cV,cX,cY,cZ,dA,dB,dC,dD,dE,dH,dI,dJ,dL,dM,dN,dO,dQ,dR,dS,dU,dW,dX,dY,dZ,eA,eB,eD,eE,eF,eG,eI,eJ,eK,eM,eN,eO,eP,eQ,eR,eS,eT,eU,eV,eW,eX,eY,eZ,fA,fB,fC,fD,fE,fF,fG,fH,fJ,fK,fM,fN,fO,fP,fQ,fR,fS,fT,fU,fV,fW,fX,fY,fZ,gA,gB,gC,gD,gE,gF,gG,gH,gI,gJ,gK,gL,gM,gN,gO,gQ,gR,gS,gT,gU,gV,gW,gX,gY,gZ,hA,hJ,hO,hQ,hU,hV,hZ,iA,iB,iC,iD,iE,iF,iG,iH,iI,iJ,iK,iL,iM,iN,iO,iP,iQ,iR,iS,iT,iU,iV,iW,iX,iY,iZ,jA,jB,jC,jD,jE,jF,jG,jH,jI,jJ,jK,jL,jM,jN,jO,jP,jQ,jR,jS,jT,jU,jV,jW,jX,jY,jZ,kA,kB,kC,kD,kE,kF,kG,kH,kJ,kK,kL,kM,kN,kO,kP,kQ,kR,kS,kU,kW,kX,kY,kZ,lA,lB,lC,lD,lE,lF,lG,lH,lI,lJ,lK,lL,lM,lN,lO,lP,lQ,lR,lS,lT,lU,lV,lW,lX,lY,lZ,mB,mC,mD,mE,mF,mG,mH,mI,mJ,mK,mL,mM,mN,mO,mP,mQ,mR,mS,mT,mU,mV,mW,mX,mY,mZ,nB,nD,nE,nG,nH,nI,nJ,nK,nM,nN,nO,nP,nQ,nR,nS,nU,nV,nW,nX,nY,nZ,oA,oB,oC,oE,oG,oH,oI,oJ,oK,oL,oM,oN,oO,oQ,oR,oS,oU,oV,oW,oX,oY,oZ,pA,pB,pC,pD,pE,pF,pG,pH,pI,pJ,pK,pL,pM,pN,pO,pP,pQ,pR,pS,pU,pV,pW,pX,pY,pZ,qA,qB,qC,qD,qE,qF,qG,qH,qI,qJ,qK,qL,qM,qN,qO,qP,qQ,qR,qS,qT,qU,qV,qW,qX,qY,qZ,rA,rB,rC,rD,rE,rF,rG,rH,rJ,rK,rL,rM,rN,rO,rP,rQ,rR,rS,rT,rV,rW,rX,rY,rZ,sA,sD,sE,sF,sG,sH,sJ,sK,sL,sM,sN,sO,sP,sQ,kG,kF,kK,sR,sS,sT,sU,isi_anyT hd,eq_any o hn hd,nt,c1,ga,Bool.not_true,Bool.not_false,Bool.false_eq_true,if_false,if_true]
theorem wr_nil (hd : d = .tg [] ∨ d = .tup []) : m_write_row [d] L = .err "InvalidRow" [] L ∧ m_write_chain [d] L = .err "InvalidOperation" [] L ∧ m_write_rounds [d] L = .err "InvalidOperation" [] L := by
  have nt : newT [] L = .ok (.tup []) L := z_newT (show 0 ≤ 16777216 by decide)
  have i : gIsiK owns .tup d L = .ok (.bl true) L := by rcases hd with rfl | rfl <;> rfl
  have e : gEq d (.tup []) L = .ok (.bl true) L := by
    rcases hd with rfl | rfl
    · rw [gEq_ev (by rw [seen_tg, okD, okDL]) (by rw [seen_tup, okD, okDL]), seen_tg, seen_tup, eqD]
      rfl
    · rw [gEq_ev (by rw [seen_tup, okD, okDL]) (by rw [seen_tup, okD, okDL]), seen_tup, eqD]
      rfl
  refine ⟨?_, ?_, ?_⟩
  · simp only [u_write_row,F_write_row,aA,aB,aC,aD,aE,aF,aG,aH,aI,aJ,aK,aL,aM,aN,aO,aP,aQ,aR,aS,aU,aV,aW,aX,aY,aZ,bA,bB,bC,bD,bE,bF,bG,bH,bI,bJ,bK,bL,bM,bN,bO,bQ,bR,bS,bT,bU,bV,bW,bX,bY,bZ,cA,cB,cC,cD,cE,cF,cG,cH,cI,cJ,cK,cL,cO,cP,cQ,cS,cU,cV,cX,cY,cZ,dA,dB,dC,dD,dE,dH,dI,dJ,dL,dM,dN,dO,dQ,dR,dS,dU,dW,dX,dY,dZ,eA,eB,eD,eE,eF,eG,eI,eJ,eK,eM,eN,eO,eP,eQ,eR,eS,eT,eU,eV,eW,eX,eY,eZ,fA,fB,fC,fD,fE,fF,fG,fH,fJ,fK,fM,fN,fO,fP,fQ,fR,fS,fT,fU,fV,fW,fX,fY,fZ,gA,gB,gC,gD,gE,gF,gG,gH,gI,gJ,gK,gL,gM,gN,gO,gQ,gR,gS,gT,gU,gV,gW,gX,gY,gZ,hA,hJ,hO,hQ,hU,hV,hZ,iA,iB,iC,iD,iE,iF,iG,iH,iI,iJ,iK,iL,iM,iN,iO,iP,iQ,iR,iS,iT,iU,iV,iW,iX,iY,iZ,jA,jB,jC,jD,jE,jF,jG,jH,jI,jJ,jK,jL,jM,jN,jO,jP,jQ,jR,jS,jT,jU,jV,jW,jX,jY,jZ,kA,kB,kC,kD,kE,kF,kG,kH,kJ,kK,kL,kM,kN,kO,kP,kQ,kR,kS,kU,kW,kX,kY,kZ,lA,lB,lC,lD,lE,lF,lG,lH,lI,lJ,lK,lL,lM,lN,lO,lP,lQ,lR,lS,lT,lU,lV,lW,lX,lY,lZ,mB,mC,mD,mE,mF,mG,mH,mI,mJ,mK,mL,mM,mN,mO,mP,mQ,mR,mS,mT,mU,mV,mW,mX,mY,mZ,nB,nD,nE,nG,nH,nI,nJ,nK,nM,nN,nO,nP,nQ,nR,nS,nU,nV,nW,nX,nY,nZ,oA,oB,oC,oE,oG,oH,oI,oJ,oK,oL,oM,oN,oO,oQ,oR,oS,oU,oV,oW,oX,oY,oZ,pA,pB,pC,pD,pE,pF,pG,pH,pI,pJ,pK,pL,pM,pN,pO,pP,pQ,pR,pS,pU,pV,pW,pX,pY,pZ,qA,qB,qC,qD,qE,qF,qG,qH,qI,qJ,qK,qL,qM,qN,qO,qP,qQ,qR,qS,qT,qU,qV,qW,qX,qY,qZ,rA,rB,rC,rD,rE,rF,rG,rH,rJ,rK,rL,rM,rN,rO,rP,rQ,rR,rS,rT,rV,rW,rX,rY,rZ,sA,sD,sE,sF,sG,sH,sJ,sK,sL,sM,sN,sO,sP,sQ,kG,kF,kK,sR,sS,sT,sU,i,e,nt,Bool.not_true,Bool.false_eq_true,if_false,if_true]
  · simp only [u_write_chain,F_write_chain,aA,aB,aC,aD,aE,aF,aG,aH,aI,aJ,aK,aL,aM,aN,aO,aP,aQ,aR,aS,aU,aV,aW,aX,aY,aZ,bA,bB,bC,bD,bE,bF,bG,bH,bI,bJ,bK,bL,bM,bN,bO,bQ,bR,bS,bT,bU,bV,bW,bX,bY,bZ,cA,cB,cC,cD,cE,cF,cG,cH,cI,cJ,cK,cL,cO,cP,cQ,cS,cU,cV,cX,cY,cZ,dA,dB,dC,dD,dE,dH,dI,dJ,dL,dM,dN,dO,dQ,dR,dS,dU,dW,dX,dY,dZ,eA,eB,eD,eE,eF,eG,eI,eJ,eK,eM,eN,eO,eP,eQ,eR,eS,eT,eU,eV,eW,eX,eY,eZ,fA,fB,fC,fD,fE,fF,fG,fH,fJ,fK,fM,fN,fO,fP,fQ,fR,fS,fT,fU,fV,fW,fX,fY,fZ,gA,gB,gC,gD,gE,gF,gG,gH,gI,gJ,gK,gL,gM,gN,gO,gQ,gR,gS,gT,gU,gV,gW,gX,gY,gZ,hA,hJ,hO,hQ,hU,hV,hZ,iA,iB,iC,iD,iE,iF,iG,iH,iI,iJ,iK,iL,iM,iN,iO,iP,iQ,iR,iS,iT,iU,iV,iW,iX,iY,iZ,jA,jB,jC,jD,jE,jF,jG,jH,jI,jJ,jK,jL,jM,jN,jO,jP,jQ,jR,jS,jT,jU,jV,jW,jX,jY,jZ,kA,kB,kC,kD,kE,kF,kG,kH,kJ,kK,kL,kM,kN,kO,kP,kQ,kR,kS,kU,kW,kX,kY,kZ,lA,lB,lC,lD,lE,lF,lG,lH,lI,lJ,lK,lL,lM,lN,lO,lP,lQ,lR,lS,lT,lU,lV,lW,lX,lY,lZ,mB,mC,mD,mE,mF,mG,mH,mI,mJ,mK,mL,mM,mN,mO,mP,mQ,mR,mS,mT,mU,mV,mW,mX,mY,mZ,nB,nD,nE,nG,nH,nI,nJ,nK,nM,nN,nO,nP,nQ,nR,nS,nU,nV,nW,nX,nY,nZ,oA,oB,oC,oE,oG,oH,oI,oJ,oK,oL,oM,oN,oO,oQ,oR,oS,oU,oV,oW,oX,oY,oZ,pA,pB,pC,pD,pE,pF,pG,pH,pI,pJ,pK,pL,pM,pN,pO,pP,pQ,pR,pS,pU,pV,pW,pX,pY,pZ,qA,qB,qC,qD,qE,qF,qG,qH,qI,qJ,qK,qL,qM,qN,qO,qP,qQ,qR,qS,qT,qU,qV,qW,qX,qY,qZ,rA,rB,rC,rD,rE,rF,rG,rH,rJ,rK,rL,rM,rN,rO,rP,rQ,rR,rS,rT,rV,rW,rX,rY,rZ,sA,sD,sE,sF,sG,sH,sJ,sK,sL,sM,sN,sO,sP,sQ,kG,kF,kK,sR,sS,sT,sU,i,e,nt,Bool.not_true,Bool.false_eq_true,if_false,if_true]
  · simp only [u_write_rounds,F_write_rounds,aA,aB,aC,aD,aE,aF,aG,aH,aI,aJ,aK,aL,aM,aN,aO,aP,aQ,aR,aS,aU,aV,aW,aX,aY,aZ,bA,bB,bC,bD,bE,bF,bG,bH,bI,bJ,bK,bL,bM,bN,bO,bQ,bR,bS,bT,bU,bV,bW,bX,bY,bZ,cA,cB,cC,cD,cE,cF,cG,cH,cI,cJ,cK,cL,cO,cP,cQ,cS,cU,cV,cX,cY,cZ,dA,dB,dC,dD,dE,dH,dI,dJ,dL,dM,dN,dO,dQ,dR,dS,dU,dW,dX,dY,dZ,eA,eB,eD,eE,eF,eG,eI,eJ,eK,eM,eN,eO,eP,eQ,eR,eS,eT,eU,eV,eW,eX,eY,eZ,fA,fB,fC,fD,fE,fF,fG,fH,fJ,fK,fM,fN,fO,fP,fQ,fR,fS,fT,fU,fV,fW,fX,fY,fZ,gA,gB,gC,gD,gE,gF,gG,gH,gI,gJ,gK,gL,gM,gN,gO,gQ,gR,gS,gT,gU,gV,gW,gX,gY,gZ,hA,hJ,hO,hQ,hU,hV,hZ,iA,iB,iC,iD,iE,iF,iG,iH,iI,iJ,iK,iL,iM,iN,iO,iP,iQ,iR,iS,iT,iU,iV,iW,iX,iY,iZ,jA,jB,jC,jD,jE,jF,jG,jH,jI,jJ,jK,jL,jM,jN,jO,jP,jQ,jR,jS,jT,jU,jV,jW,jX,jY,jZ,kA,kB,kC,kD,kE,kF,kG,kH,kJ,kK,kL,kM,kN,kO,kP,kQ,kR,kS,kU,kW,kX,kY,kZ,lA,lB,lC,lD,lE,lF,lG,lH,lI,lJ,lK,lL,lM,lN,lO,lP,lQ,lR,lS,lT,lU,lV,lW,lX,lY,lZ,mB,mC,mD,mE,mF,mG,mH,mI,mJ,mK,mL,mM,mN,mO,mP,mQ,mR,mS,mT,mU,mV,mW,mX,mY,mZ,nB,nD,nE,nG,nH,nI,nJ,nK,nM,nN,nO,nP,nQ,nR,nS,nU,nV,nW,nX,nY,nZ,oA,oB,oC,oE,oG,oH,oI,oJ,oK,oL,oM,oN,oO,oQ,oR,oS,oU,oV,oW,oX,oY,oZ,pA,pB,pC,pD,pE,pF,pG,pH,pI,pJ,pK,pL,pM,pN,pO,pP,pQ,pR,pS,pU,pV,pW,pX,pY,pZ,qA,qB,qC,qD,qE,qF,qG,qH,qI,qJ,qK,qL,qM,qN,qO,qP,qQ,qR,qS,qT,qU,qV,qW,qX,qY,qZ,rA,rB,rC,rD,rE,rF,rG,rH,rJ,rK,rL,rM,rN,rO,rP,rQ,rR,rS,rT,rV,rW,rX,rY,rZ,sA,sD,sE,sF,sG,sH,sJ,sK,sL,sM,sN,sO,sP,sQ,kG,kF,kK,sR,sS,sT,sU,i,e,nt,Bool.not_true,Bool.false_eq_true,if_false,if_true]
end
theorem mem1 {α : Type} {P : α → Prop} {x : α} (h : P x) : ∀ y ∈ [x], P y := fun y hy => by rw [List.mem_singleton.mp hy]; exact h
def plB : D → Bool
  | .non => true
  | .bl _ => true
  | .int _ => true
  | .str _ => true
  | .tup _ => true
  | .tg _ => true
  | .lst _ => true
  | _ => false
def intB : D → Bool
  | .int i => decide (0 ≤ i)
  | _ => false
def itm : D → List D
  | .tup xs => xs
  | .tg xs => xs
  | _ => []
def tupB : D → Bool
  | .tup _ => true
  | .tg _ => true
  | _ => false
def numB (x : D) : Bool := tupB x && (decide ((itm x).length = 2) && (itm x).all intB)
def ltB : D → Bool
  | .tup [.int a, .int b] => decide (a < b)
  | _ => true
section
variable {x d : D} {L : Sto}
theorem int_any (h : plB x = true) (L : Sto) : m_is_integer [x, .int 0, .non] L = .ok (.bl (intB x)) L := by
  cases x <;> first | exact sInt_in | (cases h; done) | (simp only [u_is_integer,F_is_integer,aA,aB,aC,aD,aE,aF,aG,aH,aI,aJ,aK,aL,aM,aN,aO,aP,aQ,aR,aS,aU,aV,aW,aX,aY,aZ,bA,bB,bC,bD,bE,bF,bG,bH,bI,bJ,bK,bL,bM,bN,bO,bQ,bR,bS,bT,bU,bV,bW,bX,bY,bZ,cA,cB,cC,cD,cE,cF,cG,cH,cI,cJ,cK,cL,cO,cP,cQ,cS,cU,cV,cX,cY,cZ,dA,dB,dC,dD,dE,dH,dI,dJ,dL,dM,dN,dO,dQ,dR,dS,dU,dW,dX,dY,dZ,eA,eB,eD,eE,eF,eG,eI,eJ,eK,eM,eN,eO,eP,eQ,eR,eS,eT,eU,eV,eW,eX,eY,eZ,fA,fB,fC,fD,fE,fF,fG,fH,fJ,fK,fM,fN,fO,fP,fQ,fR,fS,fT,fU,fV,fW,fX,fY,fZ,gA,gB,gC,gD,gE,gF,gG,gH,gI,gJ,gK,gL,gM,gN,gO,gQ,gR,gS,gT,gU,gV,gW,gX,gY,gZ,hA,hJ,hO,hQ,hU,hV,hZ,iA,iB,iC,iD,iE,iF,iG,iH,iI,iJ,iK,iL,iM,iN,iO,iP,iQ,iR,iS,iT,iU,iV,iW,iX,iY,iZ,jA,jB,jC,jD,jE,jF,jG,jH,jI,jJ,jK,jL,jM,jN,jO,jP,jQ,jR,jS,jT,jU,jV,jW,jX,jY,jZ,kA,kB,kC,kD,kE,kF,kG,kH,kJ,kK,kL,kM,kN,kO,kP,kQ,kR,kS,kU,kW,kX,kY,kZ,lA,lB,lC,lD,lE,lF,lG,lH,lI,lJ,lK,lL,lM,lN,lO,lP,lQ,lR,lS,lT,lU,lV,lW,lX,lY,lZ,mB,mC,mD,mE,mF,mG,mH,mI,mJ,mK,mL,mM,mN,mO,mP,mQ,mR,mS,mT,mU,mV,mW,mX,mY,mZ,nB,nD,nE,nG,nH,nI,nJ,nK,nM,nN,nO,nP,nQ,nR,nS,nU,nV,nW,nX,nY,nZ,oA,oB,oC,oE,oG,oH,oI,oJ,oK,oL,oM,oN,oO,oQ,oR,oS,oU,oV,oW,oX,oY,oZ,pA,pB,pC,pD,pE,pF,pG,pH,pI,pJ,pK,pL,pM,pN,pO,pP,pQ,pR,pS,pU,pV,pW,pX,pY,pZ,qA,qB,qC,qD,qE,qF,qG,qH,qI,qJ,qK,qL,qM,qN,qO,qP,qQ,qR,qS,qT,qU,qV,qW,qX,qY,qZ,rA,rB,rC,rD,rE,rF,rG,rH,rJ,rK,rL,rM,rN,rO,rP,rQ,rR,rS,rT,rV,rW,rX,rY,rZ,sA,sD,sE,sF,sG,sH,sJ,sK,sL,sM,sN,sO,sP,sQ,kG,kF,kK,sR,sS,sT,sU,Bool.not_false,Bool.not_true,Bool.false_eq_true,if_false,if_true]; rfl)
theorem isi_any (h : plB x = true) (L : Sto) : gIsiK owns .tup x L = .ok (.bl (tupB x)) L := by
  cases x <;> first | rfl | (cases h; done)
theorem len_t (h : tupB x = true) (L : Sto) : gLen [x] L = .ok (.int ((itm x).length : Nat)) L := by
  cases x <;> first | exact kM | exact kL | (cases h; done)
theorem kit_t (h : tupB x = true) (L : Sto) : kit (.ok x L) = .ok ⟨itm x, []⟩ L := by
  cases x <;> first | rfl | (cases h; done)
theorem num_any (h : plB x = true) (hx : ∀ y ∈ itm x, plB y = true) (hl : (itm x).length ≤ 100) (L : Sto) : m_are_numbers [x, .int 2] L = .ok (.bl (numB x)) L := by
  have i := isi_any h L
  cases t : tupB x with
  | false =>
    rw [t] at i
    have e : numB x = false := by unfold numB; rw [t]; rfl
    simp only [u_are_numbers,F_are_numbers,aA,aB,aC,aD,aE,aF,aG,aH,aI,aJ,aK,aL,aM,aN,aO,aP,aQ,aR,aS,aU,aV,aW,aX,aY,aZ,bA,bB,bC,bD,bE,bF,bG,bH,bI,bJ,bK,bL,bM,bN,bO,bQ,bR,bS,bT,bU,bV,bW,bX,bY,bZ,cA,cB,cC,cD,cE,cF,cG,cH,cI,cJ,cK,cL,cO,cP,cQ,cS,cU,cV,cX,cY,cZ,dA,dB,dC,dD,dE,dH,dI,dJ,dL,dM,dN,dO,dQ,dR,dS,dU,dW,dX,dY,dZ,eA,eB,eD,eE,eF,eG,eI,eJ,eK,eM,eN,eO,eP,eQ,eR,eS,eT,eU,eV,eW,eX,eY,eZ,fA,fB,fC,fD,fE,fF,fG,fH,fJ,fK,fM,fN,fO,fP,fQ,fR,fS,fT,fU,fV,fW,fX,fY,fZ,gA,gB,gC,gD,gE,gF,gG,gH,gI,gJ,gK,gL,gM,gN,gO,gQ,gR,gS,gT,gU,gV,gW,gX,gY,gZ,hA,hJ,hO,hQ,hU,hV,hZ,iA,iB,iC,iD,iE,iF,iG,iH,iI,iJ,iK,iL,iM,iN,iO,iP,iQ,iR,iS,iT,iU,iV,iW,iX,iY,iZ,jA,jB,jC,jD,jE,jF,jG,jH,jI,jJ,jK,jL,jM,jN,jO,jP,jQ,jR,jS,jT,jU,jV,jW,jX,jY,jZ,kA,kB,kC,kD,kE,kF,kG,kH,kJ,kK,kL,kM,kN,kO,kP,kQ,kR,kS,kU,kW,kX,kY,kZ,lA,lB,lC,lD,lE,lF,lG,lH,lI,lJ,lK,lL,lM,lN,lO,lP,lQ,lR,lS,lT,lU,lV,lW,lX,lY,lZ,mB,mC,mD,mE,mF,mG,mH,mI,mJ,mK,mL,mM,mN,mO,mP,mQ,mR,mS,mT,mU,mV,mW,mX,mY,mZ,nB,nD,nE,nG,nH,nI,nJ,nK,nM,nN,nO,nP,nQ,nR,nS,nU,nV,nW,nX,nY,nZ,oA,oB,oC,oE,oG,oH,oI,oJ,oK,oL,oM,oN,oO,oQ,oR,oS,oU,oV,oW,oX,oY,oZ,pA,pB,pC,pD,pE,pF,pG,pH,pI,pJ,pK,pL,pM,pN,pO,pP,pQ,pR,pS,pU,pV,pW,pX,pY,pZ,qA,qB,qC,qD,qE,qF,qG,qH,qI,qJ,qK,qL,qM,qN,qO,qP,qQ,qR,qS,qT,qU,qV,qW,qX,qY,qZ,rA,rB,rC,rD,rE,rF,rG,rH,rJ,rK,rL,rM,rN,rO,rP,rQ,rR,rS,rT,rV,rW,rX,rY,rZ,sA,sD,sE,sF,sG,sH,sJ,sK,sL,sM,sN,sO,sP,sQ,kG,kF,kK,sR,sS,sT,sU,i,e,Bool.false_eq_true,if_false]
  | true =>
    rw [t] at i
    have l := len_t t L
    have c1 : C1_are_numbers [some x, some (.int 2), none] L = .ok (.lst ((itm x).map fun y => D.bl (intB y))) L := by
      refine lc_map (box := false) (itm x) id (fun y => D.bl (intB y)) (src := []) (L1 := L) ?_ srcOk_nil (by omega) fun y hy => ?_
      · simp only [aA,aB,aC,aD,aE,aF,aG,aH,aI,aJ,aK,aL,aM,aN,aO,aP,aQ,aR,aS,aU,aV,aW,aX,aY,aZ,bA,bB,bC,bD,bE,bF,bG,bH,bI,bJ,bK,bL,bM,bN,bO,bQ,bR,bS,bT,bU,bV,bW,bX,bY,bZ,cA,cB,cC,cD,cE,cF,cG,cH,cI,cJ,cK,cL,cO,cP,cQ,cS,cU,cV,cX,cY,cZ,dA,dB,dC,dD,dE,dH,dI,dJ,dL,dM,dN,dO,dQ,dR,dS,dU,dW,dX,dY,dZ,eA,eB,eD,eE,eF,eG,eI,eJ,eK,eM,eN,eO,eP,eQ,eR,eS,eT,eU,eV,eW,eX,eY,eZ,fA,fB,fC,fD,fE,fF,fG,fH,fJ,fK,fM,fN,fO,fP,fQ,fR,fS,fT,fU,fV,fW,fX,fY,fZ,gA,gB,gC,gD,gE,gF,gG,gH,gI,gJ,gK,gL,gM,gN,gO,gQ,gR,gS,gT,gU,gV,gW,gX,gY,gZ,hA,hJ,hO,hQ,hU,hV,hZ,iA,iB,iC,iD,iE,iF,iG,iH,iI,iJ,iK,iL,iM,iN,iO,iP,iQ,iR,iS,iT,iU,iV,iW,iX,iY,iZ,jA,jB,jC,jD,jE,jF,jG,jH,jI,jJ,jK,jL,jM,jN,jO,jP,jQ,jR,jS,jT,jU,jV,jW,jX,jY,jZ,kA,kB,kC,kD,kE,kF,kG,kH,kJ,kK,kL,kM,kN,kO,kP,kQ,kR,kS,kU,kW,kX,kY,kZ,lA,lB,lC,lD,lE,lF,lG,lH,lI,lJ,lK,lL,lM,lN,lO,lP,lQ,lR,lS,lT,lU,lV,lW,lX,lY,lZ,mB,mC,mD,mE,mF,mG,mH,mI,mJ,mK,mL,mM,mN,mO,mP,mQ,mR,mS,mT,mU,mV,mW,mX,mY,mZ,nB,nD,nE,nG,nH,nI,nJ,nK,nM,nN,nO,nP,nQ,nR,nS,nU,nV,nW,nX,nY,nZ,oA,oB,oC,oE,oG,oH,oI,oJ,oK,oL,oM,oN,oO,oQ,oR,oS,oU,oV,oW,oX,oY,oZ,pA,pB,pC,pD,pE,pF,pG,pH,pI,pJ,pK,pL,pM,pN,pO,pP,pQ,pR,pS,pU,pV,pW,pX,pY,pZ,qA,qB,qC,qD,qE,qF,qG,qH,qI,qJ,qK,qL,qM,qN,qO,kit_t t,List.map_id]
      · have := int_any (hx y hy) L
        simp only [aA,aB,aC,aD,aE,aF,aG,aH,aI,aJ,aK,aL,aM,aN,aO,aP,aQ,aR,aS,aU,aV,aW,aX,aY,aZ,bA,bB,bC,bD,bE,bF,bG,bH,bI,bJ,bK,bL,bM,bN,bO,bQ,bR,bS,bT,bU,bV,bW,bX,bY,bZ,cA,cB,cC,cD,cE,cF,cG,cH,cI,cJ,cK,cL,cO,cP,cQ,cS,cU,cV,cX,cY,cZ,dA,dB,dC,dD,dE,dH,dI,dJ,dL,dM,dN,dO,dQ,dR,dS,dU,dW,dX,dY,dZ,eA,eB,eD,eE,eF,eG,eI,eJ,eK,eM,eN,eO,eP,eQ,eR,eS,eT,eU,eV,eW,eX,eY,eZ,fA,fB,fC,fD,fE,fF,fG,fH,fJ,fK,fM,fN,fO,fP,fQ,fR,fS,fT,fU,fV,fW,fX,fY,fZ,gA,gB,gC,gD,gE,gF,gG,gH,gI,gJ,gK,gL,gM,gN,gO,gQ,gR,gS,gT,gU,gV,gW,gX,gY,gZ,hA,hJ,hO,hQ,hU,hV,hZ,iA,iB,iC,iD,iE,iF,iG,iH,iI,iJ,iK,iL,iM,iN,iO,iP,iQ,iR,iS,iT,iU,iV,iW,iX,iY,iZ,jA,jB,jC,jD,jE,jF,jG,jH,jI,jJ,jK,jL,jM,jN,jO,jP,jQ,jR,jS,jT,jU,jV,jW,jX,jY,jZ,kA,kB,kC,kD,kE,kF,kG,kH,kJ,kK,kL,kM,kN,kO,kP,kQ,kR,kS,kU,kW,kX,kY,kZ,lA,lB,lC,lD,lE,lF,lG,lH,lI,lJ,lK,lL,lM,lN,lO,lP,lQ,lR,lS,lT,lU,lV,lW,lX,lY,lZ,mB,mC,mD,mE,mF,mG,mH,mI,mJ,mK,mL,mM,mN,mO,mP,mQ,mR,mS,mT,mU,mV,mW,mX,mY,mZ,nB,nD,nE,nG,nH,nI,nJ,nK,nM,nN,nO,nP,nQ,nR,nS,nU,nV,nW,nX,nY,nZ,oA,oB,oC,oE,oG,oH,oI,oJ,oK,oL,oM,oN,oO,oQ,oR,oS,oU,oV,oW,oX,oY,oZ,pA,pB,pC,pD,pE,pF,pG,pH,pI,pJ,pK,pL,pM,pN,pO,pP,pQ,pR,pS,pU,pV,pW,pX,pY,pZ,qA,qB,qC,qD,qE,qF,qG,qH,qI,qJ,qK,qL,qM,qN,qO,id,this]
    have ga := gAll_map (L := L) (itm x) intB
    by_cases k : (itm x).length = 2
    · have k' : decide (((itm x).length : Int) = 2) = true := decide_eq_true (by omega)
      have e : numB x = (itm x).all intB := by unfold numB; rw [t, decide_eq_true k]; simp
      simp only [u_are_numbers,F_are_numbers,aA,aB,aC,aD,aE,aF,aG,aH,aI,aJ,aK,aL,aM,aN,aO,aP,aQ,aR,aS,aU,aV,aW,aX,aY,aZ,bA,bB,bC,bD,bE,bF,bG,bH,bI,bJ,bK,bL,bM,bN,bO,bQ,bR,bS,bT,bU,bV,bW,bX,bY,bZ,cA,cB,cC,cD,cE,cF,cG,cH,cI,cJ,cK,cL,cO,cP,cQ,cS,cU,cV,cX,cY,cZ,dA,dB,dC,dD,dE,dH,dI,dJ,dL,dM,dN,dO,dQ,dR,dS,dU,dW,dX,dY,dZ,eA,eB,eD,eE,eF,eG,eI,eJ,eK,eM,eN,eO,eP,eQ,eR,eS,eT,eU,eV,eW,eX,eY,eZ,fA,fB,fC,fD,fE,fF,fG,fH,fJ,fK,fM,fN,fO,fP,fQ,fR,fS,fT,fU,fV,fW,fX,fY,fZ,gA,gB,gC,gD,gE,gF,gG,gH,gI,gJ,gK,gL,gM,gN,gO,gQ,gR,gS,gT,gU,gV,gW,gX,gY,gZ,hA,hJ,hO,hQ,hU,hV,hZ,iA,iB,iC,iD,iE,iF,iG,iH,iI,iJ,iK,iL,iM,iN,iO,iP,iQ,iR,iS,iT,iU,iV,iW,iX,iY,iZ,jA,jB,jC,jD,jE,jF,jG,jH,jI,jJ,jK,jL,jM,jN,jO,jP,jQ,jR,jS,jT,jU,jV,jW,jX,jY,jZ,kA,kB,kC,kD,kE,kF,kG,kH,kJ,kK,kL,kM,kN,kO,kP,kQ,kR,kS,kU,kW,kX,kY,kZ,lA,lB,lC,lD,lE,lF,lG,lH,lI,lJ,lK,lL,lM,lN,lO,lP,lQ,lR,lS,lT,lU,lV,lW,lX,lY,lZ,mB,mC,mD,mE,mF,mG,mH,mI,mJ,mK,mL,mM,mN,mO,mP,mQ,mR,mS,mT,mU,mV,mW,mX,mY,mZ,nB,nD,nE,nG,nH,nI,nJ,nK,nM,nN,nO,nP,nQ,nR,nS,nU,nV,nW,nX,nY,nZ,oA,oB,oC,oE,oG,oH,oI,oJ,oK,oL,oM,oN,oO,oQ,oR,oS,oU,oV,oW,oX,oY,oZ,pA,pB,pC,pD,pE,pF,pG,pH,pI,pJ,pK,pL,pM,pN,pO,pP,pQ,pR,pS,pU,pV,pW,pX,pY,pZ,qA,qB,qC,qD,qE,qF,qG,qH,qI,qJ,qK,qL,qM,qN,qO,qP,qQ,qR,qS,qT,qU,qV,qW,qX,qY,qZ,rA,rB,rC,rD,rE,rF,rG,rH,rJ,rK,rL,rM,rN,rO,rP,rQ,rR,rS,rT,rV,rW,rX,rY,rZ,sA,sD,sE,sF,sG,sH,sJ,sK,sL,sM,sN,sO,sP,sQ,kG,kF,kK,sR,sS,sT,sU,i,l,sR,k',c1,ga,e,if_true]
    · have k' : decide (((itm x).length : Int) = 2) = false := decide_eq_false (by omega)
      have e : numB x = false := by unfold numB; rw [t, decide_eq_false k]; simp
      simp only [u_are_numbers,F_are_numbers,aA,aB,aC,aD,aE,aF,aG,aH,aI,aJ,aK,aL,aM,aN,aO,aP,aQ,aR,aS,aU,aV,aW,aX,aY,aZ,bA,bB,bC,bD,bE,bF,bG,bH,bI,bJ,bK,bL,bM,bN,bO,bQ,bR,bS,bT,bU,bV,bW,bX,bY,bZ,cA,cB,cC,cD,cE,cF,cG,cH,cI,cJ,cK,cL,cO,cP,cQ,cS,cU,cV,cX,cY,cZ,dA,dB,dC,dD,dE,dH,dI,dJ,dL,dM,dN,dO,dQ,dR,dS,dU,dW,dX,dY,dZ,eA,eB,eD,eE,eF,eG,eI,eJ,eK,eM,eN,eO,eP,eQ,eR,eS,eT,eU,eV,eW,eX,eY,eZ,fA,fB,fC,fD,fE,fF,fG,fH,fJ,fK,fM,fN,fO,fP,fQ,fR,fS,fT,fU,fV,fW,fX,fY,fZ,gA,gB,gC,gD,gE,gF,gG,gH,gI,gJ,gK,gL,gM,gN,gO,gQ,gR,gS,gT,gU,gV,gW,gX,gY,gZ,hA,hJ,hO,hQ,hU,hV,hZ,iA,iB,iC,iD,iE,iF,iG,iH,iI,iJ,iK,iL,iM,iN,iO,iP,iQ,iR,iS,iT,iU,iV,iW,iX,iY,iZ,jA,jB,jC,jD,jE,jF,jG,jH,jI,jJ,jK,jL,jM,jN,jO,jP,jQ,jR,jS,jT,jU,jV,jW,jX,jY,jZ,kA,kB,kC,kD,kE,kF,kG,kH,kJ,kK,kL,kM,kN,kO,kP,kQ,kR,kS,kU,kW,kX,kY,kZ,lA,lB,lC,lD,lE,lF,lG,lH,lI,lJ,lK,lL,lM,lN,lO,lP,lQ,lR,lS,lT,lU,lV,lW,lX,lY,lZ,mB,mC,mD,mE,mF,mG,mH,mI,mJ,mK,mL,mM,mN,mO,mP,mQ,mR,mS,mT,mU,mV,mW,mX,mY,mZ,nB,nD,nE,nG,nH,nI,nJ,nK,nM,nN,nO,nP,nQ,nR,nS,nU,nV,nW,nX,nY,nZ,oA,oB,oC,oE,oG,oH,oI,oJ,oK,oL,oM,oN,oO,oQ,oR,oS,oU,oV,oW,oX,oY,oZ,pA,pB,pC,pD,pE,pF,pG,pH,pI,pJ,pK,pL,pM,pN,pO,pP,pQ,pR,pS,pU,pV,pW,pX,pY,pZ,qA,qB,qC,qD,qE,qF,qG,qH,qI,qJ,qK,qL,qM,qN,qO,qP,qQ,qR,qS,qT,qU,qV,qW,qX,qY,qZ,rA,rB,rC,rD,rE,rF,rG,rH,rJ,rK,rL,rM,rN,rO,rP,rQ,rR,rS,rT,rV,rW,rX,rY,rZ,sA,sD,sE,sF,sG,sH,sJ,sK,sL,sM,sN,sO,sP,sQ,kG,kF,kK,sR,sS,sT,sU,i,l,sR,k',e,if_true,Bool.false_eq_true,if_false]
structure PrT (y : D) : Prop where
  p : plB y = true
  i : ∀ z ∈ itm y, plB z = true
  l : (itm y).length ≤ 100
  t : numB y = false ∨ ∃ t : P2, y = pairD t
theorem rnd_no (h : plB x = true) (hx : ∀ y ∈ itm x, PrT y) (hl : (itm x).length ≤ 100) (k : (itm x).all (fun y => numB y && ltB y) = false ∨ tupB x = false) (L : Sto) : m_is_round [x] L = .ok (.bl false) L := by
  have i := isi_any h L
  cases t : tupB x with
  | false =>
    rw [t] at i
    simp only [u_is_round,F_is_round,aA,aB,aC,aD,aE,aF,aG,aH,aI,aJ,aK,aL,aM,aN,aO,aP,aQ,aR,aS,aU,aV,aW,aX,aY,aZ,bA,bB,bC,bD,bE,bF,bG,bH,bI,bJ,bK,bL,bM,bN,bO,bQ,bR,bS,bT,bU,bV,bW,bX,bY,bZ,cA,cB,cC,cD,cE,cF,cG,cH,cI,cJ,cK,cL,cO,cP,cQ,cS,cU,cV,cX,cY,cZ,dA,dB,dC,dD,dE,dH,dI,dJ,dL,dM,dN,dO,dQ,dR,dS,dU,dW,dX,dY,dZ,eA,eB,eD,eE,eF,eG,eI,eJ,eK,eM,eN,eO,eP,eQ,eR,eS,eT,eU,eV,eW,eX,eY,eZ,fA,fB,fC,fD,fE,fF,fG,fH,fJ,fK,fM,fN,fO,fP,fQ,fR,fS,fT,fU,fV,fW,fX,fY,fZ,gA,gB,gC,gD,gE,gF,gG,gH,gI,gJ,gK,gL,gM,gN,gO,gQ,gR,gS,gT,gU,gV,gW,gX,gY,gZ,hA,hJ,hO,hQ,hU,hV,hZ,iA,iB,iC,iD,iE,iF,iG,iH,iI,iJ,iK,iL,iM,iN,iO,iP,iQ,iR,iS,iT,iU,iV,iW,iX,iY,iZ,jA,jB,jC,jD,jE,jF,jG,jH,jI,jJ,jK,jL,jM,jN,jO,jP,jQ,jR,jS,jT,jU,jV,jW,jX,jY,jZ,kA,kB,kC,kD,kE,kF,kG,kH,kJ,kK,kL,kM,kN,kO,kP,kQ,kR,kS,kU,kW,kX,kY,kZ,lA,lB,lC,lD,lE,lF,lG,lH,lI,lJ,lK,lL,lM,lN,lO,lP,lQ,lR,lS,lT,lU,lV,lW,lX,lY,lZ,mB,mC,mD,mE,mF,mG,mH,mI,mJ,mK,mL,mM,mN,mO,mP,mQ,mR,mS,mT,mU,mV,mW,mX,mY,mZ,nB,nD,nE,nG,nH,nI,nJ,nK,nM,nN,nO,nP,nQ,nR,nS,nU,nV,nW,nX,nY,nZ,oA,oB,oC,oE,oG,oH,oI,oJ,oK,oL,oM,oN,oO,oQ,oR,oS,oU,oV,oW,oX,oY,oZ,pA,pB,pC,pD,pE,pF,pG,pH,pI,pJ,pK,pL,pM,pN,pO,pP,pQ,pR,pS,pU,pV,pW,pX,pY,pZ,qA,qB,qC,qD,qE,qF,qG,qH,qI,qJ,qK,qL,qM,qN,qO,qP,qQ,qR,qS,qT,qU,qV,qW,qX,qY,qZ,rA,rB,rC,rD,rE,rF,rG,rH,rJ,rK,rL,rM,rN,rO,rP,rQ,rR,rS,rT,rV,rW,rX,rY,rZ,sA,sD,sE,sF,sG,sH,sJ,sK,sL,sM,sN,sO,sP,sQ,kG,kF,kK,sR,sS,sT,sU,i,Bool.not_false,if_true]
  | true =>
    rw [t] at i k
    have k := k.resolve_right (by decide)
    have c1 : C1_is_round [some x, none] L = .ok (.lst ((itm x).map fun y => D.bl (numB y && ltB y))) L := by
      refine lc_map (box := false) (itm x) id (fun y => D.bl (numB y && ltB y)) (src := []) (L1 := L) ?_ srcOk_nil (by omega) fun y hy => ?_
      · simp only [aA,aB,aC,aD,aE,aF,aG,aH,aI,aJ,aK,aL,aM,aN,aO,aP,aQ,aR,aS,aU,aV,aW,aX,aY,aZ,bA,bB,bC,bD,bE,bF,bG,bH,bI,bJ,bK,bL,bM,bN,bO,bQ,bR,bS,bT,bU,bV,bW,bX,bY,bZ,cA,cB,cC,cD,cE,cF,cG,cH,cI,cJ,cK,cL,cO,cP,cQ,cS,cU,cV,cX,cY,cZ,dA,dB,dC,dD,dE,dH,dI,dJ,dL,dM,dN,dO,dQ,dR,dS,dU,dW,dX,dY,dZ,eA,eB,eD,eE,eF,eG,eI,eJ,eK,eM,eN,eO,eP,eQ,eR,eS,eT,eU,eV,eW,eX,eY,eZ,fA,fB,fC,fD,fE,fF,fG,fH,fJ,fK,fM,fN,fO,fP,fQ,fR,fS,fT,fU,fV,fW,fX,fY,fZ,gA,gB,gC,gD,gE,gF,gG,gH,gI,gJ,gK,gL,gM,gN,gO,gQ,gR,gS,gT,gU,gV,gW,gX,gY,gZ,hA,hJ,hO,hQ,hU,hV,hZ,iA,iB,iC,iD,iE,iF,iG,iH,iI,iJ,iK,iL,iM,iN,iO,iP,iQ,iR,iS,iT,iU,iV,iW,iX,iY,iZ,jA,jB,jC,jD,jE,jF,jG,jH,jI,jJ,jK,jL,jM,jN,jO,jP,jQ,jR,jS,jT,jU,jV,jW,jX,jY,jZ,kA,kB,kC,kD,kE,kF,kG,kH,kJ,kK,kL,kM,kN,kO,kP,kQ,kR,kS,kU,kW,kX,kY,kZ,lA,lB,lC,lD,lE,lF,lG,lH,lI,lJ,lK,lL,lM,lN,lO,lP,lQ,lR,lS,lT,lU,lV,lW,lX,lY,lZ,mB,mC,mD,mE,mF,mG,mH,mI,mJ,mK,mL,mM,mN,mO,mP,mQ,mR,mS,mT,mU,mV,mW,mX,mY,mZ,nB,nD,nE,nG,nH,nI,nJ,nK,nM,nN,nO,nP,nQ,nR,nS,nU,nV,nW,nX,nY,nZ,oA,oB,oC,oE,oG,oH,oI,oJ,oK,oL,oM,oN,oO,oQ,oR,oS,oU,oV,oW,oX,oY,oZ,pA,pB,pC,pD,pE,pF,pG,pH,pI,pJ,pK,pL,pM,pN,pO,pP,pQ,pR,pS,pU,pV,pW,pX,pY,pZ,qA,qB,qC,qD,qE,qF,qG,qH,qI,qJ,qK,qL,qM,qN,qO,kit_t t,List.map_id]
      · have Y := hx y hy
        have n := num_any Y.p Y.i Y.l L
        rcases Y.t with e | ⟨s, rfl⟩
        · rw [e] at n
          simp only [aA,aB,aC,aD,aE,aF,aG,aH,aI,aJ,aK,aL,aM,aN,aO,aP,aQ,aR,aS,aU,aV,aW,aX,aY,aZ,bA,bB,bC,bD,bE,bF,bG,bH,bI,bJ,bK,bL,bM,bN,bO,bQ,bR,bS,bT,bU,bV,bW,bX,bY,bZ,cA,cB,cC,cD,cE,cF,cG,cH,cI,cJ,cK,cL,cO,cP,cQ,cS,cU,cV,cX,cY,cZ,dA,dB,dC,dD,dE,dH,dI,dJ,dL,dM,dN,dO,dQ,dR,dS,dU,dW,dX,dY,dZ,eA,eB,eD,eE,eF,eG,eI,eJ,eK,eM,eN,eO,eP,eQ,eR,eS,eT,eU,eV,eW,eX,eY,eZ,fA,fB,fC,fD,fE,fF,fG,fH,fJ,fK,fM,fN,fO,fP,fQ,fR,fS,fT,fU,fV,fW,fX,fY,fZ,gA,gB,gC,gD,gE,gF,gG,gH,gI,gJ,gK,gL,gM,gN,gO,gQ,gR,gS,gT,gU,gV,gW,gX,gY,gZ,hA,hJ,hO,hQ,hU,hV,hZ,iA,iB,iC,iD,iE,iF,iG,iH,iI,iJ,iK,iL,iM,iN,iO,iP,iQ,iR,iS,iT,iU,iV,iW,iX,iY,iZ,jA,jB,jC,jD,jE,jF,jG,jH,jI,jJ,jK,jL,jM,jN,jO,jP,jQ,jR,jS,jT,jU,jV,jW,jX,jY,jZ,kA,kB,kC,kD,kE,kF,kG,kH,kJ,kK,kL,kM,kN,kO,kP,kQ,kR,kS,kU,kW,kX,kY,kZ,lA,lB,lC,lD,lE,lF,lG,lH,lI,lJ,lK,lL,lM,lN,lO,lP,lQ,lR,lS,lT,lU,lV,lW,lX,lY,lZ,mB,mC,mD,mE,mF,mG,mH,mI,mJ,mK,mL,mM,mN,mO,mP,mQ,mR,mS,mT,mU,mV,mW,mX,mY,mZ,nB,nD,nE,nG,nH,nI,nJ,nK,nM,nN,nO,nP,nQ,nR,nS,nU,nV,nW,nX,nY,nZ,oA,oB,oC,oE,oG,oH,oI,oJ,oK,oL,oM,oN,oO,oQ,oR,oS,oU,oV,oW,oX,oY,oZ,pA,pB,pC,pD,pE,pF,pG,pH,pI,pJ,pK,pL,pM,pN,pO,pP,pQ,pR,pS,pU,pV,pW,pX,pY,pZ,qA,qB,qC,qD,qE,qF,qG,qH,qI,qJ,qK,qL,qM,qN,qO,id,n,e,Bool.false_and,Bool.false_eq_true,if_false]
        · have lt : ltB (pairD s) = decide (s.1 < s.2) := rfl
          cases q : numB (pairD s) with
          | false =>
            rw [q] at n
            simp only [aA,aB,aC,aD,aE,aF,aG,aH,aI,aJ,aK,aL,aM,aN,aO,aP,aQ,aR,aS,aU,aV,aW,aX,aY,aZ,bA,bB,bC,bD,bE,bF,bG,bH,bI,bJ,bK,bL,bM,bN,bO,bQ,bR,bS,bT,bU,bV,bW,bX,bY,bZ,cA,cB,cC,cD,cE,cF,cG,cH,cI,cJ,cK,cL,cO,cP,cQ,cS,cU,cV,cX,cY,cZ,dA,dB,dC,dD,dE,dH,dI,dJ,dL,dM,dN,dO,dQ,dR,dS,dU,dW,dX,dY,dZ,eA,eB,eD,eE,eF,eG,eI,eJ,eK,eM,eN,eO,eP,eQ,eR,eS,eT,eU,eV,eW,eX,eY,eZ,fA,fB,fC,fD,fE,fF,fG,fH,fJ,fK,fM,fN,fO,fP,fQ,fR,fS,fT,fU,fV,fW,fX,fY,fZ,gA,gB,gC,gD,gE,gF,gG,gH,gI,gJ,gK,gL,gM,gN,gO,gQ,gR,gS,gT,gU,gV,gW,gX,gY,gZ,hA,hJ,hO,hQ,hU,hV,hZ,iA,iB,iC,iD,iE,iF,iG,iH,iI,iJ,iK,iL,iM,iN,iO,iP,iQ,iR,iS,iT,iU,iV,iW,iX,iY,iZ,jA,jB,jC,jD,jE,jF,jG,jH,jI,jJ,jK,jL,jM,jN,jO,jP,jQ,jR,jS,jT,jU,jV,jW,jX,jY,jZ,kA,kB,kC,kD,kE,kF,kG,kH,kJ,kK,kL,kM,kN,kO,kP,kQ,kR,kS,kU,kW,kX,kY,kZ,lA,lB,lC,lD,lE,lF,lG,lH,lI,lJ,lK,lL,lM,lN,lO,lP,lQ,lR,lS,lT,lU,lV,lW,lX,lY,lZ,mB,mC,mD,mE,mF,mG,mH,mI,mJ,mK,mL,mM,mN,mO,mP,mQ,mR,mS,mT,mU,mV,mW,mX,mY,mZ,nB,nD,nE,nG,nH,nI,nJ,nK,nM,nN,nO,nP,nQ,nR,nS,nU,nV,nW,nX,nY,nZ,oA,oB,oC,oE,oG,oH,oI,oJ,oK,oL,oM,oN,oO,oQ,oR,oS,oU,oV,oW,oX,oY,oZ,pA,pB,pC,pD,pE,pF,pG,pH,pI,pJ,pK,pL,pM,pN,pO,pP,pQ,pR,pS,pU,pV,pW,pX,pY,pZ,qA,qB,qC,qD,qE,qF,qG,qH,qI,qJ,qK,qL,qM,qN,qO,id,n,Bool.false_and,Bool.false_eq_true,if_false]
          | true =>
            rw [q] at n
            simp only [aA,aB,aC,aD,aE,aF,aG,aH,aI,aJ,aK,aL,aM,aN,aO,aP,aQ,aR,aS,aU,aV,aW,aX,aY,aZ,bA,bB,bC,bD,bE,bF,bG,bH,bI,bJ,bK,bL,bM,bN,bO,bQ,bR,bS,bT,bU,bV,bW,bX,bY,bZ,cA,cB,cC,cD,cE,cF,cG,cH,cI,cJ,cK,cL,cO,cP,cQ,cS,cU,cV,cX,cY,cZ,dA,dB,dC,dD,dE,dH,dI,dJ,dL,dM,dN,dO,dQ,dR,dS,dU,dW,dX,dY,dZ,eA,eB,eD,eE,eF,eG,eI,eJ,eK,eM,eN,eO,eP,eQ,eR,eS,eT,eU,eV,eW,eX,eY,eZ,fA,fB,fC,fD,fE,fF,fG,fH,fJ,fK,fM,fN,fO,fP,fQ,fR,fS,fT,fU,fV,fW,fX,fY,fZ,gA,gB,gC,gD,gE,gF,gG,gH,gI,gJ,gK,gL,gM,gN,gO,gQ,gR,gS,gT,gU,gV,gW,gX,gY,gZ,hA,hJ,hO,hQ,hU,hV,hZ,iA,iB,iC,iD,iE,iF,iG,iH,iI,iJ,iK,iL,iM,iN,iO,iP,iQ,iR,iS,iT,iU,iV,iW,iX,iY,iZ,jA,jB,jC,jD,jE,jF,jG,jH,jI,jJ,jK,jL,jM,jN,jO,jP,jQ,jR,jS,jT,jU,jV,jW,jX,jY,jZ,kA,kB,kC,kD,kE,kF,kG,kH,kJ,kK,kL,kM,kN,kO,kP,kQ,kR,kS,kU,kW,kX,kY,kZ,lA,lB,lC,lD,lE,lF,lG,lH,lI,lJ,lK,lL,lM,lN,lO,lP,lQ,lR,lS,lT,lU,lV,lW,lX,lY,lZ,mB,mC,mD,mE,mF,mG,mH,mI,mJ,mK,mL,mM,mN,mO,mP,mQ,mR,mS,mT,mU,mV,mW,mX,mY,mZ,nB,nD,nE,nG,nH,nI,nJ,nK,nM,nN,nO,nP,nQ,nR,nS,nU,nV,nW,nX,nY,nZ,oA,oB,oC,oE,oG,oH,oI,oJ,oK,oL,oM,oN,oO,oQ,oR,oS,oU,oV,oW,oX,oY,oZ,pA,pB,pC,pD,pE,pF,pG,pH,pI,pJ,pK,pL,pM,pN,pO,pP,pQ,pR,pS,pU,pV,pW,pX,pY,pZ,qA,qB,qC,qD,qE,qF,qG,qH,qI,qJ,qK,qL,qM,qN,qO,id,n,if_true,lt,Bool.true_and]
    have ga := gAll_map (L := L) (itm x) fun y => numB y && ltB y
    rw [k] at ga
    simp only [u_is_round,F_is_round,aA,aB,aC,aD,aE,aF,aG,aH,aI,aJ,aK,aL,aM,aN,aO,aP,aQ,aR,aS,aU,aV,aW,aX,aY,aZ,bA,bB,bC,bD,bE,bF,bG,bH,bI,bJ,bK,bL,bM,bN,bO,bQ,bR,bS,bT,bU,bV,bW,bX,bY,bZ,cA,cB,cC,cD,cE,cF,cG,cH,cI,cJ,cK,cL,cO,cP,cQ,cS,cU,cV,cX,cY,cZ,dA,dB,dC,dD,dE,dH,dI,dJ,dL,dM,dN,dO,dQ,dR,dS,dU,dW,dX,dY,dZ,eA,eB,eD,eE,eF,eG,eI,eJ,eK,eM,eN,eO,eP,eQ,eR,eS,eT,eU,eV,eW,eX,eY,eZ,fA,fB,fC,fD,fE,fF,fG,fH,fJ,fK,fM,fN,fO,fP,fQ,fR,fS,fT,fU,fV,fW,fX,fY,fZ,gA,gB,gC,gD,gE,gF,gG,gH,gI,gJ,gK,gL,gM,gN,gO,gQ,gR,gS,gT,gU,gV,gW,gX,gY,gZ,hA,hJ,hO,hQ,hU,hV,hZ,iA,iB,iC,iD,iE,iF,iG,iH,iI,iJ,iK,iL,iM,iN,iO,iP,iQ,iR,iS,iT,iU,iV,iW,iX,iY,iZ,jA,jB,jC,jD,jE,jF,jG,jH,jI,jJ,jK,jL,jM,jN,jO,jP,jQ,jR,jS,jT,jU,jV,jW,jX,jY,jZ,kA,kB,kC,kD,kE,kF,kG,kH,kJ,kK,kL,kM,kN,kO,kP,kQ,kR,kS,kU,kW,kX,kY,kZ,lA,lB,lC,lD,lE,lF,lG,lH,lI,lJ,lK,lL,lM,lN,lO,lP,lQ,lR,lS,lT,lU,lV,lW,lX,lY,lZ,mB,mC,mD,mE,mF,mG,mH,mI,mJ,mK,mL,mM,mN,mO,mP,mQ,mR,mS,mT,mU,mV,mW,mX,mY,mZ,nB,nD,nE,nG,nH,nI,nJ,nK,nM,nN,nO,nP,nQ,nR,nS,nU,nV,nW,nX,nY,nZ,oA,oB,oC,oE,oG,oH,oI,oJ,oK,oL,oM,oN,oO,oQ,oR,oS,oU,oV,oW,oX,oY,oZ,pA,pB,pC,pD,pE,pF,pG,pH,pI,pJ,pK,pL,pM,pN,pO,pP,pQ,pR,pS,pU,pV,pW,pX,pY,pZ,qA,qB,qC,qD,qE,qF,qG,qH,qI,qJ,qK,qL,qM,qN,qO,qP,qQ,qR,qS,qT,qU,qV,qW,qX,qY,qZ,rA,rB,rC,rD,rE,rF,rG,rH,rJ,rK,rL,rM,rN,rO,rP,rQ,rR,rS,rT,rV,rW,rX,rY,rZ,sA,sD,sE,sF,sG,sH,sJ,sK,sL,sM,sN,sO,sP,sQ,kG,kF,kK,sR,sS,sT,sU,i,c1,ga,Bool.not_true,Bool.not_false,Bool.false_eq_true,if_false,if_true]
theorem rnd_two {s t : P2} (hs : numB (pairD s) = true) (ht : numB (pairD t) = true) (k : ltP s t = false) (L : Sto) : m_is_round [.tup [pairD s, pairD t]] L = .ok (.bl false) L := by
  by_cases lt : s.1 < s.2 ∧ t.1 < t.2
  · have c1 : C1_is_round [some (.tup [pairD s, pairD t]), none] L = .ok (.lst ([s, t].map fun _ => D.bl true)) L := by
      refine lc_map (box := false) [s, t] pairD (fun _ => D.bl true) (src := []) (L1 := L) rfl srcOk_nil (show 2 ≤ 1000000 by decide) fun y hy => ?_
      have hy' : numB (pairD y) = true ∧ y.1 < y.2 := by
        rcases List.mem_cons.mp hy with rfl | hy
        · exact ⟨hs, lt.1⟩
        · rw [List.mem_singleton.mp hy]; exact ⟨ht, lt.2⟩
      have n := num_any (x := pairD y) rfl (fun z hz => by
        rcases List.mem_cons.mp hz with rfl | hz
        · rfl
        · rw [List.mem_singleton.mp hz]; rfl) (show 2 ≤ 100 by decide) L
      rw [hy'.1] at n
      simp only [aA,aB,aC,aD,aE,aF,aG,aH,aI,aJ,aK,aL,aM,aN,aO,aP,aQ,aR,aS,aU,aV,aW,aX,aY,aZ,bA,bB,bC,bD,bE,bF,bG,bH,bI,bJ,bK,bL,bM,bN,bO,bQ,bR,bS,bT,bU,bV,bW,bX,bY,bZ,cA,cB,cC,cD,cE,cF,cG,cH,cI,cJ,cK,cL,cO,cP,cQ,cS,cU,cV,cX,cY,cZ,dA,dB,dC,dD,dE,dH,dI,dJ,dL,dM,dN,dO,dQ,dR,dS,dU,dW,dX,dY,dZ,eA,eB,eD,eE,eF,eG,eI,eJ,eK,eM,eN,eO,eP,eQ,eR,eS,eT,eU,eV,eW,eX,eY,eZ,fA,fB,fC,fD,fE,fF,fG,fH,fJ,fK,fM,fN,fO,fP,fQ,fR,fS,fT,fU,fV,fW,fX,fY,fZ,gA,gB,gC,gD,gE,gF,gG,gH,gI,gJ,gK,gL,gM,gN,gO,gQ,gR,gS,gT,gU,gV,gW,gX,gY,gZ,hA,hJ,hO,hQ,hU,hV,hZ,iA,iB,iC,iD,iE,iF,iG,iH,iI,iJ,iK,iL,iM,iN,iO,iP,iQ,iR,iS,iT,iU,iV,iW,iX,iY,iZ,jA,jB,jC,jD,jE,jF,jG,jH,jI,jJ,jK,jL,jM,jN,jO,jP,jQ,jR,jS,jT,jU,jV,jW,jX,jY,jZ,kA,kB,kC,kD,kE,kF,kG,kH,kJ,kK,kL,kM,kN,kO,kP,kQ,kR,kS,kU,kW,kX,kY,kZ,lA,lB,lC,lD,lE,lF,lG,lH,lI,lJ,lK,lL,lM,lN,lO,lP,lQ,lR,lS,lT,lU,lV,lW,lX,lY,lZ,mB,mC,mD,mE,mF,mG,mH,mI,mJ,mK,mL,mM,mN,mO,mP,mQ,mR,mS,mT,mU,mV,mW,mX,mY,mZ,nB,nD,nE,nG,nH,nI,nJ,nK,nM,nN,nO,nP,nQ,nR,nS,nU,nV,nW,nX,nY,nZ,oA,oB,oC,oE,oG,oH,oI,oJ,oK,oL,oM,oN,oO,oQ,oR,oS,oU,oV,oW,oX,oY,oZ,pA,pB,pC,pD,pE,pF,pG,pH,pI,pJ,pK,pL,pM,pN,pO,pP,pQ,pR,pS,pU,pV,pW,pX,pY,pZ,qA,qB,qC,qD,qE,qF,qG,qH,qI,qJ,qK,qL,qM,qN,qO,n,if_true,decide_eq_true hy'.2]
    have ga := gAll_map (L := L) [s, t] fun _ => true
    have a : m_is_ascending [.tup [pairD s, pairD t]] L = .ok (.bl false) L := by
      have c : C1_is_ascending [some (.tup [pairD s, pairD t]), none, none] L = .ok (.lst (([(s, t)] : List (P2 × P2)).map fun p => D.bl (ltP p.1 p.2))) L := by
        refine lc_map (box := false) [(s, t)] (fun p => D.tup [pairD p.1, pairD p.2]) _ (src := []) (L1 := L) ?_ srcOk_nil (show 1 ≤ 1000000 by decide) fun a ha => ?_
        · simp only [aA,aB,aC,aD,aE,aF,aG,aH,aI,aJ,aK,aL,aM,aN,aO,aP,aQ,aR,aS,aU,aV,aW,aX,aY,aZ,bA,bB,bC,bD,bE,bF,bG,bH,bI,bJ,bK,bL,bM,bN,bO,bQ,bR,bS,bT,bU,bV,bW,bX,bY,bZ,cA,cB,cC,cD,cE,cF,cG,cH,cI,cJ,cK,cL,cO,cP,cQ,cS,cU,cV,cX,cY,cZ,dA,dB,dC,dD,dE,dH,dI,dJ,dL,dM,dN,dO,dQ,dR,dS,dU,dW,dX,dY,dZ,eA,eB,eD,eE,eF,eG,eI,eJ,eK,eM,eN,eO,eP,eQ,eR,eS,eT,eU,eV,eW,eX,eY,eZ,fA,fB,fC,fD,fE,fF,fG,fH,fJ,fK,fM,fN,fO,fP,fQ,fR,fS,fT,fU,fV,fW,fX,fY,fZ,gA,gB,gC,gD,gE,gF,gG,gH,gI,gJ,gK,gL,gM,gN,gO,gQ,gR,gS,gT,gU,gV,gW,gX,gY,gZ,hA,hJ,hO,hQ,hU,hV,hZ,iA,iB,iC,iD,iE,iF,iG,iH,iI,iJ,iK,iL,iM,iN,iO,iP,iQ,iR,iS,iT,iU,iV,iW,iX,iY,iZ,jA,jB,jC,jD,jE,jF,jG,jH,jI,jJ,jK,jL,jM,jN,jO,jP,jQ,jR,jS,jT,jU,jV,jW,jX,jY,jZ,kA,kB,kC,kD,kE,kF,kG,kH,kJ,kK,kL,kM,kN,kO,kP,kQ,kR,kS,kU,kW,kX,kY,kZ,lA,lB,lC,lD,lE,lF,lG,lH,lI,lJ,lK,lL,lM,lN,lO,lP,lQ,lR,lS,lT,lU,lV,lW,lX,lY,lZ,mB,mC,mD,mE,mF,mG,mH,mI,mJ,mK,mL,mM,mN,mO,mP,mQ,mR,mS,mT,mU,mV,mW,mX,mY,mZ,nB,nD,nE,nG,nH,nI,nJ,nK,nM,nN,nO,nP,nQ,nR,nS,nU,nV,nW,nX,nY,nZ,oA,oB,oC,oE,oG,oH,oI,oJ,oK,oL,oM,oN,oO,oQ,oR,oS,oU,oV,oW,oX,oY,oZ,pA,pB,pC,pD,pE,pF,pG,pH,pI,pJ,pK,pL,pM,pN,pO,pP,pQ,pR,pS,pU,pV,pW,pX,pY,pZ,qA,qB,qC,qD,qE,qF,qG,qH,qI,qJ,qK,qL,qM,qN,qO]
          rfl
        · simp only [aA,aB,aC,aD,aE,aF,aG,aH,aI,aJ,aK,aL,aM,aN,aO,aP,aQ,aR,aS,aU,aV,aW,aX,aY,aZ,bA,bB,bC,bD,bE,bF,bG,bH,bI,bJ,bK,bL,bM,bN,bO,bQ,bR,bS,bT,bU,bV,bW,bX,bY,bZ,cA,cB,cC,cD,cE,cF,cG,cH,cI,cJ,cK,cL,cO,cP,cQ,cS,cU,cV,cX,cY,cZ,dA,dB,dC,dD,dE,dH,dI,dJ,dL,dM,dN,dO,dQ,dR,dS,dU,dW,dX,dY,dZ,eA,eB,eD,eE,eF,eG,eI,eJ,eK,eM,eN,eO,eP,eQ,eR,eS,eT,eU,eV,eW,eX,eY,eZ,fA,fB,fC,fD,fE,fF,fG,fH,fJ,fK,fM,fN,fO,fP,fQ,fR,fS,fT,fU,fV,fW,fX,fY,fZ,gA,gB,gC,gD,gE,gF,gG,gH,gI,gJ,gK,gL,gM,gN,gO,gQ,gR,gS,gT,gU,gV,gW,gX,gY,gZ,hA,hJ,hO,hQ,hU,hV,hZ,iA,iB,iC,iD,iE,iF,iG,iH,iI,iJ,iK,iL,iM,iN,iO,iP,iQ,iR,iS,iT,iU,iV,iW,iX,iY,iZ,jA,jB,jC,jD,jE,jF,jG,jH,jI,jJ,jK,jL,jM,jN,jO,jP,jQ,jR,jS,jT,jU,jV,jW,jX,jY,jZ,kA,kB,kC,kD,kE,kF,kG,kH,kJ,kK,kL,kM,kN,kO,kP,kQ,kR,kS,kU,kW,kX,kY,kZ,lA,lB,lC,lD,lE,lF,lG,lH,lI,lJ,lK,lL,lM,lN,lO,lP,lQ,lR,lS,lT,lU,lV,lW,lX,lY,lZ,mB,mC,mD,mE,mF,mG,mH,mI,mJ,mK,mL,mM,mN,mO,mP,mQ,mR,mS,mT,mU,mV,mW,mX,mY,mZ,nB,nD,nE,nG,nH,nI,nJ,nK,nM,nN,nO,nP,nQ,nR,nS,nU,nV,nW,nX,nY,nZ,oA,oB,oC,oE,oG,oH,oI,oJ,oK,oL,oM,oN,oO,oQ,oR,oS,oU,oV,oW,oX,oY,oZ,pA,pB,pC,pD,pE,pF,pG,pH,pI,pJ,pK,pL,pM,pN,pO,pP,pQ,pR,pS,pU,pV,pW,pX,pY,pZ,qA,qB,qC,qD,qE,qF,qG,qH,qI,qJ,qK,qL,qM,qN,qO,gLt_pr]
      have g2 := gAll_map (L := L) [(s, t)] fun p : P2 × P2 => ltP p.1 p.2
      have e : ([(s, t)].all fun p : P2 × P2 => ltP p.1 p.2) = false := by simp [k]
      rw [e] at g2
      simp only [u_is_ascending,F_is_ascending,aA,aB,aC,aD,aE,aF,aG,aH,aI,aJ,aK,aL,aM,aN,aO,aP,aQ,aR,aS,aU,aV,aW,aX,aY,aZ,bA,bB,bC,bD,bE,bF,bG,bH,bI,bJ,bK,bL,bM,bN,bO,bQ,bR,bS,bT,bU,bV,bW,bX,bY,bZ,cA,cB,cC,cD,cE,cF,cG,cH,cI,cJ,cK,cL,cO,cP,cQ,cS,cU,cV,cX,cY,cZ,dA,dB,dC,dD,dE,dH,dI,dJ,dL,dM,dN,dO,dQ,dR,dS,dU,dW,dX,dY,dZ,eA,eB,eD,eE,eF,eG,eI,eJ,eK,eM,eN,eO,eP,eQ,eR,eS,eT,eU,eV,eW,eX,eY,eZ,fA,fB,fC,fD,fE,fF,fG,fH,fJ,fK,fM,fN,fO,fP,fQ,fR,fS,fT,fU,fV,fW,fX,fY,fZ,gA,gB,gC,gD,gE,gF,gG,gH,gI,gJ,gK,gL,gM,gN,gO,gQ,gR,gS,gT,gU,gV,gW,gX,gY,gZ,hA,hJ,hO,hQ,hU,hV,hZ,iA,iB,iC,iD,iE,iF,iG,iH,iI,iJ,iK,iL,iM,iN,iO,iP,iQ,iR,iS,iT,iU,iV,iW,iX,iY,iZ,jA,jB,jC,jD,jE,jF,jG,jH,jI,jJ,jK,jL,jM,jN,jO,jP,jQ,jR,jS,jT,jU,jV,jW,jX,jY,jZ,kA,kB,kC,kD,kE,kF,kG,kH,kJ,kK,kL,kM,kN,kO,kP,kQ,kR,kS,kU,kW,kX,kY,kZ,lA,lB,lC,lD,lE,lF,lG,lH,lI,lJ,lK,lL,lM,lN,lO,lP,lQ,lR,lS,lT,lU,lV,lW,lX,lY,lZ,mB,mC,mD,mE,mF,mG,mH,mI,mJ,mK,mL,mM,mN,mO,mP,mQ,mR,mS,mT,mU,mV,mW,mX,mY,mZ,nB,nD,nE,nG,nH,nI,nJ,nK,nM,nN,nO,nP,nQ,nR,nS,nU,nV,nW,nX,nY,nZ,oA,oB,oC,oE,oG,oH,oI,oJ,oK,oL,oM,oN,oO,oQ,oR,oS,oU,oV,oW,oX,oY,oZ,pA,pB,pC,pD,pE,pF,pG,pH,pI,pJ,pK,pL,pM,pN,pO,pP,pQ,pR,pS,pU,pV,pW,pX,pY,pZ,qA,qB,qC,qD,qE,qF,qG,qH,qI,qJ,qK,qL,qM,qN,qO,c,g2]
    have i : gIsiK owns .tup (.tup [pairD s, pairD t]) L = .ok (.bl true) L := rfl
    have al : ([s, t].all fun _ => true) = true := rfl
    rw [al] at ga
    simp only [u_is_round,F_is_round,aA,aB,aC,aD,aE,aF,aG,aH,aI,aJ,aK,aL,aM,aN,aO,aP,aQ,aR,aS,aU,aV,aW,aX,aY,aZ,bA,bB,bC,bD,bE,bF,bG,bH,bI,bJ,bK,bL,bM,bN,bO,bQ,bR,bS,bT,bU,bV,bW,bX,bY,bZ,cA,cB,cC,cD,cE,cF,cG,cH,cI,cJ,cK,cL,cO,cP,cQ,cS,cU,cV,cX,cY,cZ,dA,dB,dC,dD,dE,dH,dI,dJ,dL,dM,dN,dO,dQ,dR,dS,dU,dW,dX,dY,dZ,eA,eB,eD,eE,eF,eG,eI,eJ,eK,eM,eN,eO,eP,eQ,eR,eS,eT,eU,eV,eW,eX,eY,eZ,fA,fB,fC,fD,fE,fF,fG,fH,fJ,fK,fM,fN,fO,fP,fQ,fR,fS,fT,fU,fV,fW,fX,fY,fZ,gA,gB,gC,gD,gE,gF,gG,gH,gI,gJ,gK,gL,gM,gN,gO,gQ,gR,gS,gT,gU,gV,gW,gX,gY,gZ,hA,hJ,hO,hQ,hU,hV,hZ,iA,iB,iC,iD,iE,iF,iG,iH,iI,iJ,iK,iL,iM,iN,iO,iP,iQ,iR,iS,iT,iU,iV,iW,iX,iY,iZ,jA,jB,jC,jD,jE,jF,jG,jH,jI,jJ,jK,jL,jM,jN,jO,jP,jQ,jR,jS,jT,jU,jV,jW,jX,jY,jZ,kA,kB,kC,kD,kE,kF,kG,kH,kJ,kK,kL,kM,kN,kO,kP,kQ,kR,kS,kU,kW,kX,kY,kZ,lA,lB,lC,lD,lE,lF,lG,lH,lI,lJ,lK,lL,lM,lN,lO,lP,lQ,lR,lS,lT,lU,lV,lW,lX,lY,lZ,mB,mC,mD,mE,mF,mG,mH,mI,mJ,mK,mL,mM,mN,mO,mP,mQ,mR,mS,mT,mU,mV,mW,mX,mY,mZ,nB,nD,nE,nG,nH,nI,nJ,nK,nM,nN,nO,nP,nQ,nR,nS,nU,nV,nW,nX,nY,nZ,oA,oB,oC,oE,oG,oH,oI,oJ,oK,oL,oM,oN,oO,oQ,oR,oS,oU,oV,oW,oX,oY,oZ,pA,pB,pC,pD,pE,pF,pG,pH,pI,pJ,pK,pL,pM,pN,pO,pP,pQ,pR,pS,pU,pV,pW,pX,pY,pZ,qA,qB,qC,qD,qE,qF,qG,qH,qI,qJ,qK,qL,qM,qN,qO,qP,qQ,qR,qS,qT,qU,qV,qW,qX,qY,qZ,rA,rB,rC,rD,rE,rF,rG,rH,rJ,rK,rL,rM,rN,rO,rP,rQ,rR,rS,rT,rV,rW,rX,rY,rZ,sA,sD,sE,sF,sG,sH,sJ,sK,sL,sM,sN,sO,sP,sQ,kG,kF,kK,sR,sS,sT,sU,i,c1,ga,a,Bool.not_true,Bool.false_eq_true,if_false]
  · refine rnd_no (x := .tup [pairD s, pairD t]) rfl (fun y hy => ?_) (show 2 ≤ 100 by decide) (.inl ?_) L
    · have : ∃ u : P2, y = pairD u := by
        rcases List.mem_cons.mp hy with rfl | hy
        · exact ⟨_, rfl⟩
        · rw [List.mem_singleton.mp hy]; exact ⟨_, rfl⟩
      obtain ⟨u, rfl⟩ := this
      exact ⟨rfl, fun z hz => by
        rcases List.mem_cons.mp hz with rfl | hz
        · rfl
        · rw [List.mem_singleton.mp hz]; rfl, (show 2 ≤ 100 by decide), .inr ⟨u, rfl⟩⟩
    · have e : (itm (.tup [pairD s, pairD t])).all (fun y => numB y && ltB y) = ((numB (pairD s) && decide (s.1 < s.2)) && ((numB (pairD t) && decide (t.1 < t.2)) && true)) := rfl
      rw [e, hs, ht]
      by_cases h1 : s.1 < s.2
      · have h2 : ¬ t.1 < t.2 := fun z => lt ⟨h1, z⟩
        simp [h2]
      · simp [h1]
end
structure Met8 (d : D) (ws : List Str) : Prop where
  all : ∀ L, m_l_all_met [d] L = .ok (.lst (ws.map .str)) L
section
variable {d : D} {L : Sto}
theorem bel_strs (n : Nat) (ws : List Str) : (D.lst (ws.map .str)).bel n = true := belL_of fun d hd => by
  obtain ⟨w, _, rfl⟩ := List.mem_map.mp hd
  rfl
theorem all8 {w1 w2 w3 w4 w5 w6 w7 w8 : Str} (h1 : ∀ L, m_l_met (fun L' => m_write_web [d] L') L = .ok (.str w1) L) (h2 : ∀ L, m_l_met (fun L' => m_write_row [d] L') L = .ok (.str w2) L)
    (h3 : ∀ L, m_l_met (fun L' => m_write_chain [d] L') L = .ok (.str w3) L) (h4 : ∀ L, m_l_met (fun L' => m_write_rounds [d] L') L = .ok (.str w4) L)
    (h5 : ∀ L, m_l_met (fun L' => m_read_web [d] L') L = .ok (.str w5) L) (h6 : ∀ L, m_l_met (fun L' => m_read_row [d] L') L = .ok (.str w6) L)
    (h7 : ∀ L, m_l_met (fun L' => m_read_chain [d] L') L = .ok (.str w7) L) (h8 : ∀ L, m_l_met (fun L' => m_read_rounds [d] L') L = .ok (.str w8) L) : Met8 d [w1, w2, w3, w4, w5, w6, w7, w8] := ⟨fun L => by
  have ap : ∀ (xs : List D) (d : D), xs.length ≤ 10 → gAppend (.loc L.length) [d] (L ++ [.lst xs]) = .ok .non (L ++ [.lst (xs ++ [d])]) := fun xs d h => z_app (by omega)
  have a1 := fun d => ap [.str w1] d (show 1 ≤ 10 by decide)
  have a2 := fun d => ap [.str w1, .str w2] d (show 2 ≤ 10 by decide)
  have a3 := fun d => ap [.str w1, .str w2, .str w3] d (show 3 ≤ 10 by decide)
  have a4 := fun d => ap [.str w1, .str w2, .str w3, .str w4] d (show 4 ≤ 10 by decide)
  have a5 := fun d => ap [.str w1, .str w2, .str w3, .str w4, .str w5] d (show 5 ≤ 10 by decide)
  have a6 := fun d => ap [.str w1, .str w2, .str w3, .str w4, .str w5, .str w6] d (show 6 ≤ 10 by decide)
  have a7 := fun d => ap [.str w1, .str w2, .str w3, .str w4, .str w5, .str w6, .str w7] d (show 7 ≤ 10 by decide)
  simp only [List.cons_append, List.nil_append] at a1 a2 a3 a4 a5 a6 a7
  simp only [u_l_all_met,F_l_all_met,aA,aB,aC,aD,aE,aF,aG,aH,aI,aJ,aK,aL,aM,aN,aO,aP,aQ,aR,aS,aU,aV,aW,aX,aY,aZ,bA,bB,bC,bD,bE,bF,bG,bH,bI,bJ,bK,bL,bM,bN,bO,bQ,bR,bS,bT,bU,bV,bW,bX,bY,bZ,cA,cB,cC,cD,cE,cF,cG,cH,cI,cJ,cK,cL,cO,cP,cQ,cS,cU,cV,cX,cY,cZ,dA,dB,dC,dD,dE,dH,dI,dJ,dL,dM,dN,dO,dQ,dR,dS,dU,dW,dX,dY,dZ,eA,eB,eD,eE,eF,eG,eI,eJ,eK,eM,eN,eO,eP,eQ,eR,eS,eT,eU,eV,eW,eX,eY,eZ,fA,fB,fC,fD,fE,fF,fG,fH,fJ,fK,fM,fN,fO,fP,fQ,fR,fS,fT,fU,fV,fW,fX,fY,fZ,gA,gB,gC,gD,gE,gF,gG,gH,gI,gJ,gK,gL,gM,gN,gO,gQ,gR,gS,gT,gU,gV,gW,gX,gY,gZ,hA,hJ,hO,hQ,hU,hV,hZ,iA,iB,iC,iD,iE,iF,iG,iH,iI,iJ,iK,iL,iM,iN,iO,iP,iQ,iR,iS,iT,iU,iV,iW,iX,iY,iZ,jA,jB,jC,jD,jE,jF,jG,jH,jI,jJ,jK,jL,jM,jN,jO,jP,jQ,jR,jS,jT,jU,jV,jW,jX,jY,jZ,kA,kB,kC,kD,kE,kF,kG,kH,kJ,kK,kL,kM,kN,kO,kP,kQ,kR,kS,kU,kW,kX,kY,kZ,lA,lB,lC,lD,lE,lF,lG,lH,lI,lJ,lK,lL,lM,lN,lO,lP,lQ,lR,lS,lT,lU,lV,lW,lX,lY,lZ,mB,mC,mD,mE,mF,mG,mH,mI,mJ,mK,mL,mM,mN,mO,mP,mQ,mR,mS,mT,mU,mV,mW,mX,mY,mZ,nB,nD,nE,nG,nH,nI,nJ,nK,nM,nN,nO,nP,nQ,nR,nS,nU,nV,nW,nX,nY,nZ,oA,oB,oC,oE,oG,oH,oI,oJ,oK,oL,oM,oN,oO,oQ,oR,oS,oU,oV,oW,oX,oY,oZ,pA,pB,pC,pD,pE,pF,pG,pH,pI,pJ,pK,pL,pM,pN,pO,pP,pQ,pR,pS,pU,pV,pW,pX,pY,pZ,qA,qB,qC,qD,qE,qF,qG,qH,qI,qJ,qK,qL,qM,qN,qO,qP,qQ,qR,qS,qT,qU,qV,qW,qX,qY,qZ,rA,rB,rC,rD,rE,rF,rG,rH,rJ,rK,rL,rM,rN,rO,rP,rQ,rR,rS,rT,rV,rW,rX,rY,rZ,sA,sD,sE,sF,sG,sH,sJ,sK,sL,sM,sN,sO,sP,sQ,kG,kF,kK,sR,sS,sT,sU,h1,h2,h3,h4,h5,h6,h7,h8,z_isL,a1,a2,a3,a4,a5,a6,a7]
  exact drop_last (bel_strs _ [w1, w2, w3, w4, w5, w6, w7, w8])⟩
theorem reads4 (h : ∀ L, gIsiK owns .str d L = .ok (.bl false) L) : (∀ L, m_l_met (fun L' => m_read_web [d] L') L = .ok (.str "parse None") L) ∧ (∀ L, m_l_met (fun L' => m_read_row [d] L') L = .ok (.str "parse None") L) ∧
    (∀ L, m_l_met (fun L' => m_read_chain [d] L') L = .ok (.str "parse None") L) ∧ (∀ L, m_l_met (fun L' => m_read_rounds [d] L') L = .ok (.str "parse None") L) :=
  ⟨fun L => met_parse (rdw_not h) told_pn, fun L => met_parse (rdr_not h) told_pn, fun L => met_parse (rdc_not h) told_pn, fun L => met_parse (rdo_not h) told_pn⟩
def due57 : List Str := ["web", "row", "operation", "operation", "parse None", "parse None", "parse None", "parse None"]
theorem odd8 (w : NotWeb d) (h : ∀ L, gIsiK owns .str d L = .ok (.bl false) L) (r : ∀ L, m_write_row [d] L = .err "InvalidRow" [] L) (c : ∀ L, m_write_chain [d] L = .err "InvalidOperation" [] L) (o : ∀ L, m_write_rounds [d] L = .err "InvalidOperation" [] L) : Met8 d due57 := by
  obtain ⟨h5, h6, h7, h8⟩ := reads4 h
  exact all8 (fun L => met_web (ww_not w)) (fun L => met_row (r L)) (fun L => met_op (c L)) (fun L => met_op (o L)) h5 h6 h7 h8
def isPr : D → Bool
  | .tup [.int _, .int _] => true
  | _ => false
theorem isPr_of {y : D} (h : isPr y = true) : ∃ t : P2, y = pairD t := by
  unfold isPr at h
  split at h
  · rename_i a b
    exact ⟨(a, b), rfl⟩
  · cases h
def okY (y : D) : Bool := plB y && ((itm y).all plB && (decide ((itm y).length ≤ 100) && (!numB y || isPr y)))
theorem prT_of {y : D} (h : okY y = true) : PrT y := by
  unfold okY at h
  obtain ⟨h1, h2⟩ := and2 h
  obtain ⟨h2, h3⟩ := and2 h2
  obtain ⟨h3, h4⟩ := and2 h3
  refine ⟨h1, List.all_eq_true.mp h2, of_decide_eq_true h3, ?_⟩
  cases n : numB y with
  | false => exact .inl rfl
  | true =>
    rw [n] at h4
    exact .inr (isPr_of h4)
def rndOk (x : D) : Bool := plB x && ((itm x).all okY && (decide ((itm x).length ≤ 100) && (!tupB x || !(itm x).all fun y => numB y && ltB y)))
theorem rnd_b {x : D} (h : rndOk x = true) (L : Sto) : m_is_round [x] L = .ok (.bl false) L := by
  unfold rndOk at h
  obtain ⟨h1, h2⟩ := and2 h
  obtain ⟨h2, h3⟩ := and2 h2
  obtain ⟨h3, h4⟩ := and2 h3
  refine rnd_no h1 (fun y hy => prT_of (List.all_eq_true.mp h2 y hy)) (of_decide_eq_true h3) ?_ L
  cases t : tupB x with
  | false => exact .inr rfl
  | true =>
    rw [t] at h4
    refine .inl ?_
    simpa using h4
theorem odd1 {x : D} (o : okD 59 x = true) (p : (plB x && (!intB x && ((itm x).all plB && (decide ((itm x).length ≤ 100) && !numB x)))) = true) (r : ∀ L, m_is_round [x] L = .ok (.bl false) L) : Met8 (.tg [x]) due57 := by
  obtain ⟨h1, h2⟩ := and2 p
  obtain ⟨h2, h3⟩ := and2 h2
  obtain ⟨h3, h4⟩ := and2 h3
  obtain ⟨h4, h5⟩ := and2 h4
  have i : intB x = false := by simpa using h2
  have n : numB x = false := by simpa using h5
  have o' : okDL 59 [x] = true := okDL_of (mem1 o)
  exact odd8 ⟨fun _ => rfl⟩ (fun _ => rfl) (fun L => wr_any (b := intB) o' (show 1 ≤ 100 by decide) (mem1 fun L => int_any h1 L) (by simp [i]) (.inl rfl))
    (fun L => wc_any (b := numB) o' (show 1 ≤ 100 by decide) (mem1 fun L => num_any h1 (List.all_eq_true.mp h3) (of_decide_eq_true h4) L) (by simp [n]) (.inl rfl))
    (fun L => wo_any (b := fun _ => false) o' (show 1 ≤ 100 by decide) (mem1 r) rfl (.inl rfl))
theorem odd2 {x : D} (o : okD 59 x = true) (p : (plB x && (!intB x && ((itm x).all plB && (decide ((itm x).length ≤ 100) && !numB x)))) = true) (r : rndOk x = true) : Met8 (.tg [x]) due57 := odd1 o p fun L => rnd_b r L
theorem odd0 (w : NotWeb d) (h : ∀ L, gIsiK owns .str d L = .ok (.bl false) L) (t : ∀ L, gIsiK owns .tup d L = .ok (.bl false) L) : Met8 d due57 := odd8 w h (fun _ => wr_not t) (fun _ => wc_not t) (fun _ => wo_not t)
end
def oddA : List D := [.non, .int 0, .lst [], .dK [], .bl true, .tg [], .tg [.str "0"], .tg [.non], .tg [.int (-1)], .tg [.bl true], .lst [.str "web 1"], .tg [.tup [.int 0]], .tg [.tup [.int 0, .int 1, .int 2]], .tg [.tup [.int 0, .int (-1)]]]
def oddB : List D := [.tg [.tup [.int 0, .non]], .tg [.lst [.int 0, .int 1]], .tg [.tup [.tup [.int 1, .int 0]]], .tg [.tup [.tup [.int 0, .int 1], .tup [.int 0, .int 1]]], .tg [.tup [.tup [.int 1, .int 2], .tup [.int 0, .int 1]]], .tg [.tup [.tup [.int 0, .int 0]]]]
def oddC : List D := [.tg [.tup [.tup [.int 0, .int 1, .int 2]]], .tg [.tup [.tup [.int 0]]]]
theorem odd_nil : Met8 (.tg []) due57 := odd8 ⟨fun _ => rfl⟩ (fun _ => rfl) (fun L => (wr_nil (.inl rfl)).1) (fun L => (wr_nil (.inl rfl)).2.1) (fun L => (wr_nil (.inl rfl)).2.2)
theorem oddA_ok : ∀ d ∈ oddA, Met8 d due57 := by
  unfold oddA
  simp only [List.forall_mem_cons]
  refine ⟨odd0 ⟨fun _ => rfl⟩ (fun _ => rfl) (fun _ => rfl), odd0 ⟨fun _ => rfl⟩ (fun _ => rfl) (fun _ => rfl), odd0 ⟨fun _ => rfl⟩ (fun _ => rfl) (fun _ => rfl), odd0 ⟨fun _ => rfl⟩ (fun _ => rfl) (fun _ => rfl), odd0 ⟨fun _ => rfl⟩ (fun _ => rfl) (fun _ => rfl),
    odd_nil, odd2 (by decide +kernel) (by decide +kernel) (by decide +kernel), odd2 (by decide +kernel) (by decide +kernel) (by decide +kernel), odd2 (by decide +kernel) (by decide +kernel) (by decide +kernel), odd2 (by decide +kernel) (by decide +kernel) (by decide +kernel),
    odd0 ⟨fun _ => rfl⟩ (fun _ => rfl) (fun _ => rfl), odd2 (by decide +kernel) (by decide +kernel) (by decide +kernel), odd2 (by decide +kernel) (by decide +kernel) (by decide +kernel), odd2 (by decide +kernel) (by decide +kernel) (by decide +kernel), fun _ z => nomatch z⟩
theorem oddB_ok : ∀ d ∈ oddB, Met8 d due57 := by
  unfold oddB
  simp only [List.forall_mem_cons]
  refine ⟨odd2 (by decide +kernel) (by decide +kernel) (by decide +kernel), odd2 (by decide +kernel) (by decide +kernel) (by decide +kernel), odd2 (by decide +kernel) (by decide +kernel) (by decide +kernel),
    odd1 (by decide +kernel) (by decide +kernel) (fun L => rnd_two (s := (0, 1)) (t := (0, 1)) (by decide +kernel) (by decide +kernel) (by decide +kernel) L),
    odd1 (by decide +kernel) (by decide +kernel) (fun L => rnd_two (s := (1, 2)) (t := (0, 1)) (by decide +kernel) (by decide +kernel) (by decide +kernel) L),
    odd2 (by decide +kernel) (by decide +kernel) (by decide +kernel), fun _ z => nomatch z⟩
theorem oddC_ok : ∀ d ∈ oddC, Met8 d due57 := by
  unfold oddC
  simp only [List.forall_mem_cons]
  exact ⟨odd2 (by decide +kernel) (by decide +kernel) (by decide +kernel), odd2 (by decide +kernel) (by decide +kernel) (by decide +kernel), fun _ z => nomatch z⟩
theorem odd_ok : ∀ d ∈ (oddA ++ oddB) ++ oddC, Met8 d due57 := fun d hd => by
  rcases List.mem_append.mp hd with h | h
  · rcases List.mem_append.mp h with h | h
    · exact oddA_ok d h
    · exact oddB_ok d h
  · exact oddC_ok d h
def dueAt (k : Nat) : List Str := (due57.zipIdx 0).map fun q => if q.2 = k then "fine" else q.1
theorem fine_web {W : Wb} (hW : W.Ok) (h10 : W.n ≤ 10) : Met8 (webD W) (dueAt 0) := by
  have t : ∀ L, gIsiK owns .tup (webD W) L = .ok (.bl false) L := fun _ => rfl
  have s : ∀ L, gIsiK owns .str (webD W) L = .ok (.bl false) L := fun _ => rfl
  obtain ⟨h5, h6, h7, h8⟩ := reads4 s
  exact all8 (w1 := "fine") (fun L => met_ok (writeWeb_ok hW h10 L)) (fun L => met_row (wr_not t)) (fun L => met_op (wc_not t)) (fun L => met_op (wo_not t)) h5 h6 h7 h8
theorem okDL_I (ns : List Int) : okDL 59 (ns.map .int) = true := okDL_ints _ _
theorem all_false {α : Type} {xs : List α} (h : xs ≠ []) : xs.all (fun _ => false) = false := by
  obtain ⟨x, ys, rfl⟩ := List.exists_cons_of_ne_nil h
  rfl
theorem fine_row {r : List Int} (hne : r ≠ []) (hr : ∀ x ∈ r, Num x) (hl : r.length ≤ 20) : Met8 (rowD r) (dueAt 1) := by
  have s : ∀ L, gIsiK owns .str (rowD r) L = .ok (.bl false) L := fun _ => rfl
  have w : NotWeb (rowD r) := ⟨fun _ => rfl⟩
  obtain ⟨h5, h6, h7, h8⟩ := reads4 s
  have ne : r.map D.int ≠ [] := fun e => hne (List.map_eq_nil_iff.mp e)
  have m : ∀ x ∈ r.map D.int, ∃ i, x = D.int i := fun x hx => by
    obtain ⟨i, _, rfl⟩ := List.mem_map.mp hx
    exact ⟨i, rfl⟩
  exact all8 (fun L => met_web (ww_not w)) (w2 := "fine") (fun L => met_ok (writeRow_ok hne hr hl L))
    (fun L => met_op (wc_any (xs := r.map .int) (b := fun _ => false) (okDL_I r) (by rw [List.length_map]; omega) (fun x hx L => by
      obtain ⟨i, rfl⟩ := m x hx
      exact num_any (x := .int i) rfl (fun _ z => nomatch z) (show 0 ≤ 100 by decide) L) (all_false ne) (.inl rfl)))
    (fun L => met_op (wo_any (xs := r.map .int) (b := fun _ => false) (okDL_I r) (by rw [List.length_map]; omega) (fun x hx L => by
      obtain ⟨i, rfl⟩ := m x hx
      exact rnd_b (x := .int i) rfl L) (all_false ne) (.inl rfl))) h5 h6 h7 h8
theorem fine_steps {ps : List P2} (hne : ps ≠ []) (hp : ∀ t ∈ ps, PrN t) (hl : ps.length ≤ 20) : Met8 (.tg (ps.map pairD)) (dueAt 2) := by
  have s : ∀ L, gIsiK owns .str (.tg (ps.map pairD)) L = .ok (.bl false) L := fun _ => rfl
  have w : NotWeb (.tg (ps.map pairD)) := ⟨fun _ => rfl⟩
  obtain ⟨h5, h6, h7, h8⟩ := reads4 s
  have ne : ps.map pairD ≠ [] := fun e => hne (List.map_eq_nil_iff.mp e)
  have m : ∀ x ∈ ps.map pairD, ∃ t, x = pairD t := fun x hx => by
    obtain ⟨i, _, rfl⟩ := List.mem_map.mp hx
    exact ⟨i, rfl⟩
  have o : okDL 59 (ps.map pairD) = true := okDL_prs _ _
  exact all8 (fun L => met_web (ww_not w))
    (fun L => met_row (wr_any (xs := ps.map pairD) (b := fun _ => false) o (by rw [List.length_map]; omega) (fun x hx L => by
      obtain ⟨i, rfl⟩ := m x hx
      exact int_any (x := pairD i) rfl L) (all_false ne) (.inl rfl))) (w3 := "fine") (fun L => met_ok (writeChain_ok hne hp hl L))
    (fun L => met_op (wo_any (xs := ps.map pairD) (b := fun _ => false) o (by rw [List.length_map]; omega) (fun x hx L => by
      obtain ⟨i, rfl⟩ := m x hx
      exact rnd_b (x := pairD i) rfl L) (all_false ne) (.inl rfl))) h5 h6 h7 h8
theorem fine_rounds {qs : List RQ4} (hne : qs ≠ []) (hq : ∀ q ∈ qs, LotN q.2 ∧ q.2.length ≤ 1) (hl : qs.length ≤ 20) : Met8 (.tup (qs.map encQ)) (dueAt 3) := by
  have s : ∀ L, gIsiK owns .str (.tup (qs.map encQ)) L = .ok (.bl false) L := fun _ => rfl
  have w : NotWeb (.tup (qs.map encQ)) := ⟨fun _ => rfl⟩
  obtain ⟨h5, h6, h7, h8⟩ := reads4 s
  have ne : qs.map encQ ≠ [] := fun e => hne (List.map_eq_nil_iff.mp e)
  have o : okDL 59 (qs.map encQ) = true := okDL_of fun d hd => by
    obtain ⟨p, _, rfl⟩ := List.mem_map.mp hd
    rcases encQ_or p with e | e <;> rw [e, okD] <;> exact okDL_prs _ _
  have i : ∀ x ∈ qs.map encQ, ∀ L, m_is_integer [x, .int 0, .non] L = .ok (.bl false) L := fun x hx L => by
    obtain ⟨p, _, rfl⟩ := List.mem_map.mp hx
    rcases encQ_or p with e | e <;> rw [e] <;> exact int_any rfl L
  have n : ∀ x ∈ qs.map encQ, ∀ L, m_are_numbers [x, .int 2] L = .ok (.bl false) L := fun x hx L => by
    obtain ⟨p, hp, rfl⟩ := List.mem_map.mp hx
    have l := (hq p hp).2
    have hi : itm (encQ p) = p.2.map pairD := by rcases encQ_or p with e | e <;> rw [e] <;> rfl
    have hb : plB (encQ p) = true := by rcases encQ_or p with e | e <;> rw [e] <;> rfl
    have hn : numB (encQ p) = false := by
      unfold numB
      have : decide ((itm (encQ p)).length = 2) = false := decide_eq_false (by rw [hi, List.length_map]; omega)
      rw [this]
      simp
    have := num_any hb (fun y hy => by
      rw [hi] at hy
      obtain ⟨t, _, rfl⟩ := List.mem_map.mp hy
      rfl) (by rw [hi, List.length_map]; omega) L
    rw [hn] at this
    exact this
  exact all8 (fun L => met_web (ww_not w)) (fun L => met_row (wr_any (xs := qs.map encQ) (b := fun _ => false) o (by rw [List.length_map]; omega) i (all_false ne) (.inr rfl)))
    (fun L => met_op (wc_any (xs := qs.map encQ) (b := fun _ => false) o (by rw [List.length_map]; omega) n (all_false ne) (.inr rfl))) (w4 := "fine") (fun L => met_ok (writeRounds_D (.inr rfl) hne (fun q h => (hq q h).1) hl L)) h5 h6 h7 h8
theorem tx0 : TxOk [[[]]] := ⟨by simp, fun ws h => by rw [List.mem_singleton.mp h]; exact ⟨by simp, fun w hw => by rw [List.mem_singleton.mp hw]; exact fun _ z => nomatch z⟩, (show 1 ≤ 50 by decide), fun ws h => by rw [List.mem_singleton.mp h]; decide, fun ws h w hw => by
  rw [List.mem_singleton.mp h] at hw
  rw [List.mem_singleton.mp hw]; decide⟩
theorem s_mt : ("" : Str) = SX.S (tx [[[]]]) := by decide +kernel
theorem words0 (L : Sto) : m_words_in [.str ""] L = .ok (.lst [.lst [.str (SX.S [])]]) L := by
  rw [s_mt]
  exact words_ok tx0 L
theorem nb0 {w : List Nat} (hw : asc w) (hne : w ≠ []) (L : Sto) : m_numbers_behind [.lst [.str (SX.S [])], .str (SX.S w)] L = .ok .non L := by
  have c : C1_numbers_behind [some (.lst [.str (SX.S [])]), some (.str (SX.S w)), none, none] L = .ok (.lst []) L := by
    refine lc_map (box := false) ([] : List Int) D.int D.int (src := []) (L1 := L) ?_ srcOk_nil (show 0 ≤ 1000000 by decide) fun i hx => nomatch hx
    simp only [aA,aB,aC,aD,aE,aF,aG,aH,aI,aJ,aK,aL,aM,aN,aO,aP,aQ,aR,aS,aU,aV,aW,aX,aY,aZ,bA,bB,bC,bD,bE,bF,bG,bH,bI,bJ,bK,bL,bM,bN,bO,bQ,bR,bS,bT,bU,bV,bW,bX,bY,bZ,cA,cB,cC,cD,cE,cF,cG,cH,cI,cJ,cK,cL,cO,cP,cQ,cS,cU,cV,cX,cY,cZ,dA,dB,dC,dD,dE,dH,dI,dJ,dL,dM,dN,dO,dQ,dR,dS,dU,dW,dX,dY,dZ,eA,eB,eD,eE,eF,eG,eI,eJ,eK,eM,eN,eO,eP,eQ,eR,eS,eT,eU,eV,eW,eX,eY,eZ,fA,fB,fC,fD,fE,fF,fG,fH,fJ,fK,fM,fN,fO,fP,fQ,fR,fS,fT,fU,fV,fW,fX,fY,fZ,gA,gB,gC,gD,gE,gF,gG,gH,gI,gJ,gK,gL,gM,gN,gO,gQ,gR,gS,gT,gU,gV,gW,gX,gY,gZ,hA,hJ,hO,hQ,hU,hV,hZ,iA,iB,iC,iD,iE,iF,iG,iH,iI,iJ,iK,iL,iM,iN,iO,iP,iQ,iR,iS,iT,iU,iV,iW,iX,iY,iZ,jA,jB,jC,jD,jE,jF,jG,jH,jI,jJ,jK,jL,jM,jN,jO,jP,jQ,jR,jS,jT,jU,jV,jW,jX,jY,jZ,kA,kB,kC,kD,kE,kF,kG,kH,kJ,kK,kL,kM,kN,kO,kP,kQ,kR,kS,kU,kW,kX,kY,kZ,lA,lB,lC,lD,lE,lF,lG,lH,lI,lJ,lK,lL,lM,lN,lO,lP,lQ,lR,lS,lT,lU,lV,lW,lX,lY,lZ,mB,mC,mD,mE,mF,mG,mH,mI,mJ,mK,mL,mM,mN,mO,mP,mQ,mR,mS,mT,mU,mV,mW,mX,mY,mZ,nB,nD,nE,nG,nH,nI,nJ,nK,nM,nN,nO,nP,nQ,nR,nS,nU,nV,nW,nX,nY,nZ,oA,oB,oC,oE,oG,oH,oI,oJ,oK,oL,oM,oN,oO,oQ,oR,oS,oU,oV,oW,oX,oY,oZ,pA,pB,pC,pD,pE,pF,pG,pH,pI,pJ,pK,pL,pM,pN,pO,pP,pQ,pR,pS,pU,pV,pW,pX,pY,pZ,qA,qB,qC,qD,qE,qF,qG,qH,qI,qJ,qK,qL,qM,qN,qO,sl_l1]
    rfl
  have e1 := gEq_S (a := []) (b := w) (fun _ z => nomatch z) hw L
  rw [decide_eq_false (fun e => hne e.symm)] at e1
  simp only [u_numbers_behind,F_numbers_behind,aA,aB,aC,aD,aE,aF,aG,aH,aI,aJ,aK,aL,aM,aN,aO,aP,aQ,aR,aS,aU,aV,aW,aX,aY,aZ,bA,bB,bC,bD,bE,bF,bG,bH,bI,bJ,bK,bL,bM,bN,bO,bQ,bR,bS,bT,bU,bV,bW,bX,bY,bZ,cA,cB,cC,cD,cE,cF,cG,cH,cI,cJ,cK,cL,cO,cP,cQ,cS,cU,cV,cX,cY,cZ,dA,dB,dC,dD,dE,dH,dI,dJ,dL,dM,dN,dO,dQ,dR,dS,dU,dW,dX,dY,dZ,eA,eB,eD,eE,eF,eG,eI,eJ,eK,eM,eN,eO,eP,eQ,eR,eS,eT,eU,eV,eW,eX,eY,eZ,fA,fB,fC,fD,fE,fF,fG,fH,fJ,fK,fM,fN,fO,fP,fQ,fR,fS,fT,fU,fV,fW,fX,fY,fZ,gA,gB,gC,gD,gE,gF,gG,gH,gI,gJ,gK,gL,gM,gN,gO,gQ,gR,gS,gT,gU,gV,gW,gX,gY,gZ,hA,hJ,hO,hQ,hU,hV,hZ,iA,iB,iC,iD,iE,iF,iG,iH,iI,iJ,iK,iL,iM,iN,iO,iP,iQ,iR,iS,iT,iU,iV,iW,iX,iY,iZ,jA,jB,jC,jD,jE,jF,jG,jH,jI,jJ,jK,jL,jM,jN,jO,jP,jQ,jR,jS,jT,jU,jV,jW,jX,jY,jZ,kA,kB,kC,kD,kE,kF,kG,kH,kJ,kK,kL,kM,kN,kO,kP,kQ,kR,kS,kU,kW,kX,kY,kZ,lA,lB,lC,lD,lE,lF,lG,lH,lI,lJ,lK,lL,lM,lN,lO,lP,lQ,lR,lS,lT,lU,lV,lW,lX,lY,lZ,mB,mC,mD,mE,mF,mG,mH,mI,mJ,mK,mL,mM,mN,mO,mP,mQ,mR,mS,mT,mU,mV,mW,mX,mY,mZ,nB,nD,nE,nG,nH,nI,nJ,nK,nM,nN,nO,nP,nQ,nR,nS,nU,nV,nW,nX,nY,nZ,oA,oB,oC,oE,oG,oH,oI,oJ,oK,oL,oM,oN,oO,oQ,oR,oS,oU,oV,oW,oX,oY,oZ,pA,pB,pC,pD,pE,pF,pG,pH,pI,pJ,pK,pL,pM,pN,pO,pP,pQ,pR,pS,pU,pV,pW,pX,pY,pZ,qA,qB,qC,qD,qE,qF,qG,qH,qI,qJ,qK,qL,qM,qN,qO,c,ix_l0,e1,Bool.false_eq_true,if_false]
theorem told_p0 : ∃ s, Told "parse " (.int 0) s := told_int (by decide +kernel) (by decide +kernel)
theorem rdw0 (L : Sto) : m_read_web [.str ""] L = .err "ParseError" [("line", .int 0)] L := by
  have n := fun M => nb0 (w := cW) a_W (by decide) M
  have isn : ∀ M, gIsN .non .non M = .ok (.bl true) M := fun _ => rfl
  simp only [u_read_web,F_read_web,aA,aB,aC,aD,aE,aF,aG,aH,aI,aJ,aK,aL,aM,aN,aO,aP,aQ,aR,aS,aU,aV,aW,aX,aY,aZ,bA,bB,bC,bD,bE,bF,bG,bH,bI,bJ,bK,bL,bM,bN,bO,bQ,bR,bS,bT,bU,bV,bW,bX,bY,bZ,cA,cB,cC,cD,cE,cF,cG,cH,cI,cJ,cK,cL,cO,cP,cQ,cS,cU,cV,cX,cY,cZ,dA,dB,dC,dD,dE,dH,dI,dJ,dL,dM,dN,dO,dQ,dR,dS,dU,dW,dX,dY,dZ,eA,eB,eD,eE,eF,eG,eI,eJ,eK,eM,eN,eO,eP,eQ,eR,eS,eT,eU,eV,eW,eX,eY,eZ,fA,fB,fC,fD,fE,fF,fG,fH,fJ,fK,fM,fN,fO,fP,fQ,fR,fS,fT,fU,fV,fW,fX,fY,fZ,gA,gB,gC,gD,gE,gF,gG,gH,gI,gJ,gK,gL,gM,gN,gO,gQ,gR,gS,gT,gU,gV,gW,gX,gY,gZ,hA,hJ,hO,hQ,hU,hV,hZ,iA,iB,iC,iD,iE,iF,iG,iH,iI,iJ,iK,iL,iM,iN,iO,iP,iQ,iR,iS,iT,iU,iV,iW,iX,iY,iZ,jA,jB,jC,jD,jE,jF,jG,jH,jI,jJ,jK,jL,jM,jN,jO,jP,jQ,jR,jS,jT,jU,jV,jW,jX,jY,jZ,kA,kB,kC,kD,kE,kF,kG,kH,kJ,kK,kL,kM,kN,kO,kP,kQ,kR,kS,kU,kW,kX,kY,kZ,lA,lB,lC,lD,lE,lF,lG,lH,lI,lJ,lK,lL,lM,lN,lO,lP,lQ,lR,lS,lT,lU,lV,lW,lX,lY,lZ,mB,mC,mD,mE,mF,mG,mH,mI,mJ,mK,mL,mM,mN,mO,mP,mQ,mR,mS,mT,mU,mV,mW,mX,mY,mZ,nB,nD,nE,nG,nH,nI,nJ,nK,nM,nN,nO,nP,nQ,nR,nS,nU,nV,nW,nX,nY,nZ,oA,oB,oC,oE,oG,oH,oI,oJ,oK,oL,oM,oN,oO,oQ,oR,oS,oU,oV,oW,oX,oY,oZ,pA,pB,pC,pD,pE,pF,pG,pH,pI,pJ,pK,pL,pM,pN,pO,pP,pQ,pR,pS,pU,pV,pW,pX,pY,pZ,qA,qB,qC,qD,qE,qF,qG,qH,qI,qJ,qK,qL,qM,qN,qO,qP,qQ,qR,qS,qT,qU,qV,qW,qX,qY,qZ,rA,rB,rC,rD,rE,rF,rG,rH,rJ,rK,rL,rM,rN,rO,rP,rQ,rR,rS,rT,rV,rW,rX,rY,rZ,sA,sD,sE,sF,sG,sH,sJ,sK,sL,sM,sN,sO,sP,sQ,kG,kF,kK,sR,sS,sT,sU,words0,ix_l0,s_W,n,isn,if_true]
  exact x_drop1 fun _ => rfl
theorem rdr0 (L : Sto) : m_read_row [.str ""] L = .err "ParseError" [("line", .int 0)] L := by
  have n := fun M => nb0 (w := cR) a_R (by decide) M
  have isn : ∀ M, gIsN .non .non M = .ok (.bl true) M := fun _ => rfl
  simp only [u_read_row,F_read_row,aA,aB,aC,aD,aE,aF,aG,aH,aI,aJ,aK,aL,aM,aN,aO,aP,aQ,aR,aS,aU,aV,aW,aX,aY,aZ,bA,bB,bC,bD,bE,bF,bG,bH,bI,bJ,bK,bL,bM,bN,bO,bQ,bR,bS,bT,bU,bV,bW,bX,bY,bZ,cA,cB,cC,cD,cE,cF,cG,cH,cI,cJ,cK,cL,cO,cP,cQ,cS,cU,cV,cX,cY,cZ,dA,dB,dC,dD,dE,dH,dI,dJ,dL,dM,dN,dO,dQ,dR,dS,dU,dW,dX,dY,dZ,eA,eB,eD,eE,eF,eG,eI,eJ,eK,eM,eN,eO,eP,eQ,eR,eS,eT,eU,eV,eW,eX,eY,eZ,fA,fB,fC,fD,fE,fF,fG,fH,fJ,fK,fM,fN,fO,fP,fQ,fR,fS,fT,fU,fV,fW,fX,fY,fZ,gA,gB,gC,gD,gE,gF,gG,gH,gI,gJ,gK,gL,gM,gN,gO,gQ,gR,gS,gT,gU,gV,gW,gX,gY,gZ,hA,hJ,hO,hQ,hU,hV,hZ,iA,iB,iC,iD,iE,iF,iG,iH,iI,iJ,iK,iL,iM,iN,iO,iP,iQ,iR,iS,iT,iU,iV,iW,iX,iY,iZ,jA,jB,jC,jD,jE,jF,jG,jH,jI,jJ,jK,jL,jM,jN,jO,jP,jQ,jR,jS,jT,jU,jV,jW,jX,jY,jZ,kA,kB,kC,kD,kE,kF,kG,kH,kJ,kK,kL,kM,kN,kO,kP,kQ,kR,kS,kU,kW,kX,kY,kZ,lA,lB,lC,lD,lE,lF,lG,lH,lI,lJ,lK,lL,lM,lN,lO,lP,lQ,lR,lS,lT,lU,lV,lW,lX,lY,lZ,mB,mC,mD,mE,mF,mG,mH,mI,mJ,mK,mL,mM,mN,mO,mP,mQ,mR,mS,mT,mU,mV,mW,mX,mY,mZ,nB,nD,nE,nG,nH,nI,nJ,nK,nM,nN,nO,nP,nQ,nR,nS,nU,nV,nW,nX,nY,nZ,oA,oB,oC,oE,oG,oH,oI,oJ,oK,oL,oM,oN,oO,oQ,oR,oS,oU,oV,oW,oX,oY,oZ,pA,pB,pC,pD,pE,pF,pG,pH,pI,pJ,pK,pL,pM,pN,pO,pP,pQ,pR,pS,pU,pV,pW,pX,pY,pZ,qA,qB,qC,qD,qE,qF,qG,qH,qI,qJ,qK,qL,qM,qN,qO,qP,qQ,qR,qS,qT,qU,qV,qW,qX,qY,qZ,rA,rB,rC,rD,rE,rF,rG,rH,rJ,rK,rL,rM,rN,rO,rP,rQ,rR,rS,rT,rV,rW,rX,rY,rZ,sA,sD,sE,sF,sG,sH,sJ,sK,sL,sM,sN,sO,sP,sQ,kG,kF,kK,sR,sS,sT,sU,words0,ix_l0,s_R,n,isn,if_true]
theorem rdc0 (L : Sto) : m_read_chain [.str ""] L = .err "ParseError" [("line", .int 0)] L := by
  have n := fun M => nb0 (w := cM) a_M (by decide) M
  have isn : ∀ M, gIsN .non .non M = .ok (.bl true) M := fun _ => rfl
  have e : I1_read_chain [some (.str ""), some (.loc L.length), none, none, none] (L ++ [.lst []]) = .ok ⟨[.tup [.int 0, .lst [.str (SX.S [])]]], []⟩ (L ++ [.lst []]) := by
    simp only [I1_read_chain,aA,aB,aC,aD,aE,aF,aG,aH,aI,aJ,aK,aL,aM,aN,aO,aP,aQ,aR,aS,aU,aV,aW,aX,aY,aZ,bA,bB,bC,bD,bE,bF,bG,bH,bI,bJ,bK,bL,bM,bN,bO,bQ,bR,bS,bT,bU,bV,bW,bX,bY,bZ,cA,cB,cC,cD,cE,cF,cG,cH,cI,cJ,cK,cL,cO,cP,cQ,cS,cU,cV,cX,cY,cZ,dA,dB,dC,dD,dE,dH,dI,dJ,dL,dM,dN,dO,dQ,dR,dS,dU,dW,dX,dY,dZ,eA,eB,eD,eE,eF,eG,eI,eJ,eK,eM,eN,eO,eP,eQ,eR,eS,eT,eU,eV,eW,eX,eY,eZ,fA,fB,fC,fD,fE,fF,fG,fH,fJ,fK,fM,fN,fO,fP,fQ,fR,fS,fT,fU,fV,fW,fX,fY,fZ,gA,gB,gC,gD,gE,gF,gG,gH,gI,gJ,gK,gL,gM,gN,gO,gQ,gR,gS,gT,gU,gV,gW,gX,gY,gZ,hA,hJ,hO,hQ,hU,hV,hZ,iA,iB,iC,iD,iE,iF,iG,iH,iI,iJ,iK,iL,iM,iN,iO,iP,iQ,iR,iS,iT,iU,iV,iW,iX,iY,iZ,jA,jB,jC,jD,jE,jF,jG,jH,jI,jJ,jK,jL,jM,jN,jO,jP,jQ,jR,jS,jT,jU,jV,jW,jX,jY,jZ,kA,kB,kC,kD,kE,kF,kG,kH,kJ,kK,kL,kM,kN,kO,kP,kQ,kR,kS,kU,kW,kX,kY,kZ,lA,lB,lC,lD,lE,lF,lG,lH,lI,lJ,lK,lL,lM,lN,lO,lP,lQ,lR,lS,lT,lU,lV,lW,lX,lY,lZ,mB,mC,mD,mE,mF,mG,mH,mI,mJ,mK,mL,mM,mN,mO,mP,mQ,mR,mS,mT,mU,mV,mW,mX,mY,mZ,nB,nD,nE,nG,nH,nI,nJ,nK,nM,nN,nO,nP,nQ,nR,nS,nU,nV,nW,nX,nY,nZ,oA,oB,oC,oE,oG,oH,oI,oJ,oK,oL,oM,oN,oO,oQ,oR,oS,oU,oV,oW,oX,oY,oZ,pA,pB,pC,pD,pE,pF,pG,pH,pI,pJ,pK,pL,pM,pN,pO,pP,pQ,pR,pS,pU,pV,pW,pX,pY,pZ,qA,qB,qC,qD,qE,qF,qG,qH,qI,qJ,qK,qL,qM,qN,qO,qP,qQ,qR,qS,qT,qU,qV,qW,qX,qY,qZ,rA,rB,rC,rD,rE,rF,rG,rH,rJ,rK,rL,rM,rN,rO,rP,rQ,rR,rS,rT,rV,rW,rX,rY,rZ,sA,sD,sE,sF,sG,sH,sJ,sK,sL,sM,sN,sO,sP,sQ,kG,kF,kK,sR,sS,sT,sU,words0]
    rfl
  have q : L1_read_chain [some (.str ""), some (.loc L.length), none, none, none] (L ++ [.lst []]) = .err "ParseError" [("line", .int 0)] [some (.str ""), some (.loc L.length), some (.int 0), some (.lst [.str (SX.S [])]), some .non] (L ++ [.lst []]) := by
    unfold L1_read_chain
    rw [for_at e]
    simp only [aA,aB,aC,aD,aE,aF,aG,aH,aI,aJ,aK,aL,aM,aN,aO,aP,aQ,aR,aS,aU,aV,aW,aX,aY,aZ,bA,bB,bC,bD,bE,bF,bG,bH,bI,bJ,bK,bL,bM,bN,bO,bQ,bR,bS,bT,bU,bV,bW,bX,bY,bZ,cA,cB,cC,cD,cE,cF,cG,cH,cI,cJ,cK,cL,cO,cP,cQ,cS,cU,cV,cX,cY,cZ,dA,dB,dC,dD,dE,dH,dI,dJ,dL,dM,dN,dO,dQ,dR,dS,dU,dW,dX,dY,dZ,eA,eB,eD,eE,eF,eG,eI,eJ,eK,eM,eN,eO,eP,eQ,eR,eS,eT,eU,eV,eW,eX,eY,eZ,fA,fB,fC,fD,fE,fF,fG,fH,fJ,fK,fM,fN,fO,fP,fQ,fR,fS,fT,fU,fV,fW,fX,fY,fZ,gA,gB,gC,gD,gE,gF,gG,gH,gI,gJ,gK,gL,gM,gN,gO,gQ,gR,gS,gT,gU,gV,gW,gX,gY,gZ,hA,hJ,hO,hQ,hU,hV,hZ,iA,iB,iC,iD,iE,iF,iG,iH,iI,iJ,iK,iL,iM,iN,iO,iP,iQ,iR,iS,iT,iU,iV,iW,iX,iY,iZ,jA,jB,jC,jD,jE,jF,jG,jH,jI,jJ,jK,jL,jM,jN,jO,jP,jQ,jR,jS,jT,jU,jV,jW,jX,jY,jZ,kA,kB,kC,kD,kE,kF,kG,kH,kJ,kK,kL,kM,kN,kO,kP,kQ,kR,kS,kU,kW,kX,kY,kZ,lA,lB,lC,lD,lE,lF,lG,lH,lI,lJ,lK,lL,lM,lN,lO,lP,lQ,lR,lS,lT,lU,lV,lW,lX,lY,lZ,mB,mC,mD,mE,mF,mG,mH,mI,mJ,mK,mL,mM,mN,mO,mP,mQ,mR,mS,mT,mU,mV,mW,mX,mY,mZ,nB,nD,nE,nG,nH,nI,nJ,nK,nM,nN,nO,nP,nQ,nR,nS,nU,nV,nW,nX,nY,nZ,oA,oB,oC,oE,oG,oH,oI,oJ,oK,oL,oM,oN,oO,oQ,oR,oS,oU,oV,oW,oX,oY,oZ,pA,pB,pC,pD,pE,pF,pG,pH,pI,pJ,pK,pL,pM,pN,pO,pP,pQ,pR,pS,pU,pV,pW,pX,pY,pZ,qA,qB,qC,qD,qE,qF,qG,qH,qI,qJ,qK,qL,qM,qN,qO,qP,qQ,qR,qS,qT,qU,qV,qW,qX,qY,qZ,rA,rB,rC,rD,rE,rF,rG,rH,rJ,rK,rL,rM,rN,rO,rP,rQ,rR,rS,rT,rV,rW,rX,rY,rZ,sA,sD,sE,sF,sG,sH,sJ,sK,sL,sM,sN,sO,sP,sQ,kG,kF,kK,sR,sS,sT,sU,T1_read_chain,B1_read_chain,s_M,n,isn,if_true]
  simp only [u_read_chain,F_read_chain,aA,aB,aC,aD,aE,aF,aG,aH,aI,aJ,aK,aL,aM,aN,aO,aP,aQ,aR,aS,aU,aV,aW,aX,aY,aZ,bA,bB,bC,bD,bE,bF,bG,bH,bI,bJ,bK,bL,bM,bN,bO,bQ,bR,bS,bT,bU,bV,bW,bX,bY,bZ,cA,cB,cC,cD,cE,cF,cG,cH,cI,cJ,cK,cL,cO,cP,cQ,cS,cU,cV,cX,cY,cZ,dA,dB,dC,dD,dE,dH,dI,dJ,dL,dM,dN,dO,dQ,dR,dS,dU,dW,dX,dY,dZ,eA,eB,eD,eE,eF,eG,eI,eJ,eK,eM,eN,eO,eP,eQ,eR,eS,eT,eU,eV,eW,eX,eY,eZ,fA,fB,fC,fD,fE,fF,fG,fH,fJ,fK,fM,fN,fO,fP,fQ,fR,fS,fT,fU,fV,fW,fX,fY,fZ,gA,gB,gC,gD,gE,gF,gG,gH,gI,gJ,gK,gL,gM,gN,gO,gQ,gR,gS,gT,gU,gV,gW,gX,gY,gZ,hA,hJ,hO,hQ,hU,hV,hZ,iA,iB,iC,iD,iE,iF,iG,iH,iI,iJ,iK,iL,iM,iN,iO,iP,iQ,iR,iS,iT,iU,iV,iW,iX,iY,iZ,jA,jB,jC,jD,jE,jF,jG,jH,jI,jJ,jK,jL,jM,jN,jO,jP,jQ,jR,jS,jT,jU,jV,jW,jX,jY,jZ,kA,kB,kC,kD,kE,kF,kG,kH,kJ,kK,kL,kM,kN,kO,kP,kQ,kR,kS,kU,kW,kX,kY,kZ,lA,lB,lC,lD,lE,lF,lG,lH,lI,lJ,lK,lL,lM,lN,lO,lP,lQ,lR,lS,lT,lU,lV,lW,lX,lY,lZ,mB,mC,mD,mE,mF,mG,mH,mI,mJ,mK,mL,mM,mN,mO,mP,mQ,mR,mS,mT,mU,mV,mW,mX,mY,mZ,nB,nD,nE,nG,nH,nI,nJ,nK,nM,nN,nO,nP,nQ,nR,nS,nU,nV,nW,nX,nY,nZ,oA,oB,oC,oE,oG,oH,oI,oJ,oK,oL,oM,oN,oO,oQ,oR,oS,oU,oV,oW,oX,oY,oZ,pA,pB,pC,pD,pE,pF,pG,pH,pI,pJ,pK,pL,pM,pN,pO,pP,pQ,pR,pS,pU,pV,pW,pX,pY,pZ,qA,qB,qC,qD,qE,qF,qG,qH,qI,qJ,qK,qL,qM,qN,qO,qP,qQ,qR,qS,qT,qU,qV,qW,qX,qY,qZ,rA,rB,rC,rD,rE,rF,rG,rH,rJ,rK,rL,rM,rN,rO,rP,rQ,rR,rS,rT,rV,rW,rX,rY,rZ,sA,sD,sE,sF,sG,sH,sJ,sK,sL,sM,sN,sO,sP,sQ,kG,kF,kK,sR,sS,sT,sU,q]
  exact dropErr fun _ => rfl
theorem rdo0 (L : Sto) : m_read_rounds [.str ""] L = .err "ParseError" [("line", .int 0)] L := by
  have ge := gEq_words (ws := [[]]) (vs := [cN, [45]]) (fun w hw => by rw [List.mem_singleton.mp hw]; exact fun _ z => nomatch z) (lotW_asc [])
  have ge' : ∀ M, gEq (.lst [.str (SX.S [])]) (.lst [.str (SX.S cN), .str (SX.S [45])]) M = .ok (.bl false) M := fun M => ge M
  have e1 := fun M => gNe_S (a := []) (b := cN) (fun _ z => nomatch z) a_N M
  have d1 : decide (([] : List Nat) = cN) = false := by decide
  have t : ∀ M, m_ties_behind [.lst [.str (SX.S [])]] M = .ok .non M := fun M => by
    have c : C1_ties_behind [some (.lst [.str (SX.S [])]), none, none] M = .ok (.lst []) M := by
      refine lc_map (box := false) ([] : List Int) D.int D.int (src := []) (L1 := M) ?_ srcOk_nil (show 0 ≤ 1000000 by decide) fun i hx => nomatch hx
      simp only [aA,aB,aC,aD,aE,aF,aG,aH,aI,aJ,aK,aL,aM,aN,aO,aP,aQ,aR,aS,aU,aV,aW,aX,aY,aZ,bA,bB,bC,bD,bE,bF,bG,bH,bI,bJ,bK,bL,bM,bN,bO,bQ,bR,bS,bT,bU,bV,bW,bX,bY,bZ,cA,cB,cC,cD,cE,cF,cG,cH,cI,cJ,cK,cL,cO,cP,cQ,cS,cU,cV,cX,cY,cZ,dA,dB,dC,dD,dE,dH,dI,dJ,dL,dM,dN,dO,dQ,dR,dS,dU,dW,dX,dY,dZ,eA,eB,eD,eE,eF,eG,eI,eJ,eK,eM,eN,eO,eP,eQ,eR,eS,eT,eU,eV,eW,eX,eY,eZ,fA,fB,fC,fD,fE,fF,fG,fH,fJ,fK,fM,fN,fO,fP,fQ,fR,fS,fT,fU,fV,fW,fX,fY,fZ,gA,gB,gC,gD,gE,gF,gG,gH,gI,gJ,gK,gL,gM,gN,gO,gQ,gR,gS,gT,gU,gV,gW,gX,gY,gZ,hA,hJ,hO,hQ,hU,hV,hZ,iA,iB,iC,iD,iE,iF,iG,iH,iI,iJ,iK,iL,iM,iN,iO,iP,iQ,iR,iS,iT,iU,iV,iW,iX,iY,iZ,jA,jB,jC,jD,jE,jF,jG,jH,jI,jJ,jK,jL,jM,jN,jO,jP,jQ,jR,jS,jT,jU,jV,jW,jX,jY,jZ,kA,kB,kC,kD,kE,kF,kG,kH,kJ,kK,kL,kM,kN,kO,kP,kQ,kR,kS,kU,kW,kX,kY,kZ,lA,lB,lC,lD,lE,lF,lG,lH,lI,lJ,lK,lL,lM,lN,lO,lP,lQ,lR,lS,lT,lU,lV,lW,lX,lY,lZ,mB,mC,mD,mE,mF,mG,mH,mI,mJ,mK,mL,mM,mN,mO,mP,mQ,mR,mS,mT,mU,mV,mW,mX,mY,mZ,nB,nD,nE,nG,nH,nI,nJ,nK,nM,nN,nO,nP,nQ,nR,nS,nU,nV,nW,nX,nY,nZ,oA,oB,oC,oE,oG,oH,oI,oJ,oK,oL,oM,oN,oO,oQ,oR,oS,oU,oV,oW,oX,oY,oZ,pA,pB,pC,pD,pE,pF,pG,pH,pI,pJ,pK,pL,pM,pN,pO,pP,pQ,pR,pS,pU,pV,pW,pX,pY,pZ,qA,qB,qC,qD,qE,qF,qG,qH,qI,qJ,qK,qL,qM,qN,qO,sl_l1]
      rfl
    simp only [u_ties_behind,F_ties_behind,aA,aB,aC,aD,aE,aF,aG,aH,aI,aJ,aK,aL,aM,aN,aO,aP,aQ,aR,aS,aU,aV,aW,aX,aY,aZ,bA,bB,bC,bD,bE,bF,bG,bH,bI,bJ,bK,bL,bM,bN,bO,bQ,bR,bS,bT,bU,bV,bW,bX,bY,bZ,cA,cB,cC,cD,cE,cF,cG,cH,cI,cJ,cK,cL,cO,cP,cQ,cS,cU,cV,cX,cY,cZ,dA,dB,dC,dD,dE,dH,dI,dJ,dL,dM,dN,dO,dQ,dR,dS,dU,dW,dX,dY,dZ,eA,eB,eD,eE,eF,eG,eI,eJ,eK,eM,eN,eO,eP,eQ,eR,eS,eT,eU,eV,eW,eX,eY,eZ,fA,fB,fC,fD,fE,fF,fG,fH,fJ,fK,fM,fN,fO,fP,fQ,fR,fS,fT,fU,fV,fW,fX,fY,fZ,gA,gB,gC,gD,gE,gF,gG,gH,gI,gJ,gK,gL,gM,gN,gO,gQ,gR,gS,gT,gU,gV,gW,gX,gY,gZ,hA,hJ,hO,hQ,hU,hV,hZ,iA,iB,iC,iD,iE,iF,iG,iH,iI,iJ,iK,iL,iM,iN,iO,iP,iQ,iR,iS,iT,iU,iV,iW,iX,iY,iZ,jA,jB,jC,jD,jE,jF,jG,jH,jI,jJ,jK,jL,jM,jN,jO,jP,jQ,jR,jS,jT,jU,jV,jW,jX,jY,jZ,kA,kB,kC,kD,kE,kF,kG,kH,kJ,kK,kL,kM,kN,kO,kP,kQ,kR,kS,kU,kW,kX,kY,kZ,lA,lB,lC,lD,lE,lF,lG,lH,lI,lJ,lK,lL,lM,lN,lO,lP,lQ,lR,lS,lT,lU,lV,lW,lX,lY,lZ,mB,mC,mD,mE,mF,mG,mH,mI,mJ,mK,mL,mM,mN,mO,mP,mQ,mR,mS,mT,mU,mV,mW,mX,mY,mZ,nB,nD,nE,nG,nH,nI,nJ,nK,nM,nN,nO,nP,nQ,nR,nS,nU,nV,nW,nX,nY,nZ,oA,oB,oC,oE,oG,oH,oI,oJ,oK,oL,oM,oN,oO,oQ,oR,oS,oU,oV,oW,oX,oY,oZ,pA,pB,pC,pD,pE,pF,pG,pH,pI,pJ,pK,pL,pM,pN,pO,pP,pQ,pR,pS,pU,pV,pW,pX,pY,pZ,qA,qB,qC,qD,qE,qF,qG,qH,qI,qJ,qK,qL,qM,qN,qO,s_N,s_da,ge',c,ix_l0,e1,d1,Bool.not_false,Bool.false_eq_true,if_false,if_true]
  have isn : ∀ M, gIsN .non .non M = .ok (.bl true) M := fun _ => rfl
  have e : I1_read_rounds [some (.str ""), some (.loc L.length), none, none, none] (L ++ [.lst []]) = .ok ⟨[.tup [.int 0, .lst [.str (SX.S [])]]], []⟩ (L ++ [.lst []]) := by
    simp only [I1_read_rounds,aA,aB,aC,aD,aE,aF,aG,aH,aI,aJ,aK,aL,aM,aN,aO,aP,aQ,aR,aS,aU,aV,aW,aX,aY,aZ,bA,bB,bC,bD,bE,bF,bG,bH,bI,bJ,bK,bL,bM,bN,bO,bQ,bR,bS,bT,bU,bV,bW,bX,bY,bZ,cA,cB,cC,cD,cE,cF,cG,cH,cI,cJ,cK,cL,cO,cP,cQ,cS,cU,cV,cX,cY,cZ,dA,dB,dC,dD,dE,dH,dI,dJ,dL,dM,dN,dO,dQ,dR,dS,dU,dW,dX,dY,dZ,eA,eB,eD,eE,eF,eG,eI,eJ,eK,eM,eN,eO,eP,eQ,eR,eS,eT,eU,eV,eW,eX,eY,eZ,fA,fB,fC,fD,fE,fF,fG,fH,fJ,fK,fM,fN,fO,fP,fQ,fR,fS,fT,fU,fV,fW,fX,fY,fZ,gA,gB,gC,gD,gE,gF,gG,gH,gI,gJ,gK,gL,gM,gN,gO,gQ,gR,gS,gT,gU,gV,gW,gX,gY,gZ,hA,hJ,hO,hQ,hU,hV,hZ,iA,iB,iC,iD,iE,iF,iG,iH,iI,iJ,iK,iL,iM,iN,iO,iP,iQ,iR,iS,iT,iU,iV,iW,iX,iY,iZ,jA,jB,jC,jD,jE,jF,jG,jH,jI,jJ,jK,jL,jM,jN,jO,jP,jQ,jR,jS,jT,jU,jV,jW,jX,jY,jZ,kA,kB,kC,kD,kE,kF,kG,kH,kJ,kK,kL,kM,kN,kO,kP,kQ,kR,kS,kU,kW,kX,kY,kZ,lA,lB,lC,lD,lE,lF,lG,lH,lI,lJ,lK,lL,lM,lN,lO,lP,lQ,lR,lS,lT,lU,lV,lW,lX,lY,lZ,mB,mC,mD,mE,mF,mG,mH,mI,mJ,mK,mL,mM,mN,mO,mP,mQ,mR,mS,mT,mU,mV,mW,mX,mY,mZ,nB,nD,nE,nG,nH,nI,nJ,nK,nM,nN,nO,nP,nQ,nR,nS,nU,nV,nW,nX,nY,nZ,oA,oB,oC,oE,oG,oH,oI,oJ,oK,oL,oM,oN,oO,oQ,oR,oS,oU,oV,oW,oX,oY,oZ,pA,pB,pC,pD,pE,pF,pG,pH,pI,pJ,pK,pL,pM,pN,pO,pP,pQ,pR,pS,pU,pV,pW,pX,pY,pZ,qA,qB,qC,qD,qE,qF,qG,qH,qI,qJ,qK,qL,qM,qN,qO,qP,qQ,qR,qS,qT,qU,qV,qW,qX,qY,qZ,rA,rB,rC,rD,rE,rF,rG,rH,rJ,rK,rL,rM,rN,rO,rP,rQ,rR,rS,rT,rV,rW,rX,rY,rZ,sA,sD,sE,sF,sG,sH,sJ,sK,sL,sM,sN,sO,sP,sQ,kG,kF,kK,sR,sS,sT,sU,words0]
    rfl
  have q : L1_read_rounds [some (.str ""), some (.loc L.length), none, none, none] (L ++ [.lst []]) = .err "ParseError" [("line", .int 0)] [some (.str ""), some (.loc L.length), some (.int 0), some (.lst [.str (SX.S [])]), some .non] (L ++ [.lst []]) := by
    unfold L1_read_rounds
    rw [for_at e]
    simp only [aA,aB,aC,aD,aE,aF,aG,aH,aI,aJ,aK,aL,aM,aN,aO,aP,aQ,aR,aS,aU,aV,aW,aX,aY,aZ,bA,bB,bC,bD,bE,bF,bG,bH,bI,bJ,bK,bL,bM,bN,bO,bQ,bR,bS,bT,bU,bV,bW,bX,bY,bZ,cA,cB,cC,cD,cE,cF,cG,cH,cI,cJ,cK,cL,cO,cP,cQ,cS,cU,cV,cX,cY,cZ,dA,dB,dC,dD,dE,dH,dI,dJ,dL,dM,dN,dO,dQ,dR,dS,dU,dW,dX,dY,dZ,eA,eB,eD,eE,eF,eG,eI,eJ,eK,eM,eN,eO,eP,eQ,eR,eS,eT,eU,eV,eW,eX,eY,eZ,fA,fB,fC,fD,fE,fF,fG,fH,fJ,fK,fM,fN,fO,fP,fQ,fR,fS,fT,fU,fV,fW,fX,fY,fZ,gA,gB,gC,gD,gE,gF,gG,gH,gI,gJ,gK,gL,gM,gN,gO,gQ,gR,gS,gT,gU,gV,gW,gX,gY,gZ,hA,hJ,hO,hQ,hU,hV,hZ,iA,iB,iC,iD,iE,iF,iG,iH,iI,iJ,iK,iL,iM,iN,iO,iP,iQ,iR,iS,iT,iU,iV,iW,iX,iY,iZ,jA,jB,jC,jD,jE,jF,jG,jH,jI,jJ,jK,jL,jM,jN,jO,jP,jQ,jR,jS,jT,jU,jV,jW,jX,jY,jZ,kA,kB,kC,kD,kE,kF,kG,kH,kJ,kK,kL,kM,kN,kO,kP,kQ,kR,kS,kU,kW,kX,kY,kZ,lA,lB,lC,lD,lE,lF,lG,lH,lI,lJ,lK,lL,lM,lN,lO,lP,lQ,lR,lS,lT,lU,lV,lW,lX,lY,lZ,mB,mC,mD,mE,mF,mG,mH,mI,mJ,mK,mL,mM,mN,mO,mP,mQ,mR,mS,mT,mU,mV,mW,mX,mY,mZ,nB,nD,nE,nG,nH,nI,nJ,nK,nM,nN,nO,nP,nQ,nR,nS,nU,nV,nW,nX,nY,nZ,oA,oB,oC,oE,oG,oH,oI,oJ,oK,oL,oM,oN,oO,oQ,oR,oS,oU,oV,oW,oX,oY,oZ,pA,pB,pC,pD,pE,pF,pG,pH,pI,pJ,pK,pL,pM,pN,pO,pP,pQ,pR,pS,pU,pV,pW,pX,pY,pZ,qA,qB,qC,qD,qE,qF,qG,qH,qI,qJ,qK,qL,qM,qN,qO,qP,qQ,qR,qS,qT,qU,qV,qW,qX,qY,qZ,rA,rB,rC,rD,rE,rF,rG,rH,rJ,rK,rL,rM,rN,rO,rP,rQ,rR,rS,rT,rV,rW,rX,rY,rZ,sA,sD,sE,sF,sG,sH,sJ,sK,sL,sM,sN,sO,sP,sQ,kG,kF,kK,sR,sS,sT,sU,T1_read_rounds,B1_read_rounds,t,isn,if_true]
  simp only [u_read_rounds,F_read_rounds,aA,aB,aC,aD,aE,aF,aG,aH,aI,aJ,aK,aL,aM,aN,aO,aP,aQ,aR,aS,aU,aV,aW,aX,aY,aZ,bA,bB,bC,bD,bE,bF,bG,bH,bI,bJ,bK,bL,bM,bN,bO,bQ,bR,bS,bT,bU,bV,bW,bX,bY,bZ,cA,cB,cC,cD,cE,cF,cG,cH,cI,cJ,cK,cL,cO,cP,cQ,cS,cU,cV,cX,cY,cZ,dA,dB,dC,dD,dE,dH,dI,dJ,dL,dM,dN,dO,dQ,dR,dS,dU,dW,dX,dY,dZ,eA,eB,eD,eE,eF,eG,eI,eJ,eK,eM,eN,eO,eP,eQ,eR,eS,eT,eU,eV,eW,eX,eY,eZ,fA,fB,fC,fD,fE,fF,fG,fH,fJ,fK,fM,fN,fO,fP,fQ,fR,fS,fT,fU,fV,fW,fX,fY,fZ,gA,gB,gC,gD,gE,gF,gG,gH,gI,gJ,gK,gL,gM,gN,gO,gQ,gR,gS,gT,gU,gV,gW,gX,gY,gZ,hA,hJ,hO,hQ,hU,hV,hZ,iA,iB,iC,iD,iE,iF,iG,iH,iI,iJ,iK,iL,iM,iN,iO,iP,iQ,iR,iS,iT,iU,iV,iW,iX,iY,iZ,jA,jB,jC,jD,jE,jF,jG,jH,jI,jJ,jK,jL,jM,jN,jO,jP,jQ,jR,jS,jT,jU,jV,jW,jX,jY,jZ,kA,kB,kC,kD,kE,kF,kG,kH,kJ,kK,kL,kM,kN,kO,kP,kQ,kR,kS,kU,kW,kX,kY,kZ,lA,lB,lC,lD,lE,lF,lG,lH,lI,lJ,lK,lL,lM,lN,lO,lP,lQ,lR,lS,lT,lU,lV,lW,lX,lY,lZ,mB,mC,mD,mE,mF,mG,mH,mI,mJ,mK,mL,mM,mN,mO,mP,mQ,mR,mS,mT,mU,mV,mW,mX,mY,mZ,nB,nD,nE,nG,nH,nI,nJ,nK,nM,nN,nO,nP,nQ,nR,nS,nU,nV,nW,nX,nY,nZ,oA,oB,oC,oE,oG,oH,oI,oJ,oK,oL,oM,oN,oO,oQ,oR,oS,oU,oV,oW,oX,oY,oZ,pA,pB,pC,pD,pE,pF,pG,pH,pI,pJ,pK,pL,pM,pN,pO,pP,pQ,pR,pS,pU,pV,pW,pX,pY,pZ,qA,qB,qC,qD,qE,qF,qG,qH,qI,qJ,qK,qL,qM,qN,qO,qP,qQ,qR,qS,qT,qU,qV,qW,qX,qY,qZ,rA,rB,rC,rD,rE,rF,rG,rH,rJ,rK,rL,rM,rN,rO,rP,rQ,rR,rS,rT,rV,rW,rX,rY,rZ,sA,sD,sE,sF,sG,sH,sJ,sK,sL,sM,sN,sO,sP,sQ,kG,kF,kK,sR,sS,sT,sU,q]
  exact dropErr fun _ => rfl
theorem empty8 : ∃ s, Met8 (.str "") ["web", "row", "operation", "operation", s, s, s, s] := by
  obtain ⟨s, hs⟩ := told_p0
  have t : ∀ L, gIsiK owns .tup (.str "") L = .ok (.bl false) L := fun _ => rfl
  have w : NotWeb (.str "") := ⟨fun _ => rfl⟩
  exact ⟨s, all8 (fun L => met_web (ww_not w)) (fun L => met_row (wr_not t)) (fun L => met_op (wc_not t)) (fun L => met_op (wo_not t))
    (fun L => met_parse (rdw0 L) hs) (fun L => met_parse (rdr0 L) hs) (fun L => met_parse (rdc0 L) hs) (fun L => met_parse (rdo0 L) hs)⟩
theorem prs_ofD {Q : P2 → Prop} : ∀ {ys : List D}, (∀ y ∈ ys, ∃ x, y = pairD x ∧ Q x) → ∃ r : List P2, ys = r.map pairD ∧ ∀ x ∈ r, Q x
  | [], _ => ⟨[], rfl, fun _ h => nomatch h⟩
  | y :: ys, h => by
    obtain ⟨x, rfl, hx⟩ := h y List.mem_cons_self
    obtain ⟨r, rfl, hr⟩ := prs_ofD (ys := ys) fun z hz => h z (List.mem_cons_of_mem _ hz)
    exact ⟨x :: r, rfl, fun z hz => (List.mem_cons.mp hz).elim (fun e => e ▸ hx) (hr z)⟩
theorem rollsP {n : Nat} {L1 : Sto} {k : Nat} {Q : P2 → Prop} {it : IF} {f : EF} {own : List Nat} {tg : GF} {ρ : Env'} {L : Sto} (hd : Dc n L1) (hk : k ≤ 1000) (hi : it ρ L = .ok ⟨(List.range k).map natD, []⟩ L1)
    (hf : ∀ a L, a < k → Dc n L → ∃ x L', tgk f (tg (natD a) (wipeE ρ own)) L = .ok (pairD x) L' ∧ Nxt n L L' ∧ Q x) :
    ∃ (r : List P2) (L' : Sto), eLc false own it tg tTrue f ρ L = .ok (.lst (r.map pairD)) L' ∧ Nxt n L1 L' ∧ Dc n L' ∧ r.length = k ∧ ∀ x ∈ r, Q x := by
  obtain ⟨ys, L', q, q1, q2, q3⟩ := lc_inv (box := false) (own := own) (tg := tg) (f := f) (List.range k) natD (fun L => Nxt n L1 L ∧ Dc n L) (fun _ y => ∃ x, y = pairD x ∧ Q x) hi (by rw [List.length_range]; omega) ⟨.refl hd, hd⟩
    fun a ha L hL => by
      obtain ⟨x, L', f1, f2, f3⟩ := hf a L (List.mem_range.mp ha) hL.2
      exact ⟨pairD x, L', f1, ⟨hL.1.trans f2, f2.dc hL.2⟩, x, rfl, f3⟩
  obtain ⟨r, rfl, hr⟩ := prs_ofD (ys := ys) (Q := Q) fun y hy => by
    obtain ⟨j, hj⟩ := List.getElem?_of_mem hy
    have hlt : j < (List.range k).length := by rw [← q2]; exact getElem?_lt hj
    exact q3 j _ y (List.getElem?_eq_getElem hlt) hj
  refine ⟨r, L', q, q1.1, q1.2, ?_, hr⟩
  rw [List.length_map, List.length_range] at q2
  exact q2
section
variable {dn : Nat} {L : Sto}
def StN (t : P2) : Prop := (0 ≤ t.1 ∧ t.1 < 9) ∧ 9 ≤ t.2 ∧ t.2 < 18
theorem row_ok (hd : Dc dn L) (y1 y2 y3 y4 y5 y6 y7 y8 y9 y10 : Option D) : ∃ (r : List Int) (L' : Sto), C1_l_right [some (.loc dn), y1, y2, y3, y4, y5, y6, y7, y8, y9, y10] L = .ok (.lst (r.map .int)) L' ∧ r ≠ [] ∧ r.length ≤ 12 ∧ (∀ x ∈ r, Num x) ∧ Nxt dn L L' ∧ Dc dn L' := by
  obtain ⟨v, L1, v0, v1, qr, x1, d1⟩ := roll (t := 5) hd (by omega) (by omega)
  obtain ⟨k, rfl⟩ := Int.eq_ofNat_of_zero_le v0
  obtain ⟨r, L2, c, x2, d2, hl, hr⟩ := rollsN (own := [8]) (tg := gSet 8) (k := 1 + k) (t := 10000) (it := iRange1 (aCons (DS.e2 gAdd (eC (.int 1)) (eCall 2 m_l_roll [] (aCons (eVar 0) (aCons (eC (.int 5)) aNil)))) aNil))
    (f := eCall 2 m_l_roll [] (aCons (eVar 0) (aCons (eC (.int 30)) aNil))) (ρ := [some (.loc dn), y1, y2, y3, y4, y5, y6, y7, y8, y9, y10]) (L := L) d1 (by omega) (by
      have e := oV (k := 1 + (k : Int)) (L := L1) (by omega) (by omega)
      have e2 : (1 + (k : Int)).toNat = 1 + k := by omega
      rw [e2] at e
      simp only [aA,aB,aC,aD,aE,aF,aG,aH,aI,aJ,aK,aL,aM,aN,aO,aP,aQ,aR,aS,aU,aV,aW,aX,aY,aZ,bA,bB,bC,bD,bE,bF,bG,bH,bI,bJ,bK,bL,bM,bN,bO,bQ,bR,bS,bT,bU,bV,bW,bX,bY,bZ,cA,cB,cC,cD,cE,cF,cG,cH,cI,cJ,cK,cL,cO,cP,cQ,cS,cU,cV,cX,cY,cZ,dA,dB,dC,dD,dE,dH,dI,dJ,dL,dM,dN,dO,dQ,dR,dS,dU,dW,dX,dY,dZ,eA,eB,eD,eE,eF,eG,eI,eJ,eK,eM,eN,eO,eP,eQ,eR,eS,eT,eU,eV,eW,eX,eY,eZ,fA,fB,fC,fD,fE,fF,fG,fH,fJ,fK,fM,fN,fO,fP,fQ,fR,fS,fT,fU,fV,fW,fX,fY,fZ,gA,gB,gC,gD,gE,gF,gG,gH,gI,gJ,gK,gL,gM,gN,gO,gQ,gR,gS,gT,gU,gV,gW,gX,gY,gZ,hA,hJ,hO,hQ,hU,hV,hZ,iA,iB,iC,iD,iE,iF,iG,iH,iI,iJ,iK,iL,iM,iN,iO,iP,iQ,iR,iS,iT,iU,iV,iW,iX,iY,iZ,jA,jB,jC,jD,jE,jF,jG,jH,jI,jJ,jK,jL,jM,jN,jO,jP,jQ,jR,jS,jT,jU,jV,jW,jX,jY,jZ,kA,kB,kC,kD,kE,kF,kG,kH,kJ,kK,kL,kM,kN,kO,kP,kQ,kR,kS,kU,kW,kX,kY,kZ,lA,lB,lC,lD,lE,lF,lG,lH,lI,lJ,lK,lL,lM,lN,lO,lP,lQ,lR,lS,lT,lU,lV,lW,lX,lY,lZ,mB,mC,mD,mE,mF,mG,mH,mI,mJ,mK,mL,mM,mN,mO,mP,mQ,mR,mS,mT,mU,mV,mW,mX,mY,mZ,nB,nD,nE,nG,nH,nI,nJ,nK,nM,nN,nO,nP,nQ,nR,nS,nU,nV,nW,nX,nY,nZ,oA,oB,oC,oE,oG,oH,oI,oJ,oK,oL,oM,oN,oO,oQ,oR,oS,oU,oV,oW,oX,oY,oZ,pA,pB,pC,pD,pE,pF,pG,pH,pI,pJ,pK,pL,pM,pN,pO,pP,pQ,pR,pS,pU,pV,pW,pX,pY,pZ,qA,qB,qC,qD,qE,qF,qG,qH,qI,qJ,qK,qL,qM,qN,qO,qP,qQ,qR,qS,qT,qU,qV,qW,qX,qY,qZ,rA,rB,rC,rD,rE,rF,rG,rH,rJ,rK,rL,rM,rN,rO,rP,rQ,rR,rS,rT,rV,rW,rX,rY,rZ,sA,sD,sE,sF,sG,sH,sJ,sK,sL,sM,sN,sO,sP,sQ,kG,kF,kK,sR,sS,sT,sU,qr,e]) (fun a M _ hM => by
      obtain ⟨x, M', x0, x1, q, xn, _⟩ := roll (t := 30) hM (by omega) (by omega)
      refine ⟨x, M', ?_, xn, x0, by omega⟩
      simp only [aA,aB,aC,aD,aE,aF,aG,aH,aI,aJ,aK,aL,aM,aN,aO,aP,aQ,aR,aS,aU,aV,aW,aX,aY,aZ,bA,bB,bC,bD,bE,bF,bG,bH,bI,bJ,bK,bL,bM,bN,bO,bQ,bR,bS,bT,bU,bV,bW,bX,bY,bZ,cA,cB,cC,cD,cE,cF,cG,cH,cI,cJ,cK,cL,cO,cP,cQ,cS,cU,cV,cX,cY,cZ,dA,dB,dC,dD,dE,dH,dI,dJ,dL,dM,dN,dO,dQ,dR,dS,dU,dW,dX,dY,dZ,eA,eB,eD,eE,eF,eG,eI,eJ,eK,eM,eN,eO,eP,eQ,eR,eS,eT,eU,eV,eW,eX,eY,eZ,fA,fB,fC,fD,fE,fF,fG,fH,fJ,fK,fM,fN,fO,fP,fQ,fR,fS,fT,fU,fV,fW,fX,fY,fZ,gA,gB,gC,gD,gE,gF,gG,gH,gI,gJ,gK,gL,gM,gN,gO,gQ,gR,gS,gT,gU,gV,gW,gX,gY,gZ,hA,hJ,hO,hQ,hU,hV,hZ,iA,iB,iC,iD,iE,iF,iG,iH,iI,iJ,iK,iL,iM,iN,iO,iP,iQ,iR,iS,iT,iU,iV,iW,iX,iY,iZ,jA,jB,jC,jD,jE,jF,jG,jH,jI,jJ,jK,jL,jM,jN,jO,jP,jQ,jR,jS,jT,jU,jV,jW,jX,jY,jZ,kA,kB,kC,kD,kE,kF,kG,kH,kJ,kK,kL,kM,kN,kO,kP,kQ,kR,kS,kU,kW,kX,kY,kZ,lA,lB,lC,lD,lE,lF,lG,lH,lI,lJ,lK,lL,lM,lN,lO,lP,lQ,lR,lS,lT,lU,lV,lW,lX,lY,lZ,mB,mC,mD,mE,mF,mG,mH,mI,mJ,mK,mL,mM,mN,mO,mP,mQ,mR,mS,mT,mU,mV,mW,mX,mY,mZ,nB,nD,nE,nG,nH,nI,nJ,nK,nM,nN,nO,nP,nQ,nR,nS,nU,nV,nW,nX,nY,nZ,oA,oB,oC,oE,oG,oH,oI,oJ,oK,oL,oM,oN,oO,oQ,oR,oS,oU,oV,oW,oX,oY,oZ,pA,pB,pC,pD,pE,pF,pG,pH,pI,pJ,pK,pL,pM,pN,pO,pP,pQ,pR,pS,pU,pV,pW,pX,pY,pZ,qA,qB,qC,qD,qE,qF,qG,qH,qI,qJ,qK,qL,qM,qN,qO,qP,qQ,qR,qS,qT,qU,qV,qW,qX,qY,qZ,rA,rB,rC,rD,rE,rF,rG,rH,rJ,rK,rL,rM,rN,rO,rP,rQ,rR,rS,rT,rV,rW,rX,rY,rZ,sA,sD,sE,sF,sG,sH,sJ,sK,sL,sM,sN,sO,sP,sQ,kG,kF,kK,sR,sS,sT,sU,q])
  exact ⟨r, L2, c, fun e => by rw [e] at hl; simp at hl; omega, by omega, hr, x1.trans x2, d2⟩
theorem steps_ok (hd : Dc dn L) (y1 y2 y3 y4 y5 y6 y7 y8 y9 y10 : Option D) : ∃ (ps : List P2) (L' : Sto), C2_l_right [some (.loc dn), y1, y2, y3, y4, y5, y6, y7, y8, y9, y10] L = .ok (.lst (ps.map pairD)) L' ∧ ps ≠ [] ∧ ps.length ≤ 12 ∧ (∀ t ∈ ps, StN t) ∧ Nxt dn L L' ∧ Dc dn L' := by
  obtain ⟨v, L1, v0, v1, qr, x1, d1⟩ := roll (t := 3) hd (by omega) (by omega)
  obtain ⟨k, rfl⟩ := Int.eq_ofNat_of_zero_le v0
  obtain ⟨ps, L2, c, x2, d2, hl, hp⟩ := rollsP (own := [8]) (tg := gSet 8) (k := 1 + k) (Q := StN) (it := iRange1 (aCons (DS.e2 gAdd (eC (.int 1)) (eCall 2 m_l_roll [] (aCons (eVar 0) (aCons (eC (.int 3)) aNil)))) aNil))
    (f := eTup (aCons (eCall 2 m_l_roll [] (aCons (eVar 0) (aCons (eC (.int 9)) aNil))) (aCons (DS.e2 gAdd (eC (.int 9)) (eCall 2 m_l_roll [] (aCons (eVar 0) (aCons (eC (.int 9)) aNil)))) aNil))) (ρ := [some (.loc dn), y1, y2, y3, y4, y5, y6, y7, y8, y9, y10]) (L := L) d1 (by omega) (by
      have e := oV (k := 1 + (k : Int)) (L := L1) (by omega) (by omega)
      have e2 : (1 + (k : Int)).toNat = 1 + k := by omega
      rw [e2] at e
      simp only [aA,aB,aC,aD,aE,aF,aG,aH,aI,aJ,aK,aL,aM,aN,aO,aP,aQ,aR,aS,aU,aV,aW,aX,aY,aZ,bA,bB,bC,bD,bE,bF,bG,bH,bI,bJ,bK,bL,bM,bN,bO,bQ,bR,bS,bT,bU,bV,bW,bX,bY,bZ,cA,cB,cC,cD,cE,cF,cG,cH,cI,cJ,cK,cL,cO,cP,cQ,cS,cU,cV,cX,cY,cZ,dA,dB,dC,dD,dE,dH,dI,dJ,dL,dM,dN,dO,dQ,dR,dS,dU,dW,dX,dY,dZ,eA,eB,eD,eE,eF,eG,eI,eJ,eK,eM,eN,eO,eP,eQ,eR,eS,eT,eU,eV,eW,eX,eY,eZ,fA,fB,fC,fD,fE,fF,fG,fH,fJ,fK,fM,fN,fO,fP,fQ,fR,fS,fT,fU,fV,fW,fX,fY,fZ,gA,gB,gC,gD,gE,gF,gG,gH,gI,gJ,gK,gL,gM,gN,gO,gQ,gR,gS,gT,gU,gV,gW,gX,gY,gZ,hA,hJ,hO,hQ,hU,hV,hZ,iA,iB,iC,iD,iE,iF,iG,iH,iI,iJ,iK,iL,iM,iN,iO,iP,iQ,iR,iS,iT,iU,iV,iW,iX,iY,iZ,jA,jB,jC,jD,jE,jF,jG,jH,jI,jJ,jK,jL,jM,jN,jO,jP,jQ,jR,jS,jT,jU,jV,jW,jX,jY,jZ,kA,kB,kC,kD,kE,kF,kG,kH,kJ,kK,kL,kM,kN,kO,kP,kQ,kR,kS,kU,kW,kX,kY,kZ,lA,lB,lC,lD,lE,lF,lG,lH,lI,lJ,lK,lL,lM,lN,lO,lP,lQ,lR,lS,lT,lU,lV,lW,lX,lY,lZ,mB,mC,mD,mE,mF,mG,mH,mI,mJ,mK,mL,mM,mN,mO,mP,mQ,mR,mS,mT,mU,mV,mW,mX,mY,mZ,nB,nD,nE,nG,nH,nI,nJ,nK,nM,nN,nO,nP,nQ,nR,nS,nU,nV,nW,nX,nY,nZ,oA,oB,oC,oE,oG,oH,oI,oJ,oK,oL,oM,oN,oO,oQ,oR,oS,oU,oV,oW,oX,oY,oZ,pA,pB,pC,pD,pE,pF,pG,pH,pI,pJ,pK,pL,pM,pN,pO,pP,pQ,pR,pS,pU,pV,pW,pX,pY,pZ,qA,qB,qC,qD,qE,qF,qG,qH,qI,qJ,qK,qL,qM,qN,qO,qP,qQ,qR,qS,qT,qU,qV,qW,qX,qY,qZ,rA,rB,rC,rD,rE,rF,rG,rH,rJ,rK,rL,rM,rN,rO,rP,rQ,rR,rS,rT,rV,rW,rX,rY,rZ,sA,sD,sE,sF,sG,sH,sJ,sK,sL,sM,sN,sO,sP,sQ,kG,kF,kK,sR,sS,sT,sU,qr,e]) (fun a M _ hM => by
      obtain ⟨x, M1, x0, x1, q1, xn, m1⟩ := roll (t := 9) hM (by omega) (by omega)
      obtain ⟨y, M2, y0, y1, q2, xn2, m2⟩ := roll (t := 9) m1 (by omega) (by omega)
      refine ⟨(x, 9 + y), M2, ?_, xn.trans xn2, ⟨x0, x1⟩, by show 9 ≤ 9 + y; omega, by show 9 + y < 18; omega⟩
      have nt : newT [.int x, .int (9 + y)] M2 = .ok (.tup [.int x, .int (9 + y)]) M2 := z_newT (show 2 ≤ 16777216 by decide)
      simp only [aA,aB,aC,aD,aE,aF,aG,aH,aI,aJ,aK,aL,aM,aN,aO,aP,aQ,aR,aS,aU,aV,aW,aX,aY,aZ,bA,bB,bC,bD,bE,bF,bG,bH,bI,bJ,bK,bL,bM,bN,bO,bQ,bR,bS,bT,bU,bV,bW,bX,bY,bZ,cA,cB,cC,cD,cE,cF,cG,cH,cI,cJ,cK,cL,cO,cP,cQ,cS,cU,cV,cX,cY,cZ,dA,dB,dC,dD,dE,dH,dI,dJ,dL,dM,dN,dO,dQ,dR,dS,dU,dW,dX,dY,dZ,eA,eB,eD,eE,eF,eG,eI,eJ,eK,eM,eN,eO,eP,eQ,eR,eS,eT,eU,eV,eW,eX,eY,eZ,fA,fB,fC,fD,fE,fF,fG,fH,fJ,fK,fM,fN,fO,fP,fQ,fR,fS,fT,fU,fV,fW,fX,fY,fZ,gA,gB,gC,gD,gE,gF,gG,gH,gI,gJ,gK,gL,gM,gN,gO,gQ,gR,gS,gT,gU,gV,gW,gX,gY,gZ,hA,hJ,hO,hQ,hU,hV,hZ,iA,iB,iC,iD,iE,iF,iG,iH,iI,iJ,iK,iL,iM,iN,iO,iP,iQ,iR,iS,iT,iU,iV,iW,iX,iY,iZ,jA,jB,jC,jD,jE,jF,jG,jH,jI,jJ,jK,jL,jM,jN,jO,jP,jQ,jR,jS,jT,jU,jV,jW,jX,jY,jZ,kA,kB,kC,kD,kE,kF,kG,kH,kJ,kK,kL,kM,kN,kO,kP,kQ,kR,kS,kU,kW,kX,kY,kZ,lA,lB,lC,lD,lE,lF,lG,lH,lI,lJ,lK,lL,lM,lN,lO,lP,lQ,lR,lS,lT,lU,lV,lW,lX,lY,lZ,mB,mC,mD,mE,mF,mG,mH,mI,mJ,mK,mL,mM,mN,mO,mP,mQ,mR,mS,mT,mU,mV,mW,mX,mY,mZ,nB,nD,nE,nG,nH,nI,nJ,nK,nM,nN,nO,nP,nQ,nR,nS,nU,nV,nW,nX,nY,nZ,oA,oB,oC,oE,oG,oH,oI,oJ,oK,oL,oM,oN,oO,oQ,oR,oS,oU,oV,oW,oX,oY,oZ,pA,pB,pC,pD,pE,pF,pG,pH,pI,pJ,pK,pL,pM,pN,pO,pP,pQ,pR,pS,pU,pV,pW,pX,pY,pZ,qA,qB,qC,qD,qE,qF,qG,qH,qI,qJ,qK,qL,qM,qN,qO,qP,qQ,qR,qS,qT,qU,qV,qW,qX,qY,qZ,rA,rB,rC,rD,rE,rF,rG,rH,rJ,rK,rL,rM,rN,rO,rP,rQ,rR,rS,rT,rV,rW,rX,rY,rZ,sA,sD,sE,sF,sG,sH,sJ,sK,sL,sM,sN,sO,sP,sQ,kG,kF,kK,sR,sS,sT,sU,q1,q2,nt]
      rfl)
  exact ⟨ps, L2, c, fun e => by rw [e] at hl; simp at hl; omega, by omega, hp, x1.trans x2, d2⟩
theorem st_num {t : P2} (h : StN t) : PrN t ∧ LotN [t] := by
  have e : PrN t := by unfold StN at h; unfold PrN Num; omega
  exact ⟨e, ⟨List.pairwise_singleton _ _, fun s hs => by rw [List.mem_singleton.mp hs]; exact ⟨e, by unfold StN at h; omega⟩, show 1 ≤ 6 by decide⟩⟩
theorem due_c3 (k : Nat) (hk : k ≤ 10) (M : Sto) (y0 y2 y3 y4 y5 y6 y8 y9 y10 : Option D) : C3_l_right [y0, some (.lst (due57.map .str)), y2, y3, y4, y5, y6, some (natD k), y8, y9, y10] M = .ok (.lst ((dueAt k).map .str)) M := by
  have en : enumD 0 (due57.map .str) = (due57.zipIdx 0).map fun q => D.tup [natD q.2, .str q.1] := enumD_map D.str due57 0
  have e : (dueAt k).map D.str = (due57.zipIdx 0).map fun q => D.str (if q.2 = k then "fine" else q.1) := by unfold dueAt; rw [List.map_map]; rfl
  rw [e]
  refine lc_map (box := false) (due57.zipIdx 0) (fun q => D.tup [natD q.2, .str q.1]) _ (src := []) (L1 := M) ?_ srcOk_nil (by rw [List.length_zipIdx]; decide) fun q _ => ?_
  · simp only [aA,aB,aC,aD,aE,aF,aG,aH,aI,aJ,aK,aL,aM,aN,aO,aP,aQ,aR,aS,aU,aV,aW,aX,aY,aZ,bA,bB,bC,bD,bE,bF,bG,bH,bI,bJ,bK,bL,bM,bN,bO,bQ,bR,bS,bT,bU,bV,bW,bX,bY,bZ,cA,cB,cC,cD,cE,cF,cG,cH,cI,cJ,cK,cL,cO,cP,cQ,cS,cU,cV,cX,cY,cZ,dA,dB,dC,dD,dE,dH,dI,dJ,dL,dM,dN,dO,dQ,dR,dS,dU,dW,dX,dY,dZ,eA,eB,eD,eE,eF,eG,eI,eJ,eK,eM,eN,eO,eP,eQ,eR,eS,eT,eU,eV,eW,eX,eY,eZ,fA,fB,fC,fD,fE,fF,fG,fH,fJ,fK,fM,fN,fO,fP,fQ,fR,fS,fT,fU,fV,fW,fX,fY,fZ,gA,gB,gC,gD,gE,gF,gG,gH,gI,gJ,gK,gL,gM,gN,gO,gQ,gR,gS,gT,gU,gV,gW,gX,gY,gZ,hA,hJ,hO,hQ,hU,hV,hZ,iA,iB,iC,iD,iE,iF,iG,iH,iI,iJ,iK,iL,iM,iN,iO,iP,iQ,iR,iS,iT,iU,iV,iW,iX,iY,iZ,jA,jB,jC,jD,jE,jF,jG,jH,jI,jJ,jK,jL,jM,jN,jO,jP,jQ,jR,jS,jT,jU,jV,jW,jX,jY,jZ,kA,kB,kC,kD,kE,kF,kG,kH,kJ,kK,kL,kM,kN,kO,kP,kQ,kR,kS,kU,kW,kX,kY,kZ,lA,lB,lC,lD,lE,lF,lG,lH,lI,lJ,lK,lL,lM,lN,lO,lP,lQ,lR,lS,lT,lU,lV,lW,lX,lY,lZ,mB,mC,mD,mE,mF,mG,mH,mI,mJ,mK,mL,mM,mN,mO,mP,mQ,mR,mS,mT,mU,mV,mW,mX,mY,mZ,nB,nD,nE,nG,nH,nI,nJ,nK,nM,nN,nO,nP,nQ,nR,nS,nU,nV,nW,nX,nY,nZ,oA,oB,oC,oE,oG,oH,oI,oJ,oK,oL,oM,oN,oO,oQ,oR,oS,oU,oV,oW,oX,oY,oZ,pA,pB,pC,pD,pE,pF,pG,pH,pI,pJ,pK,pL,pM,pN,pO,pP,pQ,pR,pS,pU,pV,pW,pX,pY,pZ,qA,qB,qC,qD,qE,qF,qG,qH,qI,qJ,qK,qL,qM,qN,qO,qP,qQ,qR,qS,qT,qU,qV,qW,qX,qY,qZ,rA,rB,rC,rD,rE,rF,rG,rH,rJ,rK,rL,rM,rN,rO,rP,rQ,rR,rS,rT,rV,rW,rX,rY,rZ,sA,sD,sE,sF,sG,sH,sJ,sK,sL,sM,sN,sO,sP,sQ,kG,kF,kK,sR,sS,sT,sU]
    exact congrArg (fun z => Res.ok (Its.mk z []) M) en
  · by_cases h : q.2 = k
    · have d1 : decide (((q.2 : Nat) : Int) = (k : Int)) = true := decide_eq_true (by omega)
      simp only [aA,aB,aC,aD,aE,aF,aG,aH,aI,aJ,aK,aL,aM,aN,aO,aP,aQ,aR,aS,aU,aV,aW,aX,aY,aZ,bA,bB,bC,bD,bE,bF,bG,bH,bI,bJ,bK,bL,bM,bN,bO,bQ,bR,bS,bT,bU,bV,bW,bX,bY,bZ,cA,cB,cC,cD,cE,cF,cG,cH,cI,cJ,cK,cL,cO,cP,cQ,cS,cU,cV,cX,cY,cZ,dA,dB,dC,dD,dE,dH,dI,dJ,dL,dM,dN,dO,dQ,dR,dS,dU,dW,dX,dY,dZ,eA,eB,eD,eE,eF,eG,eI,eJ,eK,eM,eN,eO,eP,eQ,eR,eS,eT,eU,eV,eW,eX,eY,eZ,fA,fB,fC,fD,fE,fF,fG,fH,fJ,fK,fM,fN,fO,fP,fQ,fR,fS,fT,fU,fV,fW,fX,fY,fZ,gA,gB,gC,gD,gE,gF,gG,gH,gI,gJ,gK,gL,gM,gN,gO,gQ,gR,gS,gT,gU,gV,gW,gX,gY,gZ,hA,hJ,hO,hQ,hU,hV,hZ,iA,iB,iC,iD,iE,iF,iG,iH,iI,iJ,iK,iL,iM,iN,iO,iP,iQ,iR,iS,iT,iU,iV,iW,iX,iY,iZ,jA,jB,jC,jD,jE,jF,jG,jH,jI,jJ,jK,jL,jM,jN,jO,jP,jQ,jR,jS,jT,jU,jV,jW,jX,jY,jZ,kA,kB,kC,kD,kE,kF,kG,kH,kJ,kK,kL,kM,kN,kO,kP,kQ,kR,kS,kU,kW,kX,kY,kZ,lA,lB,lC,lD,lE,lF,lG,lH,lI,lJ,lK,lL,lM,lN,lO,lP,lQ,lR,lS,lT,lU,lV,lW,lX,lY,lZ,mB,mC,mD,mE,mF,mG,mH,mI,mJ,mK,mL,mM,mN,mO,mP,mQ,mR,mS,mT,mU,mV,mW,mX,mY,mZ,nB,nD,nE,nG,nH,nI,nJ,nK,nM,nN,nO,nP,nQ,nR,nS,nU,nV,nW,nX,nY,nZ,oA,oB,oC,oE,oG,oH,oI,oJ,oK,oL,oM,oN,oO,oQ,oR,oS,oU,oV,oW,oX,oY,oZ,pA,pB,pC,pD,pE,pF,pG,pH,pI,pJ,pK,pL,pM,pN,pO,pP,pQ,pR,pS,pU,pV,pW,pX,pY,pZ,qA,qB,qC,qD,qE,qF,qG,qH,qI,qJ,qK,qL,qM,qN,qO,qP,qQ,qR,qS,qT,qU,qV,qW,qX,qY,qZ,rA,rB,rC,rD,rE,rF,rG,rH,rJ,rK,rL,rM,rN,rO,rP,rQ,rR,rS,rT,rV,rW,rX,rY,rZ,sA,sD,sE,sF,sG,sH,sJ,sK,sL,sM,sN,sO,sP,sQ,kG,kF,kK,sR,sS,sT,sU,natD,d1,Bool.not_true,Bool.false_eq_true,if_false,if_pos h]
    · have d1 : decide (((q.2 : Nat) : Int) = (k : Int)) = false := decide_eq_false (by omega)
      simp only [aA,aB,aC,aD,aE,aF,aG,aH,aI,aJ,aK,aL,aM,aN,aO,aP,aQ,aR,aS,aU,aV,aW,aX,aY,aZ,bA,bB,bC,bD,bE,bF,bG,bH,bI,bJ,bK,bL,bM,bN,bO,bQ,bR,bS,bT,bU,bV,bW,bX,bY,bZ,cA,cB,cC,cD,cE,cF,cG,cH,cI,cJ,cK,cL,cO,cP,cQ,cS,cU,cV,cX,cY,cZ,dA,dB,dC,dD,dE,dH,dI,dJ,dL,dM,dN,dO,dQ,dR,dS,dU,dW,dX,dY,dZ,eA,eB,eD,eE,eF,eG,eI,eJ,eK,eM,eN,eO,eP,eQ,eR,eS,eT,eU,eV,eW,eX,eY,eZ,fA,fB,fC,fD,fE,fF,fG,fH,fJ,fK,fM,fN,fO,fP,fQ,fR,fS,fT,fU,fV,fW,fX,fY,fZ,gA,gB,gC,gD,gE,gF,gG,gH,gI,gJ,gK,gL,gM,gN,gO,gQ,gR,gS,gT,gU,gV,gW,gX,gY,gZ,hA,hJ,hO,hQ,hU,hV,hZ,iA,iB,iC,iD,iE,iF,iG,iH,iI,iJ,iK,iL,iM,iN,iO,iP,iQ,iR,iS,iT,iU,iV,iW,iX,iY,iZ,jA,jB,jC,jD,jE,jF,jG,jH,jI,jJ,jK,jL,jM,jN,jO,jP,jQ,jR,jS,jT,jU,jV,jW,jX,jY,jZ,kA,kB,kC,kD,kE,kF,kG,kH,kJ,kK,kL,kM,kN,kO,kP,kQ,kR,kS,kU,kW,kX,kY,kZ,lA,lB,lC,lD,lE,lF,lG,lH,lI,lJ,lK,lL,lM,lN,lO,lP,lQ,lR,lS,lT,lU,lV,lW,lX,lY,lZ,mB,mC,mD,mE,mF,mG,mH,mI,mJ,mK,mL,mM,mN,mO,mP,mQ,mR,mS,mT,mU,mV,mW,mX,mY,mZ,nB,nD,nE,nG,nH,nI,nJ,nK,nM,nN,nO,nP,nQ,nR,nS,nU,nV,nW,nX,nY,nZ,oA,oB,oC,oE,oG,oH,oI,oJ,oK,oL,oM,oN,oO,oQ,oR,oS,oU,oV,oW,oX,oY,oZ,pA,pB,pC,pD,pE,pF,pG,pH,pI,pJ,pK,pL,pM,pN,pO,pP,pQ,pR,pS,pU,pV,pW,pX,pY,pZ,qA,qB,qC,qD,qE,qF,qG,qH,qI,qJ,qK,qL,qM,qN,qO,qP,qQ,qR,qS,qT,qU,qV,qW,qX,qY,qZ,rA,rB,rC,rD,rE,rF,rG,rH,rJ,rK,rL,rM,rN,rO,rP,rQ,rR,rS,rT,rV,rW,rX,rY,rZ,sA,sD,sE,sF,sG,sH,sJ,sK,sL,sM,sN,sO,sP,sQ,kG,kF,kK,sR,sS,sT,sU,natD,d1,Bool.not_false,if_true,if_neg h]
theorem strok_at (k : Nat) (hk : k ≤ 3) : ∀ s ∈ dueAt k, PyData.strOk s = true := by
  have : ∀ k : Fin 4, (dueAt k.1).all PyData.strOk = true := by decide +kernel
  exact List.all_eq_true.mp (this ⟨k, by omega⟩)
theorem strok_d : ∀ s ∈ due57, PyData.strOk s = true := by
  have : due57.all PyData.strOk = true := by decide +kernel
  exact List.all_eq_true.mp this
theorem thing_loop (dn : Nat) (M : Sto) (y2 y3 y4 y5 y6 y7 y8 y9 y10 : Option D) (ts : List (D × Nat)) (ht : ∀ q ∈ ts, q.2 ≤ 3 ∧ Met8 q.1 (dueAt q.2))
    (hi : I1_l_right [some (.loc dn), some (.lst (due57.map .str)), y2, y3, y4, y5, y6, y7, y8, y9, y10] M = .ok ⟨ts.map fun q => D.tg [q.1, natD q.2], []⟩ M) :
    ∃ z6 z7, L1_l_right [some (.loc dn), some (.lst (due57.map .str)), y2, y3, y4, y5, y6, y7, y8, y9, y10] M = .nx [some (.loc dn), some (.lst (due57.map .str)), y2, y3, y4, y5, z6, z7, y8, y9, y10] M := by
  obtain ⟨ρ', L', q, ⟨z6, z7, rfl⟩, rfl⟩ := for_list (fi := I1_l_right) (tg := T1_l_right) (body := B1_l_right) (ρ := [some (.loc dn), some (.lst (due57.map .str)), y2, y3, y4, y5, y6, y7, y8, y9, y10]) (L := M) (L1 := M) (src := []) ts (fun q => D.tg [q.1, natD q.2]) hi
    (fun pre ρ Lc => (∃ z6 z7, ρ = [some (.loc dn), some (.lst (due57.map .str)), y2, y3, y4, y5, z6, z7, y8, y9, y10]) ∧ Lc = M) ⟨⟨_, _, rfl⟩, rfl⟩ (by
    rintro pre ⟨d, k⟩ post ρ Lc ep ⟨⟨z6, z7, rfl⟩, rfl⟩
    obtain ⟨hk, hm⟩ := ht (d, k) (by rw [ep]; simp)
    refine ⟨_, [some (.loc dn), some (.lst (due57.map .str)), y2, y3, y4, y5, some d, some (natD k), y8, y9, y10], Lc, rfl, ?_, srcOk_nil, ⟨_, _, rfl⟩, rfl⟩
    have a := hm.all Lc
    have c := due_c3 k (by omega) Lc (some (.loc dn)) y2 y3 y4 y5 (some d) y8 y9 y10
    have g := gNe_strsL (L := Lc) (strok_at k hk)
    simp only [B1_l_right,aA,aB,aC,aD,aE,aF,aG,aH,aI,aJ,aK,aL,aM,aN,aO,aP,aQ,aR,aS,aU,aV,aW,aX,aY,aZ,bA,bB,bC,bD,bE,bF,bG,bH,bI,bJ,bK,bL,bM,bN,bO,bQ,bR,bS,bT,bU,bV,bW,bX,bY,bZ,cA,cB,cC,cD,cE,cF,cG,cH,cI,cJ,cK,cL,cO,cP,cQ,cS,cU,cV,cX,cY,cZ,dA,dB,dC,dD,dE,dH,dI,dJ,dL,dM,dN,dO,dQ,dR,dS,dU,dW,dX,dY,dZ,eA,eB,eD,eE,eF,eG,eI,eJ,eK,eM,eN,eO,eP,eQ,eR,eS,eT,eU,eV,eW,eX,eY,eZ,fA,fB,fC,fD,fE,fF,fG,fH,fJ,fK,fM,fN,fO,fP,fQ,fR,fS,fT,fU,fV,fW,fX,fY,fZ,gA,gB,gC,gD,gE,gF,gG,gH,gI,gJ,gK,gL,gM,gN,gO,gQ,gR,gS,gT,gU,gV,gW,gX,gY,gZ,hA,hJ,hO,hQ,hU,hV,hZ,iA,iB,iC,iD,iE,iF,iG,iH,iI,iJ,iK,iL,iM,iN,iO,iP,iQ,iR,iS,iT,iU,iV,iW,iX,iY,iZ,jA,jB,jC,jD,jE,jF,jG,jH,jI,jJ,jK,jL,jM,jN,jO,jP,jQ,jR,jS,jT,jU,jV,jW,jX,jY,jZ,kA,kB,kC,kD,kE,kF,kG,kH,kJ,kK,kL,kM,kN,kO,kP,kQ,kR,kS,kU,kW,kX,kY,kZ,lA,lB,lC,lD,lE,lF,lG,lH,lI,lJ,lK,lL,lM,lN,lO,lP,lQ,lR,lS,lT,lU,lV,lW,lX,lY,lZ,mB,mC,mD,mE,mF,mG,mH,mI,mJ,mK,mL,mM,mN,mO,mP,mQ,mR,mS,mT,mU,mV,mW,mX,mY,mZ,nB,nD,nE,nG,nH,nI,nJ,nK,nM,nN,nO,nP,nQ,nR,nS,nU,nV,nW,nX,nY,nZ,oA,oB,oC,oE,oG,oH,oI,oJ,oK,oL,oM,oN,oO,oQ,oR,oS,oU,oV,oW,oX,oY,oZ,pA,pB,pC,pD,pE,pF,pG,pH,pI,pJ,pK,pL,pM,pN,pO,pP,pQ,pR,pS,pU,pV,pW,pX,pY,pZ,qA,qB,qC,qD,qE,qF,qG,qH,qI,qJ,qK,qL,qM,qN,qO,qP,qQ,qR,qS,qT,qU,qV,qW,qX,qY,qZ,rA,rB,rC,rD,rE,rF,rG,rH,rJ,rK,rL,rM,rN,rO,rP,rQ,rR,rS,rT,rV,rW,rX,rY,rZ,sA,sD,sE,sF,sG,sH,sJ,sK,sL,sM,sN,sO,sP,sQ,kG,kF,kK,sR,sS,sT,sU,a,c,g,Bool.false_eq_true,if_false])
  exact ⟨z6, z7, q⟩
theorem right_ok (hd : Dc dn L) : ∃ L', m_l_right [.loc dn] L = .ok (.bl true) L' ∧ Nxt dn L L' ∧ Dc dn L' := by
  obtain ⟨d, L1, hm, q1, x1, d1⟩ := one_of (xs := (oddA ++ oddB) ++ oddC) hd (by decide) (by decide)
  obtain ⟨r, L2, c1, rne, rl, hr, x2, d2⟩ := row_ok d1 (some (.lst (due57.map .str))) (some (.lst ((oddA ++ oddB) ++ oddC))) none none none none none none none none
  have gt : gTuple [.lst (r.map .int)] L2 = .ok (rowD r) L2 := gTuple_l (by rw [List.length_map]; omega)
  obtain ⟨ps, L3, c2, pne, pl, hp, x3, d3⟩ := steps_ok d2 (some (.lst (due57.map .str))) (some (.lst ((oddA ++ oddB) ++ oddC))) (some (rowD r)) none none none none none none none
  have gt2 : gTuple [.lst (ps.map pairD)] L3 = .ok (.tg (ps.map pairD)) L3 := gTuple_l (by rw [List.length_map]; omega)
  obtain ⟨v, L4, v0, v1, q4, x4, d4⟩ := roll (t := 10) d3 (by omega) (by omega)
  obtain ⟨k, rfl⟩ := Int.eq_ofNat_of_zero_le v0
  have mk : ∀ M, mMakeV "Web" m_Web_init [.int (1 + (k : Int)), .tg []] M = .ok (webD ⟨1 + k, []⟩) M := fun M => by
    have e : (1 + (k : Int)) = ((1 + k : Nat) : Int) := by omega
    rw [e]
    exact mkWeb0 (by omega) (by omega) M
  have hW : Wb.Ok ⟨1 + k, []⟩ := ⟨by show 1 ≤ 1 + k; omega, by show 1 + k ≤ 20; omega, .nil, (fun _ h => nomatch h), Nat.zero_le _⟩
  obtain ⟨t, ps', rfl⟩ := List.exists_cons_of_ne_nil pne
  obtain ⟨tn, tl⟩ := st_num (hp t List.mem_cons_self)
  have sl : gSl (.tg ((t :: ps').map pairD)) none (some 1) L4 = .ok (.tup [pairD t]) L4 := by
    have e : gSl (.tg ((t :: ps').map pairD)) none (some 1) L4 = .ok (.tup (cutD ((t :: ps').map pairD) none (some ((1 : Nat) : Int)))) L4 := rfl
    rw [e, cutD_to]
    rfl
  have dm := (odd_ok d hm).all L1
  have gn := gNe_strsL (L := L1) strok_d
  have nt0 : ∀ M, newT [] M = .ok (.tup []) M := fun M => z_newT (show 0 ≤ 16777216 by decide)
  have nt1 : ∀ (a : D) M, newT [a] M = .ok (.tup [a]) M := fun a M => z_newT (show 1 ≤ 16777216 by decide)
  have nt2 : ∀ (a b : D) M, newT [a, b] M = .ok (.tup [a, b]) M := fun a b M => z_newT (show 2 ≤ 16777216 by decide)
  have ts : ∀ q ∈ [(webD ⟨1 + k, []⟩, 0), (rowD r, 1), (.tg ((t :: ps').map pairD), 2), (.tup [.tup [pairD t]], 3), (.tup [.tup []], 3), (.tup [.tup [pairD t], .tup []], 3)], q.2 ≤ 3 ∧ Met8 q.1 (dueAt q.2) := by
    simp only [List.forall_mem_cons]
    refine ⟨⟨by decide, fine_web hW (by show 1 + k ≤ 10; omega)⟩, ⟨by decide, fine_row rne hr (by omega)⟩, ⟨by decide, fine_steps pne (fun t ht => (st_num (hp t ht)).1) (by omega)⟩,
      ⟨by decide, fine_rounds (qs := [(false, [t])]) (by simp) (fun q h => by rw [List.mem_singleton.mp h]; exact ⟨tl, show 1 ≤ 1 by decide⟩) (show 1 ≤ 20 by decide)⟩,
      ⟨by decide, fine_rounds (qs := [(false, [])]) (by simp) (fun q h => by rw [List.mem_singleton.mp h]; exact ⟨⟨.nil, (fun _ z => nomatch z), by decide⟩, by decide⟩) (by decide)⟩,
      ⟨by decide, fine_rounds (qs := [(false, [t]), (false, [])]) (by simp) (fun q h => by
        rcases List.mem_cons.mp h with rfl | h
        · exact ⟨tl, show 1 ≤ 1 by decide⟩
        · rw [List.mem_singleton.mp h]; exact ⟨⟨.nil, (fun _ z => nomatch z), by decide⟩, by decide⟩) (show 2 ≤ 20 by decide)⟩, fun _ z => nomatch z⟩
  generalize hq : (t :: ps').map pairD = qs at *
  have hi : I1_l_right [some (.loc dn), some (.lst (due57.map .str)), some (.lst ((oddA ++ oddB) ++ oddC)), some (rowD r), some (.tg qs), some (.lst [.tg [webD ⟨1 + k, []⟩, .int 0], .tg [rowD r, .int 1], .tg [.tg qs, .int 2], .tg [.tup [.tup [pairD t]], .int 3], .tg [.tup [.tup []], .int 3]]), none, none, none, none, none] L4
      = .ok ⟨[(webD ⟨1 + k, []⟩, 0), (rowD r, 1), (.tg qs, 2), (.tup [.tup [pairD t]], 3), (.tup [.tup []], 3), (.tup [.tup [pairD t], .tup []], 3)].map fun (q : D × Nat) => D.tg [q.1, natD q.2], []⟩ L4 := by
    have ga : gAdd (.lst [.tg [webD ⟨1 + k, []⟩, .int 0], .tg [rowD r, .int 1], .tg [.tg qs, .int 2], .tg [.tup [.tup [pairD t]], .int 3], .tg [.tup [.tup []], .int 3]]) (.lst [.tg [.tup [.tup [pairD t], .tup []], .int 3]]) L4
      = .ok (.lst [.tg [webD ⟨1 + k, []⟩, .int 0], .tg [rowD r, .int 1], .tg [.tg qs, .int 2], .tg [.tup [.tup [pairD t]], .int 3], .tg [.tup [.tup []], .int 3], .tg [.tup [.tup [pairD t], .tup []], .int 3]]) L4 := gAdd_lst (show 6 ≤ 16777216 by decide)
    simp only [I1_l_right,aA,aB,aC,aD,aE,aF,aG,aH,aI,aJ,aK,aL,aM,aN,aO,aP,aQ,aR,aS,aU,aV,aW,aX,aY,aZ,bA,bB,bC,bD,bE,bF,bG,bH,bI,bJ,bK,bL,bM,bN,bO,bQ,bR,bS,bT,bU,bV,bW,bX,bY,bZ,cA,cB,cC,cD,cE,cF,cG,cH,cI,cJ,cK,cL,cO,cP,cQ,cS,cU,cV,cX,cY,cZ,dA,dB,dC,dD,dE,dH,dI,dJ,dL,dM,dN,dO,dQ,dR,dS,dU,dW,dX,dY,dZ,eA,eB,eD,eE,eF,eG,eI,eJ,eK,eM,eN,eO,eP,eQ,eR,eS,eT,eU,eV,eW,eX,eY,eZ,fA,fB,fC,fD,fE,fF,fG,fH,fJ,fK,fM,fN,fO,fP,fQ,fR,fS,fT,fU,fV,fW,fX,fY,fZ,gA,gB,gC,gD,gE,gF,gG,gH,gI,gJ,gK,gL,gM,gN,gO,gQ,gR,gS,gT,gU,gV,gW,gX,gY,gZ,hA,hJ,hO,hQ,hU,hV,hZ,iA,iB,iC,iD,iE,iF,iG,iH,iI,iJ,iK,iL,iM,iN,iO,iP,iQ,iR,iS,iT,iU,iV,iW,iX,iY,iZ,jA,jB,jC,jD,jE,jF,jG,jH,jI,jJ,jK,jL,jM,jN,jO,jP,jQ,jR,jS,jT,jU,jV,jW,jX,jY,jZ,kA,kB,kC,kD,kE,kF,kG,kH,kJ,kK,kL,kM,kN,kO,kP,kQ,kR,kS,kU,kW,kX,kY,kZ,lA,lB,lC,lD,lE,lF,lG,lH,lI,lJ,lK,lL,lM,lN,lO,lP,lQ,lR,lS,lT,lU,lV,lW,lX,lY,lZ,mB,mC,mD,mE,mF,mG,mH,mI,mJ,mK,mL,mM,mN,mO,mP,mQ,mR,mS,mT,mU,mV,mW,mX,mY,mZ,nB,nD,nE,nG,nH,nI,nJ,nK,nM,nN,nO,nP,nQ,nR,nS,nU,nV,nW,nX,nY,nZ,oA,oB,oC,oE,oG,oH,oI,oJ,oK,oL,oM,oN,oO,oQ,oR,oS,oU,oV,oW,oX,oY,oZ,pA,pB,pC,pD,pE,pF,pG,pH,pI,pJ,pK,pL,pM,pN,pO,pP,pQ,pR,pS,pU,pV,pW,pX,pY,pZ,qA,qB,qC,qD,qE,qF,qG,qH,qI,qJ,qK,qL,qM,qN,qO,qP,qQ,qR,qS,qT,qU,qV,qW,qX,qY,qZ,rA,rB,rC,rD,rE,rF,rG,rH,rJ,rK,rL,rM,rN,rO,rP,rQ,rR,rS,rT,rV,rW,rX,rY,rZ,sA,sD,sE,sF,sG,sH,sJ,sK,sL,sM,sN,sO,sP,sQ,kG,kF,kK,sR,sS,sT,sU,sl,nt0,nt1,nt2,ga]
    rfl
  obtain ⟨z6, z7, lp⟩ := thing_loop dn L4 (some (.lst ((oddA ++ oddB) ++ oddC))) (some (rowD r)) (some (.tg qs)) (some (.lst [.tg [webD ⟨1 + k, []⟩, .int 0], .tg [rowD r, .int 1], .tg [.tg qs, .int 2], .tg [.tup [.tup [pairD t]], .int 3], .tg [.tup [.tup []], .int 3]])) none none none none none _ ts hi
  have mu : ∀ M, gMul (.lst [.str "parse None"]) (.int 4) M = .ok (.lst [.str "parse None", .str "parse None", .str "parse None", .str "parse None"]) M := fun M => z_mulL (n := 4) (by decide)
  have du : ∀ M, gAdd (.lst [.str "web", .str "row", .str "operation", .str "operation"]) (.lst [.str "parse None", .str "parse None", .str "parse None", .str "parse None"]) M = .ok (.lst (due57.map .str)) M := fun M => gAdd_lst (show 8 ≤ 16777216 by decide)
  have ng : ∀ M, gNeg (.int 1) M = .ok (.int (-1)) M := fun _ => rfl
  have dz : ∀ (ρ : Env') M, eDict0 false ρ M = .ok (.dK []) M := fun _ _ => rfl
  have a1 : ∀ M, gAdd (.lst [.non, .int 0, .lst [], .dK [], .bl true, .tg [], .tg [.str "0"], .tg [.non], .tg [.int (-1)], .tg [.bl true], .lst [.str "web 1"], .tg [.tup [.int 0]], .tg [.tup [.int 0, .int 1, .int 2]], .tg [.tup [.int 0, .int (-1)]]])
      (.lst [.tg [.tup [.int 0, .non]], .tg [.lst [.int 0, .int 1]], .tg [.tup [.tup [.int 1, .int 0]]], .tg [.tup [.tup [.int 0, .int 1], .tup [.int 0, .int 1]]], .tg [.tup [.tup [.int 1, .int 2], .tup [.int 0, .int 1]]], .tg [.tup [.tup [.int 0, .int 0]]]]) M = .ok (.lst (oddA ++ oddB)) M := fun M => gAdd_lst (show 20 ≤ 16777216 by decide)
  have a2 : ∀ M, gAdd (.lst (oddA ++ oddB)) (.lst [.tg [.tup [.tup [.int 0, .int 1, .int 2]]], .tg [.tup [.tup [.int 0]]]]) M = .ok (.lst ((oddA ++ oddB) ++ oddC)) M := fun M => gAdd_lst (show 22 ≤ 16777216 by decide)
  refine ⟨L4, ?_, ((x1.trans x2).trans x3).trans x4, d4⟩
  simp only [u_l_right,F_l_right,aA,aB,aC,aD,aE,aF,aG,aH,aI,aJ,aK,aL,aM,aN,aO,aP,aQ,aR,aS,aU,aV,aW,aX,aY,aZ,bA,bB,bC,bD,bE,bF,bG,bH,bI,bJ,bK,bL,bM,bN,bO,bQ,bR,bS,bT,bU,bV,bW,bX,bY,bZ,cA,cB,cC,cD,cE,cF,cG,cH,cI,cJ,cK,cL,cO,cP,cQ,cS,cU,cV,cX,cY,cZ,dA,dB,dC,dD,dE,dH,dI,dJ,dL,dM,dN,dO,dQ,dR,dS,dU,dW,dX,dY,dZ,eA,eB,eD,eE,eF,eG,eI,eJ,eK,eM,eN,eO,eP,eQ,eR,eS,eT,eU,eV,eW,eX,eY,eZ,fA,fB,fC,fD,fE,fF,fG,fH,fJ,fK,fM,fN,fO,fP,fQ,fR,fS,fT,fU,fV,fW,fX,fY,fZ,gA,gB,gC,gD,gE,gF,gG,gH,gI,gJ,gK,gL,gM,gN,gO,gQ,gR,gS,gT,gU,gV,gW,gX,gY,gZ,hA,hJ,hO,hQ,hU,hV,hZ,iA,iB,iC,iD,iE,iF,iG,iH,iI,iJ,iK,iL,iM,iN,iO,iP,iQ,iR,iS,iT,iU,iV,iW,iX,iY,iZ,jA,jB,jC,jD,jE,jF,jG,jH,jI,jJ,jK,jL,jM,jN,jO,jP,jQ,jR,jS,jT,jU,jV,jW,jX,jY,jZ,kA,kB,kC,kD,kE,kF,kG,kH,kJ,kK,kL,kM,kN,kO,kP,kQ,kR,kS,kU,kW,kX,kY,kZ,lA,lB,lC,lD,lE,lF,lG,lH,lI,lJ,lK,lL,lM,lN,lO,lP,lQ,lR,lS,lT,lU,lV,lW,lX,lY,lZ,mB,mC,mD,mE,mF,mG,mH,mI,mJ,mK,mL,mM,mN,mO,mP,mQ,mR,mS,mT,mU,mV,mW,mX,mY,mZ,nB,nD,nE,nG,nH,nI,nJ,nK,nM,nN,nO,nP,nQ,nR,nS,nU,nV,nW,nX,nY,nZ,oA,oB,oC,oE,oG,oH,oI,oJ,oK,oL,oM,oN,oO,oQ,oR,oS,oU,oV,oW,oX,oY,oZ,pA,pB,pC,pD,pE,pF,pG,pH,pI,pJ,pK,pL,pM,pN,pO,pP,pQ,pR,pS,pU,pV,pW,pX,pY,pZ,qA,qB,qC,qD,qE,qF,qG,qH,qI,qJ,qK,qL,qM,qN,qO,qP,qQ,qR,qS,qT,qU,qV,qW,qX,qY,qZ,rA,rB,rC,rD,rE,rF,rG,rH,rJ,rK,rL,rM,rN,rO,rP,rQ,rR,rS,rT,rV,rW,rX,rY,rZ,sA,sD,sE,sF,sG,sH,sJ,sK,sL,sM,sN,sO,sP,sQ,kG,kF,kK,sR,sS,sT,sU,mu,du,ng,dz,nt0,nt1,nt2,a1,a2,q1,dm,gn,c1,gt,c2,gt2,q4,mk,sl,lp,Bool.false_eq_true,if_false]
end
theorem inner_loop {n : Nat} {L : Sto} (hd : Dc n L) (x0 x1 x3 : Option D) : ∃ y L', L1_law [x0, x1, some (.loc n), x3] L = .nx [x0, x1, some (.loc n), y] L' := by
  obtain ⟨ρ', L', q, ⟨y, rfl⟩, _⟩ := for_list (fi := I1_law) (tg := T1_law) (body := B1_law) (ρ := [x0, x1, some (.loc n), x3]) (L := L) (L1 := L) (src := []) (List.range 4) natD
    (by
      have e := oV (k := 4) (L := L) (by omega) (by omega)
      simp only [I1_law,aA,aB,aC,aD,aE,aF,aG,aH,aI,aJ,aK,aL,aM,aN,aO,aP,aQ,aR,aS,aU,aV,aW,aX,aY,aZ,bA,bB,bC,bD,bE,bF,bG,bH,bI,bJ,bK,bL,bM,bN,bO,bQ,bR,bS,bT,bU,bV,bW,bX,bY,bZ,cA,cB,cC,cD,cE,cF,cG,cH,cI,cJ,cK,cL,cO,cP,cQ,cS,cU,cV,cX,cY,cZ,dA,dB,dC,dD,dE,dH,dI,dJ,dL,dM,dN,dO,dQ,dR,dS,dU,dW,dX,dY,dZ,eA,eB,eD,eE,eF,eG,eI,eJ,eK,eM,eN,eO,eP,eQ,eR,eS,eT,eU,eV,eW,eX,eY,eZ,fA,fB,fC,fD,fE,fF,fG,fH,fJ,fK,fM,fN,fO,fP,fQ,fR,fS,fT,fU,fV,fW,fX,fY,fZ,gA,gB,gC,gD,gE,gF,gG,gH,gI,gJ,gK,gL,gM,gN,gO,gQ,gR,gS,gT,gU,gV,gW,gX,gY,gZ,hA,hJ,hO,hQ,hU,hV,hZ,iA,iB,iC,iD,iE,iF,iG,iH,iI,iJ,iK,iL,iM,iN,iO,iP,iQ,iR,iS,iT,iU,iV,iW,iX,iY,iZ,jA,jB,jC,jD,jE,jF,jG,jH,jI,jJ,jK,jL,jM,jN,jO,jP,jQ,jR,jS,jT,jU,jV,jW,jX,jY,jZ,kA,kB,kC,kD,kE,kF,kG,kH,kJ,kK,kL,kM,kN,kO,kP,kQ,kR,kS,kU,kW,kX,kY,kZ,lA,lB,lC,lD,lE,lF,lG,lH,lI,lJ,lK,lL,lM,lN,lO,lP,lQ,lR,lS,lT,lU,lV,lW,lX,lY,lZ,mB,mC,mD,mE,mF,mG,mH,mI,mJ,mK,mL,mM,mN,mO,mP,mQ,mR,mS,mT,mU,mV,mW,mX,mY,mZ,nB,nD,nE,nG,nH,nI,nJ,nK,nM,nN,nO,nP,nQ,nR,nS,nU,nV,nW,nX,nY,nZ,oA,oB,oC,oE,oG,oH,oI,oJ,oK,oL,oM,oN,oO,oQ,oR,oS,oU,oV,oW,oX,oY,oZ,pA,pB,pC,pD,pE,pF,pG,pH,pI,pJ,pK,pL,pM,pN,pO,pP,pQ,pR,pS,pU,pV,pW,pX,pY,pZ,qA,qB,qC,qD,qE,qF,qG,qH,qI,qJ,qK,qL,qM,qN,qO,qP,qQ,qR,qS,qT,qU,qV,qW,qX,qY,qZ,rA,rB,rC,rD,rE,rF,rG,rH,rJ,rK,rL,rM,rN,rO,rP,rQ,rR,rS,rT,rV,rW,rX,rY,rZ,sA,sD,sE,sF,sG,sH,sJ,sK,sL,sM,sN,sO,sP,sQ,kG,kF,kK,sR,sS,sT,sU,e]
      rfl)
    (fun pre ρ Lc => (∃ y, ρ = [x0, x1, some (.loc n), y]) ∧ Dc n Lc) ⟨⟨x3, rfl⟩, hd⟩ (by
    rintro pre i post ρ Lc ep ⟨⟨y, rfl⟩, hd⟩
    obtain ⟨L2, q, _, hd2⟩ := right_ok hd
    refine ⟨_, [x0, x1, some (.loc n), some (natD i)], L2, rfl, ?_, srcOk_nil, ⟨_, rfl⟩, hd2⟩
    simp only [B1_law,aA,aB,aC,aD,aE,aF,aG,aH,aI,aJ,aK,aL,aM,aN,aO,aP,aQ,aR,aS,aU,aV,aW,aX,aY,aZ,bA,bB,bC,bD,bE,bF,bG,bH,bI,bJ,bK,bL,bM,bN,bO,bQ,bR,bS,bT,bU,bV,bW,bX,bY,bZ,cA,cB,cC,cD,cE,cF,cG,cH,cI,cJ,cK,cL,cO,cP,cQ,cS,cU,cV,cX,cY,cZ,dA,dB,dC,dD,dE,dH,dI,dJ,dL,dM,dN,dO,dQ,dR,dS,dU,dW,dX,dY,dZ,eA,eB,eD,eE,eF,eG,eI,eJ,eK,eM,eN,eO,eP,eQ,eR,eS,eT,eU,eV,eW,eX,eY,eZ,fA,fB,fC,fD,fE,fF,fG,fH,fJ,fK,fM,fN,fO,fP,fQ,fR,fS,fT,fU,fV,fW,fX,fY,fZ,gA,gB,gC,gD,gE,gF,gG,gH,gI,gJ,gK,gL,gM,gN,gO,gQ,gR,gS,gT,gU,gV,gW,gX,gY,gZ,hA,hJ,hO,hQ,hU,hV,hZ,iA,iB,iC,iD,iE,iF,iG,iH,iI,iJ,iK,iL,iM,iN,iO,iP,iQ,iR,iS,iT,iU,iV,iW,iX,iY,iZ,jA,jB,jC,jD,jE,jF,jG,jH,jI,jJ,jK,jL,jM,jN,jO,jP,jQ,jR,jS,jT,jU,jV,jW,jX,jY,jZ,kA,kB,kC,kD,kE,kF,kG,kH,kJ,kK,kL,kM,kN,kO,kP,kQ,kR,kS,kU,kW,kX,kY,kZ,lA,lB,lC,lD,lE,lF,lG,lH,lI,lJ,lK,lL,lM,lN,lO,lP,lQ,lR,lS,lT,lU,lV,lW,lX,lY,lZ,mB,mC,mD,mE,mF,mG,mH,mI,mJ,mK,mL,mM,mN,mO,mP,mQ,mR,mS,mT,mU,mV,mW,mX,mY,mZ,nB,nD,nE,nG,nH,nI,nJ,nK,nM,nN,nO,nP,nQ,nR,nS,nU,nV,nW,nX,nY,nZ,oA,oB,oC,oE,oG,oH,oI,oJ,oK,oL,oM,oN,oO,oQ,oR,oS,oU,oV,oW,oX,oY,oZ,pA,pB,pC,pD,pE,pF,pG,pH,pI,pJ,pK,pL,pM,pN,pO,pP,pQ,pR,pS,pU,pV,pW,pX,pY,pZ,qA,qB,qC,qD,qE,qF,qG,qH,qI,qJ,qK,qL,qM,qN,qO,qP,qQ,qR,qS,qT,qU,qV,qW,qX,qY,qZ,rA,rB,rC,rD,rE,rF,rG,rH,rJ,rK,rL,rM,rN,rO,rP,rQ,rR,rS,rT,rV,rW,rX,rY,rZ,sA,sD,sE,sF,sG,sH,sJ,sK,sL,sM,sN,sO,sP,sQ,kG,kF,kK,sR,sS,sT,sU,q,Bool.not_true,Bool.false_eq_true,if_false])
  exact ⟨y, L', q⟩
theorem outer_loop (ns : List Int) (L : Sto) : ∃ y1 y3 y4 L', L2_law [some (.ro (ns.map .int)), none, none, none] L = .nx [some (.ro (ns.map .int)), y1, y3, y4] L' := by
  obtain ⟨ρ', L', q, y1, y3, y4, rfl⟩ := for_list (fi := I2_law) (tg := T2_law) (body := B2_law) (ρ := [some (.ro (ns.map .int)), none, none, none]) (L := L) (L1 := L) (src := []) (List.range (max 1 (min 8 (ns.length : Int))).toNat) natD
    (by
      have e := oV (k := max 1 (min 8 (ns.length : Int))) (L := L) (by omega) (by omega)
      simp only [I2_law,aA,aB,aC,aD,aE,aF,aG,aH,aI,aJ,aK,aL,aM,aN,aO,aP,aQ,aR,aS,aU,aV,aW,aX,aY,aZ,bA,bB,bC,bD,bE,bF,bG,bH,bI,bJ,bK,bL,bM,bN,bO,bQ,bR,bS,bT,bU,bV,bW,bX,bY,bZ,cA,cB,cC,cD,cE,cF,cG,cH,cI,cJ,cK,cL,cO,cP,cQ,cS,cU,cV,cX,cY,cZ,dA,dB,dC,dD,dE,dH,dI,dJ,dL,dM,dN,dO,dQ,dR,dS,dU,dW,dX,dY,dZ,eA,eB,eD,eE,eF,eG,eI,eJ,eK,eM,eN,eO,eP,eQ,eR,eS,eT,eU,eV,eW,eX,eY,eZ,fA,fB,fC,fD,fE,fF,fG,fH,fJ,fK,fM,fN,fO,fP,fQ,fR,fS,fT,fU,fV,fW,fX,fY,fZ,gA,gB,gC,gD,gE,gF,gG,gH,gI,gJ,gK,gL,gM,gN,gO,gQ,gR,gS,gT,gU,gV,gW,gX,gY,gZ,hA,hJ,hO,hQ,hU,hV,hZ,iA,iB,iC,iD,iE,iF,iG,iH,iI,iJ,iK,iL,iM,iN,iO,iP,iQ,iR,iS,iT,iU,iV,iW,iX,iY,iZ,jA,jB,jC,jD,jE,jF,jG,jH,jI,jJ,jK,jL,jM,jN,jO,jP,jQ,jR,jS,jT,jU,jV,jW,jX,jY,jZ,kA,kB,kC,kD,kE,kF,kG,kH,kJ,kK,kL,kM,kN,kO,kP,kQ,kR,kS,kU,kW,kX,kY,kZ,lA,lB,lC,lD,lE,lF,lG,lH,lI,lJ,lK,lL,lM,lN,lO,lP,lQ,lR,lS,lT,lU,lV,lW,lX,lY,lZ,mB,mC,mD,mE,mF,mG,mH,mI,mJ,mK,mL,mM,mN,mO,mP,mQ,mR,mS,mT,mU,mV,mW,mX,mY,mZ,nB,nD,nE,nG,nH,nI,nJ,nK,nM,nN,nO,nP,nQ,nR,nS,nU,nV,nW,nX,nY,nZ,oA,oB,oC,oE,oG,oH,oI,oJ,oK,oL,oM,oN,oO,oQ,oR,oS,oU,oV,oW,oX,oY,oZ,pA,pB,pC,pD,pE,pF,pG,pH,pI,pJ,pK,pL,pM,pN,pO,pP,pQ,pR,pS,pU,pV,pW,pX,pY,pZ,qA,qB,qC,qD,qE,qF,qG,qH,qI,qJ,qK,qL,qM,qN,qO,qP,qQ,qR,qS,qT,qU,qV,qW,qX,qY,qZ,rA,rB,rC,rD,rE,rF,rG,rH,rJ,rK,rL,rM,rN,rO,rP,rQ,rR,rS,rT,rV,rW,rX,rY,rZ,sA,sD,sE,sF,sG,sH,sJ,sK,sL,sM,sN,sO,sP,sQ,kG,kF,kK,sR,sS,sT,sU,kO,List.length_map,kU,kS,e])
    (fun pre ρ Lc => ∃ y1 y3 y4, ρ = [some (.ro (ns.map .int)), y1, y3, y4]) ⟨_, _, _, rfl⟩ (by
    rintro pre i post ρ Lc ep ⟨y1, y3, y4, rfl⟩
    obtain ⟨a, b, q⟩ := dice_ok ns i Lc
    obtain ⟨z4, L2, q2⟩ := inner_loop (n := Lc.length) (L := Lc ++ [dice a b 0]) ⟨a, b, 0, by simp⟩ (some (.ro (ns.map .int))) (some (natD i)) y4
    refine ⟨_, [some (.ro (ns.map .int)), some (natD i), some (.loc Lc.length), z4], L2, rfl, ?_, srcOk_nil, _, _, _, rfl⟩
    have q' : m_l_dice [.ro (ns.map .int), natD i] Lc = _ := q
    simp only [B2_law,aA,aB,aC,aD,aE,aF,aG,aH,aI,aJ,aK,aL,aM,aN,aO,aP,aQ,aR,aS,aU,aV,aW,aX,aY,aZ,bA,bB,bC,bD,bE,bF,bG,bH,bI,bJ,bK,bL,bM,bN,bO,bQ,bR,bS,bT,bU,bV,bW,bX,bY,bZ,cA,cB,cC,cD,cE,cF,cG,cH,cI,cJ,cK,cL,cO,cP,cQ,cS,cU,cV,cX,cY,cZ,dA,dB,dC,dD,dE,dH,dI,dJ,dL,dM,dN,dO,dQ,dR,dS,dU,dW,dX,dY,dZ,eA,eB,eD,eE,eF,eG,eI,eJ,eK,eM,eN,eO,eP,eQ,eR,eS,eT,eU,eV,eW,eX,eY,eZ,fA,fB,fC,fD,fE,fF,fG,fH,fJ,fK,fM,fN,fO,fP,fQ,fR,fS,fT,fU,fV,fW,fX,fY,fZ,gA,gB,gC,gD,gE,gF,gG,gH,gI,gJ,gK,gL,gM,gN,gO,gQ,gR,gS,gT,gU,gV,gW,gX,gY,gZ,hA,hJ,hO,hQ,hU,hV,hZ,iA,iB,iC,iD,iE,iF,iG,iH,iI,iJ,iK,iL,iM,iN,iO,iP,iQ,iR,iS,iT,iU,iV,iW,iX,iY,iZ,jA,jB,jC,jD,jE,jF,jG,jH,jI,jJ,jK,jL,jM,jN,jO,jP,jQ,jR,jS,jT,jU,jV,jW,jX,jY,jZ,kA,kB,kC,kD,kE,kF,kG,kH,kJ,kK,kL,kM,kN,kO,kP,kQ,kR,kS,kU,kW,kX,kY,kZ,lA,lB,lC,lD,lE,lF,lG,lH,lI,lJ,lK,lL,lM,lN,lO,lP,lQ,lR,lS,lT,lU,lV,lW,lX,lY,lZ,mB,mC,mD,mE,mF,mG,mH,mI,mJ,mK,mL,mM,mN,mO,mP,mQ,mR,mS,mT,mU,mV,mW,mX,mY,mZ,nB,nD,nE,nG,nH,nI,nJ,nK,nM,nN,nO,nP,nQ,nR,nS,nU,nV,nW,nX,nY,nZ,oA,oB,oC,oE,oG,oH,oI,oJ,oK,oL,oM,oN,oO,oQ,oR,oS,oU,oV,oW,oX,oY,oZ,pA,pB,pC,pD,pE,pF,pG,pH,pI,pJ,pK,pL,pM,pN,pO,pP,pQ,pR,pS,pU,pV,pW,pX,pY,pZ,qA,qB,qC,qD,qE,qF,qG,qH,qI,qJ,qK,qL,qM,qN,qO,qP,qQ,qR,qS,qT,qU,qV,qW,qX,qY,qZ,rA,rB,rC,rD,rE,rF,rG,rH,rJ,rK,rL,rM,rN,rO,rP,rQ,rR,rS,rT,rV,rW,rX,rY,rZ,sA,sD,sE,sF,sG,sH,sJ,sK,sL,sM,sN,sO,sP,sQ,kG,kF,kK,sR,sS,sT,sU,q',q2])
  exact ⟨y1, y3, y4, L', q⟩
def four57 : List Str := ["web", "row", "operation", "operation"]
theorem law_ok (ns : List Int) (_ : ns.length ≤ 63) : ∃ L, m_law [.ro (ns.map .int)] [] = .ok (.bl true) L := by
  obtain ⟨y1, y3, y4, L, q⟩ := outer_loop ns []
  obtain ⟨s, m⟩ := empty8
  have a : m_l_all_met [.str ""] L = .ok (.lst [.str "web", .str "row", .str "operation", .str "operation", .str s, .str s, .str s, .str s]) L := m.all L
  have sl : gSl (.lst [.str "web", .str "row", .str "operation", .str "operation", .str s, .str s, .str s, .str s]) none (some 4) L = .ok (.lst [.str "web", .str "row", .str "operation", .str "operation"]) L := w_sl_to (k := 4)
  have o : four57.all PyData.strOk = true := by decide +kernel
  have g : gEq (.lst [.str "web", .str "row", .str "operation", .str "operation"]) (.lst [.str "web", .str "row", .str "operation", .str "operation"]) L = .ok (.bl true) L := gEq_strsL (L := L) (ss := four57) (fun s hs => List.all_eq_true.mp o s hs)
  refine ⟨L, ?_⟩
  simp only [u_law,F_law,aA,aB,aC,aD,aE,aF,aG,aH,aI,aJ,aK,aL,aM,aN,aO,aP,aQ,aR,aS,aU,aV,aW,aX,aY,aZ,bA,bB,bC,bD,bE,bF,bG,bH,bI,bJ,bK,bL,bM,bN,bO,bQ,bR,bS,bT,bU,bV,bW,bX,bY,bZ,cA,cB,cC,cD,cE,cF,cG,cH,cI,cJ,cK,cL,cO,cP,cQ,cS,cU,cV,cX,cY,cZ,dA,dB,dC,dD,dE,dH,dI,dJ,dL,dM,dN,dO,dQ,dR,dS,dU,dW,dX,dY,dZ,eA,eB,eD,eE,eF,eG,eI,eJ,eK,eM,eN,eO,eP,eQ,eR,eS,eT,eU,eV,eW,eX,eY,eZ,fA,fB,fC,fD,fE,fF,fG,fH,fJ,fK,fM,fN,fO,fP,fQ,fR,fS,fT,fU,fV,fW,fX,fY,fZ,gA,gB,gC,gD,gE,gF,gG,gH,gI,gJ,gK,gL,gM,gN,gO,gQ,gR,gS,gT,gU,gV,gW,gX,gY,gZ,hA,hJ,hO,hQ,hU,hV,hZ,iA,iB,iC,iD,iE,iF,iG,iH,iI,iJ,iK,iL,iM,iN,iO,iP,iQ,iR,iS,iT,iU,iV,iW,iX,iY,iZ,jA,jB,jC,jD,jE,jF,jG,jH,jI,jJ,jK,jL,jM,jN,jO,jP,jQ,jR,jS,jT,jU,jV,jW,jX,jY,jZ,kA,kB,kC,kD,kE,kF,kG,kH,kJ,kK,kL,kM,kN,kO,kP,kQ,kR,kS,kU,kW,kX,kY,kZ,lA,lB,lC,lD,lE,lF,lG,lH,lI,lJ,lK,lL,lM,lN,lO,lP,lQ,lR,lS,lT,lU,lV,lW,lX,lY,lZ,mB,mC,mD,mE,mF,mG,mH,mI,mJ,mK,mL,mM,mN,mO,mP,mQ,mR,mS,mT,mU,mV,mW,mX,mY,mZ,nB,nD,nE,nG,nH,nI,nJ,nK,nM,nN,nO,nP,nQ,nR,nS,nU,nV,nW,nX,nY,nZ,oA,oB,oC,oE,oG,oH,oI,oJ,oK,oL,oM,oN,oO,oQ,oR,oS,oU,oV,oW,oX,oY,oZ,pA,pB,pC,pD,pE,pF,pG,pH,pI,pJ,pK,pL,pM,pN,pO,pP,pQ,pR,pS,pU,pV,pW,pX,pY,pZ,qA,qB,qC,qD,qE,qF,qG,qH,qI,qJ,qK,qL,qM,qN,qO,qP,qQ,qR,qS,qT,qU,qV,qW,qX,qY,qZ,rA,rB,rC,rD,rE,rF,rG,rH,rJ,rK,rL,rM,rN,rO,rP,rQ,rR,rS,rT,rV,rW,rX,rY,rZ,sA,sD,sE,sF,sG,sH,sJ,sK,sL,sM,sN,sO,sP,sQ,kG,kF,kK,sR,sS,sT,sU,q,a,sl,g]
def exPos : List Stmt → _root_.Fin 10 → Pos
  | [.Expr (.Call (.Attribute (.Call (.Name _ p0) [] [] p1) _ p2) [.Name _ p3] [] p4) p5, .Assign [.Attribute (.Name _ p6) _ p7] (.Name _ p8) p9] => fun i => [p0, p1, p2, p3, p4, p5, p6, p7, p8, p9].getD i.val ⟨0, 0, 0, 0⟩
  | _ => fun _ => ⟨0, 0, 0, 0⟩
def refsS (o : Obj) : List Addr := match o.data with
  | .dict es _ => es.toList.flatMap fun e => He.refV e.val
  | .func fd => He.refV fd.code ++ (He.refV fd.defaults ++ (He.refV fd.kwdefaults ++ fd.closure.map (·.2)))
  | .cls cd => cd.ns :: cd.mro.flatMap He.refV
  | .cell (some v) => He.refV v
  | .fields vs => (match Nat.ble vs.size 8 with
    | true => vs.toList.flatMap He.refV
    | false => [])
  | .seq its _ => its.toList.flatMap He.refV
  | _ => []
def refsG (g : Addr → Option Obj) (a : Addr) : List Addr := match g a with
  | some o => refsS o
  | none => []
def pickS : List Addr → List Addr → Nat → List Addr × Nat
  | [], out, m => (out, m)
  | a :: r, out, m => HandSHeadRun.frNat a fun a => match Nat.beq (Nat.land (Nat.shiftRight m a) 1) 1 with
    | true => pickS r out m
    | false => HandSHeadRun.frNat (Nat.lor m (Nat.shiftLeft 1 a)) fun m => pickS r (a :: out) m
def asS (g : Addr → Option Obj) : Nat → List Addr → Nat → List Addr → List Addr
  | 0, _, _, acc => acc
  | n + 1, front, m, acc => match pickS (front.flatMap (refsG g)) [] m with
    | (out, m2) => asS g n out m2 (acc ++ out)
def rootS (g : Addr → Option Obj) (n : Nat) : List Addr := asS g n [mainGlobals] (Nat.shiftLeft 1 mainGlobals) [mainGlobals, cStatics]
def frFrag {β : Type} (g : Addr → Option Obj) : List Addr → (PySem.W.Frag → β) → β
  | [], k => k []
  | a :: r, k => HandSHeadRun.frNat a fun a => match g a with
    | none => frFrag g r k
    | some o => (match He.emptyTab o with
      | true => frFrag g r k
      | false => frFrag g r fun K => k ((a, o) :: K))
theorem frFrag_eq {β : Type} {g : Addr → Option Obj} : ∀ (as : List Addr) (k : PySem.W.Frag → β), frFrag g as k = k (He.frT g as)
  | [], k => rfl
  | a :: r, k => by
    rw [frFrag, HandSHeadRun.frNat_eq]
    have e : He.frT g (a :: r) = (match g a with
      | none => He.frT g r
      | some o => (match He.emptyTab o with
        | true => He.frT g r
        | false => (a, o) :: He.frT g r)) := by
      unfold He.frT He.frG
      rw [List.filterMap_cons]
      cases h : g a with
      | none => rfl
      | some o =>
        dsimp only [Option.map]
        rw [List.filter_cons]
        cases he : He.emptyTab o <;> simp
    rw [e]
    cases h : g a with
    | none => exact frFrag_eq r k
    | some o =>
      dsimp only
      cases he : He.emptyTab o with
      | true => exact frFrag_eq r k
      | false => exact frFrag_eq r fun K => k ((a, o) :: K)
def obsK (ck : List Chk) (fn tf : List DefZ) (er : List ErZ) (g : Addr → Option Obj) (K : PySem.W.Frag) : (He.AlD × Bool) × List FnE := ((obsY ck fn K, lamsB g tf K), er.map fun z => fnE K (z.ini K))
def obsS (n : Nat) (ck : List Chk) (fn tf : List DefZ) (er : List ErZ) (g : Addr → Option Obj) : (He.AlD × Bool) × List FnE := frFrag g (rootS g n) (obsK ck fn tf er g)
theorem saysL_ofK {K : PySem.W.Frag} {ck : List Chk} {fn tf : List DefZ} {h : Heap} (hn : ∀ a o, h.get? a = some o → He.emptyTab o = true → K.lookup a = none) (e : (obsY ck fn K, lamsB h.get? tf K) = (valY fn, true)) : SaysL ck fn tf h K := by
  have e1 : obsY ck fn K = valY fn := congrArg (fun z : He.AlD × Bool => z.1) e
  have e2 : lamsB h.get? tf K = true := congrArg (fun z : He.AlD × Bool => z.2) e
  obtain ⟨a1, a2⟩ := and2 e2
  have key : ∀ z ∈ tf, (PySem.W.codeHdIn K (cOf K z).1 (cOf K z).2 = true ∧ codeB K z = true) ∧ ∃ o, h.get? (cOf K z).2 = some o ∧ He.emptyTab o = true := fun z hz => by
    obtain ⟨b1, b2⟩ := and2 (List.all_eq_true.mp a1 z hz)
    refine ⟨and2 b1, ?_⟩
    cases q : h.get? (cOf K z).2 with
    | none => rw [q] at b2; cases b2
    | some o => rw [q] at b2; exact ⟨o, rfl, b2⟩
  refine ⟨e1, fun z hz => (key z hz).1.1, fun z hz => (key z hz).1.2, fun z hz => ?_, fun z hz => ?_, onceB_ok a2⟩
  · obtain ⟨_, o, q, t⟩ := key z hz
    exact hn _ o q t
  · obtain ⟨_, o, q, t⟩ := key z hz
    rw [q, He.emptyTab_eq t]
def hookS (n : Nat) (ck : List Chk) (fn tf : List DefZ) (er : List ErZ) : PySem.W.Hook where
  α := (He.AlD × Bool) × List FnE
  obs := fun s => obsS n ck fn tf er s.heap.get?
  val := fun _ => ((valY fn, true), er.map ErZ.val)
  says := fun _ h => ∃ K : PySem.W.Frag, K.In h ∧ SaysL ck fn tf h K ∧ er.map (fun z => fnE K (z.ini K)) = er.map ErZ.val
  of := fun _ s e => by
    have e1 : obsK ck fn tf er s.heap.get? (He.frT s.heap.get? (rootS s.heap.get? n)) = ((valY fn, true), er.map ErZ.val) := (frFrag_eq _ _).symm.trans e
    exact ⟨_, He.frT_in, saysL_ofK (fun a o h t => He.frT_none h t) (congrArg (fun z : (He.AlD × Bool) × List FnE => z.1) e1), congrArg (fun z : (He.AlD × Bool) × List FnE => z.2) e1⟩
  keeps := fun _ _ _ ⟨K, hK, c, v⟩ k => ⟨K, PySem.W.Frag.In.keeps hK k, ⟨c.y, c.hd, c.cd, c.out, fun z hz => k _ _ (c.empty z hz), c.once⟩, v⟩
theorem obsS_eq {n : Nat} {ck : List Chk} {fn tf : List DefZ} {er : List ErZ} {g : Addr → Option Obj} {s : Shared} (h : ∀ a, g a = s.heap.get? a) : obsS n ck fn tf er g = (hookS n ck fn tf er).obs s := by
  obtain rfl : g = s.heap.get? := funext h
  rfl
def dd_l_dice : DefZ := ⟨.glo "_law_dice", ⟨("_law_dice", none), "_law_dice", "_law_dice", defArgs s_l_dice, defBody s_l_dice, defScope s_l_dice, [], []⟩⟩
def dd_l_met : DefZ := ⟨.glo "_law_met", ⟨("_law_met", none), "_law_met", "_law_met", defArgs s_l_met, defBody s_l_met, defScope s_l_met, [], []⟩⟩
def dd_require_web : DefZ := ⟨.glo "require_web", ⟨("require_web", none), "require_web", "require_web", defArgs s_require_web, defBody s_require_web, defScope s_require_web, [], []⟩⟩
def dd_write_web : DefZ := ⟨.glo "write_web", ⟨("write_web", none), "write_web", "write_web", defArgs s_write_web, defBody s_write_web, defScope s_write_web, [], []⟩⟩
def dd_is_integer : DefZ := ⟨.glo "is_integer", ⟨("is_integer", none), "is_integer", "is_integer", defArgs s_is_integer, defBody s_is_integer, defScope s_is_integer, [], []⟩⟩
def dd_write_row : DefZ := ⟨.glo "write_row", ⟨("write_row", none), "write_row", "write_row", defArgs s_write_row, defBody s_write_row, defScope s_write_row, [], []⟩⟩
def dd_are_numbers : DefZ := ⟨.glo "are_numbers", ⟨("are_numbers", none), "are_numbers", "are_numbers", defArgs s_are_numbers, defBody s_are_numbers, defScope s_are_numbers, [], []⟩⟩
def dd_write_chain : DefZ := ⟨.glo "write_chain", ⟨("write_chain", none), "write_chain", "write_chain", defArgs s_write_chain, defBody s_write_chain, defScope s_write_chain, [], []⟩⟩
def dd_is_ascending : DefZ := ⟨.glo "is_ascending", ⟨("is_ascending", none), "is_ascending", "is_ascending", defArgs s_is_ascending, defBody s_is_ascending, defScope s_is_ascending, [], []⟩⟩
def dd_is_round : DefZ := ⟨.glo "is_round", ⟨("is_round", none), "is_round", "is_round", defArgs s_is_round, defBody s_is_round, defScope s_is_round, [], []⟩⟩
def dd_write_rounds : DefZ := ⟨.glo "write_rounds", ⟨("write_rounds", none), "write_rounds", "write_rounds", defArgs s_write_rounds, defBody s_write_rounds, defScope s_write_rounds, [], []⟩⟩
def dd_words_in : DefZ := ⟨.glo "words_in", ⟨("words_in", none), "words_in", "words_in", defArgs s_words_in, defBody s_words_in, defScope s_words_in, [], []⟩⟩
def dd_number_in : DefZ := ⟨.glo "number_in", ⟨("number_in", none), "number_in", "number_in", defArgs s_number_in, defBody s_number_in, defScope s_number_in, [], []⟩⟩
def dd_numbers_behind : DefZ := ⟨.glo "numbers_behind", ⟨("numbers_behind", none), "numbers_behind", "numbers_behind", defArgs s_numbers_behind, defBody s_numbers_behind, defScope s_numbers_behind, [], []⟩⟩
def dd_is_tie : DefZ := ⟨.glo "is_tie", ⟨("is_tie", none), "is_tie", "is_tie", defArgs s_is_tie, defBody s_is_tie, defScope s_is_tie, [], []⟩⟩
def dd_checked : DefZ := ⟨.glo "checked", ⟨("checked", none), "checked", "checked", defArgs s_checked, defBody s_checked, defScope s_checked, [], []⟩⟩
def dd_neighbours_of : DefZ := ⟨.glo "neighbours_of", ⟨("neighbours_of", none), "neighbours_of", "neighbours_of", defArgs s_neighbours_of, defBody s_neighbours_of, defScope s_neighbours_of, [], []⟩⟩
def dd_near_of : DefZ := ⟨.glo "near_of", ⟨("near_of", none), "near_of", "near_of", defArgs s_near_of, defBody s_near_of, defScope s_near_of, [], []⟩⟩
def dd_Web_init : DefZ := ⟨.met "Web" "__init__", ⟨("Web", some "__init__"), "__init__", "Web.__init__", defArgs s_Web_init, defBody s_Web_init, defScope s_Web_init, [.adr (He.dflAt ("Web", some "__init__") 0)], []⟩⟩
def dd_read_web : DefZ := ⟨.glo "read_web", ⟨("read_web", none), "read_web", "read_web", defArgs s_read_web, defBody s_read_web, defScope s_read_web, [], []⟩⟩
def dd_read_row : DefZ := ⟨.glo "read_row", ⟨("read_row", none), "read_row", "read_row", defArgs s_read_row, defBody s_read_row, defScope s_read_row, [], []⟩⟩
def dd_read_chain : DefZ := ⟨.glo "read_chain", ⟨("read_chain", none), "read_chain", "read_chain", defArgs s_read_chain, defBody s_read_chain, defScope s_read_chain, [], []⟩⟩
def dd_tie_in : DefZ := ⟨.glo "tie_in", ⟨("tie_in", none), "tie_in", "tie_in", defArgs s_tie_in, defBody s_tie_in, defScope s_tie_in, [], []⟩⟩
def dd_ties_behind : DefZ := ⟨.glo "ties_behind", ⟨("ties_behind", none), "ties_behind", "ties_behind", defArgs s_ties_behind, defBody s_ties_behind, defScope s_ties_behind, [], []⟩⟩
def dd_read_rounds : DefZ := ⟨.glo "read_rounds", ⟨("read_rounds", none), "read_rounds", "read_rounds", defArgs s_read_rounds, defBody s_read_rounds, defScope s_read_rounds, [], []⟩⟩
def dd_l_all_met : DefZ := ⟨.glo "_law_all_met", ⟨("_law_all_met", none), "_law_all_met", "_law_all_met", defArgs s_l_all_met, defBody s_l_all_met, defScope s_l_all_met, [], []⟩⟩
def dd_l_roll : DefZ := ⟨.glo "_law_roll", ⟨("_law_roll", none), "_law_roll", "_law_roll", defArgs s_l_roll, defBody s_l_roll, defScope s_l_roll, [], []⟩⟩
def dd_l_one_of : DefZ := ⟨.glo "_law_one_of", ⟨("_law_one_of", none), "_law_one_of", "_law_one_of", defArgs s_l_one_of, defBody s_l_one_of, defScope s_l_one_of, [], []⟩⟩
def dd_l_right : DefZ := ⟨.glo "_law_right", ⟨("_law_right", none), "_law_right", "_law_right", defArgs s_l_right, defBody s_l_right, defScope s_l_right, [], []⟩⟩
def dd_law : DefZ := ⟨.glo "law", ⟨("law", none), "law", "law", defArgs s_law, defBody s_law, defScope s_law, [], []⟩⟩
abbrev s_Parts_init : Stmt := inCls (top 19) 1
def dd_Parts_init : DefZ := ⟨.met "Parts" "__init__", ⟨("Parts", some "__init__"), "__init__", "Parts.__init__", defArgs s_Parts_init, defBody s_Parts_init, defScope s_Parts_init, [], []⟩⟩
def hfn : List DefZ := [dd_l_dice, dd_l_met, dd_require_web, dd_write_web, dd_is_integer, dd_write_row, dd_are_numbers, dd_write_chain, dd_is_ascending, dd_is_round, dd_write_rounds, dd_words_in, dd_number_in, dd_numbers_behind, dd_is_tie, dd_checked, dd_neighbours_of, dd_near_of, dd_Web_init, dd_read_web, dd_read_row, dd_read_chain, dd_tie_in, dd_ties_behind, dd_read_rounds, dd_l_all_met, dd_l_roll, dd_l_one_of, dd_l_right, dd_law, dd_Parts_init]
def htf : List DefZ := [dd_l_all_met]
abbrev s_ParseError_init : Stmt := inCls (top 6) 0
def er_ParseError : ErZ := ⟨"ParseError", "line", defArgs s_ParseError_init, defBody s_ParseError_init, defScope s_ParseError_init⟩
def her : List ErZ := [er_ParseError]
abbrev RR : PySem.W.OpenRow := PySem.W.OpenLaw.row PySem.Challenge.rw_levelhues_k57_errors_of_texts
def hck0 : List Chk := [fa (.glo "_law_dice"), fa (.glo "_law_met"), fa (.glo "require_web"), fa (.glo "write_web"), fa (.glo "is_integer"), fa (.glo "write_row"), fa (.glo "are_numbers"), fa (.glo "write_chain"), fa (.glo "is_ascending"), fa (.glo "is_round"), fa (.glo "write_rounds"), fa (.glo "words_in"), fa (.glo "number_in"), fa (.glo "numbers_behind"), fa (.glo "is_tie"), fa (.glo "checked"), fa (.glo "neighbours_of"), fa (.glo "near_of"), fa (.glo "read_web"), fa (.glo "read_row"), fa (.glo "read_chain"), fa (.glo "tie_in"), fa (.glo "ties_behind"), fa (.glo "read_rounds")]
def hck1 : List Chk := [fa (.glo "_law_all_met"), fa (.glo "_law_roll"), fa (.glo "_law_one_of"), fa (.glo "_law_right"), fa (.glo "law"), fa (.int "MAX_PASSED" 10), fa (.int "MOST_JOINED" 20), fa (.free "range"), fa (.free "enumerate"), fa (.free "zip"), fa (.free "len"), fa (.free "tuple"), fa (.free "list"), fa (.free "int"), fa (.free "abs"), fa (.free "max"), fa (.free "min"), fa (.free "sum"), fa (.free "all"), fa (.free "any"), fa (.free "sorted"), fa (.free "isinstance"), fa (.free "dict"), fa (.free "set")]
def hck2 : List Chk := [fa (.free "bool"), fa (.free "str"), fa (.free "reversed"), fa (.free "repr"), fa (.free "iter"), fa (.free "next"), fa (.glo "Parts"), fa (.mkr "Parts"), chkSC "Parts", chkS1 "Parts" "own_size" 0, chkS1 "Parts" "own_ties" 1, fa (.glo "Web"), fa (.mkr "Web"), fa (.cls "Web"), fa (.noat "Web" "own_near"), fa (.noat "Web" "own_places"), fa (.noat "Web" "own_size"), fa (.noat "Web" "own_ties"), chkT owns, chkXs xsE, fa (.free "super"), fa (.glo "ParseError"), chkXf "ParseError" "line", fa (.glo "UnknownName")]
def hck3 : List Chk := [chkXf "UnknownName" "name", fa (.glo "NoChain"), chkXf "NoChain" "pair", fa (.glo "InvalidNumber"), chkXf "InvalidNumber" "value", fa (.glo "TooMany"), chkXf "TooMany" "limit", fa (.glo "NothingToUndo"), chkXf "NothingToUndo" "many", fa (.glo "Refused"), chkXf "Refused" "reason", fa (.glo "InvalidOperation"), chkEx [.type "ValueError", .type "Exception", .type "BaseException", .type "object"] "ValueError.__new__" "InvalidOperation", fa (.glo "InvalidRow"), chkEx [.type "ValueError", .type "Exception", .type "BaseException", .type "object"] "ValueError.__new__" "InvalidRow", fa (.glo "InvalidWeb"), chkEx [.type "ValueError", .type "Exception", .type "BaseException", .type "object"] "ValueError.__new__" "InvalidWeb", chkEr RR.prog.main.file [.type "ValueError", .type "Exception", .type "BaseException", .type "object"] "ValueError" "ValueError.__new__" "ValueError.__init__" "ParseError" "line", chkE (He.dflAt ("Web", some "__init__") 0)]
def hck : List Chk := hck0 ++ hck1 ++ hck2 ++ hck3
abbrev hk : PySem.W.Hook := hookS 6 hck hfn htf her
def hob (s : PySem.W.SharedT) : (He.AlD × Bool) × List FnE := obsS 6 hck hfn htf her (HandSHeadRun.getT s)
theorem hob_eq (s : PySem.W.SharedT) : hob s = hk.obs s.abs := obsS_eq (HandSHeadRun.getT_eq s)
def hnames0 : List Str := ["_wall", "HueError", "InvalidWeb", "InvalidRow", "InvalidOperation", "ParseError", "UnknownName", "NoChain", "InvalidNumber", "TooMany", "NothingToUndo", "Refused", "is_integer", "is_ascending", "MAX_PASSED", "MOST_JOINED", "Parts", "is_tie", "checked", "near_of", "neighbours_of", "Web", "web_in", "all_ties", "has_tie", "require_web", "require_place", "require_joinable", "require_like", "tie_of"]
def hnames1 : List Str := ["part_in", "moved_ties", "beside_in", "crossed_in", "number_in", "words_in", "numbers_behind", "tie_in", "write_web", "write_row", "are_numbers", "write_chain", "is_round", "write_rounds", "read_web", "read_row", "read_chain", "ties_behind", "read_rounds", "_law_dice", "_law_roll", "_law_one_of", "_law_met", "_law_all_met", "_law_right"]
def hnames : List Str := hnames0 ++ hnames1
theorem hrun (w : World) : HandSHeadRun.RunEq RR (PySem.W.view RR.prog [60]) hk hob 8000 hnames w := by
  intro os
  kernel_rfl
theorem hfacts {w : World} {K : PySem.W.Frag} {h base : Heap} {mg : Str → Option Value} (X : K.In h) (Gn : h.Ns mainGlobals mg) (c : SaysL hck hfn htf h K) (v : her.map (fun z => fnE K (z.ini K)) = her.map ErZ.val) (hT : ∀ z ∈ htf, LamX.TabB base mg (cOf K z).1 (cOf K z).2) : Facts ⟨RR.prog, w, K, mg, base, tabsL K htf⟩ where
  bl := ⟨He.free_ok X Gn (c.y.chk 31 (f := fa (.free "range")) rfl), He.free_ok X Gn (c.y.chk 32 (f := fa (.free "enumerate")) rfl), He.free_ok X Gn (c.y.chk 33 (f := fa (.free "zip")) rfl), He.free_ok X Gn (c.y.chk 34 (f := fa (.free "len")) rfl), He.free_ok X Gn (c.y.chk 35 (f := fa (.free "tuple")) rfl), He.free_ok X Gn (c.y.chk 36 (f := fa (.free "list")) rfl), He.free_ok X Gn (c.y.chk 37 (f := fa (.free "int")) rfl), He.free_ok X Gn (c.y.chk 38 (f := fa (.free "abs")) rfl), He.free_ok X Gn (c.y.chk 39 (f := fa (.free "max")) rfl), He.free_ok X Gn (c.y.chk 40 (f := fa (.free "min")) rfl), He.free_ok X Gn (c.y.chk 41 (f := fa (.free "sum")) rfl), He.free_ok X Gn (c.y.chk 42 (f := fa (.free "all")) rfl), He.free_ok X Gn (c.y.chk 43 (f := fa (.free "any")) rfl), He.free_ok X Gn (c.y.chk 44 (f := fa (.free "sorted")) rfl), He.free_ok X Gn (c.y.chk 45 (f := fa (.free "isinstance")) rfl), He.free_ok X Gn (c.y.chk 46 (f := fa (.free "dict")) rfl), He.free_ok X Gn (c.y.chk 47 (f := fa (.free "set")) rfl), He.free_ok X Gn (c.y.chk 48 (f := fa (.free "bool")) rfl), He.free_ok X Gn (c.y.chk 49 (f := fa (.free "str")) rfl), He.free_ok X Gn (c.y.chk 50 (f := fa (.free "reversed")) rfl), He.free_ok X Gn (c.y.chk 51 (f := fa (.free "repr")) rfl), He.free_ok X Gn (c.y.chk 52 (f := fa (.free "iter")) rfl), He.free_ok X Gn (c.y.chk 53 (f := fa (.free "next")) rfl)⟩
  c_MAX_PASSED := let ⟨t, e⟩ := He.int_ok X Gn (c.y.chk 29 (f := fa (.int "MAX_PASSED" 10)) rfl); ⟨_, e, ⟨t, rfl⟩⟩
  c_MOST_JOINED := let ⟨t, e⟩ := He.int_ok X Gn (c.y.chk 30 (f := fa (.int "MOST_JOINED" 20)) rfl); ⟨_, e, ⟨t, rfl⟩⟩
  str := He.free_ok X Gn (c.y.chk 49 (f := fa (.free "str")) rfl)
  iter := He.free_ok X Gn (c.y.chk 52 (f := fa (.free "iter")) rfl)
  next := He.free_ok X Gn (c.y.chk 53 (f := fa (.free "next")) rfl)
  tf := tabsL_fun c.once
  xs := excT_of X Gn (c.y.chk 67 (f := chkXs xsE) rfl)
  x_ParseError_line := xfIs_of X Gn (c.y.chk 69 (f := fa (.glo "ParseError")) rfl) (c.y.chk 70 (f := chkXf "ParseError" "line") rfl)
  x_UnknownName_name := xfIs_of X Gn (c.y.chk 71 (f := fa (.glo "UnknownName")) rfl) (c.y.chk 72 (f := chkXf "UnknownName" "name") rfl)
  x_NoChain_pair := xfIs_of X Gn (c.y.chk 73 (f := fa (.glo "NoChain")) rfl) (c.y.chk 74 (f := chkXf "NoChain" "pair") rfl)
  x_InvalidNumber_value := xfIs_of X Gn (c.y.chk 75 (f := fa (.glo "InvalidNumber")) rfl) (c.y.chk 76 (f := chkXf "InvalidNumber" "value") rfl)
  x_TooMany_limit := xfIs_of X Gn (c.y.chk 77 (f := fa (.glo "TooMany")) rfl) (c.y.chk 78 (f := chkXf "TooMany" "limit") rfl)
  x_NothingToUndo_many := xfIs_of X Gn (c.y.chk 79 (f := fa (.glo "NothingToUndo")) rfl) (c.y.chk 80 (f := chkXf "NothingToUndo" "many") rfl)
  x_Refused_reason := xfIs_of X Gn (c.y.chk 81 (f := fa (.glo "Refused")) rfl) (c.y.chk 82 (f := chkXf "Refused" "reason") rfl)
  e_InvalidOperation := excIs_of X Gn (c.y.chk 83 (f := fa (.glo "InvalidOperation")) rfl) (c.y.chk 84 (f := chkEx [.type "ValueError", .type "Exception", .type "BaseException", .type "object"] "ValueError.__new__" "InvalidOperation") rfl) PySem.F.excBase_ValueError
  e_InvalidRow := excIs_of X Gn (c.y.chk 85 (f := fa (.glo "InvalidRow")) rfl) (c.y.chk 86 (f := chkEx [.type "ValueError", .type "Exception", .type "BaseException", .type "object"] "ValueError.__new__" "InvalidRow") rfl) PySem.F.excBase_ValueError
  e_InvalidWeb := excIs_of X Gn (c.y.chk 87 (f := fa (.glo "InvalidWeb")) rfl) (c.y.chk 88 (f := chkEx [.type "ValueError", .type "Exception", .type "BaseException", .type "object"] "ValueError.__new__" "InvalidWeb") rfl) PySem.F.excBase_ValueError
  e_ParseError := exfIs_of (z := er_ParseError) (n1 := "self") (n2 := "line") (p := exPos (defBody s_ParseError_init)) (bmB := [.type "ValueError", .type "Exception", .type "BaseException", .type "object"]) X Gn (c.y.chk 69 (f := fa (.glo "ParseError")) rfl) (c.y.chk 89 (f := chkEr RR.prog.main.file [.type "ValueError", .type "Exception", .type "BaseException", .type "object"] "ValueError" "ValueError.__new__" "ValueError.__init__" "ParseError" "line") rfl) (ers_at v 0 rfl) (by kernel_rfl) ⟨rfl, rfl, rfl, by decide +kernel, rfl, rfl, rfl, rfl, by decide, by decide, by decide, ⟨_, rfl, rfl⟩, fun _ => rfl, fun _ => rfl, ⟨_, fun _ => rfl⟩, fun _ => rfl⟩ rfl (by kernel_rfl) (He.free_ok X Gn (c.y.chk 68 (f := fa (.free "super")) rfl)) (fun fd h1 h2 h3 s u v => match fd, h1, h2, h3 with | ⟨_, _, _, _, _, _, _, _, _, _, _, _, _, _, _⟩, rfl, rfl, rfl => BindsTo.of_eq rfl) PySem.F.store_ValueError PySem.F.excBase_ValueError PySem.W.kxs_ValueError
  set := He.free_ok X Gn (c.y.chk 47 (f := fa (.free "set")) rfl)
  ct := clsT_of X Gn (c.y.chk 66 (f := chkT owns) rfl)
  k_Parts := by
    obtain ⟨fd, F⟩ := c.y.def_ 30 (z := dd_Parts_init) rfl
    have b : Binds K fd ["self", "size", "ties"] [] := F.bindsN fun _ _ _ _ _ _ us hl => match us, hl with | [_, _, _], _ => rfl
    exact ⟨⟨_, _, fd, ["self", "size", "ties"], He.glo_ok X Gn (c.y.chk 54 (f := fa (.glo "Parts")) rfl), He.mkr_ok (c.y.chk 55 (f := fa (.mkr "Parts")) rfl), b, sl2_ok F ⟨rfl, rfl, rfl, by decide +kernel, rfl, by decide +kernel, by decide +kernel⟩ rfl (chkSC_ok (c.y.chk 56 (f := chkSC "Parts") rfl)) (chkS1_ok (by decide) (c.y.chk 57 (f := chkS1 "Parts" "own_size" 0) rfl)) (chkS1_ok (by decide) (c.y.chk 58 (f := chkS1 "Parts" "own_ties" 1) rfl))⟩⟩
  s_Parts_own_size := sltOk_of X Gn (by decide) (c.y.chk 54 (f := fa (.glo "Parts")) rfl) (c.y.chk 56 (f := chkSC "Parts") rfl) (c.y.chk 57 (f := chkS1 "Parts" "own_size" 0) rfl)
  s_Parts_own_ties := sltOk_of X Gn (by decide) (c.y.chk 54 (f := fa (.glo "Parts")) rfl) (c.y.chk 56 (f := chkSC "Parts") rfl) (c.y.chk 58 (f := chkS1 "Parts" "own_ties" 1) rfl)
  n_Web_own_near := fldOk_of X Gn (c.y.chk 59 (f := fa (.glo "Web")) rfl) (c.y.chk 61 (f := fa (.cls "Web")) rfl) (c.y.chk 62 (f := fa (.noat "Web" "own_near")) rfl)
  n_Web_own_places := fldOk_of X Gn (c.y.chk 59 (f := fa (.glo "Web")) rfl) (c.y.chk 61 (f := fa (.cls "Web")) rfl) (c.y.chk 63 (f := fa (.noat "Web" "own_places")) rfl)
  n_Web_own_size := fldOk_of X Gn (c.y.chk 59 (f := fa (.glo "Web")) rfl) (c.y.chk 61 (f := fa (.cls "Web")) rfl) (c.y.chk 64 (f := fa (.noat "Web" "own_size")) rfl)
  n_Web_own_ties := fldOk_of X Gn (c.y.chk 59 (f := fa (.glo "Web")) rfl) (c.y.chk 61 (f := fa (.cls "Web")) rfl) (c.y.chk 65 (f := fa (.noat "Web" "own_ties")) rfl)
  f_l_dice := let ⟨fd, F⟩ := c.y.def_ 0 (z := dd_l_dice) rfl; ⟨_, fd, F, He.glo_ok X Gn (c.y.chk 0 (f := fa (.glo "_law_dice")) rfl)⟩
  f_l_met := let ⟨fd, F⟩ := c.y.def_ 1 (z := dd_l_met) rfl; ⟨_, fd, F, He.glo_ok X Gn (c.y.chk 1 (f := fa (.glo "_law_met")) rfl)⟩
  f_require_web := let ⟨fd, F⟩ := c.y.def_ 2 (z := dd_require_web) rfl; ⟨_, fd, F, He.glo_ok X Gn (c.y.chk 2 (f := fa (.glo "require_web")) rfl)⟩
  f_write_web := let ⟨fd, F⟩ := c.y.def_ 3 (z := dd_write_web) rfl; ⟨_, fd, F, He.glo_ok X Gn (c.y.chk 3 (f := fa (.glo "write_web")) rfl)⟩
  f_is_integer := let ⟨fd, F⟩ := c.y.def_ 4 (z := dd_is_integer) rfl; ⟨_, fd, F, He.glo_ok X Gn (c.y.chk 4 (f := fa (.glo "is_integer")) rfl)⟩
  f_write_row := let ⟨fd, F⟩ := c.y.def_ 5 (z := dd_write_row) rfl; ⟨_, fd, F, He.glo_ok X Gn (c.y.chk 5 (f := fa (.glo "write_row")) rfl)⟩
  f_are_numbers := let ⟨fd, F⟩ := c.y.def_ 6 (z := dd_are_numbers) rfl; ⟨_, fd, F, He.glo_ok X Gn (c.y.chk 6 (f := fa (.glo "are_numbers")) rfl)⟩
  f_write_chain := let ⟨fd, F⟩ := c.y.def_ 7 (z := dd_write_chain) rfl; ⟨_, fd, F, He.glo_ok X Gn (c.y.chk 7 (f := fa (.glo "write_chain")) rfl)⟩
  f_is_ascending := let ⟨fd, F⟩ := c.y.def_ 8 (z := dd_is_ascending) rfl; ⟨_, fd, F, He.glo_ok X Gn (c.y.chk 8 (f := fa (.glo "is_ascending")) rfl)⟩
  f_is_round := let ⟨fd, F⟩ := c.y.def_ 9 (z := dd_is_round) rfl; ⟨_, fd, F, He.glo_ok X Gn (c.y.chk 9 (f := fa (.glo "is_round")) rfl)⟩
  f_write_rounds := let ⟨fd, F⟩ := c.y.def_ 10 (z := dd_write_rounds) rfl; ⟨_, fd, F, He.glo_ok X Gn (c.y.chk 10 (f := fa (.glo "write_rounds")) rfl)⟩
  f_words_in := let ⟨fd, F⟩ := c.y.def_ 11 (z := dd_words_in) rfl; ⟨_, fd, F, He.glo_ok X Gn (c.y.chk 11 (f := fa (.glo "words_in")) rfl)⟩
  f_number_in := let ⟨fd, F⟩ := c.y.def_ 12 (z := dd_number_in) rfl; ⟨_, fd, F, He.glo_ok X Gn (c.y.chk 12 (f := fa (.glo "number_in")) rfl)⟩
  f_numbers_behind := let ⟨fd, F⟩ := c.y.def_ 13 (z := dd_numbers_behind) rfl; ⟨_, fd, F, He.glo_ok X Gn (c.y.chk 13 (f := fa (.glo "numbers_behind")) rfl)⟩
  f_is_tie := let ⟨fd, F⟩ := c.y.def_ 14 (z := dd_is_tie) rfl; ⟨_, fd, F, He.glo_ok X Gn (c.y.chk 14 (f := fa (.glo "is_tie")) rfl)⟩
  f_checked := let ⟨fd, F⟩ := c.y.def_ 15 (z := dd_checked) rfl; ⟨_, fd, F, He.glo_ok X Gn (c.y.chk 15 (f := fa (.glo "checked")) rfl)⟩
  f_neighbours_of := let ⟨fd, F⟩ := c.y.def_ 16 (z := dd_neighbours_of) rfl; ⟨_, fd, F, He.glo_ok X Gn (c.y.chk 16 (f := fa (.glo "neighbours_of")) rfl)⟩
  f_near_of := let ⟨fd, F⟩ := c.y.def_ 17 (z := dd_near_of) rfl; ⟨_, fd, F, He.glo_ok X Gn (c.y.chk 17 (f := fa (.glo "near_of")) rfl)⟩
  f_Web_init := let ⟨fd, F⟩ := c.y.def_ 18 (z := dd_Web_init) rfl; ⟨_, _, fd, He.dflAt ("Web", some "__init__") 0 K, He.glo_ok X Gn (c.y.chk 59 (f := fa (.glo "Web")) rfl), He.mkr_ok (c.y.chk 60 (f := fa (.mkr "Web")) rfl), F, chkE_ok (c.y.chk 90 (f := chkE (He.dflAt ("Web", some "__init__") 0)) rfl)⟩
  f_read_web := let ⟨fd, F⟩ := c.y.def_ 19 (z := dd_read_web) rfl; ⟨_, fd, F, He.glo_ok X Gn (c.y.chk 18 (f := fa (.glo "read_web")) rfl)⟩
  f_read_row := let ⟨fd, F⟩ := c.y.def_ 20 (z := dd_read_row) rfl; ⟨_, fd, F, He.glo_ok X Gn (c.y.chk 19 (f := fa (.glo "read_row")) rfl)⟩
  f_read_chain := let ⟨fd, F⟩ := c.y.def_ 21 (z := dd_read_chain) rfl; ⟨_, fd, F, He.glo_ok X Gn (c.y.chk 20 (f := fa (.glo "read_chain")) rfl)⟩
  f_tie_in := let ⟨fd, F⟩ := c.y.def_ 22 (z := dd_tie_in) rfl; ⟨_, fd, F, He.glo_ok X Gn (c.y.chk 21 (f := fa (.glo "tie_in")) rfl)⟩
  f_ties_behind := let ⟨fd, F⟩ := c.y.def_ 23 (z := dd_ties_behind) rfl; ⟨_, fd, F, He.glo_ok X Gn (c.y.chk 22 (f := fa (.glo "ties_behind")) rfl)⟩
  f_read_rounds := let ⟨fd, F⟩ := c.y.def_ 24 (z := dd_read_rounds) rfl; ⟨_, fd, F, He.glo_ok X Gn (c.y.chk 23 (f := fa (.glo "read_rounds")) rfl)⟩
  f_l_all_met := let ⟨fd, F⟩ := c.y.def_ 25 (z := dd_l_all_met) rfl; ⟨_, fd, F, He.glo_ok X Gn (c.y.chk 24 (f := fa (.glo "_law_all_met")) rfl), lmOk_of (z := dd_l_all_met) c (List.mem_of_getElem? (i := 0) rfl) (hT _ (List.mem_of_getElem? (i := 0) rfl)) F⟩
  f_l_roll := let ⟨fd, F⟩ := c.y.def_ 26 (z := dd_l_roll) rfl; ⟨_, fd, F, He.glo_ok X Gn (c.y.chk 25 (f := fa (.glo "_law_roll")) rfl)⟩
  f_l_one_of := let ⟨fd, F⟩ := c.y.def_ 27 (z := dd_l_one_of) rfl; ⟨_, fd, F, He.glo_ok X Gn (c.y.chk 26 (f := fa (.glo "_law_one_of")) rfl)⟩
  f_l_right := let ⟨fd, F⟩ := c.y.def_ 28 (z := dd_l_right) rfl; ⟨_, fd, F, He.glo_ok X Gn (c.y.chk 27 (f := fa (.glo "_law_right")) rfl)⟩
  f_law := let ⟨fd, F⟩ := c.y.def_ 29 (z := dd_law) rfl; ⟨_, fd, F, He.glo_ok X Gn (c.y.chk 28 (f := fa (.glo "law")) rfl)⟩
theorem walked (ht : ∀ ns : List Int, ns.length ≤ 63 → ∃ L, m_law [.ro (ns.map .int)] [] = .ok (.bl true) L) : PySem.Challenge.rw_levelhues_k57_errors_of_texts.Holds := by
  w_on; o_law
  refine HandSHeadRun.head_any (r := RR) (q := PySem.W.view RR.prog [60]) (H := hk) (ob := hob) (M := 8000) (loose := hnames) (d := HandSHeadRun.topDef RR.prog 60) (kwd := []) hob_eq
    (by kernel_rfl) (fun s => by kernel_rfl) hrun (by kernel_rfl) (by kernel_rfl) (by kernel_rfl) (by rfl) (by first | assumption | decide +kernel) (by decide +kernel) ⟨rfl, rfl, rfl, rfl, rfl, by decide +kernel⟩ ?hw ?hc
  case hw => w_witness2
  case hc =>
    refine walk_ofG (l := PySem.Challenge.rw_levelhues_k57_errors_of_texts) (n := 63) (k := 11) (x := "_law_script") (CX := CXA RR.prog) rfl (by decide) (by kernel_rfl) ⟨rfl, by decide, by decide⟩ ?F cxa_none
    intro w mg fL h Y G hmg0
    obtain ⟨K, KX, c, v⟩ := Y
    have hmg : mg ("law" : PySem.Str) = some (.ref fL) := by
      have e : (HandSHeadRun.topDef RR.prog 60).name = ("law" : PySem.Str) := by kernel_rfl
      rw [← e]
      exact hmg0
    obtain ⟨fd, F⟩ := c.y.def_ 29 (z := dd_law) rfl
    have e := hmg.symm.trans (He.glo_ok KX G (c.y.chk 28 (f := fa (.glo "law")) rfl))
    cases e
    have b := FunD.bindsA (ps := ["_law_script"]) F fun _ _ _ _ _ _ us hl => match us, hl with | [_], _ => rfl
    refine ⟨K, fd, htf.map (cOf K), fun vs H Q E => ∀ base, K.In base → base.Ns mainGlobals mg → spD ⟨RR.prog, w, K, mg, base, tabsL K htf⟩ 1 m_law vs H Q E, KX, (fun p hp => by obtain ⟨z, hz, rfl⟩ := List.mem_map.mp hp; exact c.empty z hz), (fun p hp => by obtain ⟨z, hz, rfl⟩ := List.mem_map.mp hp; exact c.out z hz), (fun p hp => by obtain ⟨z, hz, rfl⟩ := List.mem_map.mp hp; exact PySem.W.codeHd_of_K KX (c.hd z hz)), fun s v => b s [v] rfl, fun H a ns hl hH hS base _ _ => law_sp hS (fun p hp => by obtain ⟨z, hz, rfl⟩ := List.mem_map.mp hp; exact hH _ (List.mem_map.mpr ⟨z, hz, rfl⟩)) (ht ns hl), fun base hK hn hB => ?_⟩
    have tb : ∀ z ∈ htf, LamX.TabB base mg (cOf K z).1 (cOf K z).2 := fun z hz => hB _ (List.mem_map.mpr ⟨z, hz, rfl⟩)
    exact fnX_any (fn_body (gd := true) (lm := none) (G := ⟨RR.prog, w, K, mg, base, tabsL K htf⟩) (m := m_law) F sc_law (d_law (hfacts KX G c v tb)) (fun _ _ _ _ _ _ _ p => p) (fun _ z => nomatch z)) fun vs H Q E q => q base hK hn
end DS

theorem PySem.Challenge.cw_levelhues_k57_errors_of_texts_holds : PySem.Challenge.rw_levelhues_k57_errors_of_texts.Holds :=
  DS.walked fun ns hn => DS.law_ok ns hn
