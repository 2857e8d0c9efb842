import PyProof.Rows.All
import Wide.All
import OpenK.AllK
import Wide.FinOn
import HandS.ForMost
import HandS.ForExc
import HandS.Lambda
import HandS.TryMany
import PyProof.P3Eq
import PyProof.NeData
import HandS.Flow
import HandS.TupAny
import HandS.TupMul
import HandS.Text
import HandS.RaiseMore
import HandS.Small
import HandS.Comp
import KE.DataMinMax
import HandS.Defaults
import KE.SortData
import HandS.More
import HandS.Zip
import KE.GoesEnum
import HandS.Style
import HandS.Head0
import HandS.Head1
import HandS.Head2
import HandS.HeadEnd
import HandS.HeadHook1
import HandS.HeadHook2
import HandS.HeadHook4
import HandS.HeadWalk
import HandS.EndTab
import KE.SortKeyHeap
import KE.DataMinKey
import KE.LcTurns
import PyProof.MaxThree
import HandS.AnyAll
import HandS.Conv
import HandS.ListItems
import KE.KEqDict
import HandS.Iter
import KE.KDictSum
import HandS.SortKw
import KE.KDictPairs
import KE.KItemsList
import PyProof.DictWalks
import PyProof.Rows.SumGenD
import PyProof.TupleOfGen
import PyProof.GenCompD
import PyProof.WalksPairs
import PyProof.SumAny
import KE.KDictWalk
import KE.KEqNest
import PyProof.NeKinds
import PyProof.DefCall
import HandS.Nested
import PyProof.WalkInts
import KE.KDictZip
import KE.KDictLaws
import KE.GoesZip
import KE.GoesMore
import KE.KTupSum
import HandS.Rev
import KE.KDictDisplayH
import HandS.TupLen
import KE.KExcSuper
import HandS.ExcInit
import HandS.ExcIs
import PyProof.StrBlock2
import PySem.Challenge.RW_glasshall_k21_refusals_apart
set_option Elab.async false
set_option linter.all false
set_option maxRecDepth 100000
set_option maxHeartbeats 0
/-! the data layer: values as data, who owns what may change -/
namespace GL
open PySem PySem.Spec PyProof.Rows L2

/-- the kinds of things that hold others -/
inductive Kd where
  | lst | tup | ktp | scr | ptu | dK (ks : List Key) | dT (ks : List (List Key)) | ins (c : Str) (fs : List Str)
  deriving DecidableEq
/-- data; nd true: owned by a name, it may change -/
inductive D where
  | any | non | bl (b : Bool) | int (i : Int) | str (s : Str) | fn (a : Addr) | nd (o : Bool) (k : Kd) (l : List D) | pr (l : List D)
abbrev D.tup (l : List D) : D := .nd false .tup l
abbrev D.lst (o : Bool) (l : List D) : D := .nd o .lst l

structure Wd where
  cls : Str → Addr
  T : List (Addr × Str)

/-- no table of code objects -/
def NT (o : HO) : Prop := ∀ ps, o ≠ .tbl ps
/-- .. nor a tuple -/
def MT (o : HO) : Prop := NT o ∧ ∀ l, o ≠ .tup l
theorem nt_lst {l} : NT (.lst l) := fun _ z => by cases z
theorem nt_tup {l} : NT (.tup l) := fun _ z => by cases z
theorem nt_dK {l} : NT (.dK l) := fun _ z => by cases z
theorem nt_dT {l} : NT (.dT l) := fun _ z => by cases z
theorem nt_ins {a b l} : NT (.ins a b l) := fun _ z => by cases z
theorem nt_frz {a b} : NT (.frz a b) := fun _ z => by cases z

/-- a tuple, a list of the written part -/
def KTup (K : PySem.W.Frag) (a : Addr) (xs : List V) : Prop :=
  ∃ (o : Obj) (its : Array Value) (n : Nat), K.lookup a = some o ∧ o.cls = .type "tuple" ∧ o.data = .seq its n ∧ its.size ≤ sizeLine ∧ Vals xs its.toList
def KLst (K : PySem.W.Frag) (a : Addr) (xs : List V) : Prop :=
  ∃ (o : Obj) (its : Array Value) (n : Nat), K.lookup a = some o ∧ o.cls = .type "list" ∧ o.dict = none ∧ o.data = .seq its n ∧ its.size ≤ sizeLine ∧ Vals xs its.toList
/-- a tuple of which all is known: it has no names of its own -/
def PTup (H : Hp) (a : Addr) (xs : List V) : Prop :=
  ∃ (o : Obj) (its : Array Value) (n : Nat), H a = some (.frz o (.tup xs)) ∧ o.cls = .type "tuple" ∧ o.dict = none ∧ o.data = .seq its n ∧ xs.length ≤ sizeLine ∧ Vals xs its.toList
def LstX (K : PySem.W.Frag) (X : List Addr) (H : Hp) (a : Addr) (xs : List V) : Prop := (a ∉ X ∧ Rd H a (.lst xs)) ∨ KLst K a xs
theorem LstX.sq {K X H a xs} (h : LstX K X H a xs) : SqL K H a xs := h.imp (·.2) id

/-- at a stands a thing of the kind k that holds vs; it stands still -/
def NdF (K : PySem.W.Frag) (G : Wd) (X : List Addr) (H : Hp) (a : Addr) : Kd → List V → Prop
  | .lst, vs => a ∉ X ∧ H a = some (.lst vs)
  | .tup, vs => a ∉ X ∧ H a = some (.tup vs)
  | .ktp, vs => KTup K a vs
  | .scr, vs => LstX K X H a vs
  | .ptu, vs => a ∉ X ∧ PTup H a vs
  | .dK ks, vs => a ∉ X ∧ ∃ kvs, Rd H a (.dK kvs) ∧ kvs.map (·.1) = ks ∧ kvs.map (·.2) = vs
  | .dT ks, vs => a ∉ X ∧ ∃ kvs, Rd H a (.dT kvs) ∧ kvs.map (·.1) = ks ∧ kvs.map (·.2) = vs
  | .ins c fs, vs => a ∉ X ∧ ∃ dx fvs, H a = some (.ins (G.cls c) dx fvs) ∧ fvs.map (·.1) = fs ∧ fvs.map (·.2) = vs
/-- the object of an owned thing of the kind k that holds vs -/
def ObO (G : Wd) (o : HO) : Kd → List V → Prop
  | .lst, vs => o = .lst vs
  | .dK ks, vs => ∃ kvs, o = .dK kvs ∧ kvs.map (·.1) = ks ∧ kvs.map (·.2) = vs
  | .dT ks, vs => ∃ kvs, o = .dT kvs ∧ kvs.map (·.1) = ks ∧ kvs.map (·.2) = vs
  | .ins c fs, vs => ∃ dx fvs, o = .ins (G.cls c) dx fvs ∧ fvs.map (·.1) = fs ∧ fvs.map (·.2) = vs
  | _, _ => False
def NdO (G : Wd) (H : Hp) (a : Addr) (k : Kd) (vs : List V) : Prop := ∃ o, H a = some o ∧ ObO G o k vs
theorem ObO.nt {G o k vs} (h : ObO G o k vs) : NT o := by
  cases k with
  | lst => cases h; exact nt_lst
  | dK ks => obtain ⟨_, rfl, _⟩ := h; exact nt_dK
  | dT ks => obtain ⟨_, rfl, _⟩ := h; exact nt_dT
  | ins c fs => obtain ⟨_, _, rfl, _⟩ := h; exact nt_ins
  | tup => cases h
  | ktp => cases h
  | scr => cases h
  | ptu => cases h
theorem ObO.mt {G o k vs} (h : ObO G o k vs) : MT o := ⟨h.nt, fun l e => by
  cases k with
  | lst => cases h; cases e
  | dK ks => obtain ⟨_, rfl, _⟩ := h; cases e
  | dT ks => obtain ⟨_, rfl, _⟩ := h; cases e
  | ins c fs => obtain ⟨_, _, rfl, _⟩ := h; cases e
  | tup => cases h
  | ktp => cases h
  | scr => cases h
  | ptu => cases h⟩
/-- an owned thing that comes to a stand -/
theorem NdO.fr {K G H a k vs X} (h : NdO G H a k vs) (hx : a ∉ X) : NdF K G X H a k vs := by
  obtain ⟨o, e, h⟩ := h
  cases k with
  | lst => cases h; exact ⟨hx, e⟩
  | dK ks => obtain ⟨kvs, rfl, h⟩ := h; exact ⟨hx, kvs, .inl e, h⟩
  | dT ks => obtain ⟨kvs, rfl, h⟩ := h; exact ⟨hx, kvs, .inl e, h⟩
  | ins c fs => obtain ⟨dx, fvs, rfl, h⟩ := h; exact ⟨hx, dx, fvs, e, h⟩
  | tup => cases h
  | ktp => cases h
  | scr => cases h
  | ptu => cases h

mutual
/-- v is the data d in H, nothing of it among X -/
inductive Rp (K : PySem.W.Frag) (G : Wd) (X : List Addr) (H : Hp) : V → D → Prop
  | any {v} : Rp K G X H v .any
  | non : Rp K G X H .non .non
  | bl {b} : Rp K G X H (.bl b) (.bl b)
  | int {i} : Rp K G X H (.int i) (.int i)
  | str {s} : Rp K G X H (.str s) (.str s)
  | fn {a} : Rp K G X H (.ref a) (.fn a)
  | nd {a k vs l} : NdF K G X H a k vs → Rps K G X H vs l → Rp K G X H (.ref a) (.nd false k l)
inductive Rps (K : PySem.W.Frag) (G : Wd) (X : List Addr) (H : Hp) : List V → List D → Prop
  | nil : Rps K G X H [] []
  | cons {v d vs l} : Rp K G X H v d → Rps K G X H vs l → Rps K G X H (v :: vs) (d :: l)
end

/-- from (X, H) to (X', H'): what was not among X stands as it stood; X' has nothing that stood and was not among X -/
structure Mv (X : List Addr) (H : Hp) (X' : List Addr) (H' : Hp) : Prop where
  kp : ∀ a o, H a = some o → a ∉ X → NT o → H' a = some o
  fr : ∀ a o, a ∈ X' → H a = some o → NT o → a ∈ X
theorem Mv.refl (X : List Addr) (H : Hp) : Mv X H X H := ⟨fun _ _ h _ _ => h, fun _ _ h _ _ => h⟩
theorem Mv.trans {X H X1 H1 X2 H2} (m : Mv X H X1 H1) (n : Mv X1 H1 X2 H2) : Mv X H X2 H2 where
  kp a o h hx ht := n.kp a o (m.kp a o h hx ht) (fun z => hx (m.fr a o z h ht)) ht
  fr a o h2 h ht := Classical.byContradiction fun hx => hx (m.fr a o (n.fr a o h2 (m.kp a o h hx ht) ht) h ht)
section
variable {K : PySem.W.Frag} {G : Wd} {X X' : List Addr} {H H' : Hp}
theorem Mv.ne (m : Mv X H X' H') {a o} (h : H a = some o) (ht : NT o) (hx : a ∉ X) : a ∉ X' := fun z => hx (m.fr a o z h ht)
theorem Mv.rd (m : Mv X H X' H') {a u} (hx : a ∉ X) (ht : NT u) (h : Rd H a u) : a ∉ X' ∧ Rd H' a u := by
  rcases h with h | ⟨o, h⟩
  · exact ⟨m.ne h ht hx, .inl (m.kp _ _ h hx ht)⟩
  · exact ⟨m.ne h nt_frz hx, .inr ⟨o, m.kp _ _ h hx nt_frz⟩⟩
theorem NdF.move (m : Mv X H X' H') {a k vs} (h : NdF K G X H a k vs) : NdF K G X' H' a k vs := by
  cases k with
  | lst => exact ⟨m.ne h.2 nt_lst h.1, m.kp _ _ h.2 h.1 nt_lst⟩
  | tup => exact ⟨m.ne h.2 nt_tup h.1, m.kp _ _ h.2 h.1 nt_tup⟩
  | ktp => exact h
  | scr => exact h.imp (fun q => m.rd q.1 nt_lst q.2) id
  | ptu => obtain ⟨hx, o, its, n, h, e⟩ := h; exact ⟨m.ne h nt_frz hx, o, its, n, m.kp _ _ h hx nt_frz, e⟩
  | dK ks => obtain ⟨hx, kvs, h, e⟩ := h; exact ⟨(m.rd hx nt_dK h).1, kvs, (m.rd hx nt_dK h).2, e⟩
  | dT ks => obtain ⟨hx, kvs, h, e⟩ := h; exact ⟨(m.rd hx nt_dT h).1, kvs, (m.rd hx nt_dT h).2, e⟩
  | ins c fs => obtain ⟨hx, dx, fvs, h, e⟩ := h; exact ⟨m.ne h nt_ins hx, dx, fvs, m.kp _ _ h hx nt_ins, e⟩
mutual
theorem Rp.move (m : Mv X H X' H') : ∀ {v d}, Rp K G X H v d → Rp K G X' H' v d
  | _, _, .any => .any
  | _, _, .non => .non
  | _, _, .bl => .bl
  | _, _, .int => .int
  | _, _, .str => .str
  | _, _, .fn => .fn
  | _, _, .nd h r => .nd (h.move m) (Rps.move m r)
theorem Rps.move (m : Mv X H X' H') : ∀ {vs l}, Rps K G X H vs l → Rps K G X' H' vs l
  | _, _, .nil => .nil
  | _, _, .cons h r => .cons (Rp.move m h) (Rps.move m r)
end
theorem Rps.length : ∀ {vs l}, Rps K G X H vs l → vs.length = l.length
  | _, _, .nil => rfl
  | _, _, .cons _ r => congrArg (· + 1) (Rps.length r)
theorem Rps.get : ∀ {vs l} {i : Nat} {v : V}, Rps K G X H vs l → vs[i]? = some v → ∃ d, l[i]? = some d ∧ Rp K G X H v d
  | _, _, 0, _, .cons h _, e => by cases e; exact ⟨_, rfl, h⟩
  | _, _, i + 1, _, .cons _ r, e => Rps.get (i := i) r e
theorem Rps.get' : ∀ {vs l} {i : Nat} {d : D}, Rps K G X H vs l → l[i]? = some d → ∃ v, vs[i]? = some v ∧ Rp K G X H v d
  | _, _, 0, _, .cons h _, e => by cases e; exact ⟨_, rfl, h⟩
  | _, _, i + 1, _, .cons _ r, e => Rps.get' (i := i) r e
theorem Rps.append : ∀ {vs l vs' l'}, Rps K G X H vs l → Rps K G X H vs' l' → Rps K G X H (vs ++ vs') (l ++ l')
  | _, _, _, _, .nil, q => q
  | _, _, _, _, .cons h r, q => .cons h (Rps.append r q)
theorem Rps.set : ∀ {vs l} {v : V} {d : D} (i : Nat), Rps K G X H vs l → Rp K G X H v d → Rps K G X H (vs.set i v) (l.set i d)
  | _, _, _, _, _, .nil, _ => .nil
  | _, _, _, _, 0, .cons _ r, q => .cons q r
  | _, _, _, _, i + 1, .cons h r, q => .cons h (Rps.set i r q)
theorem Rps.take : ∀ {vs l} (n : Nat), Rps K G X H vs l → Rps K G X H (vs.take n) (l.take n)
  | _, _, 0, _ => .nil
  | _, _, _ + 1, .nil => .nil
  | _, _, n + 1, .cons h r => .cons h (Rps.take n r)
theorem Rps.drop : ∀ {vs l} (n : Nat), Rps K G X H vs l → Rps K G X H (vs.drop n) (l.drop n)
  | _, _, 0, r => r
  | _, _, _ + 1, .nil => .nil
  | _, _, n + 1, .cons _ r => Rps.drop n r

mutual
/-- v is d; F: the addresses of what d owns -/
inductive Own (K : PySem.W.Frag) (G : Wd) (X : List Addr) (H : Hp) : V → D → List Addr → Prop
  | fz {v d} : Rp K G X H v d → Own K G X H v d []
  | nd {a k vs l F} : NdO G H a k vs → Owns K G X H vs l F → Own K G X H (.ref a) (.nd true k l) (a :: F)
  | pr {a vs l F} : NdF K G X H a .tup vs → Owns K G X H vs l F → Own K G X H (.ref a) (.pr l) F
inductive Owns (K : PySem.W.Frag) (G : Wd) (X : List Addr) (H : Hp) : List V → List D → List Addr → Prop
  | nil : Owns K G X H [] [] []
  | cons {v d vs l F F'} : Own K G X H v d F → Owns K G X H vs l F' → Owns K G X H (v :: vs) (d :: l) (F ++ F')
end
/-- what H keeps of F too -/
def KeepF (F : List Addr) (H H' : Hp) : Prop := ∀ a o, a ∈ F → H a = some o → H' a = some o
theorem KeepF.sub {F F' : List Addr} (k : KeepF F H H') (s : ∀ a ∈ F', a ∈ F) : KeepF F' H H' := fun a o ha => k a o (s a ha)
theorem NdO.keep {a k vs F} (h : NdO G H a k vs) (kf : KeepF F H H') (ha : a ∈ F) : NdO G H' a k vs := let ⟨o, e, q⟩ := h; ⟨o, kf a o ha e, q⟩
mutual
theorem Own.move (m : Mv X H X' H') : ∀ {v d F}, KeepF F H H' → Own K G X H v d F → Own K G X' H' v d F
  | _, _, _, _, .fz r => .fz (r.move m)
  | _, _, _, k, .nd h r => .nd (h.keep k List.mem_cons_self) (Owns.move m (fun a o ha => k a o (List.mem_cons_of_mem _ ha)) r)
  | _, _, _, k, .pr h r => .pr (h.move m) (Owns.move m k r)
theorem Owns.move (m : Mv X H X' H') : ∀ {vs l F}, KeepF F H H' → Owns K G X H vs l F → Owns K G X' H' vs l F
  | _, _, _, _, .nil => .nil
  | _, _, _, k, .cons h r => .cons (Own.move m (fun a o ha => k a o (List.mem_append_left _ ha)) h) (Owns.move m (fun a o ha => k a o (List.mem_append_right _ ha)) r)
end
mutual
theorem Own.live : ∀ {v d F}, Own K G X H v d F → ∀ a ∈ F, ∃ o, H a = some o ∧ MT o
  | _, _, _, .fz _, _, h => nomatch h
  | _, _, _, .nd h r, a, z => by
    rcases List.mem_cons.mp z with e | z
    · obtain ⟨o, e1, q⟩ := h
      rw [e]
      exact ⟨o, e1, q.mt⟩
    · exact Owns.live r a z
  | _, _, _, .pr h r, a, z => Owns.live r a z
theorem Owns.live : ∀ {vs l F}, Owns K G X H vs l F → ∀ a ∈ F, ∃ o, H a = some o ∧ MT o
  | _, _, _, .nil, _, h => nomatch h
  | _, _, _, .cons h r, a, z => (List.mem_append.mp z).elim (Own.live h a) (Owns.live r a)
end
/-- d is no owned thing -/
def D.fz : D → Bool
  | .nd o _ _ => !o
  | .pr _ => false
  | _ => true
theorem Own.rp {v d F} (h : Own K G X H v d F) (hd : d.fz = true) : Rp K G X H v d ∧ F = [] := by
  cases h with
  | fz r => exact ⟨r, rfl⟩
  | nd => cases hd
  | pr => cases hd
theorem Rps.owns : ∀ {vs l}, Rps K G X H vs l → Owns K G X H vs l []
  | _, _, .nil => .nil
  | _, _, .cons r q => Owns.cons (F := []) (F' := []) (.fz r) (Rps.owns q)
theorem Owns.length : ∀ {vs l F}, Owns K G X H vs l F → vs.length = l.length
  | _, _, _, .nil => rfl
  | _, _, _, .cons _ r => congrArg (· + 1) (Owns.length r)
theorem Owns.get' : ∀ {vs l F} {i : Nat} {d : D}, Owns K G X H vs l F → l[i]? = some d → ∃ v F1, vs[i]? = some v ∧ Own K G X H v d F1
  | _, _, _, 0, _, .cons h _, e => by cases e; exact ⟨_, _, rfl, h⟩
  | _, _, _, i + 1, _, .cons _ r, e => Owns.get' (i := i) r e
theorem Owns.get : ∀ {vs l F} {i : Nat} {v : V}, Owns K G X H vs l F → vs[i]? = some v → ∃ d F1, l[i]? = some d ∧ Own K G X H v d F1
  | _, _, _, 0, _, .cons h _, e => by cases e; exact ⟨_, _, rfl, h⟩
  | _, _, _, i + 1, _, .cons _ r, e => Owns.get (i := i) r e
theorem Owns.rps : ∀ {vs l F}, Owns K G X H vs l F → l.all D.fz = true → Rps K G X H vs l ∧ F = []
  | _, _, _, .nil, _ => ⟨.nil, rfl⟩
  | _, _, _, .cons o r, h => by
    rw [List.all_cons, Bool.and_eq_true] at h
    obtain ⟨h1, rfl⟩ := o.rp h.1
    obtain ⟨h2, rfl⟩ := Owns.rps r h.2
    exact ⟨.cons h1 h2, rfl⟩
theorem Owns.append : ∀ {vs l F vs' l' F'}, Owns K G X H vs l F → Owns K G X H vs' l' F' → Owns K G X H (vs ++ vs') (l ++ l') (F ++ F')
  | _, _, _, _, _, _, .nil, q => q
  | _, _, _, _, _, _, .cons h r, q => by
    rw [List.append_assoc]
    exact .cons h (Owns.append r q)

/-! ### an owned thing comes to a stand -/
mutual
def D.cold : D → D
  | .nd _ k l => .nd false k (D.colds l)
  | .pr l => .nd false .tup (D.colds l)
  | d => d
def D.colds : List D → List D
  | [] => []
  | d :: l => d.cold :: D.colds l
end
theorem D.colds_eq : ∀ l : List D, D.colds l = l.map D.cold
  | [] => rfl
  | d :: l => congrArg (d.cold :: ·) (D.colds_eq l)
mutual
theorem Rp.cold : ∀ {v d}, Rp K G X H v d → d.cold = d
  | _, _, .any | _, _, .non | _, _, .bl | _, _, .int | _, _, .str | _, _, .fn => rfl
  | _, _, .nd _ r => by rw [D.cold, Rps.cold r]
theorem Rps.cold : ∀ {vs l}, Rps K G X H vs l → D.colds l = l
  | _, _, .nil => rfl
  | _, _, .cons h r => by rw [D.colds, Rp.cold h, Rps.cold r]
end
mutual
theorem Own.cold : ∀ {v d F}, (∀ a ∈ F, a ∉ X') → (∀ a ∈ X', a ∈ X) → Own K G X H v d F → Rp K G X' H v d.cold
  | _, _, _, nd, s, .fz r => by
    rw [r.cold]
    exact r.move ⟨fun _ _ e _ _ => e, fun a _ ha _ _ => s a ha⟩
  | _, _, _, nd, s, .nd h r => by
    rw [D.cold]
    exact .nd (h.fr (nd _ List.mem_cons_self)) (Owns.cold (fun a ha => nd a (List.mem_cons_of_mem _ ha)) s r)
  | _, _, _, nd, s, .pr h r => by
    rw [D.cold]
    exact .nd ⟨fun z => h.1 (s _ z), h.2⟩ (Owns.cold nd s r)
theorem Owns.cold : ∀ {vs l F}, (∀ a ∈ F, a ∉ X') → (∀ a ∈ X', a ∈ X) → Owns K G X H vs l F → Rps K G X' H vs (D.colds l)
  | _, _, _, _, _, .nil => .nil
  | _, _, _, nd, s, .cons h r => .cons (Own.cold (fun a ha => nd a (List.mem_append_left _ ha)) s h) (Owns.cold (fun a ha => nd a (List.mem_append_right _ ha)) s r)
end
theorem Mv.sub {X X' : List Addr} (h : ∀ a, a ∈ X' → a ∈ X) : Mv X H X' H := ⟨fun _ _ e _ _ => e, fun a _ ha _ _ => h a ha⟩
theorem Rp.sub {v d} (h : Rp K G X H v d) (s : ∀ a, a ∈ X' → a ∈ X) : Rp K G X' H v d := h.move (.sub s)
theorem Rps.sub {vs l} (h : Rps K G X H vs l) (s : ∀ a, a ∈ X' → a ∈ X) : Rps K G X' H vs l := h.move (.sub s)
theorem Own.sub {v d F} (h : Own K G X H v d F) (s : ∀ a, a ∈ X' → a ∈ X) : Own K G X' H v d F := h.move (.sub s) fun _ _ _ e => e
theorem Owns.sub {v d F} (h : Owns K G X H v d F) (s : ∀ a, a ∈ X' → a ∈ X) : Owns K G X' H v d F := h.move (.sub s) fun _ _ _ e => e
end

/-! ### places: a way down from a value, child by child -/
def D.at : D → List Nat → Option D
  | d, [] => some d
  | .nd _ _ l, j :: p => match l[j]? with
    | some d => d.at p
    | none => none
  | _, _ :: _ => none
def D.put : D → List Nat → D → D
  | _, [], x => x
  | .nd o k l, j :: p, x => .nd o k (match l[j]? with
    | some d => l.set j (d.put p x)
    | none => l)
  | d, _ :: _, _ => d
/-- from v, down the way p, one comes to w -/
inductive VAt (G : Wd) (H : Hp) : V → List Nat → V → Prop
  | nil {v} : VAt G H v [] v
  | cons {a k vs j u p w} : NdO G H a k vs → vs[j]? = some u → VAt G H u p w → VAt G H (.ref a) (j :: p) w
section
variable {K : PySem.W.Frag} {G : Wd} {X X' : List Addr} {H H' : Hp}
theorem Owns.hole : ∀ {vs l F} {j : Nat} {d : D} {v : V}, Owns K G X H vs l F → l[j]? = some d → vs[j]? = some v → ∃ F1 F2, Own K G X H v d F1 ∧ (F1 ++ F2).Perm F ∧
    ∀ {X' H'} d' F1', Mv X H X' H' → KeepF F2 H H' → Own K G X' H' v d' F1' → ∃ F3, Owns K G X' H' vs (l.set j d') F3 ∧ F3.Perm (F1' ++ F2)
  | v :: vs, d :: l, _, 0, _, _, .cons (F := F) (F' := F') h r, e1, e2 => by
    cases e1
    cases e2
    exact ⟨F, F', h, .refl _, fun d' F1' m k o => ⟨F1' ++ F', .cons o (r.move m k), .refl _⟩⟩
  | v :: vs, d :: l, _, j + 1, _, _, .cons (F := F) (F' := F') h r, e1, e2 => by
    obtain ⟨F1, F2, h1, h2, h3⟩ := Owns.hole (j := j) r e1 e2
    refine ⟨F1, F ++ F2, h1, ?_, fun d' F1' m k o => ?_⟩
    · refine List.Perm.trans ?_ (h2.append_left F)
      rw [← List.append_assoc, ← List.append_assoc]
      exact List.perm_append_comm.append_right F2
    · obtain ⟨F3, g1, g2⟩ := h3 d' F1' m (k.sub fun a ha => List.mem_append_right _ ha) o
      refine ⟨F ++ F3, .cons (h.move m (k.sub fun a ha => List.mem_append_left _ ha)) g1, (g2.append_left F).trans ?_⟩
      rw [← List.append_assoc, ← List.append_assoc]
      exact List.perm_append_comm.append_right F2
/-- what is owned at a place is taken out; another thing may come in its stead -/
theorem Own.hole : ∀ {p : List Nat} {v d F} {d1 : D}, Own K G X H v d F → d.at p = some d1 → d1.fz = false → ∃ w F1 F2, VAt G H v p w ∧ Own K G X H w d1 F1 ∧ (F1 ++ F2).Perm F ∧
    ∀ {X' H'} d' F1', Mv X H X' H' → KeepF F2 H H' → Own K G X' H' w d' F1' → VAt G H' v p w ∧ ∃ F3, Own K G X' H' v (d.put p d') F3 ∧ F3.Perm (F1' ++ F2)
  | [], v, d, F, d1, h, e, n => by
    have e : d = d1 := by
      unfold D.at at e
      exact Option.some.inj e
    subst e
    refine ⟨v, F, [], .nil, h, by rw [List.append_nil], fun d' F1' m k o => ⟨.nil, F1', ?_, by rw [List.append_nil]⟩⟩
    unfold D.put
    exact o
  | j :: p, v, d, F, d1, h, e, n => by
    cases h with
    | fz r =>
      exfalso
      have : ∀ (p : List Nat) {v d}, Rp K G X H v d → d.at p = some d1 → d1.fz = true := by
        intro p
        induction p with
        | nil =>
          intro v d r e
          unfold D.at at e
          cases e
          cases r <;> rfl
        | cons j p ih =>
          intro v d r e
          cases r with
          | nd h1 h2 =>
            rename_i a k vs l
            rw [D.at] at e
            cases hj : l[j]? with
            | none => rw [hj] at e; cases e
            | some d2 =>
              rw [hj] at e
              obtain ⟨v2, _, r2⟩ := h2.get' hj
              exact ih r2 e
          | any => cases e
          | non => cases e
          | bl => cases e
          | int => cases e
          | str => cases e
          | fn => cases e
      rw [this _ r e] at n
      cases n
    | pr h1 h2 =>
      unfold D.at at e
      cases e
    | @nd a k vs l F0 h1 h2 =>
      rw [D.at] at e
      cases hj : l[j]? with
      | none => rw [hj] at e; cases e
      | some d2 =>
        rw [hj] at e
        obtain ⟨u, _, hu, _⟩ := h2.get' hj
        obtain ⟨F1, F2, g1, g2, g3⟩ := h2.hole hj hu
        obtain ⟨w, F3, F4, k1, k2, k3, k4⟩ := Own.hole (p := p) g1 e n
        refine ⟨w, F3, a :: (F4 ++ F2), .cons h1 hu k1, k2, ?_, fun d' F1' m kf o => ?_⟩
        · refine List.perm_middle.trans (List.Perm.cons a ?_)
          rw [← List.append_assoc]
          exact (k3.append_right F2).trans g2
        · obtain ⟨k5, F5, k6, k7⟩ := k4 d' F1' m (kf.sub fun b hb => List.mem_cons_of_mem _ (List.mem_append_left _ hb)) o
          obtain ⟨F6, k8, k9⟩ := g3 (d2.put p d') F5 m (kf.sub fun b hb => List.mem_cons_of_mem _ (List.mem_append_right _ hb)) k6
          refine ⟨.cons (h1.keep kf List.mem_cons_self) hu k5, a :: F6, ?_, ?_⟩
          · rw [D.put, hj]
            exact .nd (h1.keep kf List.mem_cons_self) k8
          · refine (List.Perm.cons a (k9.trans (k7.append_right F2))).trans ?_
            rw [List.append_assoc]
            exact List.perm_middle.symm
end

/-! ### the slots -/
inductive Slots (K : PySem.W.Frag) (G : Wd) (X : List Addr) (H : Hp) : L2.St → List (Option D) → List Addr → Prop
  | nil : Slots K G X H [] [] []
  | no {x σ Γ F} : Slots K G X H σ Γ F → Slots K G X H (x :: σ) (none :: Γ) F
  | yes {v d σ Γ F F'} : Own K G X H v d F → Slots K G X H σ Γ F' → Slots K G X H (some v :: σ) (some d :: Γ) (F ++ F')
section
variable {K : PySem.W.Frag} {G : Wd} {X X' : List Addr} {H H' : Hp} {σ : L2.St} {Γ : List (Option D)} {F : List Addr}
theorem Slots.move (m : Mv X H X' H') (k : KeepF F H H') (h : Slots K G X H σ Γ F) : Slots K G X' H' σ Γ F := by
  induction h with
  | nil => exact .nil
  | no _ ih => exact .no (ih k)
  | yes o _ ih => exact .yes (o.move m fun a u ha => k a u (List.mem_append_left _ ha)) (ih fun a u ha => k a u (List.mem_append_right _ ha))
theorem Slots.sub (h : Slots K G X H σ Γ F) (s : ∀ a, a ∈ X' → a ∈ X) : Slots K G X' H σ Γ F := h.move (.sub s) fun _ _ _ e => e
theorem Slots.live (h : Slots K G X H σ Γ F) : ∀ a ∈ F, ∃ o, H a = some o ∧ MT o := by
  induction h with
  | nil => intro a ha; cases ha
  | no _ ih => exact ih
  | yes o _ ih => intro a ha; exact (List.mem_append.mp ha).elim (o.live a) (ih a)
theorem Slots.len (h : Slots K G X H σ Γ F) : σ.length = Γ.length := by
  induction h with
  | nil => rfl
  | no _ ih => exact congrArg (· + 1) ih
  | yes _ _ ih => exact congrArg (· + 1) ih
theorem Slots.get (h : Slots K G X H σ Γ F) : ∀ {i : Nat} {d : D}, Γ[i]? = some (some d) → ∃ v Fv, σ[i]? = some (some v) ∧ Own K G X H v d Fv ∧ ∀ a ∈ Fv, a ∈ F := by
  induction h with
  | nil => intro i d e; cases e
  | no _ ih =>
    intro i d e
    cases i with
    | zero => cases e
    | succ i => exact ih (i := i) e
  | yes o _ ih =>
    intro i d e
    cases i with
    | zero => cases e; exact ⟨_, _, rfl, o, fun a ha => List.mem_append_left _ ha⟩
    | succ i =>
      obtain ⟨v, Fv, h1, h2, h3⟩ := ih (i := i) e
      exact ⟨v, Fv, h1, h2, fun a ha => List.mem_append_right _ (h3 a ha)⟩
/-- a slot gets another value: Fv comes in, what the slot owned goes -/
theorem Slots.set (h : Slots K G X H σ Γ F) {v : V} {d : D} {Fv : List Addr} (o : Own K G X H v d Fv) : ∀ {i : Nat}, i < σ.length →
    ∃ Fa Fi Fb, F = Fa ++ (Fi ++ Fb) ∧ Slots K G X H (σ.set i (some v)) (Γ.set i (some d)) (Fa ++ (Fv ++ Fb)) := by
  induction h with
  | nil => intro i hi; cases hi
  | @no x σ Γ F hs ih =>
    intro i hi
    cases i with
    | zero => exact ⟨[], [], F, rfl, Slots.yes (F := Fv) (F' := F) o hs⟩
    | succ i =>
      obtain ⟨Fa, Fi, Fb, e, q⟩ := ih (i := i) (Nat.lt_of_succ_lt_succ hi)
      exact ⟨Fa, Fi, Fb, e, .no q⟩
  | @yes w e σ Γ F1 F2 o1 hs ih =>
    intro i hi
    cases i with
    | zero => exact ⟨[], F1, F2, rfl, Slots.yes (F := Fv) (F' := F2) o hs⟩
    | succ i =>
      obtain ⟨Fa, Fi, Fb, e, q⟩ := ih (i := i) (Nat.lt_of_succ_lt_succ hi)
      refine ⟨F1 ++ Fa, Fi, Fb, by rw [e, List.append_assoc], ?_⟩
      rw [List.append_assoc]
      exact .yes o1 q
/-- a slot is forgotten -/
theorem Slots.forget (h : Slots K G X H σ Γ F) : ∀ {i : Nat}, ∃ Fa Fi Fb, F = Fa ++ (Fi ++ Fb) ∧ Slots K G X H σ (Γ.set i none) (Fa ++ Fb) := by
  induction h with
  | nil => intro i; exact ⟨[], [], [], rfl, .nil⟩
  | @no x σ Γ F hs ih =>
    intro i
    cases i with
    | zero => exact ⟨[], [], F, rfl, .no hs⟩
    | succ i =>
      obtain ⟨Fa, Fi, Fb, e, q⟩ := ih (i := i)
      exact ⟨Fa, Fi, Fb, e, .no q⟩
  | @yes w e σ Γ F1 F2 o1 hs ih =>
    intro i
    cases i with
    | zero => exact ⟨[], F1, F2, rfl, .no hs⟩
    | succ i =>
      obtain ⟨Fa, Fi, Fb, e, q⟩ := ih (i := i)
      refine ⟨F1 ++ Fa, Fi, Fb, by rw [e, List.append_assoc], ?_⟩
      rw [List.append_assoc]
      exact .yes o1 q
/-- a slot is emptied; something may come in again -/
theorem Slots.hole (h : Slots K G X H σ Γ F) : ∀ {i : Nat} {d : D}, Γ[i]? = some (some d) → ∃ v F1 F2, σ[i]? = some (some v) ∧ Own K G X H v d F1 ∧ (F1 ++ F2).Perm F ∧
    ∀ {X' H'} d' F1', Mv X H X' H' → KeepF F2 H H' → Own K G X' H' v d' F1' → ∃ F3, Slots K G X' H' σ (Γ.set i (some d')) F3 ∧ F3.Perm (F1' ++ F2) := by
  induction h with
  | nil => intro i d e; cases e
  | @no x σ Γ F hs ih =>
    intro i d e
    cases i with
    | zero => cases e
    | succ i =>
      obtain ⟨v, F1, F2, h1, h2, h3, h4⟩ := ih (i := i) e
      refine ⟨v, F1, F2, h1, h2, h3, fun d' F1' m k o => ?_⟩
      obtain ⟨F3, g1, g2⟩ := h4 d' F1' m k o
      exact ⟨F3, .no g1, g2⟩
  | @yes w e1 σ Γ Fa Fb o1 hs ih =>
    intro i d e
    cases i with
    | zero =>
      cases e
      exact ⟨_, Fa, Fb, rfl, o1, .refl _, fun d' F1' m k o => ⟨F1' ++ Fb, .yes o (hs.move m k), .refl _⟩⟩
    | succ i =>
      obtain ⟨v, F1, F2, h1, h2, h3, h4⟩ := ih (i := i) e
      refine ⟨v, F1, Fa ++ F2, h1, h2, ?_, fun d' F1' m k o => ?_⟩
      · refine List.Perm.trans ?_ (h3.append_left Fa)
        rw [← List.append_assoc, ← List.append_assoc]
        exact List.perm_append_comm.append_right F2
      · obtain ⟨F3, g1, g2⟩ := h4 d' F1' m (k.sub fun a ha => List.mem_append_right _ ha) o
        refine ⟨Fa ++ F3, .yes (o1.move m (k.sub fun a ha => List.mem_append_left _ ha)) g1, (g2.append_left Fa).trans ?_⟩
        rw [← List.append_assoc, ← List.append_assoc]
        exact List.perm_append_comm.append_right F2
end
end GL
namespace GL
open PySem PySem.Spec PyProof.Rows L2
abbrev Sl := List (Option D)
/-! ### tables of code objects: each bears the name told; where the mark is bare, any name -/
def TabS (H : Hp) (P : Addr) (q : Str) : Prop := ∃ ps : Array Value, H P = some (.tbl ps) ∧ TriplesOk ps.toList ∧ ∀ (pos : Pos) (cv : Value), codeAmong pos ps.toList = some cv → ∃ (c : Addr) (q1 : Str), cv = .ref c ∧ H c = some (LamX.CodeO c q1) ∧ (q = q1 ∨ q = "")
def Tabs (T : List (Addr × Str)) (H : Hp) : Prop := ∀ r ∈ T, TabS H r.1 r.2
theorem Tabs.ext {T : List (Addr × Str)} {H H' : Hp} (t : Tabs T H) (e : ∀ b o, H b = some o → H' b = some o) : Tabs T H' := fun r hr => by
  obtain ⟨ps, t1, t2, t3⟩ := t r hr
  refine ⟨ps, e _ _ t1, t2, fun pos cv hc => ?_⟩
  obtain ⟨c, q1, c1, c2, c3⟩ := t3 pos cv hc
  exact ⟨c, q1, c1, e _ _ c2, c3⟩
theorem TabS.nil {H : Hp} {P : Addr} {q : Str} (h : H P = some (.tbl #[])) : TabS H P q := ⟨#[], h, trivial, fun pos cv hc => by
  have z : codeAmong pos [] = some cv := hc
  unfold codeAmong at z
  cases z⟩
/-! ### the state -/
/-- the slots of pz hold what pins says, and are never stored -/
structure Hold (K : PySem.W.Frag) (G : Wd) (pz : List Nat) (X0 : List Addr) (pins : Nat → V) (Γ : Sl) (σ : L2.St) (H : Hp) (F : List Addr) : Prop where
  sl : ∃ F0, Slots K G (X0 ++ F) H σ Γ F0 ∧ F0.Perm F
  nd : (X0 ++ F).Nodup
  in0 : ∀ a ∈ X0, ∃ o, H a = some o ∧ MT o
  tb : GL.Tabs G.T H
  pn : ∀ i ∈ pz, σ[i]? = some (some (pins i))
/-- nothing changes, new things may be -/
structure Grow (G : Wd) (H H' : Hp) : Prop where
  kp : ∀ a o, H a = some o → NT o → H' a = some o
  tb : GL.Tabs G.T H → GL.Tabs G.T H'
theorem Grow.refl (G : Wd) (H : Hp) : Grow G H H := ⟨fun _ _ h _ => h, id⟩
theorem Grow.trans {G H H1 H2} (a : Grow G H H1) (b : Grow G H1 H2) : Grow G H H2 := ⟨fun p o h n => b.kp p o (a.kp p o h n) n, fun t => b.tb (a.tb t)⟩
theorem Grow.mv {G H H'} (g : Grow G H H') (X : List Addr) : Mv X H X H' := ⟨fun a o h _ n => g.kp a o h n, fun a o h _ _ => h⟩
theorem Grow.of {G H H'} (h : ∀ a o, H a = some o → H' a = some o) : Grow G H H' := ⟨fun a o e _ => h a o e, fun t => t.ext h⟩
theorem Grow.new {G} {H : Hp} {p : Addr} {o : HO} (h : H p = none) : Grow G H (upd H p o) := .of fun a u e => by rw [upd_ne (ne_of_none e h)]; exact e
/-- what is owned may change -/
structure Step (G : Wd) (F : List Addr) (H : Hp) (F' : List Addr) (H' : Hp) : Prop where
  mv : Mv F H F' H'
  tb : GL.Tabs G.T H → GL.Tabs G.T H'
theorem Step.refl (G F H) : Step G F H F H := ⟨.refl _ _, id⟩
theorem Step.trans {G H F H1 F1 H2 F2} (a : Step G F H F1 H1) (b : Step G F1 H1 F2 H2) : Step G F H F2 H2 := ⟨a.mv.trans b.mv, fun t => b.tb (a.tb t)⟩
theorem Grow.step {G H H'} (g : Grow G H H') (F : List Addr) : Step G F H F H' := ⟨g.mv F, g.tb⟩
theorem Mv.left {X0 F F' : List Addr} {H H' : Hp} (m : Mv F H F' H') : Mv (X0 ++ F) H (X0 ++ F') H' where
  kp a o h hx ht := m.kp a o h (fun z => hx (List.mem_append_right _ z)) ht
  fr a o h h1 ht := (List.mem_append.mp h).elim (fun z => List.mem_append_left _ z) fun z => List.mem_append_right _ (m.fr a o z h1 ht)
/-- the addresses Fv are new -/
def Fsh (H : Hp) (Fv : List Addr) : Prop := ∀ a ∈ Fv, ∀ o, H a = some o → ¬ NT o
section
variable {K : PySem.W.Frag} {G : Wd} {pz : List Nat} {X0 F F' Fv Y : List Addr} {pins : Nat → V} {Γ : Sl} {σ : L2.St} {H H' : Hp} {v : V} {d : D}
theorem Hold.live (h : Hold K G pz X0 pins Γ σ H F) : ∀ a ∈ F, ∃ o, H a = some o ∧ MT o := fun a ha =>
  let ⟨_, s, p⟩ := h.sl
  s.live a (p.mem_iff.mpr ha)
theorem Hold.liveX (h : Hold K G pz X0 pins Γ σ H F) : ∀ a ∈ X0 ++ F, ∃ o, H a = some o ∧ MT o := fun a ha => (List.mem_append.mp ha).elim (h.in0 a) (h.live a)
theorem keep_of {F : List Addr} (g : Grow G H H') (l : ∀ a ∈ F, ∃ o, H a = some o ∧ MT o) : KeepF F H H' := fun a o ha e => by
  obtain ⟨u, e1, n⟩ := l a ha
  have : o = u := Option.some.inj (e.symm.trans e1)
  exact g.kp a o e (this ▸ n.1)
theorem Hold.grow (h : Hold K G pz X0 pins Γ σ H F) (g : Grow G H H') : Hold K G pz X0 pins Γ σ H' F :=
  ⟨let ⟨F0, s, p⟩ := h.sl; ⟨F0, s.move (g.mv _) (keep_of g s.live), p⟩, h.nd, fun a ha => let ⟨o, e, n⟩ := h.in0 a ha; ⟨o, g.kp a o e n.1, n⟩, g.tb h.tb, h.pn⟩
theorem Own.grow {X v d Fv} (h : Own K G X H v d Fv) (g : Grow G H H') : Own K G X H' v d Fv := h.move (g.mv _) (keep_of g h.live)
theorem Owns.grow {X v d Fv} (h : Owns K G X H v d Fv) (g : Grow G H H') : Owns K G X H' v d Fv := h.move (g.mv _) (keep_of g h.live)
theorem Rp.grow {X v d} (h : Rp K G X H v d) (g : Grow G H H') : Rp K G X H' v d := h.move (g.mv _)
theorem Rps.grow {X v d} (h : Rps K G X H v d) (g : Grow G H H') : Rps K G X H' v d := h.move (g.mv _)
theorem Hold.var (h : Hold K G pz X0 pins Γ σ H F) {i : Nat} {d : D} (e : Γ[i]? = some (some d)) : ∃ v Fv, σ[i]? = some (some v) ∧ Own K G (X0 ++ F) H v d Fv := by
  obtain ⟨F0, s, _⟩ := h.sl
  obtain ⟨v, Fv, h1, h2, _⟩ := s.get e
  exact ⟨v, Fv, h1, h2⟩
theorem sub_app {A B C : List Addr} (h : ∀ a ∈ B, a ∈ C) : ∀ a, a ∈ A ++ B → a ∈ A ++ C := fun a ha => (List.mem_append.mp ha).elim (List.mem_append_left _) fun z => List.mem_append_right _ (h a z)
theorem nd_of_perm {A B C : List Addr} (p : B.Perm C) (h : (A ++ C).Nodup) : (A ++ B).Nodup := (p.append_left A).nodup_iff.mpr h
theorem mem_swap {A B C : List Addr} {a : Addr} : a ∈ (A ++ B) ++ C ↔ a ∈ (A ++ C) ++ B := by simp only [List.mem_append]; constructor <;> (intro h; rcases h with (h | h) | h <;> simp [h])
theorem nd_out {A B C : List Addr} (h : ((A ++ B) ++ C).Nodup) : ∀ a ∈ B, a ∉ A ++ C := fun a ha hc => by
  rw [List.nodup_append] at h
  obtain ⟨h1, _, h3⟩ := h
  rw [List.nodup_append] at h1
  rcases List.mem_append.mp hc with z | z
  · exact h1.2.2 a z a ha rfl
  · exact h3 a (List.mem_append_right _ ha) a z rfl
/-- a slot is stored: what came with the value comes in -/
theorem Hold.put (h : Hold K G pz (X0 ++ Fv) pins Γ σ H F) (o : Own K G ((X0 ++ Fv) ++ F) H v d Fv) {i : Nat} (hi : i < Γ.length) (hp : i ∉ pz) :
    ∃ F', Hold K G pz X0 pins (Γ.set i (some d)) (σ.set i (some v)) H F' ∧ ∀ a ∈ F', a ∈ Fv ++ F := by
  obtain ⟨F0, s, p⟩ := h.sl
  obtain ⟨Fa, Fi, Fb, e, q⟩ := s.set o (i := i) (by rw [s.len]; exact hi)
  subst e
  have hs : ∀ a, a ∈ Fa ++ (Fv ++ Fb) → a ∈ Fv ++ F := fun a ha => by
    rw [List.mem_append, ← p.mem_iff]
    simp only [List.mem_append] at ha ⊢
    rcases ha with ha | ha | ha
    · exact .inr (.inl ha)
    · exact .inl ha
    · exact .inr (.inr (.inr ha))
  refine ⟨Fa ++ (Fv ++ Fb), ⟨⟨_, q.sub fun a ha => ?_, .refl _⟩, ?_, fun a ha => h.in0 a (List.mem_append_left _ ha), h.tb, fun j hj => ?_⟩, hs⟩
  · rcases List.mem_append.mp ha with ha | ha
    · exact List.mem_append_left _ (List.mem_append_left _ ha)
    · rcases List.mem_append.mp (hs a ha) with ha | ha
      · exact List.mem_append_left _ (List.mem_append_right _ ha)
      · exact List.mem_append_right _ ha
  · have n1 : (X0 ++ (Fv ++ (Fa ++ (Fi ++ Fb)))).Nodup := by
      have := nd_of_perm p h.nd
      rwa [List.append_assoc] at this
    have n2 : (X0 ++ (Fv ++ (Fa ++ Fb))).Nodup := n1.sublist ((List.Sublist.append_left ((List.Sublist.append_left (List.sublist_append_right Fi Fb) Fa)) Fv).append_left X0)
    refine nd_of_perm ?_ n2
    rw [← List.append_assoc, ← List.append_assoc]
    exact (List.perm_append_comm).append_right Fb
  · rw [List.getElem?_set_ne (fun z => hp (by rw [z]; exact hj))]
    exact h.pn j hj
theorem Hold.nil (h : Hold K G pz X0 pins Γ σ H F) : Hold K G pz (X0 ++ []) pins Γ σ H F := by rw [List.append_nil]; exact h
theorem Own.nil {X} (h : Own K G (X0 ++ X) H v d F) : Own K G ((X0 ++ []) ++ X) H v d F := by rw [List.append_nil]; exact h
theorem Hold.unnil (h : Hold K G pz (X0 ++ []) pins Γ σ H F) : Hold K G pz X0 pins Γ σ H F := by rw [List.append_nil] at h; exact h
/-- a slot is forgotten -/
theorem Hold.forget (h : Hold K G pz X0 pins Γ σ H F) (i : Nat) : ∃ F', Hold K G pz X0 pins (Γ.set i none) σ H F' ∧ ∀ a ∈ F', a ∈ F := by
  obtain ⟨F0, s, p⟩ := h.sl
  obtain ⟨Fa, Fi, Fb, e, q⟩ := s.forget (i := i)
  subst e
  have hs : ∀ a, a ∈ Fa ++ Fb → a ∈ F := fun a ha => p.mem_iff.mp (by
    simp only [List.mem_append] at ha ⊢
    rcases ha with ha | ha
    · exact .inl ha
    · exact .inr (.inr ha))
  refine ⟨Fa ++ Fb, ⟨⟨_, q.sub fun a ha => (List.mem_append.mp ha).elim (List.mem_append_left _) fun z => List.mem_append_right _ (hs a z), .refl _⟩, ?_, h.in0, h.tb, h.pn⟩, hs⟩
  exact (nd_of_perm p h.nd).sublist (((List.sublist_append_right Fi Fb).append_left Fa).append_left X0)
theorem Step.shrink {F1 : List Addr} (s : Step G F H F' H') (h : ∀ a ∈ F1, a ∈ F') : Step G F H F1 H' := ⟨⟨s.mv.kp, fun a o ha e n => s.mv.fr a o (h a ha) e n⟩, s.tb⟩
theorem Step.app {F1 : List Addr} (s : Step G F H (Fv ++ F') H') (h : ∀ a ∈ F1, a ∈ F') : Step G F H (Fv ++ F1) H' := s.shrink fun a ha => (List.mem_append.mp ha).elim (List.mem_append_left _) fun z => List.mem_append_right _ (h a z)
/-- what came with a value is let go of -/
theorem Hold.drop (h : Hold K G pz (X0 ++ Fv) pins Γ σ H F) : Hold K G pz X0 pins Γ σ H F := ⟨by
    obtain ⟨F0, s0, p0⟩ := h.sl
    exact ⟨F0, s0.sub fun a ha => (List.mem_append.mp ha).elim (fun z => List.mem_append_left _ (List.mem_append_left _ z)) (List.mem_append_right _), p0⟩,
  h.nd.sublist ((List.sublist_append_left X0 Fv).append_right F), fun a ha => h.in0 a (List.mem_append_left _ ha), h.tb, h.pn⟩
theorem Hold.thaw (h : Hold K G pz (X0 ++ Fv) pins Γ σ H F) (o : Own K G ((X0 ++ Fv) ++ F) H v d Fv) : Rp K G (X0 ++ F) H v d.cold := o.cold (nd_out h.nd) fun a ha => (List.mem_append.mp ha).elim (fun z => List.mem_append_left _ (List.mem_append_left _ z)) (List.mem_append_right _)
/-- new things are held besides -/
theorem Hold.fresh (h : Hold K G pz X0 pins Γ σ H F) (g : Grow G H H') (fr : Fsh H Fv) (nd : Fv.Nodup) (lv : ∀ a ∈ Fv, ∃ o, H' a = some o ∧ MT o) : Hold K G pz (X0 ++ Fv) pins Γ σ H' F := by
  have dj : ∀ a ∈ X0 ++ F, a ∉ Fv := fun a ha hv => by
    obtain ⟨o, e, n⟩ := h.liveX a ha
    exact fr a hv o e n.1
  have h2 := h.grow g
  obtain ⟨F0, s, p⟩ := h.sl
  refine ⟨⟨F0, s.move ⟨fun a o e _ n => g.kp a o e n, fun a o ha e n => ?_⟩ (keep_of g s.live), p⟩, ?_, fun a ha => (List.mem_append.mp ha).elim (h2.in0 a) (lv a), h2.tb, h2.pn⟩
  · rcases List.mem_append.mp ha with z | z
    · rcases List.mem_append.mp z with z | z
      · exact List.mem_append_left _ z
      · exact absurd n (fr a z o e)
    · exact List.mem_append_right _ z
  · refine (List.Perm.nodup_iff ?_).mp (List.nodup_append.mpr ⟨h.nd, nd, fun a ha b hb e => dj a ha (e ▸ hb)⟩)
    simp only [List.append_assoc]
    exact List.perm_append_comm.append_left X0
end
end GL
namespace GL
open PySem PySem.Spec PyProof.Rows L2
/-! ### the weakest readings -/
def wE (X : Cx) (e : Expr) : TE := fun σ H Q => ∀ pins s, Inv X pins σ H s → wpAny (model X.prog X.w) X.A (eval e X.env) (EP X pins σ Q) X.xe s
theorem pe_w {X : Cx} {e : Expr} : PE X e (wE X e) := ⟨fun pins s _ _ _ I h => h pins s I⟩
theorem wE.of {X : Cx} {e : Expr} {t : TE} {σ H Q} (h : PE X e t) (q : t σ H Q) : wE X e σ H Q := fun pins s I => h.run pins s σ H Q I q
theorem wE.inv {X : Cx} {e : Expr} {σ H Q} (h : ∀ pins s, Inv X pins σ H s → wE X e σ H Q) : wE X e σ H Q := fun pins s I => h pins s I pins s I
theorem wE.mono {X : Cx} {e : Expr} {σ H} {Q Q' : VK} (h : wE X e σ H Q) (k : ∀ v H', Q v H' → Q' v H') : wE X e σ H Q' := fun pins s I =>
  thn (h pins s I) fun _ _ ⟨v, H', I', r, q⟩ => ⟨v, H', I', r, k v H' q⟩
def wT (X : Cx) (e : Expr) : TT := fun σ H Q => ∀ pins s, Inv X pins σ H s → wpAny (model X.prog X.w) X.A (isTrue e X.env (eval e X.env)) (TP X pins σ Q) X.xe s
theorem pt_w {X : Cx} {e : Expr} : PT X e (wT X e) := ⟨fun pins s _ _ _ I h => h pins s I⟩
theorem wT.of {X : Cx} {e : Expr} {t : TT} {σ H Q} (h : PT X e t) (q : t σ H Q) : wT X e σ H Q := fun pins s I => h.run pins s σ H Q I q
def wW (X : Cx) (e : Expr) : TT := fun σ H Q => ∀ whole pins s, Inv X pins σ H s → wpAny (model X.prog X.w) X.A (isTrue e X.env whole) (TP X pins σ Q) X.xe s
theorem pw_w {X : Cx} {e : Expr} : PW X e (wW X e) := ⟨fun whole pins s _ _ _ I h => h whole pins s I⟩
theorem wW.of {X : Cx} {e : Expr} {t : TT} {σ H Q} (h : PW X e t) (q : t σ H Q) : wW X e σ H Q := fun whole pins s I => h.run whole pins s σ H Q I q
def wA (X : Cx) (es : List Expr) : TA := fun σ H Q => ∀ pos pins s, Inv X pins σ H s → wpAny (model X.prog X.w) X.A (spliced (backTo pos (starEach es X.env))) (AP X pins σ Q) X.xe s
theorem pa_w {X : Cx} {es : List Expr} : PA X es (wA X es) := ⟨fun pos pins s _ _ _ I h => h pos pins s I⟩
theorem wA.of {X : Cx} {es : List Expr} {t : TA} {σ H Q} (h : PA X es t) (q : t σ H Q) : wA X es σ H Q := fun pos pins s I => h.run pos pins s σ H Q I q
def wS (X : Cx) (st : Stmt) : TS := fun D σ H => ∀ pins s, Inv X pins σ H s → wpAny (model X.prog X.w) X.A (exec st X.env) (SP X pins D) X.xe s
theorem ps_w {X : Cx} {st : Stmt} : PS X st (wS X st) := ⟨fun pins s _ _ _ I h => h pins s I⟩
theorem wS.of {X : Cx} {st : Stmt} {t : TS} {D σ H} (h : PS X st t) (q : t D σ H) : wS X st D σ H := fun pins s I => h.run pins s σ H D I q
def wB (X : Cx) (st : List Stmt) : TS := fun D σ H => ∀ pins s, Inv X pins σ H s → wpAny (model X.prog X.w) X.A (execs st X.env) (SP X pins D) X.xe s
theorem pss_w {X : Cx} {st : List Stmt} : PSs X st (wB X st) := ⟨fun pins s _ _ _ I h => h pins s I⟩
theorem wB.of {X : Cx} {st : List Stmt} {t : TS} {D σ H} (h : PSs X st t) (q : t D σ H) : wB X st D σ H := fun pins s I => h.run pins s σ H D I q
def wI (X : Cx) (tg iter : Expr) : TI := fun σ H R => ∀ pins s, Inv X pins σ H s → wpAny (model X.prog X.w) X.A (eval iter X.env) (fun v s1 => wpAny (model X.prog X.w) X.A (pyIter v) (PIE X pins σ tg R) X.xe s1) X.xe s
theorem pi_w {X : Cx} {tg iter : Expr} : PI X tg iter (wI X tg iter) := ⟨fun pins s _ _ _ I h => h pins s I⟩
theorem wI.of {X : Cx} {tg iter : Expr} {t : TI} {σ H R} (h : PI X tg iter t) (q : t σ H R) : wI X tg iter σ H R := fun pins s I => h.run pins s σ H R I q

/-! ### what things come to -/
/-- an exception: its class, the field row of one that tells it -/
structure Ex where
  c : Str
  row : Option Int := none
def ExR (G : Wd) (x : Ex) (c : Value) (d : Option Addr) (H : Hp) : Prop :=
  c = .ref (G.cls x.c) ∧ match x.row with
    | none => d = none
    | some n => ∃ a, d = some a ∧ H a = some (.xd [("row", .int n)])
/-- a value and the slots behind it (q: nothing was changed); an exception; nothing is said -/
inductive Rg (α : Type) where
  | ok (x : α) (Γ : Sl) (q : Bool) | er (e : Ex) (Γ : Sl) | st
abbrev Re := Rg D
inductive So where
  | nx (Γ : Sl) | rt (d : D) (Γ : Sl) | bk (Γ : Sl) | ct (Γ : Sl) | er (e : Ex) (Γ : Sl) | st
namespace Rg
variable {α β : Type}
def andq (q : Bool) : Rg α → Rg α
  | .ok x Γ q1 => .ok x Γ (q && q1)
  | .er e Γ => .er e Γ
  | .st => .st
def bind (r : Rg α) (f : α → Sl → Rg β) : Rg β := match r with
  | .ok x Γ q => (f x Γ).andq q
  | .er e Γ => .er e Γ
  | .st => .st
def of (o : Option α) (Γ : Sl) : Rg α := match o with
  | some x => .ok x Γ true
  | none => .st
/-- only what changed nothing, or b -/
def gd (b : Bool) : Rg α → Rg α
  | .ok x Γ q => if (b || q) = true then .ok x Γ q else .st
  | .er e Γ => .er e Γ
  | .st => .st
end Rg
section
variable (K : PySem.W.Frag) (G : Wd) (pz : List Nat) (X0 : List Addr) (pins : Nat → V) (F : List Addr) (H : Hp)
/-- v is d, perhaps only borrowed -/
def Bw (Y : List Addr) (v : V) (d : D) : Prop := ∃ Fv, Own K G Y H v d Fv
inductive Bws (Y : List Addr) : List V → List D → Prop
  | nil : Bws Y [] []
  | cons {v d vs ds} : Bw K G H Y v d → Bws Y vs ds → Bws Y (v :: vs) (d :: ds)
def Qt (q : Bool) (H' : Hp) (F' : List Addr) : Prop := q = true → Grow G H H' ∧ ∀ a ∈ F', a ∈ F
def RgPost {α : Type} (σ : L2.St) (W : WX) (P : α → Sl → Bool → Prop) : Rg α → Prop
  | .ok x Γ' q => P x Γ' q
  | .er x Γ' => ∀ c dd H' F', Step G F H F' H' → Hold K G pz X0 pins Γ' σ H' F' → ExR G x c dd H' → W c dd σ H'
  | .st => False
def VPost (σ : L2.St) (Q : VK) (d : D) (Γ' : Sl) (q : Bool) : Prop :=
  ∀ v H' F' Fv, Step G F H (Fv ++ F') H' → Hold K G pz (X0 ++ Fv) pins Γ' σ H' F' → Own K G ((X0 ++ Fv) ++ F') H' v d Fv → Qt G F H q H' F' → Q v H'
def OPost (σ : L2.St) (Q : VK) (d : D) (Γ' : Sl) (q : Bool) : Prop :=
  ∀ v H' F', Step G F H F' H' → Hold K G pz X0 pins Γ' σ H' F' → Bw K G H' (X0 ++ F') v d → Qt G F H q H' F' → Q v H'
def LPost (σ : L2.St) (Q : List V → Hp → Prop) (ds : List D) (Γ' : Sl) (q : Bool) : Prop :=
  ∀ vs H' F', Step G F H F' H' → Hold K G pz X0 pins Γ' σ H' F' → Bws K G H' (X0 ++ F') vs ds → Qt G F H q H' F' → Q vs H'
def TPost (σ : L2.St) (Q : Bool → Hp → Prop) (b : Bool) (Γ' : Sl) (q : Bool) : Prop :=
  ∀ H' F', Step G F H F' H' → Hold K G pz X0 pins Γ' σ H' F' → Qt G F H q H' F' → Q b H'
def SoPost (D : Ends) (W : WX) : So → Prop
  | .nx Γ' => ∀ σ' H' F', Step G F H F' H' → Hold K G pz X0 pins Γ' σ' H' F' → D.nx σ' H'
  | .bk Γ' => ∀ σ' H' F', Step G F H F' H' → Hold K G pz X0 pins Γ' σ' H' F' → D.bk σ' H'
  | .ct Γ' => ∀ σ' H' F', Step G F H F' H' → Hold K G pz X0 pins Γ' σ' H' F' → D.ct σ' H'
  | .rt d Γ' => ∀ v σ' H' F' Fv, Step G F H (Fv ++ F') H' → Hold K G pz (X0 ++ Fv) pins Γ' σ' H' F' → Own K G ((X0 ++ Fv) ++ F') H' v d Fv → D.rt v H'
  | .er x Γ' => ∀ c dd σ' H' F', Step G F H F' H' → Hold K G pz X0 pins Γ' σ' H' F' → ExR G x c dd H' → W c dd σ' H'
  | .st => False
/-- a value d is made where nothing is changed -/
def FrQ (Y : List Addr) (d : D) (Q : VK) : Prop := ∀ v H' Fv, Grow G H H' → Fsh H Fv → Fv.Nodup → Own K G (Y ++ Fv) H' v d Fv → Q v H'
end
section
variable (G : Wd) (pz : List Nat) (X : Cx)
/-- e: its value, a new thing or one that stands still -/
def GE (e : Expr) (m : Sl → Re) : Prop :=
  ∀ pn xe W σ H X0 pins F Q Γ, Takes (X.tr pn xe) W → Hold X.K G pz X0 pins Γ σ H F → RgPost X.K G pz X0 pins F H σ W (VPost X.K G pz X0 pins F H σ Q) (m Γ) → wE (X.tr pn xe) e σ H Q
/-- e as an operand: it is read only -/
def GO (e : Expr) (m : Sl → Re) : Prop :=
  ∀ pn xe W σ H X0 pins F Q Γ, Takes (X.tr pn xe) W → Hold X.K G pz X0 pins Γ σ H F → RgPost X.K G pz X0 pins F H σ W (OPost X.K G pz X0 pins F H σ Q) (m Γ) → wE (X.tr pn xe) e σ H Q
/-- operands, one after the other -/
def GA (es : List Expr) (m : Sl → Rg (List D)) : Prop :=
  ∀ pn xe W σ H X0 pins F Q Γ, Takes (X.tr pn xe) W → Hold X.K G pz X0 pins Γ σ H F → RgPost X.K G pz X0 pins F H σ W (LPost X.K G pz X0 pins F H σ Q) (m Γ) → wA (X.tr pn xe) es σ H Q
/-- e as a test -/
def GT (e : Expr) (m : Sl → Rg Bool) : Prop :=
  ∀ pn xe W σ H X0 pins F Q Γ, Takes (X.tr pn xe) W → Hold X.K G pz X0 pins Γ σ H F → RgPost X.K G pz X0 pins F H σ W (TPost X.K G pz X0 pins F H σ Q) (m Γ) → wT (X.tr pn xe) e σ H Q
def GS (st : Stmt) (m : Sl → So) : Prop :=
  ∀ pn xe W σ H X0 pins F D Γ, Takes (X.tr pn xe) W → PassesOwn (model X.prog X.w) X.A X.env xe → Hold X.K G pz X0 pins Γ σ H F → SoPost X.K G pz X0 pins F H D W (m Γ) → wS (X.tr pn xe) st D σ H
def GB (st : List Stmt) (m : Sl → So) : Prop :=
  ∀ pn xe W σ H X0 pins F D Γ, Takes (X.tr pn xe) W → PassesOwn (model X.prog X.w) X.A X.env xe → Hold X.K G pz X0 pins Γ σ H F → SoPost X.K G pz X0 pins F H D W (m Γ) → wB (X.tr pn xe) st D σ H
end
section
variable {K : PySem.W.Frag} {G : Wd} {pz : List Nat} {X0 F F' F1 Fv Y : List Addr} {pins : Nat → V} {Γ Γ1 : Sl} {σ : L2.St} {H H' H1 : Hp} {X : Cx} {a b c e : Expr} {d da db dc : D} {v x y : V} {pos : Pos} {W : WX} {Q : VK} {q q1 q2 : Bool} {α β : Type} {m ma mb : Sl → Re}
theorem Qt.refl : Qt G F H q H F := fun _ => ⟨.refl _ _, fun _ h => h⟩
theorem Qt.trans (a : Qt G F H q1 H1 F1) (b : Qt G F1 H1 q2 H' F') : Qt G F H (q1 && q2) H' F' := fun h => by
  rw [Bool.and_eq_true] at h
  obtain ⟨g1, e1⟩ := a h.1
  obtain ⟨g2, e2⟩ := b h.2
  exact ⟨g1.trans g2, fun a ha => e1 a (e2 a ha)⟩
theorem Bw.grow (h : Bw K G H Y v d) (g : Grow G H H') : Bw K G H' Y v d := let ⟨Fv, o⟩ := h; ⟨Fv, o.grow g⟩
theorem Bw.rp (h : Bw K G H Y v d) (hd : d.fz = true) : Rp K G Y H v d := let ⟨_, o⟩ := h; (o.rp hd).1
theorem Rp.bw (h : Rp K G Y H v d) : Bw K G H Y v d := ⟨[], .fz h⟩
/-- a value stays what it is through a step: one that stands still, or where nothing was changed -/
theorem Bw.step (h : Bw K G H (X0 ++ F) v d) (s : Step G F H F' H') (qt : Qt G F H q H' F') (hq : (d.fz || q) = true) : Bw K G H' (X0 ++ F') v d := by
  cases hf : d.fz with
  | true => exact ((h.rp hf).move s.mv.left).bw
  | false =>
    rw [hf, Bool.false_or] at hq
    obtain ⟨g, e⟩ := qt hq
    obtain ⟨Fv, o⟩ := h.grow g
    exact ⟨Fv, o.sub fun a ha => (List.mem_append.mp ha).elim (List.mem_append_left _) fun z => List.mem_append_right _ (e a z)⟩
theorem Bws.step {vs : List V} {ds : List D} (h : Bws K G H (X0 ++ F) vs ds) (s : Step G F H F' H') (qt : Qt G F H q H' F') (hq : (ds.all D.fz || q) = true) : Bws K G H' (X0 ++ F') vs ds := by
  induction h with
  | nil => exact .nil
  | cons r _ ih =>
    rw [List.all_cons] at hq
    refine .cons (r.step s qt ?_) (ih ?_)
    · cases q <;> simp_all
    · cases q <;> simp_all
theorem RgPost.bind {P : α → Sl → Bool → Prop} {P2 : β → Sl → Bool → Prop} {r : Rg α} {f : α → Sl → Rg β} (h : RgPost K G pz X0 pins F H σ W P2 (r.bind f)) (k : ∀ x Γ q, r = .ok x Γ q → RgPost K G pz X0 pins F H σ W P2 ((f x Γ).andq q) → P x Γ q) : RgPost K G pz X0 pins F H σ W P r := by
  cases r with
  | ok x Γ q => exact k x Γ q rfl h
  | er => exact h
  | st => exact h
theorem RgPost.mono {P P2 : α → Sl → Bool → Prop} {r : Rg α} (h : RgPost K G pz X0 pins F H σ W P r) (k : ∀ x Γ q, r = .ok x Γ q → P x Γ q → P2 x Γ q) : RgPost K G pz X0 pins F H σ W P2 r := by
  cases r with
  | ok x Γ q => exact k x Γ q rfl h
  | er => exact h
  | st => exact h
theorem RgPost.gd {P : α → Sl → Bool → Prop} {r : Rg α} {b : Bool} (h : RgPost K G pz X0 pins F H σ W P (r.gd b)) : RgPost K G pz X0 pins F H σ W (fun x Γ q => (b || q) = true ∧ P x Γ q) r := by
  cases r with
  | ok x Γ q =>
    have h : RgPost K G pz X0 pins F H σ W P (if (b || q) = true then .ok x Γ q else .st) := h
    by_cases hb : (b || q) = true
    · rw [if_pos hb] at h
      exact ⟨hb, h⟩
    · rw [if_neg hb] at h
      exact h.elim
  | er => exact h
  | st => exact h
/-- behind a step -/
theorem VPost.after (p : VPost K G pz X0 pins F H σ Q d Γ (q1 && q)) (s : Step G F H F1 H1) (qt : Qt G F H q1 H1 F1) : VPost K G pz X0 pins F1 H1 σ Q d Γ q := fun v H' F' Fv s2 ho ov q2 => p v H' F' Fv (s.trans s2) ho ov (qt.trans q2)
theorem OPost.after (p : OPost K G pz X0 pins F H σ Q d Γ (q1 && q)) (s : Step G F H F1 H1) (qt : Qt G F H q1 H1 F1) : OPost K G pz X0 pins F1 H1 σ Q d Γ q := fun v H' F' s2 ho ov q2 => p v H' F' (s.trans s2) ho ov (qt.trans q2)
theorem LPost.after {Q : List V → Hp → Prop} {ds : List D} (p : LPost K G pz X0 pins F H σ Q ds Γ (q1 && q)) (s : Step G F H F1 H1) (qt : Qt G F H q1 H1 F1) : LPost K G pz X0 pins F1 H1 σ Q ds Γ q := fun v H' F' s2 ho ov q2 => p v H' F' (s.trans s2) ho ov (qt.trans q2)
theorem TPost.after {Q : Bool → Hp → Prop} {b : Bool} (p : TPost K G pz X0 pins F H σ Q b Γ (q1 && q)) (s : Step G F H F1 H1) (qt : Qt G F H q1 H1 F1) : TPost K G pz X0 pins F1 H1 σ Q b Γ q := fun H' F' s2 ho q2 => p H' F' (s.trans s2) ho (qt.trans q2)
theorem RgPost.after {P P2 : α → Sl → Bool → Prop} {r : Rg α} (h : RgPost K G pz X0 pins F H σ W P (r.andq q1)) (s : Step G F H F1 H1) (k : ∀ x Γ q, P x Γ (q1 && q) → P2 x Γ q) : RgPost K G pz X0 pins F1 H1 σ W P2 r := by
  cases r with
  | ok x Γ q => exact k x Γ q h
  | er => exact fun c dd H' F' s2 => h c dd H' F' (s.trans s2)
  | st => exact h
theorem RgPost.vaft {r : Re} (h : RgPost K G pz X0 pins F H σ W (VPost K G pz X0 pins F H σ Q) (r.andq q1)) (s : Step G F H F1 H1) (qt : Qt G F H q1 H1 F1) : RgPost K G pz X0 pins F1 H1 σ W (VPost K G pz X0 pins F1 H1 σ Q) r := h.after s fun _ _ _ p => p.after s qt
theorem RgPost.oaft {r : Re} (h : RgPost K G pz X0 pins F H σ W (OPost K G pz X0 pins F H σ Q) (r.andq q1)) (s : Step G F H F1 H1) (qt : Qt G F H q1 H1 F1) : RgPost K G pz X0 pins F1 H1 σ W (OPost K G pz X0 pins F1 H1 σ Q) r := h.after s fun _ _ _ p => p.after s qt
theorem RgPost.laft {Q : List V → Hp → Prop} {r : Rg (List D)} (h : RgPost K G pz X0 pins F H σ W (LPost K G pz X0 pins F H σ Q) (r.andq q1)) (s : Step G F H F1 H1) (qt : Qt G F H q1 H1 F1) : RgPost K G pz X0 pins F1 H1 σ W (LPost K G pz X0 pins F1 H1 σ Q) r := h.after s fun _ _ _ p => p.after s qt
theorem RgPost.taft {Q : Bool → Hp → Prop} {r : Rg Bool} (h : RgPost K G pz X0 pins F H σ W (TPost K G pz X0 pins F H σ Q) (r.andq q1)) (s : Step G F H F1 H1) (qt : Qt G F H q1 H1 F1) : RgPost K G pz X0 pins F1 H1 σ W (TPost K G pz X0 pins F1 H1 σ Q) r := h.after s fun _ _ _ p => p.after s qt
theorem SoPost.after {D : Ends} {o : So} (s0 : Step G F H F' H') (q : SoPost K G pz X0 pins F H D W o) : SoPost K G pz X0 pins F' H' D W o := by
  cases o with
  | nx => exact fun σ' H' F' s => q σ' H' F' (s0.trans s)
  | bk => exact fun σ' H' F' s => q σ' H' F' (s0.trans s)
  | ct => exact fun σ' H' F' s => q σ' H' F' (s0.trans s)
  | rt => exact fun v σ' H' F' Fv s => q v σ' H' F' Fv (s0.trans s)
  | er => exact fun c dd σ' H' F' s => q c dd σ' H' F' (s0.trans s)
  | st => exact q
/-- a value made at the end -/
theorem fr_v (ho : Hold K G pz X0 pins Γ σ H F) (p : VPost K G pz X0 pins F H σ Q d Γ true) : FrQ K G H (X0 ++ F) d Q := fun v H' Fv g fr nd o =>
  p v H' F Fv ⟨⟨fun a u hu _ n => g.kp a u hu n, fun a u ha hu n => (List.mem_append.mp ha).elim (fun z => absurd n (fr a z u hu)) id⟩, g.tb⟩ (ho.fresh g fr nd o.live) (o.sub fun a ha => mem_swap.mp ha) fun _ => ⟨g, fun _ h => h⟩
theorem FrQ.val (p : FrQ K G H Y d Q) (r : Rp K G Y H v d) : Q v H := p v H [] (.refl _ _) (fun _ z => by cases z) .nil (by rw [List.append_nil]; exact .fz r)
theorem fr_of {o : Option D} (ho : Hold K G pz X0 pins Γ σ H F) (p : RgPost K G pz X0 pins F H σ W (VPost K G pz X0 pins F H σ Q) (Rg.of o Γ)) : ∃ d, o = some d ∧ FrQ K G H (X0 ++ F) d Q := by
  cases o with
  | none => exact p.elim
  | some d => exact ⟨d, rfl, fr_v ho p⟩

/-! ### names, constants, operands -/
def mVal (d : D) : Sl → Re := fun Γ => .ok d Γ true
def mVar (i : Nat) : Sl → Re := fun Γ => match Γ[i]? with
  | some (some d) => .ok d Γ true
  | _ => .st
/-- one that stands still -/
def mFz (m : Sl → Re) : Sl → Re := fun Γ => (m Γ).bind fun d Γ => if d.fz = true then .ok d Γ true else .st
def mCold (m : Sl → Re) : Sl → Re := fun Γ => (m Γ).bind fun d Γ => .ok d.cold Γ true
theorem ge_val {v : V} {d : D} (h : ∀ pn xe, PE (X.tr pn xe) e (fun σ H Q => Q v H)) (r : ∀ Y H, Rp X.K G Y H v d) : GE G pz X e (mVal d) := fun pn xe W σ H X0 pins F Q Γ _ ho q => wE.of (h pn xe) ((fr_v ho q).val (r _ _))
theorem ge_int {i j} : GE G pz X (.Constant (.int i) j pos) (mVal (.int i)) := ge_val (fun _ _ => pe_int) fun _ _ => .int
theorem ge_bl {i j} : GE G pz X (.Constant (.bool i) j pos) (mVal (.bl i)) := ge_val (fun _ _ => pe_bl) fun _ _ => .bl
theorem ge_str {i j} : GE G pz X (.Constant (.str i) j pos) (mVal (.str i)) := ge_val (fun _ _ => pe_str) fun _ _ => .str
theorem go_var (i : Nat) {x : Str} (hN : X.N[i]? = some x := by rfl) (hv : Vis X.env.scope x := by first | exact Or.inl rfl | exact Or.inr (Or.inl rfl) | exact Or.inr (Or.inr rfl)) (hd : (x == ("__debug__" : Str)) = false := by decide)
    (hcd : (x == ("__classdict__" : Str)) = false := by decide) : GO G pz X (.Name x pos) (mVar i) := fun pn xe W σ H X0 pins F Q Γ _ ho q => by
  unfold mVar at q
  cases e : Γ[i]? with
  | none => rw [e] at q; exact q.elim
  | some o =>
    rw [e] at q
    cases o with
    | none => exact q.elim
    | some d =>
      obtain ⟨v, Fv, h1, h2⟩ := ho.var e
      exact wE.of (pe_var (X := X.tr pn xe) hN hv hd hcd) ⟨v, h1, q v H F (.refl _ _ _) ho ⟨Fv, h2⟩ .refl⟩
theorem go_of (h : GE G pz X e m) : GO G pz X e (mCold m) := fun pn xe W σ H X0 pins F Q Γ tk ho q =>
  h pn xe W σ H X0 pins F Q Γ tk ho (q.bind fun d Γ1 q1 _ p v H' F' Fv s ho' o qt => by
    have p : OPost X.K G pz X0 pins F H σ Q d.cold Γ1 (q1 && true) := p
    rw [Bool.and_true] at p
    exact p v H' F' (s.shrink fun a ha => List.mem_append_right _ ha) ho'.drop (ho'.thaw o).bw qt)
theorem ge_of (h : GO G pz X e m) : GE G pz X e (mFz m) := fun pn xe W σ H X0 pins F Q Γ tk ho q =>
  h pn xe W σ H X0 pins F Q Γ tk ho (q.bind fun d Γ1 q1 _ p v H' F' s ho' o qt => by
    by_cases hd : d.fz = true
    · rw [if_pos hd] at p
      have p : VPost X.K G pz X0 pins F H σ Q d Γ1 (q1 && true) := p
      rw [Bool.and_true] at p
      exact p v H' F' [] s ho'.nil (Own.fz (o.rp hd)).nil qt
    · rw [if_neg hd] at p
      exact p.elim)
/-! ### operators -/
def m2 (f : D → D → Option D) (ma mb : Sl → Re) : Sl → Re := fun Γ => (ma Γ).bind fun da Γ1 => ((mb Γ1).gd da.fz).bind fun db Γ2 => .of (f da db) Γ2
/-- r is what f says -/
def SR2 (K : PySem.W.Frag) (G : Wd) (r : R2) (f : D → D → Option D) : Prop := ∀ da db d, f da db = some d → ∀ Y H x y (Q : VK), Bw K G H Y x da → Bw K G H Y y db → FrQ K G H Y d Q → r x y H Q
theorem m2_run {r : R2} {f : D → D → Option D} (hr : SR2 X.K G r f) (ha : GO G pz X a ma) (hb : GO G pz X b mb) (pn xe) (tk : Takes (X.tr pn xe) W) (ho : Hold X.K G pz X0 pins Γ σ H F)
    (q : RgPost X.K G pz X0 pins F H σ W (VPost X.K G pz X0 pins F H σ Q) (m2 f ma mb Γ)) : wE (X.tr pn xe) a σ H fun x H1 => wE (X.tr pn xe) b σ H1 fun y H2 => r x y H2 Q :=
  ha pn xe W σ H X0 pins F _ Γ tk ho (q.bind fun da Γ1 q1 _ p1 v H1 F1 s1 ho1 o1 qt1 =>
    hb pn xe W σ H1 X0 pins F1 _ Γ1 tk ho1 (((p1.vaft s1 qt1).bind fun db Γ2 q2 _ p2 => p2).gd.mono fun db Γ2 q2 _ p2 y H2 F2 s2 ho2 o2 qt2 => by
      obtain ⟨hq, p2⟩ := p2
      obtain ⟨d, e, fr⟩ := fr_of ho2 (p2.vaft s2 qt2)
      exact hr da db d e _ H2 v y Q (o1.step s2 qt2 hq) o2 fr))
theorem ge_op2 {op} {r : R2} {f : D → D → Option D} (h : ∀ pn xe, OpR (X.tr pn xe) (binaryOp op) r) (hr : SR2 X.K G r f) (ha : GO G pz X a ma) (hb : GO G pz X b mb) : GE G pz X (.BinOp a op b pos) (m2 f ma mb) := fun pn xe W σ H X0 pins F Q Γ tk ho q =>
  wE.of (pe_op (h pn xe) pe_w pe_w) (m2_run hr ha hb pn xe tk ho q)
theorem ge_cmp2 {op} {r : R2} {f : D → D → Option D} (h : ∀ pn xe, OpR (X.tr pn xe) (compareOp op) r) (hr : SR2 X.K G r f) (ha : GO G pz X a ma) (hb : GO G pz X b mb) (hm : behindInMarks op b = false := by first | exact nomark _ | rfl) : GE G pz X (.Compare a [op] [b] pos) (m2 f ma mb) := fun pn xe W σ H X0 pins F Q Γ tk ho q =>
  wE.of (pe_cmpR (h pn xe) pe_w pe_w hm) (m2_run hr ha hb pn xe tk ho q)
end
end GL
/-! == of data at any depth, whatever the texts are -/
namespace GL
open PySem PySem.Spec PyProof.Rows L2 PySem.SeqAt

mutual
def ndP : PyData → Bool
  | .dict _ => false
  | .list xs => ndPs xs
  | .tuple xs => ndPs xs
  | _ => true
def ndPs : List PyData → Bool
  | [] => true
  | x :: xs => ndP x && ndPs xs
end
mutual
theorem rd_one {h : Heap} : ∀ {d d' : PyData} {v : Value} {as bs : List Addr}, ndP d = true → Reads h v d as → Reads h v d' bs → d = d'
  | .none, d', v, as, bs, _, q, r => by
    cases q
    cases r
    rfl
  | .bool _, d', v, as, bs, _, q, r => by
    cases q
    cases r
    rfl
  | .int _, d', v, as, bs, _, q, r => by
    cases q
    cases r
    rfl
  | .str _, d', v, as, bs, _, q, r => by
    cases q
    cases r
    rfl
  | .list xs, d', v, as, bs, hn, q, r => by
    cases q with
    | list a1 a2 a3 a4 =>
      cases r with
      | list b1 b2 b3 b4 =>
        have z := a1.symm.trans b1
        cases z
        rw [a3] at b3
        cases b3
        rw [rd_ones hn a4 b4]
      | tuple b1 b2 b3 b4 =>
        have z := a1.symm.trans b1
        cases z
        injection a2.symm.trans b2 with t
        exact absurd t (by decide)
      | dict b1 b2 b3 =>
        have z := a1.symm.trans b1
        cases z
        injection a2.symm.trans b2 with t
        exact absurd t (by decide)
  | .tuple xs, d', v, as, bs, hn, q, r => by
    cases q with
    | tuple a1 a2 a3 a4 =>
      cases r with
      | tuple b1 b2 b3 b4 =>
        have z := a1.symm.trans b1
        cases z
        rw [a3] at b3
        cases b3
        rw [rd_ones hn a4 b4]
      | list b1 b2 b3 b4 =>
        have z := a1.symm.trans b1
        cases z
        injection a2.symm.trans b2 with t
        exact absurd t (by decide)
      | dict b1 b2 b3 =>
        have z := a1.symm.trans b1
        cases z
        injection a2.symm.trans b2 with t
        exact absurd t (by decide)
  | .dict _, _, _, _, _, hn, _, _ => by cases hn
theorem rd_ones {h : Heap} : ∀ {ds ds' : List PyData} {vs : List Value} {as bs : List Addr}, ndPs ds = true → ReadsAll h vs ds as → ReadsAll h vs ds' bs → ds = ds'
  | [], ds', vs, as, bs, _, q, r => by
    cases q
    cases r
    rfl
  | d :: ds, ds', vs, as, bs, hn, q, r => by
    rw [ndPs, Bool.and_eq_true] at hn
    cases q with
    | cons q1 q2 =>
      cases r with
      | cons r1 r2 => rw [rd_one hn.1 q1 r1, rd_ones hn.2 q2 r2]
end
mutual
theorem eqv_same : ∀ d : PyData, ndP d = true → PyData.eqv d d = true
  | .none, _ => rfl
  | .bool b, _ => by cases b <;> rfl
  | .int i, _ => by simp only [PyData.eqv, beq_self_eq_true]
  | .str s, _ => by simp only [PyData.eqv, beq_self_eq_true]
  | .list xs, h => by
    rw [PyData.eqv]
    exact eqv_sames xs h
  | .tuple xs, h => by
    rw [PyData.eqv]
    exact eqv_sames xs h
  | .dict _, h => by cases h
theorem eqv_sames : ∀ ds : List PyData, ndPs ds = true → PyData.eqvAll ds ds = true
  | [], _ => rfl
  | d :: ds, h => by
    rw [ndPs, Bool.and_eq_true] at h
    rw [PyData.eqvAll, eqv_same d h.1, eqv_sames ds h.2, Bool.and_self]
end
theorem reads_len {h : Heap} {vs : List Value} {ds : List PyData} {as : List Addr} (r : ReadsAll h vs ds as) : vs.length = ds.length := ReadsAll.length _ _ _ r
/-- the places of two rows, one by one -/
def EqRow (A : Around) (s : Shared) (vs ws : Array Value) (xs ys : List PyData) : Prop := ∀ j (j1 : j < vs.size) (j2 : j < ws.size), EqAt A s vs[j] ws[j] (PyData.eqv (xs.getD j .none) (ys.getD j .none))
def ULine (A : Around) (n : Nat) : Prop := A.units + n < cLine
mutual
theorem eq_any : ∀ (d d' : PyData) (A : Around) (s : Shared) (v w : Value) (as bs : List Addr), ndP d = true → ndP d' = true → Reads s.heap v d as → Reads s.heap w d' bs → ULine A d.depth → EqAt A s v w (PyData.eqv d d')
  | .none, d', A, s, v, w, as, bs, n1, n2, q, r, u => by
    have u1 : A.units + 0 < cLine := Nat.lt_of_le_of_lt (Nat.add_le_add_left (Nat.zero_le _) _) u
    cases q
    cases r with
    | dict => cases n2
    | list b1 b2 b3 b4 => exact EqAt.none_list ⟨_, b1, b2, _, b3⟩ u1
    | tuple b1 b2 b3 b4 => exact EqAt.none_tuple ⟨_, b1, b2, _, b3⟩ u1
    | none => exact EqAt.same _
    | bool => exact EqAt.none_bool _
    | int => exact EqAt.none_int _ _
    | str => exact EqAt.none_str _ _
  | .bool k, d', A, s, v, w, as, bs, n1, n2, q, r, u => by
    have u1 : A.units + 0 < cLine := Nat.lt_of_le_of_lt (Nat.add_le_add_left (Nat.zero_le _) _) u
    cases q
    cases r with
    | dict => cases n2
    | list b1 b2 b3 b4 => exact EqAt.bool_list k ⟨_, b1, b2, _, b3⟩ u1
    | tuple b1 b2 b3 b4 => exact EqAt.bool_tuple k ⟨_, b1, b2, _, b3⟩ u1
    | none => exact EqAt.bool_none _
    | bool => exact EqAt.bool_bool _ _
    | int => exact EqAt.bool_int _ _ _
    | str => exact EqAt.bool_str _ _ _
  | .int i, d', A, s, v, w, as, bs, n1, n2, q, r, u => by
    have u1 : A.units + 0 < cLine := Nat.lt_of_le_of_lt (Nat.add_le_add_left (Nat.zero_le _) _) u
    cases q with
    | int _ t =>
      cases r with
      | dict => cases n2
      | list b1 b2 b3 b4 => exact EqAt.int_list i t ⟨_, b1, b2, _, b3⟩ u1
      | tuple b1 b2 b3 b4 => exact EqAt.int_tuple i t ⟨_, b1, b2, _, b3⟩ u1
      | none => exact EqAt.int_none _ _
      | bool => exact EqAt.int_bool _ _ _
      | int => exact EqAt.int_int _ _ _ _
      | str => exact EqAt.int_str _ _ _ _
  | .str x, d', A, s, v, w, as, bs, n1, n2, q, r, u => by
    have u1 : A.units + 0 < cLine := Nat.lt_of_le_of_lt (Nat.add_le_add_left (Nat.zero_le _) _) u
    cases q with
    | str _ t =>
      cases r with
      | dict => cases n2
      | list b1 b2 b3 b4 => exact EqAt.str_list x t ⟨_, b1, b2, _, b3⟩ u1
      | tuple b1 b2 b3 b4 => exact EqAt.str_tuple x t ⟨_, b1, b2, _, b3⟩ u1
      | none => exact EqAt.str_none _ _
      | bool => exact EqAt.str_bool _ _ _
      | int => exact EqAt.str_int _ _ _ _
      | str => exact EqAt.str_str _ _ _ _
  | .list xs, d', A, s, v, w, as, bs, n1, n2, q, r, u => by
    have u0 : A.units + (PyData.depthAll xs + 1) < cLine := u
    have u1 : A.units + 0 < cLine := by omega
    have u2 : ULine A.in1 (PyData.depthAll xs) := by
      show A.units + 1 + PyData.depthAll xs < cLine
      omega
    cases q with
    | @list l o vs n _ _ a1 a2 a3 a4 =>
      have il : s.heap.IsList l vs := ⟨o, a1, a2, n, a3⟩
      cases r with
      | dict => cases n2
      | tuple b1 b2 b3 b4 => exact EqAt.list_tuple il ⟨_, b1, b2, _, b3⟩ u1
      | none => exact EqAt.list_none il u1
      | bool => exact EqAt.list_bool _ il u1
      | int => exact EqAt.list_int _ _ il u1
      | str => exact EqAt.list_str _ _ il u1
      | @list l' o' ws n' ys _ b1 b2 b3 b4 =>
        have il' : s.heap.IsList l' ws := ⟨o', b1, b2, n', b3⟩
        have e1 : vs.size = xs.length := by rw [← reads_len a4, Array.length_toList]
        have e2 : ws.size = ys.length := by rw [← reads_len b4, Array.length_toList]
        rw [show PyData.eqv (.list xs) (.list ys) = PyData.eqvAll xs ys by rw [PyData.eqv]]
        by_cases same : l = l'
        · subst same
          have z := rd_one (d := .list xs) n1 (.list a1 a2 a3 a4) (.list b1 b2 b3 b4)
          cases z
          rw [eqv_sames xs n1]
          exact EqAt.same _
        · refine EqAt.of_refs same ?_
          by_cases len : vs.size = ws.size
          · rw [← eqvAll_same_length (e1.symm.trans (len.trans e2)), ← e1]
            exact RcAt.lists il il' len u1 (eq_anys xs ys A.in1 s vs ws _ _ n1 n2 a4 b4 u2)
          · rw [eqvAll_other_length (fun z => len (e1.trans (z.trans e2.symm)))]
            exact RcAt.lists_lengths il il' (bne_iff_ne.mpr len) u1
  | .tuple xs, d', A, s, v, w, as, bs, n1, n2, q, r, u => by
    have u0 : A.units + (PyData.depthAll xs + 1) < cLine := u
    have u1 : A.units + 0 < cLine := by omega
    have u2 : ULine A.in1 (PyData.depthAll xs) := by
      show A.units + 1 + PyData.depthAll xs < cLine
      omega
    cases q with
    | @tuple l o vs n _ _ a1 a2 a3 a4 =>
      have il : s.heap.IsTuple l vs := ⟨o, a1, a2, n, a3⟩
      cases r with
      | dict => cases n2
      | list b1 b2 b3 b4 => exact EqAt.tuple_list il ⟨_, b1, b2, _, b3⟩ u1
      | none => exact EqAt.tuple_none il u1
      | bool => exact EqAt.tuple_bool _ il u1
      | int => exact EqAt.tuple_int _ _ il u1
      | str => exact EqAt.tuple_str _ _ il u1
      | @tuple l' o' ws n' ys _ b1 b2 b3 b4 =>
        have il' : s.heap.IsTuple l' ws := ⟨o', b1, b2, n', b3⟩
        have e1 : vs.size = xs.length := by rw [← reads_len a4, Array.length_toList]
        have e2 : ws.size = ys.length := by rw [← reads_len b4, Array.length_toList]
        rw [show PyData.eqv (.tuple xs) (.tuple ys) = PyData.eqvAll xs ys by rw [PyData.eqv]]
        by_cases same : l = l'
        · subst same
          have z := rd_one (d := .tuple xs) n1 (.tuple a1 a2 a3 a4) (.tuple b1 b2 b3 b4)
          cases z
          rw [eqv_sames xs n1]
          exact EqAt.same _
        · refine EqAt.of_refs same ?_
          rw [← eqvAll_eq xs ys, ← e1, ← e2]
          exact RcAt.tuples il il' u1 (eq_anys xs ys A.in1 s vs ws _ _ n1 n2 a4 b4 u2)
  | .dict _, _, _, _, _, _, _, _, n1, _, _, _, _ => by cases n1
theorem eq_anys : ∀ (xs ys : List PyData) (A : Around) (s : Shared) (vs ws : Array Value) (as bs : List Addr), ndPs xs = true → ndPs ys = true → ReadsAll s.heap vs.toList xs as → ReadsAll s.heap ws.toList ys bs → ULine A (PyData.depthAll xs) → EqRow A s vs ws xs ys := fun xs ys A s vs ws as bs n1 n2 q r u j j1 j2 => by
  have h := eq_go xs ys A s vs.toList ws.toList as bs n1 n2 q r u j (by rw [Array.length_toList]; exact j1) (by rw [Array.length_toList]; exact j2)
  rw [Array.getElem_toList, Array.getElem_toList] at h
  exact h
theorem eq_go : ∀ (xs ys : List PyData) (A : Around) (s : Shared) (vs ws : List Value) (as bs : List Addr), ndPs xs = true → ndPs ys = true → ReadsAll s.heap vs xs as → ReadsAll s.heap ws ys bs → ULine A (PyData.depthAll xs) →
    ∀ j (j1 : j < vs.length) (j2 : j < ws.length), EqAt A s vs[j] ws[j] (PyData.eqv (xs.getD j .none) (ys.getD j .none))
  | [], _, A, s, vs, ws, as, bs, n1, n2, q, r, u, j, j1, j2 => by
    cases q
    exact absurd j1 (Nat.not_lt_zero j)
  | _ :: _, [], A, s, vs, ws, as, bs, n1, n2, q, r, u, j, j1, j2 => by
    cases r
    exact absurd j2 (Nat.not_lt_zero j)
  | x :: xs, y :: ys, A, s, vs, ws, as, bs, n1, n2, q, r, u, j, j1, j2 => by
    rw [ndPs, Bool.and_eq_true] at n1 n2
    have u0 : A.units + max x.depth (PyData.depthAll xs) < cLine := u
    have m1 := Nat.le_max_left x.depth (PyData.depthAll xs)
    have m2 := Nat.le_max_right x.depth (PyData.depthAll xs)
    cases q with
    | cons q1 q2 =>
      cases r with
      | cons r1 r2 =>
        cases j with
        | zero =>
          refine eq_any x y A s _ _ _ _ n1.1 n2.1 q1 r1 ?_
          show A.units + x.depth < cLine
          omega
        | succ j =>
          refine eq_go xs ys A s _ _ _ _ n1.2 n2.2 q2 r2 ?_ j _ _
          show A.units + PyData.depthAll xs < cLine
          omega
end

def rEqX (K : PySem.W.Frag) : R2 := fun x y H Q => ∃ d e, Dp K H x d ∧ Dp K H y e ∧ ndP d = true ∧ ndP e = true ∧ d.depth ≤ 60 ∧ Q (.bl (PyData.eqv d e)) H
def rNeX (K : PySem.W.Frag) : R2 := fun x y H Q => ∃ d e, Dp K H x d ∧ Dp K H y e ∧ ndP d = true ∧ ndP e = true ∧ d.depth ≤ 60 ∧ Q (.bl (!PyData.eqv d e)) H
theorem rc_any (d d' : PyData) (A : Around) (s : Shared) (v w : Value) (as bs : List Addr) (n1 : ndP d = true) (n2 : ndP d' = true) (q : Reads s.heap v d as) (r : Reads s.heap w d' bs) (u : ULine A d.depth) : RcAt A s v w (PyData.eqv d d') := by
  have u1 : A.units + 0 < cLine := Nat.lt_of_le_of_lt (Nat.add_le_add_left (Nat.zero_le _) _) u
  cases q with
  | none =>
    cases r with
    | dict => cases n2
    | list b1 b2 b3 b4 => exact RcAt.none_list ⟨_, b1, b2, _, b3⟩ u1
    | tuple b1 b2 b3 b4 => exact RcAt.none_tuple ⟨_, b1, b2, _, b3⟩ u1
    | none => exact RcAt.none_none
    | bool k2 => exact RcAt.none_bool k2
    | int i2 t2 => exact RcAt.none_int i2 t2
    | str x2 t2 => exact RcAt.none_str x2 t2
  | bool k =>
    cases r with
    | dict => cases n2
    | list b1 b2 b3 b4 => exact RcAt.bool_list k ⟨_, b1, b2, _, b3⟩ u1
    | tuple b1 b2 b3 b4 => exact RcAt.bool_tuple k ⟨_, b1, b2, _, b3⟩ u1
    | none => exact RcAt.bool_none k
    | bool k2 => exact RcAt.bool_bool k k2
    | int i2 t2 => exact RcAt.bool_int k i2 t2
    | str x2 t2 => exact RcAt.bool_str k x2 t2
  | int i t =>
    cases r with
    | dict => cases n2
    | list b1 b2 b3 b4 => exact RcAt.int_list i t ⟨_, b1, b2, _, b3⟩ u1
    | tuple b1 b2 b3 b4 => exact RcAt.int_tuple i t ⟨_, b1, b2, _, b3⟩ u1
    | none => exact RcAt.int_none i t
    | bool k2 => exact RcAt.int_bool i t k2
    | int i2 t2 => exact RcAt.int_int i t i2 t2
    | str x2 t2 => exact RcAt.int_str i t x2 t2
  | str x t =>
    cases r with
    | dict => cases n2
    | list b1 b2 b3 b4 => exact RcAt.str_list x t ⟨_, b1, b2, _, b3⟩ u1
    | tuple b1 b2 b3 b4 => exact RcAt.str_tuple x t ⟨_, b1, b2, _, b3⟩ u1
    | none => exact RcAt.str_none x t
    | bool k2 => exact RcAt.str_bool x t k2
    | int i2 t2 => exact RcAt.str_int x t i2 t2
    | str x2 t2 => exact RcAt.str_str x t x2 t2
  | @list l o vs n xs _ a1 a2 a3 a4 =>
    have u0 : A.units + (PyData.depthAll xs + 1) < cLine := u
    have u2 : ULine A.in1 (PyData.depthAll xs) := by
      show A.units + 1 + PyData.depthAll xs < cLine
      omega
    have il : s.heap.IsList l vs := ⟨o, a1, a2, n, a3⟩
    cases r with
    | dict => cases n2
    | tuple b1 b2 b3 b4 => exact RcAt.list_tuple il ⟨_, b1, b2, _, b3⟩ u1
    | none => exact RcAt.list_none il u1
    | bool k2 => exact RcAt.list_bool k2 il u1
    | int i2 t2 => exact RcAt.list_int i2 t2 il u1
    | str x2 t2 => exact RcAt.list_str x2 t2 il u1
    | @list l' o' ws n' ys _ b1 b2 b3 b4 =>
      have il' : s.heap.IsList l' ws := ⟨o', b1, b2, n', b3⟩
      have e1 : vs.size = xs.length := by rw [← reads_len a4, Array.length_toList]
      have e2 : ws.size = ys.length := by rw [← reads_len b4, Array.length_toList]
      rw [show PyData.eqv (.list xs) (.list ys) = PyData.eqvAll xs ys by rw [PyData.eqv]]
      by_cases len : vs.size = ws.size
      · rw [← eqvAll_same_length (e1.symm.trans (len.trans e2)), ← e1]
        exact RcAt.lists il il' len u1 (eq_anys xs ys A.in1 s vs ws _ _ n1 n2 a4 b4 u2)
      · rw [eqvAll_other_length (fun z => len (e1.trans (z.trans e2.symm)))]
        exact RcAt.lists_lengths il il' (bne_iff_ne.mpr len) u1
  | @tuple l o vs n xs _ a1 a2 a3 a4 =>
    have u0 : A.units + (PyData.depthAll xs + 1) < cLine := u
    have u2 : ULine A.in1 (PyData.depthAll xs) := by
      show A.units + 1 + PyData.depthAll xs < cLine
      omega
    have il : s.heap.IsTuple l vs := ⟨o, a1, a2, n, a3⟩
    cases r with
    | dict => cases n2
    | list b1 b2 b3 b4 => exact RcAt.tuple_list il ⟨_, b1, b2, _, b3⟩ u1
    | none => exact RcAt.tuple_none il u1
    | bool k2 => exact RcAt.tuple_bool k2 il u1
    | int i2 t2 => exact RcAt.tuple_int i2 t2 il u1
    | str x2 t2 => exact RcAt.tuple_str x2 t2 il u1
    | @tuple l' o' ws n' ys _ b1 b2 b3 b4 =>
      have il' : s.heap.IsTuple l' ws := ⟨o', b1, b2, n', b3⟩
      have e1 : vs.size = xs.length := by rw [← reads_len a4, Array.length_toList]
      have e2 : ws.size = ys.length := by rw [← reads_len b4, Array.length_toList]
      rw [show PyData.eqv (.tuple xs) (.tuple ys) = PyData.eqvAll xs ys by rw [PyData.eqv]]
      rw [← eqvAll_eq xs ys, ← e1, ← e2]
      exact RcAt.tuples il il' u1 (eq_anys xs ys A.in1 s vs ws _ _ n1 n2 a4 b4 u2)
  | dict => cases n1
theorem rn_any (d d' : PyData) (A : Around) (s : Shared) (v w : Value) (as bs : List Addr) (n1 : ndP d = true) (n2 : ndP d' = true) (q : Reads s.heap v d as) (r : Reads s.heap w d' bs) (u : ULine A d.depth) : RcNeAt A s v w (!PyData.eqv d d') := by
  have u1 : A.units + 0 < cLine := Nat.lt_of_le_of_lt (Nat.add_le_add_left (Nat.zero_le _) _) u
  cases q with
  | none =>
    cases r with
    | dict => cases n2
    | list b1 b2 b3 b4 => exact RcNeAt.none_list ⟨_, b1, b2, _, b3⟩ u1
    | tuple b1 b2 b3 b4 => exact RcNeAt.none_tuple ⟨_, b1, b2, _, b3⟩ u1
    | none => exact RcNeAt.none_none
    | bool k2 => exact RcNeAt.none_bool k2
    | int i2 t2 => exact RcNeAt.none_int i2 t2
    | str x2 t2 => exact RcNeAt.none_str x2 t2
  | bool k =>
    cases r with
    | dict => cases n2
    | list b1 b2 b3 b4 => exact RcNeAt.bool_list k ⟨_, b1, b2, _, b3⟩ u1
    | tuple b1 b2 b3 b4 => exact RcNeAt.bool_tuple k ⟨_, b1, b2, _, b3⟩ u1
    | none => exact RcNeAt.bool_none k
    | bool k2 => exact RcNeAt.bool_bool k k2
    | int i2 t2 => exact RcNeAt.bool_int k i2 t2
    | str x2 t2 => exact RcNeAt.bool_str k x2 t2
  | int i t =>
    cases r with
    | dict => cases n2
    | list b1 b2 b3 b4 => exact RcNeAt.int_list i t ⟨_, b1, b2, _, b3⟩ u1
    | tuple b1 b2 b3 b4 => exact RcNeAt.int_tuple i t ⟨_, b1, b2, _, b3⟩ u1
    | none => exact RcNeAt.int_none i t
    | bool k2 => exact RcNeAt.int_bool i t k2
    | int i2 t2 => exact RcNeAt.int_int i t i2 t2
    | str x2 t2 => exact RcNeAt.int_str i t x2 t2
  | str x t =>
    cases r with
    | dict => cases n2
    | list b1 b2 b3 b4 => exact RcNeAt.str_list x t ⟨_, b1, b2, _, b3⟩ u1
    | tuple b1 b2 b3 b4 => exact RcNeAt.str_tuple x t ⟨_, b1, b2, _, b3⟩ u1
    | none => exact RcNeAt.str_none x t
    | bool k2 => exact RcNeAt.str_bool x t k2
    | int i2 t2 => exact RcNeAt.str_int x t i2 t2
    | str x2 t2 => exact RcNeAt.str_str x t x2 t2
  | @list l o vs n xs _ a1 a2 a3 a4 =>
    have u0 : A.units + (PyData.depthAll xs + 1) < cLine := u
    have u2 : ULine A.in1 (PyData.depthAll xs) := by
      show A.units + 1 + PyData.depthAll xs < cLine
      omega
    have il : s.heap.IsList l vs := ⟨o, a1, a2, n, a3⟩
    cases r with
    | dict => cases n2
    | tuple b1 b2 b3 b4 => exact RcNeAt.list_tuple il ⟨_, b1, b2, _, b3⟩ u1
    | none => exact RcNeAt.list_none il u1
    | bool k2 => exact RcNeAt.list_bool k2 il u1
    | int i2 t2 => exact RcNeAt.list_int i2 t2 il u1
    | str x2 t2 => exact RcNeAt.list_str x2 t2 il u1
    | @list l' o' ws n' ys _ b1 b2 b3 b4 =>
      have il' : s.heap.IsList l' ws := ⟨o', b1, b2, n', b3⟩
      have e1 : vs.size = xs.length := by rw [← reads_len a4, Array.length_toList]
      have e2 : ws.size = ys.length := by rw [← reads_len b4, Array.length_toList]
      rw [show PyData.eqv (.list xs) (.list ys) = PyData.eqvAll xs ys by rw [PyData.eqv]]
      by_cases len : vs.size = ws.size
      · rw [← eqvAll_same_length (e1.symm.trans (len.trans e2)), ← e1]
        exact RcNeAt.lists il il' len u1 (eq_anys xs ys A.in1 s vs ws _ _ n1 n2 a4 b4 u2)
      · rw [eqvAll_other_length (fun z => len (e1.trans (z.trans e2.symm)))]
        exact RcNeAt.lists_lengths il il' (bne_iff_ne.mpr len) u1
  | @tuple l o vs n xs _ a1 a2 a3 a4 =>
    have u0 : A.units + (PyData.depthAll xs + 1) < cLine := u
    have u2 : ULine A.in1 (PyData.depthAll xs) := by
      show A.units + 1 + PyData.depthAll xs < cLine
      omega
    have il : s.heap.IsTuple l vs := ⟨o, a1, a2, n, a3⟩
    cases r with
    | dict => cases n2
    | list b1 b2 b3 b4 => exact RcNeAt.tuple_list il ⟨_, b1, b2, _, b3⟩ u1
    | none => exact RcNeAt.tuple_none il u1
    | bool k2 => exact RcNeAt.tuple_bool k2 il u1
    | int i2 t2 => exact RcNeAt.tuple_int i2 t2 il u1
    | str x2 t2 => exact RcNeAt.tuple_str x2 t2 il u1
    | @tuple l' o' ws n' ys _ b1 b2 b3 b4 =>
      have il' : s.heap.IsTuple l' ws := ⟨o', b1, b2, n', b3⟩
      have e1 : vs.size = xs.length := by rw [← reads_len a4, Array.length_toList]
      have e2 : ws.size = ys.length := by rw [← reads_len b4, Array.length_toList]
      rw [show PyData.eqv (.tuple xs) (.tuple ys) = PyData.eqvAll xs ys by rw [PyData.eqv]]
      rw [← eqvAll_eq xs ys, ← e1, ← e2]
      exact RcNeAt.tuples il il' u1 (eq_anys xs ys A.in1 s vs ws _ _ n1 n2 a4 b4 u2)
  | dict => cases n1
/-! ### the data of a D -/
mutual
def pd : D → PyData
  | .bl b => .bool b
  | .int i => .int i
  | .str s => .str s
  | .nd _ .tup l => .tuple (pds l)
  | .nd _ .ktp l => .tuple (pds l)
  | .nd _ .lst l => .list (pds l)
  | .nd _ .scr l => .list (pds l)
  | _ => .none
def pds : List D → List PyData
  | [] => []
  | d :: l => pd d :: pds l
end
/-- plain data of depth n at most -/
def D.pk : Nat → D → Bool
  | _, .non | _, .bl _ | _, .int _ | _, .str _ => true
  | n + 1, .nd _ .tup l => l.all (D.pk n)
  | n + 1, .nd _ .ktp l => l.all (D.pk n)
  | n + 1, .nd _ .lst l => l.all (D.pk n)
  | n + 1, .nd _ .scr l => l.all (D.pk n)
  | _, _ => false
theorem pds_ok {n : Nat} (ih : ∀ d : D, d.pk n = true → ndP (pd d) = true ∧ (pd d).depth ≤ n) : ∀ l : List D, l.all (D.pk n) = true → ndPs (pds l) = true ∧ PyData.depthAll (pds l) ≤ n
  | [], _ => ⟨rfl, Nat.zero_le _⟩
  | d :: l, h => by
    rw [List.all_cons, Bool.and_eq_true] at h
    obtain ⟨h1, h2⟩ := ih d h.1
    obtain ⟨h3, h4⟩ := pds_ok ih l h.2
    refine ⟨?_, ?_⟩
    · rw [pds, ndPs, h1, h3]; rfl
    · rw [pds, PyData.depthAll]; exact Nat.max_le.mpr ⟨h2, h4⟩
theorem pk_ok : ∀ (n : Nat) (d : D), d.pk n = true → ndP (pd d) = true ∧ (pd d).depth ≤ n
  | n, .non, _ | n, .bl _, _ | n, .int _, _ | n, .str _, _ => ⟨by simp [pd, ndP], Nat.zero_le _⟩
  | n + 1, .nd _ .tup l, h | n + 1, .nd _ .ktp l, h | n + 1, .nd _ .lst l, h | n + 1, .nd _ .scr l, h => by
    obtain ⟨h1, h2⟩ := pds_ok (pk_ok n) l h
    refine ⟨?_, ?_⟩
    · rw [pd, ndP]; exact h1
    · rw [pd, PyData.depth]; exact Nat.succ_le_succ h2
  | 0, .nd _ .tup _, h | 0, .nd _ .ktp _, h | 0, .nd _ .lst _, h | 0, .nd _ .scr _, h => by cases h
  | 0, .nd _ .ptu _, h | _ + 1, .nd _ .ptu _, h => by cases h
  | 0, .any, h | _ + 1, .any, h | 0, .fn _, h | _ + 1, .fn _, h | 0, .pr _, h | _ + 1, .pr _, h => by cases h
  | 0, .nd _ (.dK _) _, h | _ + 1, .nd _ (.dK _) _, h | 0, .nd _ (.dT _) _, h | _ + 1, .nd _ (.dT _) _, h | 0, .nd _ (.ins _ _) _, h | _ + 1, .nd _ (.ins _ _) _, h => by cases h
section
variable {K : PySem.W.Frag} {G : Wd} {Y : List Addr} {H : Hp}
mutual
theorem Rp.dp : ∀ {n : Nat} {v d}, d.pk n = true → Rp K G Y H v d → Dp K H v (pd d)
  | _, _, _, h, .non => .non
  | _, _, _, h, .bl => .bl _
  | _, _, _, h, .int => .int _
  | _, _, _, h, .str => .str _
  | 0, _, _, h, .any => by cases h
  | _ + 1, _, _, h, .any => by cases h
  | 0, _, _, h, .fn => by cases h
  | _ + 1, _, _, h, .fn => by cases h
  | 0, _, .nd _ k _, h, .nd _ _ => by cases k <;> cases h
  | n + 1, _, .nd _ .tup _, h, .nd s r => .tup (.inl (.inl s.2)) (Rps.dp (n := n) h r)
  | n + 1, _, .nd _ .ktp _, h, .nd s r => .tup (.inr s) (Rps.dp (n := n) h r)
  | n + 1, _, .nd _ .lst _, h, .nd s r => .lst (.inl (.inl s.2)) (Rps.dp (n := n) h r)
  | n + 1, _, .nd _ .scr _, h, .nd s r => .lst s.sq (Rps.dp (n := n) h r)
  | _ + 1, _, .nd _ .ptu _, h, .nd _ _ => by cases h
  | _ + 1, _, .nd _ (.dK _) _, h, .nd _ _ => by cases h
  | _ + 1, _, .nd _ (.dT _) _, h, .nd _ _ => by cases h
  | _ + 1, _, .nd _ (.ins _ _) _, h, .nd _ _ => by cases h
theorem Rps.dp : ∀ {n : Nat} {vs l}, l.all (D.pk n) = true → Rps K G Y H vs l → DpAll K H vs (pds l)
  | _, _, _, _, .nil => .nil
  | n, _, _, h, .cons r q => by
    rw [List.all_cons, Bool.and_eq_true] at h
    exact .cons (Rp.dp (n := n) h.1 r) (Rps.dp (n := n) h.2 q)
end
mutual
theorem Own.dp : ∀ {n : Nat} {v d F}, Own K G Y H v d F → d.pk n = true → Dp K H v (pd d)
  | n, _, _, _, .fz r, h => r.dp h
  | 0, _, .nd _ k _, _, .nd _ _, h => by cases k <;> cases h
  | n + 1, _, .nd _ .lst _, _, .nd s r, h => by
    obtain ⟨o, e, rfl⟩ := s
    exact .lst (.inl (.inl e)) (Owns.dp (n := n) r h)
  | _ + 1, _, .nd _ .tup _, _, .nd ⟨_, _, s⟩ _, h => s.elim
  | _ + 1, _, .nd _ .ktp _, _, .nd ⟨_, _, s⟩ _, h => s.elim
  | _ + 1, _, .nd _ .scr _, _, .nd ⟨_, _, s⟩ _, h => s.elim
  | _ + 1, _, .nd _ .ptu _, _, .nd _ _, h => by cases h
  | 0, _, .pr _, _, .pr _ _, h => by cases h
  | _ + 1, _, .pr _, _, .pr _ _, h => by cases h
  | _ + 1, _, .nd _ (.dK _) _, _, .nd _ _, h => by cases h
  | _ + 1, _, .nd _ (.dT _) _, _, .nd _ _, h => by cases h
  | _ + 1, _, .nd _ (.ins _ _) _, _, .nd _ _, h => by cases h
theorem Owns.dp : ∀ {n : Nat} {vs l F}, Owns K G Y H vs l F → l.all (D.pk n) = true → DpAll K H vs (pds l)
  | _, _, _, _, .nil, _ => .nil
  | n, _, _, _, .cons r q, h => by
    rw [List.all_cons, Bool.and_eq_true] at h
    exact .cons (Own.dp (n := n) r h.1) (Owns.dp (n := n) q h.2)
end
theorem Bw.dp {n : Nat} {v d} (h : Bw K G H Y v d) (hp : d.pk n = true) : Dp K H v (pd d) := let ⟨_, o⟩ := h; o.dp hp
end
/-- == of data -/
def eqD (a b : D) : Bool := PyData.eqv (pd a) (pd b)
def eqG (a b : D) : Option D := if (a.pk 60 && b.pk 60) = true then some (.bl (eqD a b)) else none
def neG (a b : D) : Option D := if (a.pk 60 && b.pk 60) = true then some (.bl (!eqD a b)) else none
section
variable {X : Cx} {K : PySem.W.Frag} {G : Wd} {pz : List Nat} {a b : Expr} {ma mb : Sl → Re} {pos : Pos}
theorem op_eqX (hu : X.A.units + 64 < cLine) : OpR X (compareOp .Eq) (rEqX X.K) := by
  intro pins s σ H x y v u Q I rx ry ⟨d, e, hd, he, n1, n2, dp, q⟩
  obtain ⟨as, r1⟩ := Dp.reads I d x v hd rx
  obtain ⟨bs, r2⟩ := Dp.reads I e y u he ry
  refine rc_any d e X.A s v u as bs n1 n2 r1 r2 ?_ X.prog X.w X.xe _ ⟨.bl _, H, I, rfl, q⟩
  show X.A.units + d.depth < cLine
  omega
theorem op_neX (hu : X.A.units + 64 < cLine) : OpR X (compareOp .NotEq) (rNeX X.K) := by
  intro pins s σ H x y v u Q I rx ry ⟨d, e, hd, he, n1, n2, dp, q⟩
  obtain ⟨as, r1⟩ := Dp.reads I d x v hd rx
  obtain ⟨bs, r2⟩ := Dp.reads I e y u he ry
  refine rn_any d e X.A s v u as bs n1 n2 r1 r2 ?_ X.prog X.w X.xe _ ⟨.bl _, H, I, rfl, q⟩
  show X.A.units + d.depth < cLine
  omega
theorem sr_eq : SR2 K G (rEqX K) eqG := fun da db d e Y H x y Q o1 o2 q => by
  unfold eqG at e
  by_cases h : (da.pk 60 && db.pk 60) = true
  · rw [if_pos h] at e
    cases e
    rw [Bool.and_eq_true] at h
    obtain ⟨h1, h2⟩ := pk_ok 60 da h.1
    obtain ⟨h3, _⟩ := pk_ok 60 db h.2
    exact ⟨_, _, o1.dp h.1, o2.dp h.2, h1, h3, h2, q.val .bl⟩
  · rw [if_neg h] at e
    cases e
theorem sr_ne : SR2 K G (rNeX K) neG := fun da db d e Y H x y Q o1 o2 q => by
  unfold neG at e
  by_cases h : (da.pk 60 && db.pk 60) = true
  · rw [if_pos h] at e
    cases e
    rw [Bool.and_eq_true] at h
    obtain ⟨h1, h2⟩ := pk_ok 60 da h.1
    obtain ⟨h3, _⟩ := pk_ok 60 db h.2
    exact ⟨_, _, o1.dp h.1, o2.dp h.2, h1, h3, h2, q.val .bl⟩
  · rw [if_neg h] at e
    cases e
end
end GL
namespace GL
open PySem PySem.Spec PyProof.Rows L2
section
variable {K : PySem.W.Frag} {G : Wd} {pz : List Nat} {X0 F F' F1 Fv Y : List Addr} {pins : Nat → V} {Γ Γ1 : Sl} {σ : L2.St} {H H' H1 : Hp} {X : Cx} {a b c e : Expr} {d da db dc : D} {v x y : V} {pos : Pos} {W : WX} {Q : VK} {q q1 q2 : Bool} {α β : Type} {m ma mb mc : Sl → Re}
theorem Bw.int {i} (h : Bw K G H Y v (.int i)) : v = .int i := by cases h.rp rfl; rfl
theorem Bw.bl {i} (h : Bw K G H Y v (.bl i)) : v = .bl i := by cases h.rp rfl; rfl
theorem Bw.str {i} (h : Bw K G H Y v (.str i)) : v = .str i := by cases h.rp rfl; rfl
theorem Bw.non (h : Bw K G H Y v .non) : v = .non := by cases h.rp rfl; rfl
/-- a list or tuple, as its items -/
def flat (o : Bool) (l : List D) : Bool := !o || l.all D.fz
theorem Bw.lst {o l} (h : Bw K G H Y v (.nd o .lst l)) : ∃ p vs F, v = .ref p ∧ H p = some (.lst vs) ∧ Owns K G Y H vs l F ∧ (flat o l = true → Rps K G Y H vs l) := by
  obtain ⟨F, h⟩ := h
  cases h with
  | fz r => cases r with | nd h r => exact ⟨_, _, _, rfl, h.2, r.owns, fun _ => r⟩
  | nd h r =>
    obtain ⟨_, e, rfl⟩ := h
    exact ⟨_, _, _, rfl, e, r, fun hf => (r.rps hf).1⟩
theorem Bw.tupH {o l} (h : Bw K G H Y v (.nd o .tup l)) : ∃ p vs, v = .ref p ∧ H p = some (.tup vs) ∧ Rps K G Y H vs l := by
  obtain ⟨F, h⟩ := h
  cases h with
  | fz r => cases r with | nd h r => exact ⟨_, _, rfl, h.2, r⟩
  | nd h r => obtain ⟨_, _, h⟩ := h; exact h.elim
theorem Bw.tup {o l} (h : Bw K G H Y v (.nd o .tup l)) : ∃ p vs, v = .ref p ∧ SqT K H p vs ∧ Rps K G Y H vs l := by
  obtain ⟨p, vs, e, h, r⟩ := h.tupH
  exact ⟨p, vs, e, .inl (.inl h), r⟩
theorem Bw.ktp {o l} (h : Bw K G H Y v (.nd o .ktp l)) : ∃ p vs, v = .ref p ∧ SqT K H p vs ∧ Rps K G Y H vs l := by
  obtain ⟨F, h⟩ := h
  cases h with
  | fz r => cases r with | nd h r => exact ⟨_, _, rfl, .inr h, r⟩
  | nd h r => obtain ⟨_, _, h⟩ := h; exact h.elim
theorem Bw.tupR {o l} (h : Bw K G H Y v (.nd o .tup l)) : Rp K G Y H v (.tup l) := by
  obtain ⟨F, h⟩ := h
  cases h with
  | fz r => cases r with | nd h r => exact .nd h r
  | nd h r => obtain ⟨_, _, h⟩ := h; exact h.elim
theorem Bw.scr {o l} (h : Bw K G H Y v (.nd o .scr l)) : ∃ p vs, v = .ref p ∧ SqL K H p vs ∧ Rps K G Y H vs l := by
  obtain ⟨F, h⟩ := h
  cases h with
  | fz r => cases r with | nd h r => exact ⟨_, _, rfl, h.sq, r⟩
  | nd h r => obtain ⟨_, _, h⟩ := h; exact h.elim
theorem fr_new {p : Addr} {o : HO} {k : Kd} {vs : List V} {l : List D} (q : FrQ K G H Y (.nd true k l) Q) (hp : H p = none) (ho : ObO G o k vs) (r : Rps K G Y H vs l) : Q (.ref p) (upd H p o) := by
  have g : Grow G H (upd H p o) := .new hp
  refine q (.ref p) (upd H p o) [p] g (fun a ha o' e => ?_) (by simp) ?_
  · rw [List.mem_singleton.mp ha, hp] at e
    cases e
  · have m : Mv Y H (Y ++ [p]) (upd H p o) := ⟨fun a u e _ n => g.kp a u e n, fun a u ha e n => (List.mem_append.mp ha).elim id fun z => by
      rw [List.mem_singleton.mp z, hp] at e
      cases e⟩
    exact Own.nd ⟨o, upd_same, ho⟩ ((r.move m).owns)
/-- a new tuple -/
theorem fr_tup {p : Addr} {vs : List V} {l : List D} (q : FrQ K G H Y (.tup l) Q) (hY : ∀ a ∈ Y, ∃ o, H a = some o ∧ MT o) (hp : H p = none) (r : Rps K G Y H vs l) : Q (.ref p) (upd H p (.tup vs)) := by
  have g : Grow G H (upd H p (.tup vs)) := .new hp
  refine q (.ref p) (upd H p (.tup vs)) [] g (fun _ z => by cases z) .nil ?_
  rw [List.append_nil]
  refine .fz (.nd ⟨fun z => ?_, upd_same⟩ (r.grow g))
  obtain ⟨o, e, _⟩ := hY p z
  rw [hp] at e
  cases e
end
/-! ### arithmetic -/
def mulG (i j : Int) : Bool := (decide (-(2 ^ 64) < i) && decide (i < 2 ^ 64)) || (decide (-(2 ^ 64) < j) && decide (j < 2 ^ 64))
def addD : D → D → Option D
  | .int i, .int j => some (.int (i + j))
  | .int i, .bl b => some (.int (i + b2i b))
  | .str i, .str j => if i.length + j.length ≤ sizeLine then some (.str (i ++ j)) else none
  | .nd o .lst l, .nd o' .lst m => if (flat o l && flat o' m && decide (l.length + m.length ≤ sizeLine)) = true then some (.nd true .lst (l ++ m)) else none
  | .nd _ .tup l, .nd _ .tup m => if l.length + m.length ≤ sizeLine then some (.tup (l ++ m)) else none
  | _, _ => none
def subD : D → D → Option D
  | .int i, .int j => some (.int (i - j))
  | _, _ => none
def mulD : D → D → Option D
  | .int i, .int j => if mulG i j = true then some (.int (i * j)) else none
  | .nd o .lst l, .int k => if (flat o l && decide (-(2 ^ 63) ≤ k) && decide (k < 2 ^ 63) && decide (l.length * k.toNat ≤ sizeLine)) = true then some (.nd true .lst (List.replicate k.toNat l).flatten) else none
  | _, _ => none
def fdivD : D → D → Option D
  | .int i, .int j => if (decide (j ≠ 0) && decide (j.natAbs < 1073741824)) = true then some (.int (i.fdiv j)) else none
  | _, _ => none
def modD : D → D → Option D
  | .int i, .int j => if j ≠ 0 then some (.int (i.fmod j)) else none
  | _, _ => none
def powD : D → D → Option D
  | .int i, .int j => if (decide (0 ≤ j) && decide (j ≤ 1000000) && decide (i.natAbs < 2 ^ 64)) = true then some (.int (i ^ j.toNat)) else none
  | _, _ => none
def ltS (i j : Str) : Bool := decide (i.cps.toList < j.cps.toList)
def ltD : D → D → Option D
  | .int i, .int j => some (.bl (decide (i < j)))
  | .str i, .str j => some (.bl (ltS i j))
  | _, _ => none
def leD : D → D → Option D
  | .int i, .int j => some (.bl (decide (i ≤ j)))
  | .str i, .str j => some (.bl (!ltS j i))
  | _, _ => none
def gtD : D → D → Option D
  | .int i, .int j => some (.bl (decide (j < i)))
  | .str i, .str j => some (.bl (ltS j i))
  | _, _ => none
def geD : D → D → Option D
  | .int i, .int j => some (.bl (decide (j ≤ i)))
  | .str i, .str j => some (.bl (!ltS i j))
  | _, _ => none
section
variable {K : PySem.W.Frag} {G : Wd} {pz : List Nat} {X : Cx} {a b c e : Expr} {ma mb mc m : Sl → Re} {pos : Pos}
/-- Y stands in H -/
def Lv (Y : List Addr) (H : Hp) : Prop := ∀ a ∈ Y, ∃ o, H a = some o ∧ MT o
/-- r is what f says, where Y stands -/
def SRL (K : PySem.W.Frag) (G : Wd) (r : R2) (f : D → D → Option D) : Prop := ∀ da db d, f da db = some d → ∀ Y H x y (Q : VK), Lv Y H → Bw K G H Y x da → Bw K G H Y y db → FrQ K G H Y d Q → r x y H Q
theorem SR2.l {r f} (h : SR2 K G r f) : SRL K G r f := fun da db d e Y H x y Q _ => h da db d e Y H x y Q
theorem m2_runL {W : WX} {X0 F : List Addr} {pins : Nat → V} {Γ : Sl} {σ : L2.St} {H : Hp} {Q : VK} {r : R2} {f : D → D → Option D} (hr : SRL X.K G r f) (ha : GO G pz X a ma) (hb : GO G pz X b mb) (pn xe) (tk : Takes (X.tr pn xe) W) (ho : Hold X.K G pz X0 pins Γ σ H F)
    (q : RgPost X.K G pz X0 pins F H σ W (VPost X.K G pz X0 pins F H σ Q) (m2 f ma mb Γ)) : wE (X.tr pn xe) a σ H fun x H1 => wE (X.tr pn xe) b σ H1 fun y H2 => r x y H2 Q :=
  ha pn xe W σ H X0 pins F _ Γ tk ho (q.bind fun da Γ1 q1 _ p1 v H1 F1 s1 ho1 o1 qt1 =>
    hb pn xe W σ H1 X0 pins F1 _ Γ1 tk ho1 (((p1.vaft s1 qt1).bind fun db Γ2 q2 _ p2 => p2).gd.mono fun db Γ2 q2 _ p2 y H2 F2 s2 ho2 o2 qt2 => by
      obtain ⟨hq, p2⟩ := p2
      obtain ⟨d, e, fr⟩ := fr_of ho2 (p2.vaft s2 qt2)
      exact hr da db d e _ H2 v y Q ho2.liveX (o1.step s2 qt2 hq) o2 fr))
theorem ge_opL {op} {r : R2} {f : D → D → Option D} (h : ∀ pn xe, OpR (X.tr pn xe) (binaryOp op) r) (hr : SRL X.K G r f) (ha : GO G pz X a ma) (hb : GO G pz X b mb) : GE G pz X (.BinOp a op b pos) (m2 f ma mb) := fun pn xe W σ H X0 pins F Q Γ tk ho q =>
  wE.of (pe_op (h pn xe) pe_w pe_w) (m2_runL hr ha hb pn xe tk ho q)
theorem op_catA' (pn xe) : OpR (X.tr pn xe) (binaryOp .Add) (rCatA X.K) := op_catA
theorem ge_add (ha : GO G pz X a ma) (hb : GO G pz X b mb) : GE G pz X (.BinOp a .Add b pos) (m2 addD ma mb) :=
  ge_opL (fun pn xe => ((((op_add (X := X.tr pn xe)).or op_add_ib).or op_add_str).or op_cat).or (op_catA' pn xe)) (fun da db d e Y H x y Q lv o1 o2 q => by
    unfold addD at e
    split at e
    · cases e; exact .inl (.inl (.inl (.inl ⟨_, _, o1.int, o2.int, q.val .int⟩)))
    · cases e; exact .inl (.inl (.inl (.inr ⟨_, _, o1.int, o2.bl, q.val .int⟩)))
    · split at e
      · rename_i h; cases e; exact .inl (.inl (.inr ⟨_, _, o1.str, o2.str, h, q.val .str⟩))
      · cases e
    · split at e
      · rename_i h
        cases e
        simp only [Bool.and_eq_true, decide_eq_true_eq] at h
        obtain ⟨p1, v1, F1, rfl, h1, w1, g1⟩ := o1.lst
        obtain ⟨p2, v2, F2, rfl, h2, w2, g2⟩ := o2.lst
        exact .inl (.inr ⟨p1, p2, v1, v2, rfl, rfl, h1, h2, by rw [w1.length, w2.length]; exact h.2, fun p hp => fr_new q hp rfl ((g1 h.1.1).append (g2 h.1.2))⟩)
      · cases e
    · split at e
      · rename_i h
        cases e
        obtain ⟨p1, v1, rfl, h1, r1⟩ := o1.tup
        obtain ⟨p2, v2, rfl, h2, r2⟩ := o2.tup
        refine .inr ⟨p1, p2, v1, v2, rfl, rfl, h1, h2, by rw [r1.length, r2.length]; exact h, fun z => ?_, fun z z2 => ?_, fun _ _ p hp => fr_tup q lv hp (r1.append r2)⟩
        · subst z
          cases r1
          exact q.val o2.tupR
        · subst z2
          cases r2
          rw [List.append_nil] at q
          exact q.val o1.tupR
      · cases e
    · cases e) ha hb
theorem ge_sub (ha : GO G pz X a ma) (hb : GO G pz X b mb) : GE G pz X (.BinOp a .Sub b pos) (m2 subD ma mb) := ge_op2 (fun pn xe => op_sub (X := X.tr pn xe)) (fun da db d e Y H x y Q o1 o2 q => by
  unfold subD at e
  split at e
  · cases e; exact ⟨_, _, o1.int, o2.int, q.val .int⟩
  · cases e) ha hb
theorem ge_mul (ha : GO G pz X a ma) (hb : GO G pz X b mb) : GE G pz X (.BinOp a .Mult b pos) (m2 mulD ma mb) := ge_op2 (fun pn xe => (op_mul (X := X.tr pn xe)).or op_rep) (fun da db d e Y H x y Q o1 o2 q => by
  unfold mulD at e
  split at e
  · split at e
    · rename_i h
      cases e
      refine .inl ⟨_, _, o1.int, o2.int, ?_, q.val .int⟩
      unfold mulG at h
      simp only [Bool.or_eq_true, Bool.and_eq_true, decide_eq_true_eq] at h
      exact h
    · cases e
  · split at e
    · rename_i h
      cases e
      simp only [Bool.and_eq_true, decide_eq_true_eq] at h
      obtain ⟨p1, v1, F1, rfl, h1, w1, g1⟩ := o1.lst
      refine .inr ⟨p1, _, v1, rfl, o2.int, h1, h.1.1.2, h.1.2, by rw [w1.length]; exact h.2, fun p hp => fr_new q hp rfl ?_⟩
      have : ∀ n : Nat, Rps X.K G Y H (List.replicate n v1).flatten (List.replicate n _).flatten := fun n => by
        induction n with
        | zero => exact .nil
        | succ n ih => rw [List.replicate_succ, List.replicate_succ, List.flatten_cons, List.flatten_cons]; exact (g1 h.1.1.1).append ih
      exact this _
    · cases e
  · cases e) ha hb
theorem ge_fdiv (ha : GO G pz X a ma) (hb : GO G pz X b mb) : GE G pz X (.BinOp a .FloorDiv b pos) (m2 fdivD ma mb) := ge_op2 (fun pn xe => op_fdivN (X := X.tr pn xe)) (fun da db d e Y H x y Q o1 o2 q => by
  unfold fdivD at e
  split at e
  · split at e
    · rename_i h
      cases e
      simp only [Bool.and_eq_true, decide_eq_true_eq] at h
      exact ⟨_, _, o1.int, o2.int, h, q.val .int⟩
    · cases e
  · cases e) ha hb
theorem ge_mod (ha : GO G pz X a ma) (hb : GO G pz X b mb) : GE G pz X (.BinOp a .Mod b pos) (m2 modD ma mb) := ge_op2 (fun pn xe => op_modN (X := X.tr pn xe)) (fun da db d e Y H x y Q o1 o2 q => by
  unfold modD at e
  split at e
  · split at e
    · rename_i h
      cases e
      exact ⟨_, _, o1.int, o2.int, h, q.val .int⟩
    · cases e
  · cases e) ha hb
theorem ge_pow (ha : GO G pz X a ma) (hb : GO G pz X b mb) : GE G pz X (.BinOp a .Pow b pos) (m2 powD ma mb) := ge_op2 (fun pn xe => op_pow (X := X.tr pn xe)) (fun da db d e Y H x y Q o1 o2 q => by
  unfold powD at e
  split at e
  · split at e
    · rename_i h
      cases e
      simp only [Bool.and_eq_true, decide_eq_true_eq] at h
      exact ⟨_, _, o1.int, o2.int, ⟨h.1.1, h.1.2, h.2⟩, q.val .int⟩
    · cases e
  · cases e) ha hb
/-! ### compares -/
theorem sr_lt : SR2 K G (fun x y H Q => rI0 (fun i j => .bl (decide (i < j))) x y H Q ∨ ∃ i j, x = .str i ∧ y = .str j ∧ Q (.bl (decide (i.cps.toList < j.cps.toList))) H) ltD := fun da db d e Y H x y Q o1 o2 q => by
  unfold ltD at e
  split at e
  · cases e; exact .inl ⟨_, _, o1.int, o2.int, q.val .bl⟩
  · cases e; exact .inr ⟨_, _, o1.str, o2.str, q.val .bl⟩
  · cases e
theorem sr_le : SR2 K G (fun x y H Q => rI0 (fun i j => .bl (decide (i ≤ j))) x y H Q ∨ ∃ i j, x = .str i ∧ y = .str j ∧ Q (.bl (!decide (j.cps.toList < i.cps.toList))) H) leD := fun da db d e Y H x y Q o1 o2 q => by
  unfold leD at e
  split at e
  · cases e; exact .inl ⟨_, _, o1.int, o2.int, q.val .bl⟩
  · cases e; exact .inr ⟨_, _, o1.str, o2.str, q.val .bl⟩
  · cases e
theorem sr_gt : SR2 K G (fun x y H Q => rI0 (fun i j => .bl (decide (j < i))) x y H Q ∨ ∃ i j, x = .str i ∧ y = .str j ∧ Q (.bl (decide (j.cps.toList < i.cps.toList))) H) gtD := fun da db d e Y H x y Q o1 o2 q => by
  unfold gtD at e
  split at e
  · cases e; exact .inl ⟨_, _, o1.int, o2.int, q.val .bl⟩
  · cases e; exact .inr ⟨_, _, o1.str, o2.str, q.val .bl⟩
  · cases e
theorem sr_ge : SR2 K G (fun x y H Q => rI0 (fun i j => .bl (decide (j ≤ i))) x y H Q ∨ ∃ i j, x = .str i ∧ y = .str j ∧ Q (.bl (!decide (i.cps.toList < j.cps.toList))) H) geD := fun da db d e Y H x y Q o1 o2 q => by
  unfold geD at e
  split at e
  · cases e; exact .inl ⟨_, _, o1.int, o2.int, q.val .bl⟩
  · cases e; exact .inr ⟨_, _, o1.str, o2.str, q.val .bl⟩
  · cases e
/-- op is f -/
structure CmpF (X : Cx) (G : Wd) (op : CmpOp) (f : D → D → Option D) where
  r : R2
  h : ∀ pn xe, OpR (X.tr pn xe) (compareOp op) r
  s : SR2 X.K G r f
def cLt : CmpF X G .Lt ltD := ⟨_, fun pn xe => (op_lt (X := X.tr pn xe)).or op_lt_str, sr_lt⟩
def cLe : CmpF X G .LtE leD := ⟨_, fun pn xe => (op_le (X := X.tr pn xe)).or op_le_str, sr_le⟩
def cGt : CmpF X G .Gt gtD := ⟨_, fun pn xe => (op_gt (X := X.tr pn xe)).or op_gt_str, sr_gt⟩
def cGe : CmpF X G .GtE geD := ⟨_, fun pn xe => (op_ge (X := X.tr pn xe)).or op_ge_str, sr_ge⟩
def cEq (hu : X.A.units + 64 < cLine) : CmpF X G .Eq eqG := ⟨_, fun pn xe => op_eqX (X := X.tr pn xe) hu, sr_eq⟩
def cNe (hu : X.A.units + 64 < cLine) : CmpF X G .NotEq neG := ⟨_, fun pn xe => op_neX (X := X.tr pn xe) hu, sr_ne⟩
end
end GL
namespace GL
open PySem PySem.Spec PyProof.Rows L2
def D.truth : D → Option Bool
  | .bl b => some b
  | .int i => some (i != 0)
  | .str s => if s.length ≤ sizeLine then some ((s.length : Int) != 0) else none
  | .non => some false
  | .nd _ .lst l => some (!l.isEmpty)
  | .nd _ .tup l => some (!l.isEmpty)
  | .nd _ .ktp l => some (!l.isEmpty)
  | .nd _ .scr l => some (!l.isEmpty)
  | .nd true (.dK _) l => some (!l.isEmpty)
  | _ => none
def mBl (m : Sl → Re) : Sl → Rg Bool := fun Γ => (m Γ).bind fun d Γ => match d with
  | .bl b => .ok b Γ true
  | _ => .st
def mTru (m : Sl → Re) : Sl → Rg Bool := fun Γ => (m Γ).bind fun d Γ => .of d.truth Γ
def mB (m : Sl → Rg Bool) : Sl → Re := fun Γ => (m Γ).bind fun b Γ => .ok (.bl b) Γ true
def mNot (m : Sl → Rg Bool) : Sl → Rg Bool := fun Γ => (m Γ).bind fun b Γ => .ok (!b) Γ true
def mAnd (m1 m2 : Sl → Rg Bool) : Sl → Rg Bool := fun Γ => (m1 Γ).bind fun b Γ => if b = true then m2 Γ else .ok false Γ true
def mOr (m1 m2 : Sl → Rg Bool) : Sl → Rg Bool := fun Γ => (m1 Γ).bind fun b Γ => if b = true then .ok true Γ true else m2 Γ
def mIf {α : Type} (mc : Sl → Rg Bool) (m1 m2 : Sl → Rg α) : Sl → Rg α := fun Γ => (mc Γ).bind fun b Γ => if b = true then m1 Γ else m2 Γ
def mChain (f f' : D → D → Option D) (ma mb mc : Sl → Re) : Sl → Re := fun Γ => (ma Γ).bind fun da Γ1 => ((mb Γ1).gd da.fz).bind fun db Γ2 => match f da db with
  | some (.bl true) => ((mc Γ2).gd db.fz).bind fun dc Γ3 => .of (f' db dc) Γ3
  | some (.bl false) => .ok (.bl false) Γ2 true
  | _ => .st
section
variable {K : PySem.W.Frag} {G : Wd} {pz : List Nat} {X0 F F' F1 Fv Y : List Addr} {pins : Nat → V} {Γ Γ1 : Sl} {σ : L2.St} {H H' H1 : Hp} {X : Cx} {a b c e : Expr} {es : List Expr} {d da db dc : D} {v x y : V} {pos : Pos} {W : WX} {Q : VK} {q q1 q2 : Bool} {α β : Type} {m ma mb mc : Sl → Re} {mt m1 m2' : Sl → Rg Bool}
theorem Bw.tru {k : Bool} (h : Bw K G H Y v d) (e : d.truth = some k) : TruV K v H k := by
  unfold D.truth at e
  split at e
  · cases e; rw [h.bl]; rfl
  · cases e; rw [h.int]; rfl
  · split at e
    · rename_i hz; cases e; rw [h.str]; exact ⟨hz, rfl⟩
    · cases e
  · cases e; rw [h.non]; rfl
  · obtain ⟨p, vs, F, rfl, h1, h2, _⟩ := h.lst
    cases e
    refine .inl ⟨vs, .inl (.inl h1), ?_⟩
    cases h2 <;> rfl
  · obtain ⟨p, vs, rfl, h1, h2⟩ := h.tup
    cases e
    refine .inr (.inl ⟨vs, h1, ?_⟩)
    cases h2 <;> rfl
  · obtain ⟨p, vs, rfl, h1, h2⟩ := h.ktp
    cases e
    refine .inr (.inl ⟨vs, h1, ?_⟩)
    cases h2 <;> rfl
  · obtain ⟨p, vs, rfl, h1, h2⟩ := h.scr
    cases e
    refine .inl ⟨vs, h1, ?_⟩
    cases h2 <;> rfl
  · obtain ⟨F, h⟩ := h
    cases e
    cases h with
    | fz r => cases r
    | nd h1 h2 =>
      obtain ⟨_, e, kvs, rfl, hk, rfl⟩ := h1
      refine .inr (.inr ⟨kvs, e, ?_⟩)
      cases kvs with
      | nil => cases h2; rfl
      | cons => cases h2; rfl
  · cases e
theorem Rg.andq_true {α : Type} (r : Rg α) : r.andq true = r := by cases r <;> rfl
theorem RgPost.vgrow {r : Re} (h : RgPost K G pz X0 pins F H σ W (VPost K G pz X0 pins F H σ Q) r) (g : Grow G H H') : RgPost K G pz X0 pins F H' σ W (VPost K G pz X0 pins F H' σ Q) r := by
  rw [← Rg.andq_true r] at h
  exact h.vaft (g.step F) fun _ => ⟨g, fun _ h => h⟩
/-- e as a test whose value is told elsewhere -/
def GW (G : Wd) (pz : List Nat) (X : Cx) (e : Expr) (m : Sl → Rg Bool) : Prop :=
  ∀ pn xe W σ H X0 pins F Q Γ, Takes (X.tr pn xe) W → Hold X.K G pz X0 pins Γ σ H F → RgPost X.K G pz X0 pins F H σ W (TPost X.K G pz X0 pins F H σ Q) (m Γ) → wW (X.tr pn xe) e σ H Q
theorem GW.t (h : GW G pz X e mt) : GT G pz X e mt := fun pn xe W σ H X0 pins F Q Γ tk ho q => wT.of (pw_w.pt) (h pn xe W σ H X0 pins F Q Γ tk ho q)
theorem ge_cmp {op} {f : D → D → Option D} (cf : CmpF X G op f) (ha : GO G pz X a ma) (hb : GO G pz X b mb) (hm : behindInMarks op b = false := by first | exact nomark _ | rfl) : GE G pz X (.Compare a [op] [b] pos) (m2 f ma mb) := ge_cmp2 cf.h cf.s ha hb hm
/-- the value of a bool, for a test -/
theorem q_bl {Q2 : Bool → Hp → Prop} {r : Re} (q : RgPost K G pz X0 pins F H σ W (TPost K G pz X0 pins F H σ Q2) (r.bind fun d Γ => match d with
  | .bl b => .ok b Γ true
  | _ => .st)) : RgPost K G pz X0 pins F H σ W (VPost K G pz X0 pins F H σ fun v H' => ∃ k, v = .bl k ∧ Q2 k H') r := q.bind fun d Γ1 q1 _ p v H' F' Fv s ho o qt => by
  cases d with
  | bl k =>
    have p : TPost K G pz X0 pins F H σ Q2 k Γ1 (q1 && true) := p
    rw [Bool.and_true] at p
    obtain ⟨r, e⟩ := o.rp rfl
    subst e
    cases r
    exact ⟨k, rfl, p H' F' s ho.unnil qt⟩
  | any => exact p.elim
  | non => exact p.elim
  | int => exact p.elim
  | str => exact p.elim
  | fn => exact p.elim
  | pr => exact p.elim
  | nd => exact p.elim
theorem gt_cmp {op} {f : D → D → Option D} (cf : CmpF X G op f) (ha : GO G pz X a ma) (hb : GO G pz X b mb) (hm : behindInMarks op b = false := by first | exact nomark _ | rfl) : GT G pz X (.Compare a [op] [b] pos) (mBl (m2 f ma mb)) := fun pn xe W σ H X0 pins F Q Γ tk ho q =>
  wT.of (pt_cmpR (cf.h pn xe) pe_w pe_w hm) (m2_run (Q := fun v H' => ∃ k, v = .bl k ∧ Q k H') cf.s ha hb pn xe tk ho (q_bl q))
theorem chain_run {op op'} {f f' : D → D → Option D} (cf : CmpF X G op f) (cf' : CmpF X G op' f') (ha : GO G pz X a ma) (hb : GO G pz X b mb) (hc : GO G pz X c mc) (pn xe) (tk : Takes (X.tr pn xe) W) (ho : Hold X.K G pz X0 pins Γ σ H F)
    (q : RgPost X.K G pz X0 pins F H σ W (VPost X.K G pz X0 pins F H σ Q) (mChain f f' ma mb mc Γ)) : tChain cf.r cf'.r (wE (X.tr pn xe) a) (wE (X.tr pn xe) b) (wE (X.tr pn xe) c) σ H Q :=
  ha pn xe W σ H X0 pins F _ Γ tk ho (q.bind fun da Γ1 q1 _ p1 v H1 F1 s1 ho1 o1 qt1 =>
    hb pn xe W σ H1 X0 pins F1 _ Γ1 tk ho1 (((p1.vaft s1 qt1).bind fun db Γ2 q2 _ p2 => p2).gd.mono fun db Γ2 q2 _ p2 y H2 F2 s2 ho2 o2 qt2 => by
      obtain ⟨hq, p2⟩ := p2
      have p2 := p2.vaft s2 qt2
      cases e : f da db with
      | none => rw [e] at p2; exact p2.elim
      | some z =>
        rw [e] at p2
        refine cf.s da db z e _ H2 v y _ (o1.step s2 qt2 hq) o2 fun u H3 Fv g fr nd ou => ?_
        cases z with
        | bl k =>
          have : u = .bl k := by cases (ou.rp rfl).1; rfl
          refine ⟨k, this, ?_⟩
          cases k with
          | false =>
            have p3 : RgPost X.K G pz X0 pins F2 H2 σ W (VPost X.K G pz X0 pins F2 H2 σ Q) (.ok (.bl false) Γ2 true) := p2
            exact (fr_v (ho2.grow g) (p3.vgrow g)).val .bl
          | true =>
            have p3 : RgPost X.K G pz X0 pins F2 H2 σ W (VPost X.K G pz X0 pins F2 H2 σ Q) (((mc Γ2).gd db.fz).bind fun dc Γ3 => .of (f' db dc) Γ3) := p2
            exact hc pn xe W σ H3 X0 pins F2 _ Γ2 tk (ho2.grow g) (((p3.vgrow g).bind fun dc Γ3 q3 _ p3 => p3).gd.mono fun dc Γ3 q3 _ p3 w H4 F4 s4 ho4 o4 qt4 => by
              obtain ⟨hq3, p3⟩ := p3
              obtain ⟨d, e, fr⟩ := fr_of ho4 (p3.vaft s4 qt4)
              exact cf'.s db dc d e _ H4 y w Q ((o2.grow g).step s4 qt4 hq3) o4 fr)
        | any => exact p2.elim
        | non => exact p2.elim
        | int => exact p2.elim
        | str => exact p2.elim
        | fn => exact p2.elim
        | pr => exact p2.elim
        | nd => exact p2.elim))
theorem gt_chain {op op'} {f f' : D → D → Option D} (cf : CmpF X G op f) (cf' : CmpF X G op' f') (ha : GO G pz X a ma) (hb : GO G pz X b mb) (hc : GO G pz X c mc) (hm : lastMarks [op, op'] [b, c] = false := by with_unfolding_all rfl) : GT G pz X (.Compare a [op, op'] [b, c] pos) (mBl (mChain f f' ma mb mc)) := fun pn xe W σ H X0 pins F Q Γ tk ho q =>
  wT.of (pt_chain (cf.h pn xe) (cf'.h pn xe) pe_w pe_w pe_w hm) (chain_run (Q := fun v H' => ∃ k, v = .bl k ∧ Q k H') cf cf' ha hb hc pn xe tk ho (q_bl q))
/-- a test by its value's truth -/
theorem gt_tru (h : GO G pz X e m) (ht : ∀ pn xe whole, isTrue e (X.tr pn xe).env whole = (do let v ← whole; standAt e.pos; holding [v] (truthy v)) := by intro _ _ _; rfl) : GT G pz X e (mTru m) := fun pn xe W σ H X0 pins F Q Γ tk ho q =>
  wT.of (pt_truth (X := X.tr pn xe) pe_w (ht pn xe)) (h pn xe W σ H X0 pins F _ Γ tk ho (q.bind fun d Γ1 q1 _ p v H' F' s ho' o qt => by
    cases e : d.truth with
    | none => rw [e] at p; exact p.elim
    | some k =>
      rw [e] at p
      have p : TPost X.K G pz X0 pins F H σ Q k Γ1 (q1 && true) := p
      rw [Bool.and_true] at p
      exact ⟨k, o.tru e, p H' F' s ho' qt⟩))
theorem gt_not (h : GT G pz X e mt) : GT G pz X (.UnaryOp .Not e pos) (mNot mt) := fun pn xe W σ H X0 pins F Q Γ tk ho q =>
  wT.of (pt_not pt_w) (h pn xe W σ H X0 pins F _ Γ tk ho (q.bind fun b Γ1 q1 _ p H' F' s ho' qt => by
    have p : TPost X.K G pz X0 pins F H σ Q (!b) Γ1 (q1 && true) := p
    rw [Bool.and_true] at p
    exact p H' F' s ho' qt))
theorem gw_and1 (h : GT G pz X a mt) : GW G pz X (.BoolOp .And [a] pos) mt := fun pn xe W σ H X0 pins F Q Γ tk ho q => wW.of (pw_and1 pt_w) (h pn xe W σ H X0 pins F Q Γ tk ho q)
theorem gw_or1 (h : GT G pz X a mt) : GW G pz X (.BoolOp .Or [a] pos) mt := fun pn xe W σ H X0 pins F Q Γ tk ho q => wW.of (pw_or1 pt_w) (h pn xe W σ H X0 pins F Q Γ tk ho q)
theorem gw_and (h1 : GT G pz X a m1) (h2 : GW G pz X (.BoolOp .And (b :: es) pos) m2') : GW G pz X (.BoolOp .And (a :: b :: es) pos) (mAnd m1 m2') := fun pn xe W σ H X0 pins F Q Γ tk ho q =>
  wW.of (pw_and pt_w pw_w) (h1 pn xe W σ H X0 pins F _ Γ tk ho (q.bind fun k Γ1 q1 _ p H' F' s ho' qt => by
    have p := p.taft s qt
    cases k with
    | true => exact h2 pn xe W σ H' X0 pins F' Q Γ1 tk ho' p
    | false => exact p H' F' (.refl _ _ _) ho' .refl))
theorem gw_or (h1 : GT G pz X a m1) (h2 : GW G pz X (.BoolOp .Or (b :: es) pos) m2') : GW G pz X (.BoolOp .Or (a :: b :: es) pos) (mOr m1 m2') := fun pn xe W σ H X0 pins F Q Γ tk ho q =>
  wW.of (pw_or pt_w pw_w) (h1 pn xe W σ H X0 pins F _ Γ tk ho (q.bind fun k Γ1 q1 _ p H' F' s ho' qt => by
    have p := p.taft s qt
    cases k with
    | false => exact h2 pn xe W σ H' X0 pins F' Q Γ1 tk ho' p
    | true => exact p H' F' (.refl _ _ _) ho' .refl))
/-! ### and, or, not, if as values -/
end
end GL
namespace GL
open PySem PySem.Spec PyProof.Rows L2
/-- looking up a key -/
def look {κ α : Type} [DecidableEq κ] : List κ → List α → κ → Option α
  | k :: ks, x :: xs, n => if k = n then some x else look ks xs n
  | _, _, _ => none
def D.fld (cs : List Str) (f : Str) : D → Option D
  | .nd _ (.ins c fs) l => if c ∈ cs then look fs l f else none
  | _ => none
def mFld (cs : List Str) (f : Str) (m : Sl → Re) : Sl → Re := fun Γ => (m Γ).bind fun d Γ => .of (d.fld cs f) Γ
def D.key : D → Option Key
  | .int i => some (.inl i)
  | .str s => some (.inr s)
  | _ => none
def D.keys : List D → Option (List Key)
  | [] => some []
  | d :: l => match d.key, D.keys l with
    | some k, some ks => some (k :: ks)
    | _, _ => none
def D.keyT : D → Option (List Key)
  | .nd _ .tup l => D.keys l
  | _ => none
/-- looking up in a dict -/
def D.dget : D → D → Option (Option D)
  | .nd _ (.dK ks) l, d => d.key.map (look ks l)
  | .nd _ (.dT ks) l, d => d.keyT.map (look ks l)
  | _, _ => none
def ixD : D → D → Option D
  | .nd _ .lst l, .int i => atI l i
  | .nd _ .tup l, .int i => atI l i
  | .nd _ .ktp l, .int i => atI l i
  | .nd _ .scr l, .int i => atI l i
  | .str z, .int i => if z.length ≤ sizeLine then (atI z.cps.toList i).map fun c => .str ⟨#[c]⟩ else none
  | .nd o (.dK ks) l, d => ((D.nd o (.dK ks) l).dget d).join
  | .nd o (.dT ks) l, d => ((D.nd o (.dT ks) l).dget d).join
  | _, _ => none
def mNil : Sl → Rg (List D) := fun Γ => .ok [] Γ true
def mCons (m : Sl → Re) (ms : Sl → Rg (List D)) : Sl → Rg (List D) := fun Γ => (m Γ).bind fun d Γ1 => ((ms Γ1).gd d.fz).bind fun ds Γ2 => .ok (d :: ds) Γ2 true
def mCall (f : List D → Option D) (ms : Sl → Rg (List D)) : Sl → Re := fun Γ => (ms Γ).bind fun ds Γ => .of (f ds) Γ
def tupD (ds : List D) : Option D := if (ds.all D.fz && decide (ds.length ≤ sizeLine)) = true then some (.tup ds) else none
def lstD (ds : List D) : Option D := if (ds.all D.fz && decide (ds.length ≤ sizeLine)) = true then some (.nd true .lst ds) else none
section
variable {K : PySem.W.Frag} {G : Wd} {pz : List Nat} {X0 F F' F1 Fv Y : List Addr} {pins : Nat → V} {Γ Γ1 : Sl} {σ : L2.St} {H H' H1 : Hp} {X : Cx} {a b c e o : Expr} {es : List Expr} {d da db dc : D} {v x y : V} {p pos : Pos} {W : WX} {Q : VK} {q q1 q2 : Bool} {m ma mb mc : Sl → Re} {ms : Sl → Rg (List D)}
theorem look_of {κ : Type} [DecidableEq κ] : ∀ {kvs : List (κ × V)} {l : List D} {F : List Addr} {k : κ}, Owns K G Y H (kvs.map (·.2)) l F → (∀ d, look (kvs.map (·.1)) l k = some d → ∃ v, valV kvs k = some v ∧ Bw K G H Y v d) ∧ (look (kvs.map (·.1)) l k = none → valV kvs k = none)
  | [], _, _, _, _ => ⟨fun d h => (by cases h), fun _ => rfl⟩
  | (k', w) :: kvs, d' :: l, _, k, .cons h r => by
    by_cases e : k' = k
    · refine ⟨fun d hd => ?_, fun hd => ?_⟩
      · rw [List.map_cons, look, if_pos e] at hd
        cases hd
        exact ⟨w, valV_pos e, _, h⟩
      · rw [List.map_cons, look, if_pos e] at hd
        cases hd
    · obtain ⟨g1, g2⟩ := look_of (kvs := kvs) (k := k) r
      refine ⟨fun d hd => ?_, fun hd => ?_⟩
      · rw [List.map_cons, look, if_neg e] at hd
        rw [valV_neg e]
        exact g1 d hd
      · rw [List.map_cons, look, if_neg e] at hd
        rw [valV_neg e]
        exact g2 hd
theorem look_fld : ∀ {fvs : List (Str × V)} {l : List D} {F : List Addr} {k : Str}, Owns K G Y H (fvs.map (·.2)) l F → (∀ d, look (fvs.map (·.1)) l k = some d → ∃ v, fvs.lookup k = some v ∧ Bw K G H Y v d) ∧ (look (fvs.map (·.1)) l k = none → fvs.lookup k = none)
  | [], _, _, _, _ => ⟨fun d h => (by cases h), fun _ => rfl⟩
  | (k', w) :: kvs, d' :: l, _, k, .cons h r => by
    by_cases e : k' = k
    · subst e
      refine ⟨fun d hd => ?_, fun hd => ?_⟩
      · rw [List.map_cons, look, if_pos rfl] at hd
        cases hd
        exact ⟨w, List.lookup_cons_self, _, h⟩
      · rw [List.map_cons, look, if_pos rfl] at hd
        cases hd
    · obtain ⟨g1, g2⟩ := look_fld (fvs := kvs) (k := k) r
      have ek : (k == k') = false := beq_eq_false_iff_ne.mpr fun z => e z.symm
      refine ⟨fun d hd => ?_, fun hd => ?_⟩
      · rw [List.map_cons, look, if_neg e] at hd
        rw [List.lookup_cons, ek]
        exact g1 d hd
      · rw [List.map_cons, look, if_neg e] at hd
        rw [List.lookup_cons, ek]
        exact g2 hd
theorem Bw.ins {o c fs l} (h : Bw K G H Y v (.nd o (.ins c fs) l)) : ∃ p dx fvs F, v = .ref p ∧ H p = some (.ins (G.cls c) dx fvs) ∧ fvs.map (·.1) = fs ∧ Owns K G Y H (fvs.map (·.2)) l F := by
  obtain ⟨F, h⟩ := h
  cases h with
  | fz r =>
    cases r with
    | nd h r =>
      obtain ⟨_, dx, fvs, h1, h2, h3⟩ := h
      subst h3
      exact ⟨_, dx, fvs, [], rfl, h1, h2, r.owns⟩
  | nd h r =>
    obtain ⟨_, e, dx, fvs, rfl, h2, h3⟩ := h
    subst h3
    exact ⟨_, dx, fvs, _, rfl, e, h2, r⟩
theorem Bw.dK {o ks l} (h : Bw K G H Y v (.nd o (.dK ks) l)) : ∃ p kvs F, v = .ref p ∧ Rd H p (.dK kvs) ∧ kvs.map (·.1) = ks ∧ Owns K G Y H (kvs.map (·.2)) l F := by
  obtain ⟨F, h⟩ := h
  cases h with
  | fz r =>
    cases r with
    | nd h r =>
      obtain ⟨_, kvs, h1, h2, h3⟩ := h
      subst h3
      exact ⟨_, kvs, [], rfl, h1, h2, r.owns⟩
  | nd h r =>
    obtain ⟨_, e, kvs, rfl, h2, h3⟩ := h
    subst h3
    exact ⟨_, kvs, _, rfl, .inl e, h2, r⟩
theorem Bw.dT {o ks l} (h : Bw K G H Y v (.nd o (.dT ks) l)) : ∃ p kvs F, v = .ref p ∧ Rd H p (.dT kvs) ∧ kvs.map (·.1) = ks ∧ Owns K G Y H (kvs.map (·.2)) l F := by
  obtain ⟨F, h⟩ := h
  cases h with
  | fz r =>
    cases r with
    | nd h r =>
      obtain ⟨_, kvs, h1, h2, h3⟩ := h
      subst h3
      exact ⟨_, kvs, [], rfl, h1, h2, r.owns⟩
  | nd h r =>
    obtain ⟨_, e, kvs, rfl, h2, h3⟩ := h
    subst h3
    exact ⟨_, kvs, _, rfl, .inl e, h2, r⟩
theorem Rp.key {k : Key} (r : Rp K G Y H v d) (e : d.key = some k) : v = kV k := by
  cases r <;> first | (cases e; rfl) | cases e
theorem Bw.key {k : Key} (h : Bw K G H Y v d) (e : d.key = some k) : v = kV k := by
  obtain ⟨_, h⟩ := h
  cases h with
  | fz r => exact r.key e
  | nd => cases e
  | pr => cases e
theorem Rps.keys : ∀ {vs : List V} {l : List D} {ks : List Key}, Rps K G Y H vs l → D.keys l = some ks → vs = ks.map kV
  | _, _, _, .nil, e => by cases e; rfl
  | _, d :: l, ks, .cons r q, e => by
    rw [D.keys] at e
    split at e
    · rename_i k ks' h1 h2
      cases e
      rw [List.map_cons, r.key h1, Rps.keys q h2]
    · cases e
theorem Bw.keyT {k : List Key} (h : Bw K G H Y v d) (e : d.keyT = some k) : ∃ b, v = .ref b ∧ H b = some (.tup (k.map kV)) := by
  unfold D.keyT at e
  split at e
  · obtain ⟨p, vs, rfl, h1, h2⟩ := h.tupH
    rw [h2.keys e] at h1
    exact ⟨p, rfl, h1⟩
  · cases e
/-- a dict is looked up -/
theorem Bw.dget {r : Option D} (h1 : Bw K G H Y x da) (h2 : Bw K G H Y y db) (e : da.dget db = some r) : ∃ p ov, x = .ref p ∧ DGet H p y ov ∧ (r = none → ov = none) ∧ ∀ d, r = some d → ∃ v, ov = some v ∧ Bw K G H Y v d := by
  unfold D.dget at e
  split at e
  · obtain ⟨k, e1, e2⟩ := Option.map_eq_some_iff.mp e
    obtain ⟨p, kvs, F, rfl, g1, rfl, g3⟩ := h1.dK
    obtain ⟨l1, l2⟩ := look_of (k := k) g3
    exact ⟨p, valV kvs k, rfl, .inl ⟨kvs, k, g1, h2.key e1, rfl⟩, fun z => l2 (e2.trans z), fun d z => l1 d (e2.trans z)⟩
  · obtain ⟨k, e1, e2⟩ := Option.map_eq_some_iff.mp e
    obtain ⟨p, kvs, F, rfl, g1, rfl, g3⟩ := h1.dT
    obtain ⟨l1, l2⟩ := look_of (k := k) g3
    obtain ⟨b, rfl, hb⟩ := h2.keyT e1
    exact ⟨p, valV kvs k, rfl, .inr ⟨kvs, k, b, g1, rfl, hb, rfl⟩, fun z => l2 (e2.trans z), fun d z => l1 d (e2.trans z)⟩
  · cases e
/-- o.f -/
theorem go_fld {cs : List Str} {f : Str} (h : GO G pz X o m) (hc : ∀ c ∈ cs, Cls X.K (G.cls c) ∧ NoAttr X.K (G.cls c) f) (hb : ∀ pn xe, attributeBase o f (X.tr pn xe).env (eval o (X.tr pn xe).env) = eval o (X.tr pn xe).env := by intro _ _; rfl) : GO G pz X (.Attribute o f pos) (mFld cs f m) := fun pn xe W σ H X0 pins F Q Γ tk ho q =>
  wE.of (pe_fld (X := X.tr pn xe) pe_w (hb pn xe)) (h pn xe W σ H X0 pins F _ Γ tk ho (q.bind fun d Γ1 q1 _ p v H' F' s ho' ov qt => by
    cases e : d.fld cs f with
    | none => rw [e] at p; exact p.elim
    | some d' =>
      rw [e] at p
      have p : OPost X.K G pz X0 pins F H σ Q d' Γ1 (q1 && true) := p
      rw [Bool.and_true] at p
      unfold D.fld at e
      split at e
      · split at e
        · rename_i hm
          obtain ⟨pa, dx, fvs, F2, rfl, g1, rfl, g3⟩ := ov.ins
          obtain ⟨w, l1, l2⟩ := (look_fld g3).1 _ e
          exact ⟨pa, _, dx, fvs, w, rfl, g1, (hc _ hm).1, (hc _ hm).2, l1, p w H' F' s ho' l2 qt⟩
        · cases e
      · cases e))
/-- r is what f says, read only -/
theorem m2_runO {r : R2} {f : D → D → Option D} {da : D} {q1 : Bool} (hr : ∀ db d, f da db = some d → ∀ Y H x y (Q : VK), Bw X.K G H Y x da → Bw X.K G H Y y db → (∀ v, Bw X.K G H Y v d → Q v H) → r x y H Q) (ea : ma Γ = .ok da Γ1 q1) (ha : GO G pz X a ma) (hb : GO G pz X b mb) (pn xe) (tk : Takes (X.tr pn xe) W) (ho : Hold X.K G pz X0 pins Γ σ H F)
    (q : RgPost X.K G pz X0 pins F H σ W (OPost X.K G pz X0 pins F H σ Q) (m2 f ma mb Γ)) : wE (X.tr pn xe) a σ H fun x H1 => wE (X.tr pn xe) b σ H1 fun y H2 => r x y H2 Q :=
  ha pn xe W σ H X0 pins F _ Γ tk ho (q.bind fun da' Γ1' q1' e1 p1 v H1 F1 s1 ho1 o1 qt1 => by
    rw [ea] at e1
    cases e1
    exact hb pn xe W σ H1 X0 pins F1 _ Γ1 tk ho1 (((p1.oaft s1 qt1).bind fun db Γ2 q2 _ p2 => p2).gd.mono fun db Γ2 q2 _ p2 y H2 F2 s2 ho2 o2 qt2 => by
      obtain ⟨hq, p2⟩ := p2
      have p2 := p2.oaft s2 qt2
      cases e : f da db with
      | none => rw [e] at p2; exact p2.elim
      | some d =>
        rw [e] at p2
        exact hr db d e _ H2 v y Q (o1.step s2 qt2 hq) o2 fun w ow => p2 w H2 F2 (.refl _ _ _) ho2 ow .refl))
theorem Owns.atI {vs : List V} {l : List D} {F : List Addr} {i : Int} (h : Owns K G Y H vs l F) (e : L2.atI l i = some d) : ∃ v, L2.atI vs i = some v ∧ Bw K G H Y v d := by
  unfold L2.atI at e ⊢
  rw [h.length]
  cases hx : ixN l.length i with
  | none => rw [hx] at e; cases e
  | some j =>
    rw [hx] at e
    obtain ⟨v, F1, h1, h2⟩ := h.get' e
    exact ⟨v, h1, F1, h2⟩
/-- a[b] -/
theorem go_ix (hu : X.A.units + 1 < cLine) (ha : GO G pz X a ma) (hb : GO G pz X b mb) (hs : PlainIx b := by intro _ _; rfl) : GO G pz X (.Subscript a b pos) (m2 ixD ma mb) := fun pn xe W σ H X0 pins F Q Γ tk ho q => by
  have seq : ∀ {da Γ1 q1}, ma Γ = .ok da Γ1 q1 → (∀ db d, ixD da db = some d → ∀ Y H x y (Q : VK), Bw X.K G H Y x da → Bw X.K G H Y y db → (∀ v, Bw X.K G H Y v d → Q v H) → rIx X.K x y H Q) → wE (X.tr pn xe) (.Subscript a b pos) σ H Q := fun {da Γ1 q1} ea hr =>
    wE.of (pe_ix (X := X.tr pn xe) ix_seq pe_w pe_w hs) (m2_runO hr ea ha hb pn xe tk ho q)
  have dic : ∀ {da Γ1 q1}, ma Γ = .ok da Γ1 q1 → (∀ db, ixD da db = (da.dget db).join) → wE (X.tr pn xe) (.Subscript a b pos) σ H Q := fun {da Γ1 q1} ea hd =>
    wE.of (pe_dget (X := X.tr pn xe) hu pe_w pe_w hs) (m2_runO (r := fun x y H Q => ∃ a v, x = .ref a ∧ DGet H a y (some v) ∧ Q v H) (fun db d e Y H x y Q o1 o2 k => by
      rw [hd] at e
      cases hg : da.dget db with
      | none => rw [hg] at e; cases e
      | some r =>
        rw [hg] at e
        obtain ⟨pa, ov, e1, g, _, g2⟩ := o1.dget o2 hg
        obtain ⟨w, e2, ow⟩ := g2 d e
        subst e2
        exact ⟨pa, w, e1, g, k w ow⟩) ea ha hb pn xe tk ho q)
  cases ea : ma Γ with
  | er e Γ1 => exact wE.of (pe_ix (X := X.tr pn xe) ix_seq pe_w pe_w hs) (ha pn xe W σ H X0 pins F _ Γ tk ho (q.bind fun da Γ1 q1 e _ => by rw [ea] at e; cases e))
  | st => exact wE.of (pe_ix (X := X.tr pn xe) ix_seq pe_w pe_w hs) (ha pn xe W σ H X0 pins F _ Γ tk ho (q.bind fun da Γ1 q1 e _ => by rw [ea] at e; cases e))
  | ok da Γ1 q1 =>
    cases da with
    | any => exact seq ea fun db d e => by cases e
    | non => exact seq ea fun db d e => by cases e
    | bl => exact seq ea fun db d e => by cases e
    | int => exact seq ea fun db d e => by cases e
    | fn => exact seq ea fun db d e => by cases e
    | pr => exact seq ea fun db d e => by cases e
    | str z =>
      refine seq ea fun db d e Y H x y Q o1 o2 k => ?_
      cases db with
      | int i =>
        rw [ixD] at e
        split at e
        · rename_i hz
          obtain ⟨cc, e1, e2⟩ := Option.map_eq_some_iff.mp e
          subst e2
          exact .inr (.inr ⟨z, i, cc, o1.str, o2.int, hz, e1, k _ (Rp.bw .str)⟩)
        · cases e
      | _ => cases e
    | nd o kd l =>
      cases kd with
      | lst =>
        refine seq ea fun db d e Y H x y Q o1 o2 k => ?_
        cases db with
        | int i =>
          obtain ⟨pa, vs, F1, rfl, g1, g2, _⟩ := o1.lst
          obtain ⟨w, e1, ow⟩ := g2.atI e
          exact .inl ⟨pa, vs, i, w, rfl, o2.int, .inl (.inl g1), e1, k w ow⟩
        | _ => cases e
      | tup =>
        refine seq ea fun db d e Y H x y Q o1 o2 k => ?_
        cases db with
        | int i =>
          obtain ⟨pa, vs, rfl, g1, g2⟩ := o1.tup
          obtain ⟨w, e1, ow⟩ := g2.owns.atI e
          exact .inr (.inl ⟨pa, vs, i, w, rfl, o2.int, g1, e1, k w ow⟩)
        | _ => cases e
      | ktp =>
        refine seq ea fun db d e Y H x y Q o1 o2 k => ?_
        cases db with
        | int i =>
          obtain ⟨pa, vs, rfl, g1, g2⟩ := o1.ktp
          obtain ⟨w, e1, ow⟩ := g2.owns.atI e
          exact .inr (.inl ⟨pa, vs, i, w, rfl, o2.int, g1, e1, k w ow⟩)
        | _ => cases e
      | scr =>
        refine seq ea fun db d e Y H x y Q o1 o2 k => ?_
        cases db with
        | int i =>
          obtain ⟨pa, vs, rfl, g1, g2⟩ := o1.scr
          obtain ⟨w, e1, ow⟩ := g2.owns.atI e
          exact .inl ⟨pa, vs, i, w, rfl, o2.int, g1, e1, k w ow⟩
        | _ => cases e
      | ptu => exact seq ea fun db d e => by cases e
      | dK ks => exact dic ea fun db => rfl
      | dT ks => exact dic ea fun db => rfl
      | ins c fs => exact seq ea fun db d e => by cases e

/-! ### several operands, displays, calls of builtins -/
theorem ga_nil : GA G pz X [] mNil := fun pn xe W σ H X0 pins F Q Γ tk ho q => wA.of pa_nil (q [] H F (.refl _ _ _) ho .nil .refl)
theorem ga_cons (h : GO G pz X e m) (hr : GA G pz X es ms) (hs : ∀ pn xe, starEach (e :: es) (X.tr pn xe).env = (false, eval e (X.tr pn xe).env) :: starEach es (X.tr pn xe).env := by intro _ _; rfl) : GA G pz X (e :: es) (mCons m ms) := fun pn xe W σ H X0 pins F Q Γ tk ho q =>
  wA.of (pa_cons (X := X.tr pn xe) pe_w pa_w (hs pn xe)) (h pn xe W σ H X0 pins F _ Γ tk ho (q.bind fun d Γ1 q1 _ p1 v H1 F1 s1 ho1 o1 qt1 =>
    hr pn xe W σ H1 X0 pins F1 _ Γ1 tk ho1 (((p1.laft s1 qt1).bind fun ds Γ2 q2 _ p2 => p2).gd.mono fun ds Γ2 q2 _ p2 vs H2 F2 s2 ho2 o2 qt2 => by
      obtain ⟨hq, p2⟩ := p2
      exact (p2.laft s2 qt2) (v :: vs) H2 F2 (.refl _ _ _) ho2 (.cons (o1.step s2 qt2 hq) o2) .refl)))
theorem Bws.rps {vs : List V} {ds : List D} (h : Bws K G H Y vs ds) (hd : ds.all D.fz = true) : Rps K G Y H vs ds := by
  induction h with
  | nil => exact .nil
  | cons r _ ih =>
    rw [List.all_cons, Bool.and_eq_true] at hd
    exact .cons (r.rp hd.1) (ih hd.2)
/-- what is made of several values -/
theorem mCall_run {f : List D → Option D} (pn xe) (h : GA G pz X es ms) (tk : Takes (X.tr pn xe) W) (ho : Hold X.K G pz X0 pins Γ σ H F) {R : List V → Hp → Prop} (q : RgPost X.K G pz X0 pins F H σ W (VPost X.K G pz X0 pins F H σ Q) (mCall f ms Γ))
    (k : ∀ ds d, f ds = some d → ∀ Y H vs, Lv Y H → Bws X.K G H Y vs ds → FrQ X.K G H Y d Q → R vs H) : wA (X.tr pn xe) es σ H R :=
  h pn xe W σ H X0 pins F _ Γ tk ho (q.bind fun ds Γ1 q1 _ p1 vs H1 F1 s1 ho1 o1 qt1 => by
    obtain ⟨d, e, fr⟩ := fr_of ho1 (p1.vaft s1 qt1)
    exact k ds d e _ H1 vs ho1.liveX o1 fr)
theorem ge_tup {x1} (h : GA G pz X es ms) : GE G pz X (.Tuple es x1 pos) (mCall tupD ms) := fun pn xe W σ H X0 pins F Q Γ tk ho q =>
  wE.of (pe_tup pa_w) (mCall_run pn xe h tk ho q fun ds d e Y H vs lv o fr => by
    unfold tupD at e
    split at e
    · rename_i hd
      cases e
      rw [Bool.and_eq_true, decide_eq_true_eq] at hd
      have r := o.rps hd.1
      exact ⟨by rw [r.length]; exact hd.2, fun p hp => fr_tup fr lv hp r⟩
    · cases e)
theorem ge_lst (h : GA G pz X es ms) : GE G pz X (.List es pos) (mCall lstD ms) := fun pn xe W σ H X0 pins F Q Γ tk ho q =>
  wE.of (pe_lst pa_w) (mCall_run pn xe h tk ho q fun ds d e Y H vs lv o fr => by
    unfold lstD at e
    split at e
    · rename_i hd
      cases e
      rw [Bool.and_eq_true, decide_eq_true_eq] at hd
      have r := o.rps hd.1
      exact ⟨by rw [r.length]; exact hd.2, fun p hp => fr_new fr hp rfl r⟩
    · cases e)
/-- a builtin is f -/
structure CallF (X : Cx) (G : Wd) (fn : Value) (f : List D → Option D) where
  r : List V → Hp → VK → Prop
  h : ∀ pn xe, CallR (X.tr pn xe) fn r
  s : ∀ ds d, f ds = some d → ∀ Y H vs (Q : VK), Lv Y H → Bws X.K G H Y vs ds → FrQ X.K G H Y d Q → r vs H Q
theorem ge_bltn {x : Str} {id : String} {f : List D → Option D} (cf : CallF X G (.builtin id) f) (h : GA G pz X (e :: es) ms) (hm : X.mg x = none) (hv : bootBuiltins x = some (.builtin id) := by rfl) (hg : Gl X x := by rfl) (hn : x ≠ "__name__" := by decide) (hdb : (x == ("__debug__" : Str)) = false := by decide)
    (he : ∀ pn xe, starEach (e :: es) (X.tr pn xe).env = (false, eval e (X.tr pn xe).env) :: starEach es (X.tr pn xe).env := by intro _ _; rfl) (hpl : ∀ pn xe, (backTo pos (starEach es (X.tr pn xe).env)).any (·.1) = false := by intro _ _; rfl) : GE G pz X (.Call (.Name x p) (e :: es) [] pos) (mCall f ms) := fun pn xe W σ H X0 pins F Q Γ tk ho q =>
  wE.of (pe_callB (X := X.tr pn xe) (cf.h pn xe) hg hm hv pa_w hn hdb (he pn xe) (hpl pn xe)) (mCall_run pn xe h tk ho q fun ds d e Y H vs lv o fr => cf.s ds d e Y H vs _ lv o fr)
theorem ge_type {x : Str} {T : String} {f : List D → Option D} (cf : CallF X G (.type T) f) (h : GA G pz X (e :: es) ms) (hm : X.mg x = none) (hv : bootBuiltins x = some (.type T) := by rfl) (hg : Gl X x := by rfl) (hn : x ≠ "__name__" := by decide) (hdb : (x == ("__debug__" : Str)) = false := by decide)
    (he : ∀ pn xe, starEach (e :: es) (X.tr pn xe).env = (false, eval e (X.tr pn xe).env) :: starEach es (X.tr pn xe).env := by intro _ _; rfl) (hpl : ∀ pn xe, (backTo pos (starEach es (X.tr pn xe).env)).any (·.1) = false := by intro _ _; rfl) : GE G pz X (.Call (.Name x p) (e :: es) [] pos) (mCall f ms) := fun pn xe W σ H X0 pins F Q Γ tk ho q =>
  wE.of (pe_callTy (X := X.tr pn xe) (cf.h pn xe) hg hm hv pa_w hn hdb (he pn xe) (hpl pn xe)) (mCall_run pn xe h tk ho q fun ds d e Y H vs lv o fr => cf.s ds d e Y H vs _ lv o fr)
end
end GL
namespace GL
open PySem PySem.Spec PyProof.Rows L2
def wG (X : Cx) (tg : Expr) : TG := fun v σ H Q => ∀ pins s u, Inv X pins σ H s → RelV v u → wpAny (model X.prog X.w) X.A (assign tg X.env u) (fun _ s' => ∃ σ' H', Inv X pins σ' H' s' ∧ Q σ' H') X.xe s
theorem pg_w {X : Cx} {tg : Expr} : PG X tg (wG X tg) := ⟨fun pins s _ _ _ u _ I r h => h pins s u I r⟩
theorem wG.of {X : Cx} {tg : Expr} {t : TG} {v σ H Q} (h : PG X tg t) (q : t v σ H Q) : wG X tg v σ H Q := fun pins s u I r => h.run pins s σ H v u Q I r q
def wGs (X : Cx) (tg : List Expr) : TGs := fun vs σ H Q => ∀ pins s us, Inv X pins σ H s → Vals vs us → wpAny (model X.prog X.w) X.A (assignInOrder ((assignEach tg X.env).map (·.2)) us) (fun _ s' => ∃ σ' H', Inv X pins σ' H' s' ∧ Q σ' H') X.xe s
theorem pgs_w {X : Cx} {tg : List Expr} : PGs X tg (wGs X tg) := ⟨fun pins s _ _ _ us _ I r h => h pins s us I r⟩
theorem wGs.of {X : Cx} {tg : List Expr} {t : TGs} {vs σ H Q} (h : PGs X tg t) (q : t vs σ H Q) : wGs X tg vs σ H Q := fun pins s us I r => h.run pins s σ H vs us Q I r q
/-- behind an expression -/
def Rg.so {α : Type} (r : Rg α) (k : α → Sl → So) : So := match r with
  | .ok x Γ _ => k x Γ
  | .er e Γ => .er e Γ
  | .st => .st
def So.seq (o : So) (k : Sl → So) : So := match o with
  | .nx Γ => k Γ
  | o => o
def sNil : Sl → So := .nx
def sSeq (s k : Sl → So) : Sl → So := fun Γ => (s Γ).seq k
def sExpr (m : Sl → Re) : Sl → So := fun Γ => (m Γ).so fun _ Γ => .nx Γ
def sRet (m : Sl → Re) : Sl → So := fun Γ => (m Γ).so .rt
def sIf (m : Sl → Rg Bool) (a b : Sl → So) : Sl → So := fun Γ => (m Γ).so fun k Γ => if k = true then a Γ else b Γ
/-- stored: kept as an owned thing where mu -/
def keepD (mu : Bool) (d : D) : D := if mu = true then d else d.cold
def sSet (i : Nat) (mu : Bool) (m : Sl → Re) : Sl → So := fun Γ => (m Γ).so fun d Γ => .nx (Γ.set i (some (keepD mu d)))
def frzS (Γ : Sl) (i : Nat) : Sl := match Γ[i]? with
  | some (some d) => Γ.set i (some d.cold)
  | _ => Γ
/-- several values, one after the other -/
def mvNil : Sl → Rg (List D) := fun Γ => .ok [] Γ true
def mvCons (m : Sl → Re) (ms : Sl → Rg (List D)) : Sl → Rg (List D) := fun Γ => (m Γ).bind fun d Γ1 => (ms Γ1).bind fun ds Γ2 => .ok (d :: ds) Γ2 true
abbrev Tg := D → Sl → Option Sl
def tgName (i : Nat) (mu : Bool) : Tg := fun d Γ => some (Γ.set i (some (keepD mu d)))
def tgAll : List Tg → List D → Sl → Option Sl
  | [], [], Γ => some Γ
  | t :: ts, d :: ds, Γ => (t d Γ).bind (tgAll ts ds)
  | _, _, _ => none
def tgTup (ts : List Tg) : Tg := fun d Γ => match d with
  | .nd false .tup l => tgAll ts l Γ
  | .nd false .ktp l => tgAll ts l Γ
  | _ => none
def So.of (o : Option Sl) : So := match o with
  | some Γ => .nx Γ
  | none => .st
def sAsg (t : Tg) (m : Sl → Re) : Sl → So := fun Γ => (m Γ).so fun d Γ => .of (t d Γ)
def sPar (ts : List Tg) (ms : Sl → Rg (List D)) : Sl → So := fun Γ => (ms Γ).so fun ds Γ => if ds.length ≤ sizeLine then .of (tgAll ts ds Γ) else .st
section
variable {K : PySem.W.Frag} {G : Wd} {pz : List Nat} {X0 F F' F1 Fv Fw Y : List Addr} {pins : Nat → V} {Γ Γ1 : Sl} {σ : L2.St} {H H' H1 : Hp} {X : Cx} {a b c e o : Expr} {es : List Expr} {d da db dc : D} {v x y : V} {p pos : Pos} {W : WX} {Q : VK} {q q1 q2 : Bool} {m ma mb mc : Sl → Re} {ms : Sl → Rg (List D)} {mt : Sl → Rg Bool} {st : Stmt} {rest A B : List Stmt} {s k s1 s2 : Sl → So} {tg : Expr} {tgs : List Expr} {t : Tg} {ts : List Tg} {D' : Ends} {ds : List D}
theorem wS.inv {σ : L2.St} {H : Hp} (h : ∀ pins s, Inv X pins σ H s → wS X st D' σ H) : wS X st D' σ H := fun pins s I => h pins s I pins s I
theorem wG.inv {σ : L2.St} {H : Hp} {Q : L2.St → Hp → Prop} (h : ∀ pins s, Inv X pins σ H s → wG X tg v σ H Q) : wG X tg v σ H Q := fun pins s u I r => h pins s I pins s u I r
theorem Hold.lt (ho : Hold K G pz X0 pins Γ σ H F) {N : List Str} {i : Nat} {x : Str} (hl : σ.length = N.length) (hi : N[i]? = some x) : i < Γ.length := by
  obtain ⟨F0, sl, _⟩ := ho.sl
  rw [← sl.len, hl]
  exact (List.getElem?_eq_some_iff.mp hi).1
theorem So.bind {P : So} {r : Rg α} {f : α → Sl → So} {Pk : α → Sl → Bool → Prop} (h : SoPost K G pz X0 pins F H D' W (r.so f)) (k : ∀ x Γ q, r = .ok x Γ q → SoPost K G pz X0 pins F H D' W (f x Γ) → Pk x Γ q) : RgPost K G pz X0 pins F H σ W Pk r := by
  cases r with
  | ok x Γ q => exact k x Γ q rfl h
  | er => exact fun c dd H' F' s ho xr => h c dd σ H' F' s ho xr
  | st => exact h
/-! ### statements -/
theorem gb_nil : GB G pz X [] sNil := fun pn xe W σ H X0 pins F D Γ tk hp ho q => wB.of pss_nil (q σ H F (.refl _ _ _) ho)
theorem gb_cons (h : GS G pz X st s) (hr : GB G pz X rest k) : GB G pz X (st :: rest) (sSeq s k) := fun pn xe W σ H X0 pins F D Γ tk hp ho q =>
  wB.of (pss_cons ps_w pss_w) (h pn xe W σ H X0 pins F _ Γ tk hp ho (by
    unfold sSeq at q
    cases e : s Γ with
    | nx Γ1 =>
      rw [e] at q
      exact fun σ' H' F' s0 ho' => hr pn xe W σ' H' X0 pins F' D Γ1 tk hp ho' (q.after s0)
    | rt => rw [e] at q; exact q
    | bk => rw [e] at q; exact q
    | ct => rw [e] at q; exact q
    | er => rw [e] at q; exact q
    | st => rw [e] at q; exact q))
theorem gs_expr (h : GE G pz X e m) (hs : ∀ pn xe, swapsWith e none pos.line (X.tr pn xe).env = pure false := by intro _ _; rfl) : GS G pz X (.Expr e pos) (sExpr m) := fun pn xe W σ H X0 pins F D Γ tk hp ho q =>
  wS.of (ps_expr (X := X.tr pn xe) pe_w (hs pn xe)) (h pn xe W σ H X0 pins F _ Γ tk ho (So.bind (P := .st) q fun d Γ1 q1 _ p v H' F' Fv s0 ho' o qt => p σ H' F' (s0.shrink fun a ha => List.mem_append_right _ ha) ho'.drop))
theorem gs_ret (h : GE G pz X e m) : GS G pz X (.Return (some e) pos) (sRet m) := fun pn xe W σ H X0 pins F D Γ tk hp ho q =>
  wS.of (ps_ret pe_w) (h pn xe W σ H X0 pins F _ Γ tk ho (So.bind (P := .st) q fun d Γ1 q1 _ p v H' F' Fv s0 ho' o qt => p v σ H' F' Fv s0 ho' o))
theorem gs_if (hc : GT G pz X c mt) (h1 : GB G pz X A s1) (h2 : GB G pz X B s2) : GS G pz X (.If c A B pos) (sIf mt s1 s2) := fun pn xe W σ H X0 pins F D Γ tk hp ho q =>
  wS.of (ps_if pt_w pss_w pss_w) (hc pn xe W σ H X0 pins F _ Γ tk ho (So.bind (P := .st) q fun b Γ1 q1 _ p H' F' s0 ho' qt => by
    have p := p.after s0
    cases b with
    | true => exact h1 pn xe W σ H' X0 pins F' D Γ1 tk hp ho' p
    | false => exact h2 pn xe W σ H' X0 pins F' D Γ1 tk hp ho' p))
/-- a slot is stored, kept owned or come to a stand -/
theorem Hold.keep (ho : Hold K G pz (X0 ++ Fv) pins Γ σ H F) (o : Own K G ((X0 ++ Fv) ++ F) H v d Fv) (mu : Bool) {i : Nat} (hi : i < Γ.length) (hz : i ∉ pz) : ∃ F1, Hold K G pz X0 pins (Γ.set i (some (keepD mu d))) (σ.set i (some v)) H F1 ∧ ∀ a ∈ F1, a ∈ Fv ++ F := by
  unfold keepD
  cases mu with
  | true => exact ho.put o hi hz
  | false =>
    obtain ⟨F1, h1, h2⟩ := (ho.drop.nil).put (Own.fz (ho.thaw o)).nil hi hz
    exact ⟨F1, h1, fun a ha => List.mem_append_right _ (h2 a ha)⟩
theorem gs_set (i : Nat) (mu : Bool) {x : Str} {pos' : Pos} (h : GE G pz X e m) (hz : i ∉ pz := by decide) (hN : X.N.Nodup := by decide) (hi : X.N[i]? = some x := by rfl) (hx : Loc X.env.scope x := by first | exact Or.inl rfl | exact Or.inr rfl)
    (hs : ∀ pn xe, swapsWith e (some (.Name x pos')) pos.line (X.tr pn xe).env = pure false := by intro _ _; rfl) (hfn : X.fn x = true ∨ X.env.scope.names.lookup x = some .local := by first | exact .inl rfl | exact .inr rfl) :
    GS G pz X (.Assign [.Name x pos'] e pos) (sSet i mu m) := fun pn xe W σ H X0 pins F D Γ tk hp ho q => wS.inv fun pi s I =>
  wS.of (ps_set (X := X.tr pn xe) (i := i) hN hi hx pe_w (hs pn xe) hfn) (h pn xe W σ H X0 pins F _ Γ tk ho (So.bind (P := .st) q fun d Γ1 q1 _ p v H' F' Fv s0 ho' o qt => by
    obtain ⟨F1, h1, h2⟩ := ho'.keep o mu (i := i) (ho'.lt I.len hi) hz
    exact p _ H' F1 (s0.shrink h2) h1))
/-- owned slots come to a stand -/
theorem Hold.frz (ho : Hold K G pz X0 pins Γ σ H F) (i : Nat) : ∃ F1, Hold K G pz X0 pins (frzS Γ i) σ H F1 ∧ ∀ a ∈ F1, a ∈ F := by
  unfold frzS
  split
  · rename_i d e
    obtain ⟨F0, sl, p0⟩ := ho.sl
    obtain ⟨v, Fi, F2, e2, o1, p1, put⟩ := sl.hole e
    have pf := p1.trans p0
    have nod := nd_of_perm pf ho.nd
    have hs2 : ∀ a ∈ F2, a ∈ F := fun a ha => pf.mem_iff.mp (List.mem_append_right _ ha)
    have r : Rp K G (X0 ++ F2) H v d.cold := o1.cold (fun a ha hb => by
      rw [List.nodup_append] at nod
      rcases List.mem_append.mp hb with z | z
      · exact nod.2.2 a z a (List.mem_append_left _ ha) rfl
      · have n := nod.2.1
        rw [List.nodup_append] at n
        exact n.2.2 a ha a z rfl) (sub_app hs2)
    obtain ⟨F3, s3, p3⟩ := put (X' := X0 ++ F2) (H' := H) d.cold [] (.sub (sub_app hs2)) (fun _ _ _ e => e) (.fz r)
    exact ⟨F2, ⟨⟨F3, s3, p3⟩, nod.sublist ((List.sublist_append_right Fi F2).append_left X0), ho.in0, ho.tb, ho.pn⟩, hs2⟩
  · exact ⟨F, ho, fun _ h => h⟩
/-! ### targets -/
/-- the target gets what is owned as Fv -/
def GTg (G : Wd) (pz : List Nat) (X : Cx) (tg : Expr) (t : Tg) : Prop :=
  ∀ pn xe σ H X0 pins F Q v d Fv Γ Γ', t d Γ = some Γ' → Hold X.K G pz (X0 ++ Fv) pins Γ σ H F → Own X.K G ((X0 ++ Fv) ++ F) H v d Fv → (∀ σ' F', Hold X.K G pz X0 pins Γ' σ' H F' → (∀ a ∈ F', a ∈ Fv ++ F) → Q σ' H) → wG (X.tr pn xe) tg v σ H Q
def GTgs (G : Wd) (pz : List Nat) (X : Cx) (tg : List Expr) (ts : List Tg) : Prop :=
  ∀ pn xe σ H X0 pins F Q vs ds Fv Γ Γ', tgAll ts ds Γ = some Γ' → Hold X.K G pz (X0 ++ Fv) pins Γ σ H F → Owns X.K G ((X0 ++ Fv) ++ F) H vs ds Fv → (∀ σ' F', Hold X.K G pz X0 pins Γ' σ' H F' → (∀ a ∈ F', a ∈ Fv ++ F) → Q σ' H) → wGs (X.tr pn xe) tg vs σ H Q
theorem Hold.perm {X1 : List Addr} (ho : Hold K G pz X0 pins Γ σ H F) (p : X1.Perm X0) : Hold K G pz X1 pins Γ σ H F := by
  obtain ⟨F0, sl, p0⟩ := ho.sl
  exact ⟨⟨F0, sl.sub fun a ha => (List.mem_append.mp ha).elim (fun z => List.mem_append_left _ (p.mem_iff.mp z)) (List.mem_append_right _), p0⟩, (p.append_right F).nodup_iff.mpr ho.nd, fun a ha => ho.in0 a (p.mem_iff.mp ha), ho.tb, ho.pn⟩
theorem gtg_name (i : Nat) (mu : Bool) {x : Str} (hz : i ∉ pz := by decide) (hN : X.N.Nodup := by decide) (hi : X.N[i]? = some x := by rfl) (hx : Loc X.env.scope x := by first | exact Or.inl rfl | exact Or.inr rfl) (hfn : X.fn x = true ∨ X.env.scope.names.lookup x = some .local := by first | exact .inl rfl | exact .inr rfl) : GTg G pz X (.Name x pos) (tgName i mu) := fun pn xe σ H X0 pins F Q v d Fv Γ Γ' ht ho o q => wG.inv fun pi s I =>
  wG.of (pg_name (X := X.tr pn xe) hN hi hx hfn) (by
    cases ht
    obtain ⟨F1, h1, h2⟩ := ho.keep o mu (i := i) (ho.lt I.len hi) hz
    exact q _ F1 h1 h2)
theorem gtgs_nil : GTgs G pz X [] [] := fun pn xe σ H X0 pins F Q vs ds Fv Γ Γ' ht ho o q => wGs.of pgs_nil (by
  cases o with
  | nil =>
    cases ht
    exact ⟨rfl, q σ F ho.unnil fun a ha => ha⟩
  | cons => cases ht)
theorem gtgs_cons (h1 : GTg G pz X tg t) (h2 : GTgs G pz X tgs ts) (hs : ∀ pn xe, (assignEach (tg :: tgs) (X.tr pn xe).env).map (·.2) = assign tg (X.tr pn xe).env :: (assignEach tgs (X.tr pn xe).env).map (·.2) := by intro _ _; rfl) : GTgs G pz X (tg :: tgs) (t :: ts) := fun pn xe σ H X0 pins F Q vs ds Fv Γ Γ' ht ho o q =>
  wGs.of (pgs_cons (X := X.tr pn xe) pg_w pgs_w (hs pn xe)) (by
    cases o with
    | nil => cases ht
    | @cons v d vs ds Fa Fb o1 o2 =>
      rw [tgAll] at ht
      obtain ⟨Γ1, e1, e2⟩ := Option.bind_eq_some_iff.mp ht
      have pm : ((X0 ++ Fb) ++ Fa).Perm (X0 ++ (Fa ++ Fb)) := by
        rw [List.append_assoc]
        exact List.perm_append_comm.append_left X0
      refine ⟨v, vs, rfl, h1 pn xe σ H (X0 ++ Fb) pins F _ v d Fa Γ Γ1 e1 (ho.perm pm) (o1.sub fun a ha => (List.mem_append.mp ha).elim (fun z => List.mem_append_left _ (pm.mem_iff.mp z)) (List.mem_append_right _)) fun σ1 F1 ho1 s1 => h2 pn xe σ1 H X0 pins F1 Q vs ds Fb Γ1 Γ' e2 ho1 (o2.sub fun a ha => ?_) fun σ2 F2 ho2 s2 => q σ2 F2 ho2 fun a ha => ?_⟩
      · rcases List.mem_append.mp ha with z | z
        · refine List.mem_append_left _ (pm.mem_iff.mp (List.mem_append_left _ z))
        · rcases List.mem_append.mp (s1 a z) with y | y
          · exact List.mem_append_left _ (pm.mem_iff.mp (List.mem_append_right _ y))
          · exact List.mem_append_right _ y
      · rcases List.mem_append.mp (s2 a ha) with z | z
        · exact List.mem_append_left _ (List.mem_append_right _ z)
        · rcases List.mem_append.mp (s1 a z) with y | y
          · exact List.mem_append_left _ (List.mem_append_left _ y)
          · exact List.mem_append_right _ y)
theorem gtg_tup {k : Nat} (h : GTgs G pz X tgs ts) (hc : X.calm = true := by rfl) (hn : ∀ pn xe, (assignEach tgs (X.tr pn xe).env).length = ts.length := by intro _ _; rfl) (hst : ∀ pn xe, (assignEach tgs (X.tr pn xe).env).findIdx? (·.1) = none := by intro _ _; rfl) : GTg G pz X (.Tuple tgs k pos) (tgTup ts) := fun pn xe σ H X0 pins F Q v d Fv Γ Γ' ht ho o q =>
  wG.of (pg_tup (X := X.tr pn xe) hc pgs_w (hn pn xe) (hst pn xe)) (by
    have len : ∀ {ts : List Tg} {ds : List D} {Γ Γ'}, tgAll ts ds Γ = some Γ' → ds.length = ts.length := by
      intro ts
      induction ts with
      | nil => intro ds Γ Γ' h; cases ds with
        | nil => rfl
        | cons => cases h
      | cons t ts ih => intro ds Γ Γ' h; cases ds with
        | nil => cases h
        | cons d ds =>
          rw [tgAll] at h
          obtain ⟨_, _, e⟩ := Option.bind_eq_some_iff.mp h
          exact congrArg (· + 1) (ih e)
    unfold tgTup at ht
    split at ht
    · cases o with
      | fz r =>
        cases r with
        | nd hn rs => exact ⟨_, _, rfl, .inl (.inl hn.2), by rw [rs.length, len ht], h pn xe σ H X0 pins F Q _ _ [] Γ Γ' ht ho rs.owns q⟩
    · cases o with
      | fz r =>
        cases r with
        | nd hn rs => exact ⟨_, _, rfl, .inr hn, by rw [rs.length, len ht], h pn xe σ H X0 pins F Q _ _ [] Γ Γ' ht ho rs.owns q⟩
    · cases ht)
/-! ### a, b = x, y -/
def LVPost (K : PySem.W.Frag) (G : Wd) (pz : List Nat) (X0 : List Addr) (pins : Nat → V) (F : List Addr) (H : Hp) (σ : L2.St) (Q : List V → Hp → Prop) (ds : List D) (Γ' : Sl) (q : Bool) : Prop :=
  ∀ vs H' F' Fv, Step G F H (Fv ++ F') H' → Hold K G pz (X0 ++ Fv) pins Γ' σ H' F' → Owns K G ((X0 ++ Fv) ++ F') H' vs ds Fv → Q vs H'
def GV (G : Wd) (pz : List Nat) (X : Cx) (es : List Expr) (m : Sl → Rg (List D)) : Prop :=
  ∀ pn xe W σ H X0 pins F Q Γ, Takes (X.tr pn xe) W → Hold X.K G pz X0 pins Γ σ H F → RgPost X.K G pz X0 pins F H σ W (LVPost X.K G pz X0 pins F H σ Q) (m Γ) → wA (X.tr pn xe) es σ H Q
theorem gv_nil : GV G pz X [] mvNil := fun pn xe W σ H X0 pins F Q Γ tk ho q => wA.of pa_nil (q [] H F [] (.refl _ _ _) ho.nil .nil)
end
end GL
namespace GL
open PySem PySem.Spec PyProof.Rows L2
section
variable {K : PySem.W.Frag} {G : Wd} {pz : List Nat} {X0 F F' F1 F2 Fv Fw Y : List Addr} {pins : Nat → V} {Γ Γ1 : Sl} {σ : L2.St} {H H' H1 H2 : Hp} {X : Cx} {a b c e o : Expr} {es : List Expr} {d da db dc : D} {v x y : V} {p pos : Pos} {W : WX} {Q : VK} {q q1 q2 : Bool} {m ma mb mc : Sl → Re} {ms : Sl → Rg (List D)} {mt : Sl → Rg Bool} {st : Stmt} {rest A B : List Stmt} {s k s1 s2 : Sl → So} {tg : Expr} {tgs : List Expr} {t : Tg} {ts : List Tg} {D' : Ends} {ds : List D}
theorem Step.frame (s : Step G F1 H1 F2 H2) (A : List Addr) : Step G (A ++ F1) H1 (A ++ F2) H2 := ⟨⟨fun a o h hx n => s.mv.kp a o h (fun z => hx (List.mem_append_right _ z)) n, fun a o ha h n => (List.mem_append.mp ha).elim (List.mem_append_left _) fun z => List.mem_append_right _ (s.mv.fr a o z h n)⟩, s.tb⟩
/-- what is held outside stays what it is -/
theorem Own.aside (o : Own K G ((X0 ++ Fv) ++ F1) H1 v d Fv) (ho : Hold K G pz (X0 ++ Fv) pins Γ σ H1 F1) (s : Step G F1 H1 F2 H2) : Own K G ((X0 ++ Fv) ++ F2) H2 v d Fv := o.move s.mv.left fun a u ha e => by
  obtain ⟨w, e1, n⟩ := o.live a ha
  have : u = w := Option.some.inj (e.symm.trans e1)
  subst this
  refine s.mv.kp a u e (fun z => ?_) n.1
  have nd := ho.nd
  rw [List.nodup_append] at nd
  exact nd.2.2 a (List.mem_append_right _ ha) a z rfl
theorem gv_cons (h : GE G pz X e m) (hr : GV G pz X es ms) (hs : ∀ pn xe, starEach (e :: es) (X.tr pn xe).env = (false, eval e (X.tr pn xe).env) :: starEach es (X.tr pn xe).env := by intro _ _; rfl) : GV G pz X (e :: es) (mvCons m ms) := fun pn xe W σ H X0 pins F Q Γ tk ho q =>
  wA.of (pa_cons (X := X.tr pn xe) pe_w pa_w (hs pn xe)) (h pn xe W σ H X0 pins F _ Γ tk ho (q.bind fun d Γ1 q1 _ p1 v H1 F1 Fv s1 ho1 o1 qt1 => by
    refine hr pn xe W σ H1 (X0 ++ Fv) pins F1 _ Γ1 tk ho1 ?_
    have sF : Step G F H F1 H1 := s1.shrink fun a ha => List.mem_append_right _ ha
    cases e : ms Γ1 with
    | ok ds Γ2 q2 =>
      rw [e] at p1
      intro vs H2 F2 Fw s2 ho2 o2
      have p1 : LVPost X.K G pz X0 pins F H σ Q (d :: ds) Γ2 (q1 && (q2 && true)) := p1
      refine p1 (v :: vs) H2 F2 (Fv ++ Fw) ?_ ?_ ?_
      · have := s1.trans (s2.frame Fv)
        rwa [← List.append_assoc] at this
      · rwa [List.append_assoc] at ho2
      · have o3 := o1.aside ho1 s2
        have e1 : (X0 ++ Fv) ++ (Fw ++ F2) = (X0 ++ (Fv ++ Fw)) ++ F2 := by simp only [List.append_assoc]
        have e2 : ((X0 ++ Fv) ++ Fw) ++ F2 = (X0 ++ (Fv ++ Fw)) ++ F2 := by simp only [List.append_assoc]
        rw [e1] at o3
        rw [e2] at o2
        exact .cons o3 o2
    | er x Γ2 =>
      rw [e] at p1
      exact fun c dd H2 F2 s2 ho2 xr => p1 c dd H2 F2 (sF.trans s2) ho2.drop xr
    | st => rw [e] at p1; exact p1))
/-- (a, ..) = (x, ..), stored from the left -/
theorem gs_par {kt k2 : Nat} {pt pt2 : Pos} (h : GV G pz X es ms) (hg : GTgs G pz X tgs ts) (hc : X.calm = true := by rfl) (hs : ∀ pn xe, swapsWithSole [.Tuple tgs kt pt] (.Tuple es k2 pt2) pos.line (X.tr pn xe).env = pure false := by intro _ _; rfl) (hw : ∀ pn xe, swappedStores [.Tuple tgs kt pt] (.Tuple es k2 pt2) (X.tr pn xe).env = pure none := by intro _ _; rfl)
    (h1 : ∀ pn xe, (assignEach [.Tuple tgs kt pt] (X.tr pn xe).env).map (·.2) = [assign (.Tuple tgs kt pt) (X.tr pn xe).env] := by intro _ _; rfl) (hn : ∀ pn xe, (assignEach tgs (X.tr pn xe).env).length = ts.length := by intro _ _; rfl) (hst : ∀ pn xe, (assignEach tgs (X.tr pn xe).env).findIdx? (·.1) = none := by intro _ _; rfl) :
    GS G pz X (.Assign [.Tuple tgs kt pt] (.Tuple es k2 pt2) pos) (sPar ts ms) := fun pn xe W σ H X0 pins F D Γ tk hp ho q =>
  wS.of (ps_asg (X := X.tr pn xe) (pe_tup pa_w) (pg_tup (X := X.tr pn xe) hc pgs_w (hn pn xe) (hst pn xe)) (hs pn xe) (hw pn xe) (h1 pn xe)) (h pn xe W σ H X0 pins F _ Γ tk ho (So.bind (P := .st) q fun ds Γ1 q1 _ p vs H' F' Fv s0 ho' o => by
    by_cases hz : ds.length ≤ sizeLine
    · rw [if_pos hz] at p
      cases e : tgAll ts ds Γ1 with
      | none => rw [e] at p; exact p.elim
      | some Γ2 =>
        rw [e] at p
        refine ⟨by rw [o.length]; exact hz, fun pp hp => ⟨pp, vs, rfl, .inl (.inl upd_same), ?_, ?_⟩⟩
        · rw [o.length]
          have len : ∀ {ts : List Tg} {ds : List GL.D} {Γ Γ'}, tgAll ts ds Γ = some Γ' → ds.length = ts.length := by
            intro ts
            induction ts with
            | nil => intro ds Γ Γ' h; cases ds with
              | nil => rfl
              | cons => cases h
            | cons t ts ih => intro ds Γ Γ' h; cases ds with
              | nil => cases h
              | cons d ds =>
                rw [tgAll] at h
                obtain ⟨_, _, e⟩ := Option.bind_eq_some_iff.mp h
                exact congrArg (· + 1) (ih e)
          exact len e
        · have g : Grow G H' (upd H' pp (.tup vs)) := .new hp
          exact hg pn xe σ _ X0 pins F' _ vs ds Fv Γ1 Γ2 e (ho'.grow g) (o.grow g) fun σ' F2 ho2 s2 => p σ' _ F2 ((s0.trans (g.step _)).shrink s2) ho2
    · rw [if_neg hz] at p
      exact p.elim))
/-- two values are stored in two slots -/
def par2 (i j : Nat) (mi mj : Bool) (ds : List D) (Γ : Sl) : Option Sl := match ds with
  | [d, e] => some ((Γ.set i (some (keepD mi d))).set j (some (keepD mj e)))
  | _ => none
def sPar2 (i j : Nat) (mi mj : Bool) (ms : Sl → Rg (List D)) : Sl → So := fun Γ => (ms Γ).so fun ds Γ => .of (par2 i j mi mj ds Γ)
end
end GL
namespace GL
open PySem PySem.Spec PyProof.Rows L2
/-- an argument: data, or the owned thing at a place -/
inductive Ag where
  | val (d : D) | own (i : Nat) (p : List Nat)
/-- the data that go in; slots that are lent are empty meanwhile -/
def lendA : Sl → List Ag → Option (List D)
  | _, [] => some []
  | Γ, .val d :: as => (lendA Γ as).map (d :: ·)
  | Γ, .own i p :: as => match Γ[i]? with
    | some (some d) => match d.at p with
      | some d1 => if d1.fz = true then none else (lendA (Γ.set i none) as).map (d1 :: ·)
      | none => none
    | _ => none
/-- what comes back -/
def giveA : Sl → List Ag → List D → Sl
  | Γ, .val _ :: as, _ :: bs => giveA Γ as bs
  | Γ, .own i p :: as, b :: bs => match Γ[i]? with
    | some (some d) => (giveA (Γ.set i none) as bs).set i (some (d.put p b))
    | _ => Γ
  | Γ, _, _ => Γ
/-- the values, one by one -/
inductive PtOk (K : PySem.W.Frag) (G : Wd) (Y : List Addr) (H : Hp) (σ : L2.St) : List Ag → List V → Prop
  | nil : PtOk K G Y H σ [] []
  | val {v d as vs} : d.fz = true → Rp K G Y H v d → PtOk K G Y H σ as vs → PtOk K G Y H σ (.val d :: as) (v :: vs)
  | own {i p v0 v as vs} : σ[i]? = some (some v0) → VAt G H v0 p v → PtOk K G Y H σ as vs → PtOk K G Y H σ (.own i p :: as) (v :: vs)
section
variable {K : PySem.W.Frag} {G : Wd} {pz : List Nat} {X0 F F' F1 F2 Fv Fw Y Y' : List Addr} {pins : Nat → V} {Γ Γ1 : Sl} {σ : L2.St} {H H' H1 H2 : Hp} {X : Cx} {a b c e o : Expr} {es : List Expr} {d d1 : D} {v w x y : V} {p pos : Pos} {W : WX} {Q : VK} {as : List Ag} {vs : List V} {ds bs : List D} {i : Nat}
theorem ObO.det {ob : HO} {k k' : Kd} {vs vs' : List V} (h : ObO G ob k vs) (h' : ObO G ob k' vs') : vs = vs' := by
  cases k with
  | lst =>
    cases h
    cases k' with
    | lst => cases h'; rfl
    | dK => obtain ⟨_, e, _⟩ := h'; cases e
    | dT => obtain ⟨_, e, _⟩ := h'; cases e
    | ins => obtain ⟨_, _, e, _⟩ := h'; cases e
    | tup => cases h'
    | ktp => cases h'
    | scr => cases h'
    | ptu => cases h'
  | dK =>
    obtain ⟨_, rfl, _, rfl⟩ := h
    cases k' with
    | lst => cases h'
    | dK => obtain ⟨_, e, _, rfl⟩ := h'; cases e; rfl
    | dT => obtain ⟨_, e, _⟩ := h'; cases e
    | ins => obtain ⟨_, _, e, _⟩ := h'; cases e
    | tup => cases h'
    | ktp => cases h'
    | scr => cases h'
    | ptu => cases h'
  | dT =>
    obtain ⟨_, rfl, _, rfl⟩ := h
    cases k' with
    | lst => cases h'
    | dK => obtain ⟨_, e, _⟩ := h'; cases e
    | dT => obtain ⟨_, e, _, rfl⟩ := h'; cases e; rfl
    | ins => obtain ⟨_, _, e, _⟩ := h'; cases e
    | tup => cases h'
    | ktp => cases h'
    | scr => cases h'
    | ptu => cases h'
  | ins =>
    obtain ⟨_, _, rfl, _, rfl⟩ := h
    cases k' with
    | lst => cases h'
    | dK => obtain ⟨_, e, _⟩ := h'; cases e
    | dT => obtain ⟨_, e, _⟩ := h'; cases e
    | ins => obtain ⟨_, _, e, _, rfl⟩ := h'; injection e with _ _ e3; rw [e3]
    | tup => cases h'
    | ktp => cases h'
    | scr => cases h'
    | ptu => cases h'
  | tup => cases h
  | ktp => cases h
  | scr => cases h
  | ptu => cases h
theorem VAt.det {p : List Nat} (h : VAt G H v p x) (h' : VAt G H v p y) : x = y := by
  induction h generalizing y with
  | nil => cases h'; rfl
  | cons n e _ ih =>
    cases h' with
    | cons n' e' r' =>
      obtain ⟨o1, e1, q1⟩ := n
      obtain ⟨o2, e2, q2⟩ := n'
      rw [e1] at e2
      cases e2
      rw [← q1.det q2, e] at e'
      cases e'
      exact ih r'
theorem VAt.grow {p : List Nat} (h : VAt G H v p x) (g : Grow G H H') : VAt G H' v p x := by
  induction h with
  | nil => exact .nil
  | cons n e _ ih =>
    obtain ⟨o1, e1, q1⟩ := n
    exact .cons ⟨o1, g.kp _ _ e1 q1.nt, q1⟩ e ih
theorem PtOk.grow (g : Grow G H H') : ∀ {as vs}, PtOk K G Y H σ as vs → PtOk K G Y H' σ as vs
  | _, _, .nil => .nil
  | _, _, .val f r q => .val f (r.grow g) (PtOk.grow g q)
  | _, _, .own r v q => .own r (v.grow g) (PtOk.grow g q)
theorem Slots.fill (h : Slots K G Y H σ Γ F) : ∀ {i : Nat} {d : D} {Fi : List Addr}, Γ[i]? = some none → σ[i]? = some (some v) → Own K G Y H v d Fi → ∃ F1, Slots K G Y H σ (Γ.set i (some d)) F1 ∧ F1.Perm (Fi ++ F) := by
  induction h with
  | nil => intro i d Fi e; cases e
  | @no x σ Γ F hs ih =>
    intro i d Fi e1 e2 o
    cases i with
    | zero =>
      cases e2
      exact ⟨Fi ++ F, .yes o hs, .refl _⟩
    | succ i =>
      obtain ⟨F1, h1, h2⟩ := ih (i := i) e1 e2 o
      exact ⟨F1, .no h1, h2⟩
  | @yes w x σ Γ F1 F2 ow hs ih =>
    intro i d Fi e1 e2 o
    cases i with
    | zero => cases e1
    | succ i =>
      obtain ⟨F3, h1, h2⟩ := ih (i := i) e1 e2 o
      refine ⟨F1 ++ F3, .yes ow h1, (h2.append_left F1).trans ?_⟩
      rw [← List.append_assoc, ← List.append_assoc]
      exact List.perm_append_comm.append_right F2
theorem Slots.out (h : Slots K G Y H σ Γ F) : ∀ {i : Nat} {d : D}, Γ[i]? = some (some d) → ∃ v Fi F2, σ[i]? = some (some v) ∧ Own K G Y H v d Fi ∧ Slots K G Y H σ (Γ.set i none) F2 ∧ (Fi ++ F2).Perm F := by
  induction h with
  | nil => intro i d e; cases e
  | @no x σ Γ F hs ih =>
    intro i d e1
    cases i with
    | zero => cases e1
    | succ i =>
      obtain ⟨v, Fi, F2, h0, h1, h2, h3⟩ := ih (i := i) e1
      exact ⟨v, Fi, F2, h0, h1, .no h2, h3⟩
  | @yes w x σ Γ F1 F2 ow hs ih =>
    intro i d e1
    cases i with
    | zero =>
      cases e1
      exact ⟨w, F1, F2, rfl, ow, .no hs, .refl _⟩
    | succ i =>
      obtain ⟨v, Fi, F3, h0, h1, h2, h3⟩ := ih (i := i) e1
      refine ⟨v, Fi, F1 ++ F3, h0, h1, .yes ow h2, ?_⟩
      refine List.Perm.trans ?_ (h3.append_left F1)
      rw [← List.append_assoc, ← List.append_assoc]
      exact List.perm_append_comm.append_right F3
theorem getSet {x : Option D} (h : Γ[i]? = some x) (y : Option D) : (Γ.set i y)[i]? = some y := by
  rw [List.getElem?_set_self]
  exact (List.getElem?_eq_some_iff.mp h).1
theorem giveA_none : ∀ (as : List Ag) (bs : List D) (Γ : Sl) (i : Nat), Γ[i]? = some none → (giveA Γ as bs)[i]? = some none
  | [], _, _, _, h => by unfold giveA; exact h
  | .val _ :: as, _ :: bs, Γ, i, h => by rw [giveA]; exact giveA_none as bs Γ i h
  | .own j p :: as, b :: bs, Γ, i, h => by
    rw [giveA]
    split
    · rename_i d e
      have hij : j ≠ i := fun z => by
        rw [z, h] at e
        cases e
      rw [List.getElem?_set_ne hij]
      exact giveA_none as bs _ i (by rw [List.getElem?_set_ne hij]; exact h)
    · exact h
  | .val _ :: _, [], _, _, h => h
  | .own _ _ :: _, [], _, _, h => h
/-- the owned arguments are lent; what comes back is put in its place -/
theorem Slots.lend : ∀ {as : List Ag} {vs : List V} {ds : List D} {Γ : Sl} {F : List Addr}, Slots K G Y H σ Γ F → PtOk K G Y H σ as vs → lendA Γ as = some ds →
    ∃ F1 F2, Owns K G Y H vs ds F1 ∧ (F1 ++ F2).Perm F ∧ ∀ {Y' H'} (bs : List D) (F1' : List Addr), Mv Y H Y' H' → KeepF F2 H H' → Owns K G Y' H' vs bs F1' → ∃ F3, Slots K G Y' H' σ (giveA Γ as bs) F3 ∧ ∃ F4, F4.Sublist F1' ∧ F3.Perm (F4 ++ F2)
  | [], _, _, Γ, F, s, .nil, e => by
    cases e
    exact ⟨[], F, .nil, .refl _, fun bs F1' m k o => ⟨F, by unfold giveA; exact s.move m k, [], List.nil_sublist _, .refl _⟩⟩
  | .val d :: as, v :: vs, ds, Γ, F, s, .val hf r q, e => by
    rw [lendA] at e
    obtain ⟨ds', e1, e2⟩ := Option.map_eq_some_iff.mp e
    subst e2
    obtain ⟨F1, F2, h1, h2, h3⟩ := Slots.lend s q e1
    refine ⟨[] ++ F1, F2, .cons (.fz r) h1, h2, fun bs F1' m k o => ?_⟩
    cases o with
    | @cons _ b _ bs Fb Fr o1 o2 =>
      obtain ⟨F3, g1, F4, g2, g3⟩ := h3 _ _ m k o2
      exact ⟨F3, by rw [giveA]; exact g1, F4, g2.trans (List.sublist_append_right _ _), g3⟩
  | .own i p :: as, v :: vs, ds, Γ, F, s, .own e1 va q, e => by
    rw [lendA] at e
    split at e
    · rename_i d e0
      split at e
      · rename_i d1 ea
        split at e
        · cases e
        · rename_i hf
          obtain ⟨ds', e3, e4⟩ := Option.map_eq_some_iff.mp e
          subst e4
          obtain ⟨v0, Fi, F0, g0, g1, g2, g3⟩ := s.out e0
          rw [e1] at g0
          cases g0
          obtain ⟨w, Fa, Fb, w1, w2, w3, put⟩ := g1.hole ea (Bool.not_eq_true _ ▸ hf)
          have := w1.det va
          subst this
          obtain ⟨F1, F2, h1, h2, h3⟩ := Slots.lend g2 q e3
          refine ⟨Fa ++ F1, Fb ++ F2, .cons w2 h1, ?_, fun bs F1' m k o => ?_⟩
          · refine List.Perm.trans ?_ ((w3.append_right F0).trans g3)
            refine List.Perm.trans ?_ (h2.append_left (Fa ++ Fb))
            simp only [List.append_assoc]
            refine List.Perm.append_left Fa ?_
            rw [← List.append_assoc, ← List.append_assoc]
            exact List.perm_append_comm.append_right F2
          · cases o with
            | @cons _ b _ bs Fc Fr o1 o2 =>
              obtain ⟨F3, p1, F4, p2, p3⟩ := h3 _ _ m (k.sub fun a ha => List.mem_append_right _ ha) o2
              obtain ⟨_, F5, o5, p5⟩ := put b Fc m (k.sub fun a ha => List.mem_append_left _ ha) o1
              obtain ⟨F6, q1, q2⟩ := p1.fill (i := i) (giveA_none as bs _ i (getSet e0 none)) e1 o5
              refine ⟨F6, by rw [giveA, e0]; exact q1, Fc ++ F4, p2.append_left Fc, q2.trans ?_⟩
              refine ((p5.append_right F3).trans (p3.append_left _)).trans ?_
              simp only [List.append_assoc]
              refine List.Perm.append_left Fc ?_
              rw [← List.append_assoc, ← List.append_assoc]
              exact List.perm_append_comm.append_right F2
      · cases e
    · cases e

/-! ### what a def promises -/
inductive RF where
  | rt (d : D) (bs : List D) | er (e : Ex) (bs : List D) | st
def CPost (K : PySem.W.Frag) (G : Wd) (X0 F : List Addr) (H : Hp) (vs : List V) (Q : VK) (E : XK) : RF → Prop
  | .rt d bs => ∀ v H' F' Fv, Step G F H (Fv ++ F') H' → Owns K G ((X0 ++ Fv) ++ F') H' vs bs F' → ((X0 ++ Fv) ++ F').Nodup → Own K G ((X0 ++ Fv) ++ F') H' v d Fv → GL.Tabs G.T H' → Q v H'
  | .er x bs => ∀ c dd H' F', Step G F H F' H' → Owns K G (X0 ++ F') H' vs bs F' → (X0 ++ F').Nodup → ExR G x c dd H' → GL.Tabs G.T H' → E c dd H'
  | .st => False
/-- called with the data ds it comes to m ds -/
def Pr (K : PySem.W.Frag) (G : Wd) (m : List D → RF) : Sp := fun vs H Q E =>
  ∃ (ds : List D) (X0 F : List Addr), Owns K G (X0 ++ F) H vs ds F ∧ (X0 ++ F).Nodup ∧ (∀ a ∈ X0, ∃ o, H a = some o ∧ MT o) ∧ GL.Tabs G.T H ∧ CPost K G X0 F H vs Q E (m ds)
/-- the slots at a def's entry -/
def stD (n : Nat) (ds : List D) : Sl := ds.map some ++ List.replicate (n - ds.length) none
theorem slots_rep (Y : List Addr) (H : Hp) (n : Nat) : Slots K G Y H (List.replicate n none) (List.replicate n none) [] := by
  induction n with
  | zero => exact .nil
  | succ n ih => exact .no ih
theorem Owns.slots : ∀ {vs : List V} {ds : List D} {F : List Addr} {σ : L2.St} {Γ : Sl}, Owns K G Y H vs ds F → Slots K G Y H σ Γ [] → Slots K G Y H (vs.map some ++ σ) (ds.map some ++ Γ) F
  | _, _, _, _, _, .nil, h => h
  | _, _, _, _, _, .cons o r, h => .yes o (Owns.slots r h)
theorem Owns.start {vs : List V} {ds : List D} {F : List Addr} (N : List Str) (h : Owns K G Y H vs ds F) : Slots K G Y H (L2.start N vs) (stD N.length ds) F := by
  unfold L2.start stD
  rw [h.length]
  exact h.slots (slots_rep _ _ _)
/-- ms: which parameters are never stored; what they hold at the end -/
def bkS : List Bool → Sl → List D
  | true :: ms, some d :: Γ => d :: bkS ms Γ
  | _ :: ms, _ :: Γ => .any :: bkS ms Γ
  | _ :: ms, [] => .any :: bkS ms []
  | [], _ => []
theorem bkS_nil : ∀ (ms : List Bool) (vs : List V), vs.length = ms.length → Owns K G Y H vs (bkS ms []) []
  | [], [], _ => .nil
  | _ :: ms, v :: vs, h => by
    have e : ∀ b, bkS (b :: ms) [] = .any :: bkS ms [] := fun b => by cases b <;> rfl
    rw [e]
    exact Owns.cons (F := []) (F' := []) (.fz .any) (bkS_nil ms vs (Nat.succ.inj h))
  | [], _ :: _, h => by cases h
  | _ :: _, [], h => by cases h
theorem Slots.back : ∀ {ms : List Bool} {Γ : Sl} {σ : L2.St} {F : List Addr} {vs : List V}, Slots K G Y H σ Γ F → vs.length = ms.length → (∀ (i : Nat) v, ms[i]? = some true → vs[i]? = some v → σ[i]? = some (some v)) → ∃ F1, Owns K G Y H vs (bkS ms Γ) F1 ∧ F1.Sublist F
  | [], Γ, σ, F, [], s, _, _ => ⟨[], by unfold bkS; exact .nil, List.nil_sublist _⟩
  | ms, _, _, _, vs, .nil, h, _ => ⟨[], bkS_nil ms vs h, .refl _⟩
  | true :: ms, _, _, _, v :: vs, .yes (F := F) (F' := F') o s, h, hp => by
    have z := hp 0 v rfl rfl
    cases z
    obtain ⟨F1, h1, h2⟩ := Slots.back s (Nat.succ.inj h) fun i v h1 h2 => hp (i + 1) v h1 h2
    exact ⟨F ++ F1, .cons o h1, h2.append_left F⟩
  | true :: ms, _, _, _, v :: vs, .no s, h, hp => by
    obtain ⟨F1, h1, h2⟩ := Slots.back s (Nat.succ.inj h) fun i v h1 h2 => hp (i + 1) v h1 h2
    exact ⟨F1, Owns.cons (F := []) (.fz .any) h1, h2⟩
  | false :: ms, _, _, _, v :: vs, .yes (F := F) (F' := F') o s, h, hp => by
    obtain ⟨F1, h1, h2⟩ := Slots.back s (Nat.succ.inj h) fun i v h1 h2 => hp (i + 1) v h1 h2
    exact ⟨F1, Owns.cons (F := []) (.fz .any) h1, h2.trans (List.sublist_append_right _ _)⟩
  | false :: ms, _, _, _, v :: vs, .no s, h, hp => by
    obtain ⟨F1, h1, h2⟩ := Slots.back s (Nat.succ.inj h) fun i v h1 h2 => hp (i + 1) v h1 h2
    exact ⟨F1, Owns.cons (F := []) (.fz .any) h1, h2⟩
  | [], _, _, _, _ :: _, _, h, _ => by cases h
  | _ :: _, _, _, _, [], _, h, _ => by cases h
def So.rf (ms : List Bool) : So → RF
  | .rt d Γ => .rt d (bkS ms Γ)
  | .nx Γ => .rt .non (bkS ms Γ)
  | .er e Γ => .er e (bkS ms Γ)
  | _ => .st
/-- the def of the body s, n slots -/
def mDef (n : Nat) (ms : List Bool) (s : Sl → So) : List D → RF := fun ds => if ds.length = ms.length then (s (stD n ds)).rf ms else .st
end
end GL
namespace GL
open PySem PySem.Spec PyProof.Rows L2
abbrev Place := Nat × List Nat
def getP (Γ : Sl) (pl : Place) : Option D := match Γ[pl.1]? with
  | some (some d) => d.at pl.2
  | _ => none
def idxOf {κ : Type} [DecidableEq κ] : List κ → κ → Option Nat
  | [], _ => none
  | k :: ks, n => if k = n then some 0 else (idxOf ks n).map (· + 1)
def plVar (i : Nat) : Sl → Option Place := fun _ => some (i, [])
def plFld (cs : List Str) (f : Str) (pl : Sl → Option Place) : Sl → Option Place := fun Γ => (pl Γ).bind fun p => match getP Γ p with
  | some (.nd _ (.ins c fs) _) => if c ∈ cs then (idxOf fs f).map fun j => (p.1, p.2 ++ [j]) else none
  | _ => none
def Ag.isV : Ag → Bool
  | .val _ => true
  | .own _ _ => false
def agNil : Sl → Rg (List Ag) := fun Γ => .ok [] Γ true
def agVal (m : Sl → Re) (ms : Sl → Rg (List Ag)) : Sl → Rg (List Ag) := fun Γ => (m Γ).bind fun d Γ1 => (ms Γ1).bind fun as Γ2 => if d.fz = true then .ok (.val d :: as) Γ2 true else .st
def agPl (pl : Sl → Option Place) (ms : Sl → Rg (List Ag)) : Sl → Rg (List Ag) := fun Γ => match pl Γ with
  | some p => match getP Γ p with
    | some d => ((ms Γ).gd (d.fz || p.2.isEmpty)).bind fun as Γ2 => .ok ((if d.fz = true then .val d else .own p.1 p.2) :: as) Γ2 true
    | none => .st
  | none => .st
/-- the call, the arguments being there -/
def runF (f : List D → RF) (as : List Ag) (Γ : Sl) : Re := match lendA Γ as with
  | some ds => match f ds with
    | .rt d bs => .ok d (giveA Γ as bs) (as.all Ag.isV)
    | .er e bs => .er e (giveA Γ as bs)
    | .st => .st
  | none => .st
def mFn (f : List D → RF) (ms : Sl → Rg (List Ag)) : Sl → Re := fun Γ => (ms Γ).bind (runF f)
section
variable {K : PySem.W.Frag} {G : Wd} {pz : List Nat} {X0 F F' F1 F2 Fv Fw Y Y' : List Addr} {pins : Nat → V} {Γ Γ1 : Sl} {σ : L2.St} {H H' H1 H2 : Hp} {X : Cx} {a b c e o : Expr} {es : List Expr} {d d1 : D} {v w x y : V} {p pos apos : Pos} {W : WX} {Q : VK} {as : List Ag} {vs : List V} {ds bs : List D} {i : Nat} {m : Sl → Re} {ms : Sl → Rg (List Ag)} {pl : Sl → Option Place} {q q1 : Bool}
def AgPost (K : PySem.W.Frag) (G : Wd) (pz : List Nat) (X0 : List Addr) (pins : Nat → V) (F : List Addr) (H : Hp) (σ : L2.St) (Q : List V → Hp → Prop) (as : List Ag) (Γ' : Sl) (q : Bool) : Prop :=
  ∀ vs H' F', Step G F H F' H' → Hold K G pz X0 pins Γ' σ H' F' → PtOk K G (X0 ++ F') H' σ as vs → Qt G F H q H' F' → Q vs H'
/-- arguments -/
def GAg (G : Wd) (pz : List Nat) (X : Cx) (es : List Expr) (m : Sl → Rg (List Ag)) : Prop :=
  ∀ pn xe W σ H X0 pins F Q Γ, Takes (X.tr pn xe) W → Hold X.K G pz X0 pins Γ σ H F → RgPost X.K G pz X0 pins F H σ W (AgPost X.K G pz X0 pins F H σ Q) (m Γ) → wA (X.tr pn xe) es σ H Q
/-- e is a place -/
def GPl (G : Wd) (pz : List Nat) (X : Cx) (e : Expr) (pl : Sl → Option Place) : Prop :=
  ∀ pn xe σ H X0 pins F Q Γ p d, Hold X.K G pz X0 pins Γ σ H F → pl Γ = some p → getP Γ p = some d → (∀ v v0 H', Grow G H H' → σ[p.1]? = some (some v0) → Bw X.K G H' (X0 ++ F) v d → (d.fz = false → VAt G H' v0 p.2 v) → Q v H') → wE (X.tr pn xe) e σ H Q
theorem AgPost.after {Q : List V → Hp → Prop} (p : AgPost K G pz X0 pins F H σ Q as Γ (q1 && q)) (s : Step G F H F1 H1) (qt : Qt G F H q1 H1 F1) : AgPost K G pz X0 pins F1 H1 σ Q as Γ q := fun v H' F' s2 ho ov q2 => p v H' F' (s.trans s2) ho ov (qt.trans q2)
theorem RgPost.gaft {Q : List V → Hp → Prop} {r : Rg (List Ag)} (h : RgPost K G pz X0 pins F H σ W (AgPost K G pz X0 pins F H σ Q) (r.andq q1)) (s : Step G F H F1 H1) (qt : Qt G F H q1 H1 F1) : RgPost K G pz X0 pins F1 H1 σ W (AgPost K G pz X0 pins F1 H1 σ Q) r := h.after s fun _ _ _ p => p.after s qt
/-! ### places -/
theorem gpl_var (i : Nat) {x : Str} (hN : X.N[i]? = some x := by rfl) (hv : Vis X.env.scope x := by first | exact Or.inl rfl | exact Or.inr (Or.inl rfl) | exact Or.inr (Or.inr rfl)) (h1 : (x == ("__debug__" : Str)) = false := by decide)
    (h2 : (x == ("__classdict__" : Str)) = false := by decide) : GPl G pz X (.Name x pos) (plVar i) := fun pn xe σ H X0 pins F Q Γ p d ho hp hd q => by
  cases hp
  unfold getP at hd
  cases e : Γ[i]? with
  | none => simp only [e] at hd; cases hd
  | some od =>
    cases od with
    | none => simp only [e] at hd; cases hd
    | some d' =>
      simp only [e] at hd
      have hd : some d' = some d := by
        rw [← hd]
        unfold D.at
        rfl
      cases hd
      obtain ⟨v, Fv, g1, g2⟩ := ho.var e
      exact wE.of (pe_var (X := X.tr pn xe) hN hv h1 h2) ⟨v, g1, q v v H (.refl _ _) g1 ⟨Fv, g2⟩ fun _ => .nil⟩
theorem at_snoc : ∀ {p : List Nat} {d d1 : D} {j : Nat}, d.at (p ++ [j]) = some d1 → ∃ o k l, d.at p = some (.nd o k l) ∧ l[j]? = some d1
  | [], d, d1, j, h => by
    cases d with
    | nd o k l =>
      rw [List.nil_append, D.at] at h
      cases e : l[j]? with
      | none => rw [e] at h; cases h
      | some d2 =>
        rw [e] at h
        unfold D.at at h
        exact ⟨o, k, l, by unfold D.at; rfl, by rw [e]; exact h⟩
    | any => cases h
    | non => cases h
    | bl => cases h
    | int => cases h
    | str => cases h
    | fn => cases h
    | pr => cases h
  | i :: p, d, d1, j, h => by
    cases d with
    | nd o k l =>
      rw [List.cons_append, D.at] at h
      cases e : l[i]? with
      | none => rw [e] at h; cases h
      | some d2 =>
        rw [e] at h
        obtain ⟨o', k', l', h1, h2⟩ := at_snoc h
        exact ⟨o', k', l', by rw [D.at, e]; exact h1, h2⟩
    | any => cases h
    | non => cases h
    | bl => cases h
    | int => cases h
    | str => cases h
    | fn => cases h
    | pr => cases h
theorem VAt.snoc {v0 : V} {pa : Addr} {k : Kd} {vs : List V} {j : Nat} {p : List Nat} (h : VAt G H v0 p (.ref pa)) (n : NdO G H pa k vs) (e : vs[j]? = some v) : VAt G H v0 (p ++ [j]) v := by
  generalize hx : V.ref pa = x at h
  induction h with
  | nil => subst hx; exact .cons n e .nil
  | cons n' e' _ ih => exact .cons n' e' (ih hx)
theorem idx_lookup : ∀ {fvs : List (Str × V)} {f : Str} {j : Nat}, idxOf (fvs.map (·.1)) f = some j → fvs.lookup f = (fvs.map (·.2))[j]?
  | [], _, _, h => by cases h
  | (k, w) :: fvs, f, j, h => by
    rw [List.map_cons, idxOf] at h
    by_cases e : k = f
    · rw [if_pos e] at h
      cases h
      subst e
      rw [List.lookup_cons_self]
      rfl
    · rw [if_neg e] at h
      obtain ⟨j', e1, e2⟩ := Option.map_eq_some_iff.mp h
      subst e2
      have ek : (f == k) = false := beq_eq_false_iff_ne.mpr fun z => e z.symm
      rw [List.lookup_cons, ek]
      exact idx_lookup e1
theorem gpl_fld {cs : List Str} {f : Str} (h : GPl G pz X o pl) (hc : ∀ c ∈ cs, Cls X.K (G.cls c) ∧ NoAttr X.K (G.cls c) f) (hb : ∀ pn xe, attributeBase o f (X.tr pn xe).env (eval o (X.tr pn xe).env) = eval o (X.tr pn xe).env := by intro _ _; rfl) : GPl G pz X (.Attribute o f pos) (plFld cs f pl) := fun pn xe σ H X0 pins F Q Γ p d ho hp hd q => by
  unfold plFld at hp
  obtain ⟨p0, e0, e1⟩ := Option.bind_eq_some_iff.mp hp
  split at e1
  · rename_i ow c fs l eg
    split at e1
    · rename_i hm
      obtain ⟨j, e2, e3⟩ := Option.map_eq_some_iff.mp e1
      subst e3
      have hch : l[j]? = some d := by
        unfold getP at hd eg
        split at hd
        · rename_i d0 ed
          rw [ed] at eg
          obtain ⟨o', k', l', g1, g2⟩ := at_snoc hd
          have eg : d0.at p0.snd = some (.nd ow (.ins c fs) l) := eg
          rw [g1] at eg
          cases eg
          exact g2
        · cases hd
      refine wE.of (pe_fld (X := X.tr pn xe) pe_w (hb pn xe)) (h pn xe σ H X0 pins F _ Γ p0 _ ho e0 eg fun v v0 H' g hv ov va => ?_)
      obtain ⟨Fv, ov⟩ := ov
      cases ov with
      | fz r =>
        cases r with
        | nd hn rs =>
          obtain ⟨_, dx, fvs, h1, h2, h3⟩ := hn
          subst h2
          subst h3
          obtain ⟨w, w1, w2⟩ := rs.get' hch
          exact ⟨_, _, dx, fvs, w, rfl, h1, (hc _ hm).1, (hc _ hm).2, (idx_lookup e2).trans w1, q w v0 H' g hv w2.bw fun z => by
            have : d.fz = true := by cases w2 <;> rfl
            rw [this] at z
            cases z⟩
      | nd hn rs =>
        obtain ⟨ob, h0, dx, fvs, h1, h2, h3⟩ := hn
        subst h1
        subst h2
        subst h3
        obtain ⟨w, Fw, w1, w2⟩ := rs.get' hch
        exact ⟨_, _, dx, fvs, w, rfl, h0, (hc _ hm).1, (hc _ hm).2, (idx_lookup e2).trans w1, q w v0 H' g hv ⟨_, w2⟩ fun _ => (va rfl).snoc (k := .ins c (fvs.map (·.1))) ⟨_, h0, dx, fvs, rfl, rfl, rfl⟩ w1⟩
    · cases e1
  · cases e1
/-! ### arguments -/
theorem gag_nil : GAg G pz X [] agNil := fun pn xe W σ H X0 pins F Q Γ tk ho q => wA.of pa_nil (q [] H F (.refl _ _ _) ho .nil .refl)
theorem gag_val (h : GO G pz X e m) (hr : GAg G pz X es ms) (hs : ∀ pn xe, starEach (e :: es) (X.tr pn xe).env = (false, eval e (X.tr pn xe).env) :: starEach es (X.tr pn xe).env := by intro _ _; rfl) : GAg G pz X (e :: es) (agVal m ms) := fun pn xe W σ H X0 pins F Q Γ tk ho q =>
  wA.of (pa_cons (X := X.tr pn xe) pe_w pa_w (hs pn xe)) (h pn xe W σ H X0 pins F _ Γ tk ho (q.bind fun d Γ1 q1 _ p1 v H1 F1 s1 ho1 o1 qt1 =>
    hr pn xe W σ H1 X0 pins F1 _ Γ1 tk ho1 ((p1.gaft s1 qt1).bind fun as Γ2 q2 _ p2 vs H2 F2 s2 ho2 o2 qt2 => by
      by_cases hd : d.fz = true
      · rw [if_pos hd] at p2
        have p2 : AgPost X.K G pz X0 pins F1 H1 σ Q (.val d :: as) Γ2 (q2 && true) := p2
        rw [Bool.and_true] at p2
        exact p2 (v :: vs) H2 F2 s2 ho2 (.val hd ((o1.rp hd).move s2.mv.left) o2) qt2
      · rw [if_neg hd] at p2
        exact p2.elim)))
theorem gag_pl (h : GPl G pz X e pl) (hr : GAg G pz X es ms) (hs : ∀ pn xe, starEach (e :: es) (X.tr pn xe).env = (false, eval e (X.tr pn xe).env) :: starEach es (X.tr pn xe).env := by intro _ _; rfl) : GAg G pz X (e :: es) (agPl pl ms) := fun pn xe W σ H X0 pins F Q Γ tk ho q => by
  unfold agPl at q
  split at q
  · rename_i p hp
    split at q
    · rename_i d hd
      refine wA.of (pa_cons (X := X.tr pn xe) pe_w pa_w (hs pn xe)) (h pn xe σ H X0 pins F _ Γ p d ho hp hd fun v v0 H1 g hv o1 va => ?_)
      have q2 : RgPost X.K G pz X0 pins F H1 σ W (AgPost X.K G pz X0 pins F H1 σ Q) (((ms Γ).gd (d.fz || p.2.isEmpty)).bind fun as Γ2 => .ok ((if d.fz = true then .val d else .own p.1 p.2) :: as) Γ2 true) := by
        rw [← Rg.andq_true (Rg.bind _ _)] at q
        exact q.gaft (g.step F) fun _ => ⟨g, fun _ h => h⟩
      refine hr pn xe W σ H1 X0 pins F _ Γ tk (ho.grow g) ((q2.bind fun as Γ2 q2 _ p2 => p2).gd.mono fun as Γ2 q2 _ p2 vs H2 F2 s2 ho2 o2 qt2 => ?_)
      obtain ⟨hq, p2⟩ := p2
      have p2 : AgPost X.K G pz X0 pins F H1 σ Q ((if d.fz = true then .val d else .own p.1 p.2) :: as) Γ2 (q2 && true) := p2
      rw [Bool.and_true] at p2
      by_cases hf : d.fz = true
      · rw [if_pos hf] at p2
        exact p2 (v :: vs) H2 F2 s2 ho2 (.val hf ((o1.rp hf).move s2.mv.left) o2) qt2
      · rw [if_neg hf] at p2
        have hf' : d.fz = false := Bool.not_eq_true _ ▸ hf
        refine p2 (v :: vs) H2 F2 s2 ho2 (.own hv ?_ o2) qt2
        rw [hf', Bool.false_or] at hq
        cases hp2 : p.2 with
        | nil =>
          have := va hf'
          rw [hp2] at this
          cases this
          exact .nil
        | cons j r =>
          have va := va hf'
          rw [hp2] at va hq
          have hq : q2 = true := by simpa using hq
          exact va.grow (qt2 hq).1
    · exact q.elim
  · exact q.elim
/-! ### behind a call -/
theorem lend_vals : ∀ {as : List Ag} {ds : List D} {Γ : Sl}, as.all Ag.isV = true → lendA Γ as = some ds → ∀ bs, giveA Γ as bs = Γ
  | [], _, _, _, _, bs => by unfold giveA; rfl
  | .val d :: as, ds, Γ, h, e, bs => by
    rw [lendA] at e
    obtain ⟨ds', e1, e2⟩ := Option.map_eq_some_iff.mp e
    rw [List.all_cons, Bool.and_eq_true] at h
    cases bs with
    | nil => rfl
    | cons b bs => rw [giveA]; exact lend_vals h.2 e1 bs
  | .own _ _ :: _, _, _, h, _, _ => by cases h
theorem lend_own : ∀ {as : List Ag} {ds : List D} {vs : List V} {F1 : List Addr} {Γ : Sl}, as.all Ag.isV = true → lendA Γ as = some ds → PtOk K G Y H σ as vs → Owns K G Y' H' vs ds F1 → F1 = []
  | [], _, _, _, _, _, e, .nil, o => by
    cases e
    cases o
    rfl
  | .val d :: as, ds, _, _, Γ, h, e, .val hf r q, o => by
    rw [lendA] at e
    obtain ⟨ds', e1, e2⟩ := Option.map_eq_some_iff.mp e
    subst e2
    rw [List.all_cons, Bool.and_eq_true] at h
    cases o with
    | cons o1 o2 =>
      rw [(o1.rp hf).2, lend_own h.2 e1 q o2]
      rfl
  | .own _ _ :: _, _, _, _, _, h, _, _, _ => by cases h
theorem Hold.called {f : List D → RF} {vs : List V} (ho : Hold K G pz X0 pins Γ σ H F) (pt : PtOk K G (X0 ++ F) H σ as vs) (q : RgPost K G pz X0 pins F H σ W (VPost K G pz X0 pins F H σ Q) (runF f as Γ)) :
    ∃ ds X1 F1, Owns K G (X1 ++ F1) H vs ds F1 ∧ (X1 ++ F1).Nodup ∧ (∀ a ∈ X1, ∃ o, H a = some o ∧ MT o) ∧ GL.Tabs G.T H ∧ CPost K G X1 F1 H vs Q (fun c d H' => W c d σ H') (f ds) := by
  unfold runF at q
  cases el : lendA Γ as with
  | none => rw [el] at q; exact q.elim
  | some ds =>
  simp only [el] at q
  obtain ⟨F0, s, p0⟩ := ho.sl
  obtain ⟨F1, F2, o1, p1, put⟩ := s.lend pt el
  have pf : (F1 ++ F2).Perm F := p1.trans p0
  have sb : ∀ a, a ∈ (X0 ++ F2) ++ F1 ↔ a ∈ X0 ++ F := fun a => by
    rw [List.append_assoc, List.mem_append, List.mem_append (s := X0), ← pf.mem_iff, List.mem_append, List.mem_append]
    constructor <;> (intro h; rcases h with h | h | h <;> simp [h])
  have n1 : ((X0 ++ F2) ++ F1).Nodup := by
    rw [List.append_assoc]
    exact nd_of_perm (List.perm_append_comm.trans pf) ho.nd
  have live2 : ∀ a ∈ X0 ++ F2, ∃ o, H a = some o ∧ MT o := fun a ha => ho.liveX a ((sb a).mp (List.mem_append_left _ ha))
  refine ⟨ds, X0 ++ F2, F1, o1.sub fun a ha => (sb a).mp ha, n1, live2, ho.tb, ?_⟩
  have keep : ∀ {Fx H'}, Step G F1 H Fx H' → KeepF F2 H H' := fun {Fx H'} st a u ha e => by
    obtain ⟨w, e1, n⟩ := live2 a (List.mem_append_right _ ha)
    have : u = w := Option.some.inj (e.symm.trans e1)
    subst this
    refine st.mv.kp a u e (fun z => ?_) n.1
    rw [List.nodup_append] at n1
    exact n1.2.2 a (List.mem_append_right _ ha) a z rfl
  cases ef : f ds with
  | st => rw [ef] at q; exact q.elim
  | rt d bs =>
    rw [ef] at q
    intro v H' F' Fv st os nod ov tb
    have mv : Mv (X0 ++ F) H ((X0 ++ Fv) ++ (F' ++ F2)) H' := ⟨fun a u e hx n => st.mv.kp a u e (fun z => hx ((sb a).mp (List.mem_append_right _ z))) n, fun a u ha e n => by
      rw [← sb]
      simp only [List.mem_append] at ha ⊢
      rcases ha with (h | h) | h | h
      · exact .inl (.inl h)
      · exact .inr (st.mv.fr a u (List.mem_append_left _ h) e n)
      · exact .inr (st.mv.fr a u (List.mem_append_right _ h) e n)
      · exact .inl (.inr h)⟩
    obtain ⟨F3, s3, F4, p4, p3⟩ := put (Y' := (X0 ++ Fv) ++ (F' ++ F2)) (H' := H') bs F' mv (keep st) (os.sub fun a ha => by
        simp only [List.mem_append] at ha ⊢
        rcases ha with (h | h) | h | h
        · exact .inl (.inl (.inl h))
        · exact .inl (.inr h)
        · exact .inr h
        · exact .inl (.inl (.inr h)))
    have h42 : ∀ a ∈ F4 ++ F2, a ∈ F' ++ F2 := fun a ha => (List.mem_append.mp ha).elim (fun z => List.mem_append_left _ (p4.subset z)) (List.mem_append_right _)
    have nn : ((X0 ++ Fv) ++ (F' ++ F2)).Nodup := by
      refine (List.Perm.nodup_iff ?_).mp nod
      simp only [List.append_assoc]
      refine List.Perm.append_left X0 ?_
      refine (List.perm_append_comm).trans ?_
      rw [List.append_assoc]
    have nn4 : ((X0 ++ Fv) ++ (F4 ++ F2)).Nodup := nn.sublist ((p4.append_right F2).append_left _)
    have fin : Hold K G pz (X0 ++ Fv) pins (giveA Γ as bs) σ H' (F4 ++ F2) := ⟨⟨F3, s3.sub (sub_app h42), p3⟩, nn4, fun a ha => by
        rcases List.mem_append.mp ha with z | z
        · obtain ⟨u, e, n⟩ := ho.in0 a z
          exact ⟨u, st.mv.kp a u e (fun y => by
            rw [List.nodup_append] at n1
            exact n1.2.2 a (List.mem_append_left _ z) a y rfl) n.1, n⟩
        · exact ov.live a z, tb, ho.pn⟩
    have stp : Step G F H (Fv ++ (F4 ++ F2)) H' := ⟨⟨fun a u e hx n => st.mv.kp a u e (fun z => hx (pf.mem_iff.mp (List.mem_append_left _ z))) n, fun a u ha e n => by
        rw [← pf.mem_iff]
        simp only [List.mem_append] at ha ⊢
        rcases ha with h | h | h
        · exact .inl (st.mv.fr a u (List.mem_append_left _ h) e n)
        · exact .inl (st.mv.fr a u (List.mem_append_right _ (p4.subset h)) e n)
        · exact .inr h⟩, st.tb⟩
    have ov2 : Own K G ((X0 ++ Fv) ++ (F4 ++ F2)) H' v d Fv := ov.sub fun a ha => by
        simp only [List.mem_append] at ha ⊢
        rcases ha with (h | h) | h | h
        · exact .inl (.inl (.inl h))
        · exact .inl (.inr h)
        · exact .inr (p4.subset h)
        · exact .inl (.inl (.inr h))
    cases hv : as.all Ag.isV with
    | false =>
      simp only [hv] at q
      exact q v H' (F4 ++ F2) Fv stp fin ov2 fun z => by cases z
    | true =>
      simp only [hv] at q
      have e1 : F1 = [] := lend_own hv el pt o1
      subst e1
      have q : VPost K G pz X0 pins F H σ Q d (giveA Γ as bs) true := q
      rw [lend_vals hv el bs] at q fin
      have g : Grow G H H' := ⟨fun a u e n => st.mv.kp a u e (fun z => by cases z) n, st.tb⟩
      have fr : Fsh H Fv := fun a ha o e n => by cases st.mv.fr a o (List.mem_append_left _ ha) e n
      refine fr_v ho q v H' Fv g fr ?_ ?_
      · have := fin.nd
        rw [List.nodup_append] at this
        have := this.1
        rw [List.nodup_append] at this
        exact this.2.1
      · refine ov.sub fun a ha => ?_
        have pf2 : ∀ a, a ∈ F → a ∈ F2 := fun a h => (pf.mem_iff (a := a)).mpr h
        rcases List.mem_append.mp ha with z | z
        · rcases List.mem_append.mp z with z | z
          · simp [z]
          · simp [pf2 a z]
        · simp [z]
  | er x bs =>
    rw [ef] at q
    intro c dd H' F' st os nod xr tb
    have mv : Mv (X0 ++ F) H (X0 ++ (F' ++ F2)) H' := ⟨fun a u e hx n => st.mv.kp a u e (fun z => hx ((sb a).mp (List.mem_append_right _ z))) n, fun a u ha e n => by
      rw [← sb]
      simp only [List.mem_append] at ha ⊢
      rcases ha with h | h | h
      · exact .inl (.inl h)
      · exact .inr (st.mv.fr a u h e n)
      · exact .inl (.inr h)⟩
    obtain ⟨F3, s3, F4, p4, p3⟩ := put (Y' := X0 ++ (F' ++ F2)) (H' := H') bs F' mv (keep st) (os.sub fun a ha => by
        simp only [List.mem_append] at ha ⊢
        rcases ha with h | h | h
        · exact .inl (.inl h)
        · exact .inr h
        · exact .inl (.inr h))
    have h42 : ∀ a ∈ F4 ++ F2, a ∈ F' ++ F2 := fun a ha => (List.mem_append.mp ha).elim (fun z => List.mem_append_left _ (p4.subset z)) (List.mem_append_right _)
    have nn : (X0 ++ (F' ++ F2)).Nodup := by
      refine (List.Perm.nodup_iff ?_).mp nod
      rw [List.append_assoc]
      exact List.perm_append_comm.append_left X0
    refine q c dd H' (F4 ++ F2) ⟨⟨fun a u e hx n => st.mv.kp a u e (fun z => hx (pf.mem_iff.mp (List.mem_append_left _ z))) n, fun a u ha e n => ?_⟩, st.tb⟩ ⟨⟨F3, s3.sub (sub_app h42), p3⟩, nn.sublist ((p4.append_right F2).append_left X0), fun a z => ?_, tb, ho.pn⟩ xr
    · rw [← pf.mem_iff]
      rcases List.mem_append.mp ha with h | h
      · exact List.mem_append_left _ (st.mv.fr a u (p4.subset h) e n)
      · exact List.mem_append_right _ h
    · obtain ⟨u, e, n⟩ := ho.in0 a z
      exact ⟨u, st.mv.kp a u e (fun y => by
        rw [List.nodup_append] at n1
        exact n1.2.2 a (List.mem_append_left _ z) a y rfl) n.1, n⟩
end
end GL
namespace GL
open PySem PySem.Spec PyProof.Rows L2
def Ag.fix : Ag → Bool
  | .val _ => true
  | .own _ p => p.isEmpty
def D.cls (mn : Str) : D → Option Str
  | .nd _ (.ins c fs) _ => if mn ∈ fs then none else some c
  | _ => none
def rPl (pl : Sl → Option Place) : Sl → Rg (Ag × D) := fun Γ => match pl Γ with
  | some p => match getP Γ p with
    | some d => .ok (if d.fz = true then .val d else .own p.1 p.2, d) Γ true
    | none => .st
  | none => .st
def rVal (m : Sl → Re) : Sl → Rg (Ag × D) := fun Γ => (m Γ).bind fun d Γ => if d.fz = true then .ok (.val d, d) Γ true else .st
def mMt (cs : List (Str × (List D → RF))) (mn : Str) (mr : Sl → Rg (Ag × D)) (ms : Sl → Rg (List Ag)) : Sl → Re := fun Γ => (mr Γ).bind fun r Γ1 => match (r.2.cls mn).bind fun c => cs.lookup c with
  | some f => ((ms Γ1).gd r.1.fix).bind fun as Γ2 => runF f (r.1 :: as) Γ2
  | none => .st
section
variable {K : PySem.W.Frag} {G : Wd} {pz : List Nat} {X0 F F' F1 F2 Fv Fw Y Y' : List Addr} {pins : Nat → V} {Γ Γ1 : Sl} {σ : L2.St} {H H' H1 H2 : Hp} {X : Cx} {a b c e o : Expr} {es : List Expr} {d d1 : D} {v w y : V} {p pos apos : Pos} {W : WX} {Q : VK} {as : List Ag} {vs : List V} {ds bs : List D} {i : Nat} {m : Sl → Re} {ms : Sl → Rg (List Ag)} {pl : Sl → Option Place} {q q1 : Bool} {fm : List D → RF} {k : Nat} {f : Addr} {fd : FuncData} {ps : List Str} {x mn cn : Str} {mr : Sl → Rg (Ag × D)} {cs : List (Str × (List D → RF))}
/-- what a call is given -/
def Given (K : PySem.W.Frag) (G : Wd) (W : WX) (σ : L2.St) (Q : VK) (fm : List D → RF) (vs : List V) (H : Hp) : Prop := Pr K G fm vs H Q (fun c d H' => W c d σ H')
theorem Hold.given (ho : Hold K G pz X0 pins Γ σ H F) (pt : PtOk K G (X0 ++ F) H σ as vs) (q : RgPost K G pz X0 pins F H σ W (VPost K G pz X0 pins F H σ Q) (runF fm as Γ)) : Given K G W σ Q fm vs H := ho.called pt q
/-- f(a, ..) -/
theorem ge_call (Fk : FnOk X.prog X.w X.K X.mg X.base (L2.CX X.prog X.w) k f fd ps (Pr X.K G fm)) (hr : Room k X.A) (hm : X.mg x = some (.ref f)) (hk : PySem.W.keepIn X.K (.ref f) = true) (hb : Binds X.K fd ps []) (ha : GAg G pz X (e :: es) ms)
    (hg : Gl X x := by rfl) (hdb : (x == ("__debug__" : Str)) = false := by decide) (he : ∀ pn xe, starEach (e :: es) (X.tr pn xe).env = (false, eval e (X.tr pn xe).env) :: starEach es (X.tr pn xe).env := by intro _ _; rfl) (hpl : ∀ pn xe, (backTo pos (starEach es (X.tr pn xe).env)).any (·.1) = false := by intro _ _; rfl) :
    GE G pz X (.Call (.Name x p) (e :: es) [] pos) (mFn fm ms) := fun pn xe W σ H X0 pins F Q Γ tk ho q => fun pins' s I => by
  refine wpAny_Call_Name_kw (ld_glob (X := X.tr pn xe) I hg hm ?_ hdb)
  refine PySem.W.callWith_K (h₀ := X.base) I.ok.mod.kin hk (thn ((ha pn xe W σ H X0 pins F (Given X.K G W σ Q fm) Γ tk ho (q.bind fun as Γ1 q1 _ p vs H1 F1 s1 ho1 pt qt => ho1.given pt (p.vaft s1 qt))) pos pins' s I) fun us s1 ⟨vs, H1, I1, r, gv⟩ => ⟨I1.kIn, ?_⟩) (he pn xe) (hpl pn xe)
  exact run_fnS (X := X.tr pn xe) (E := fun σ c d H => W c d σ H) (sp := Pr X.K G fm) (CX := L2.CX X.prog X.w) Fk hr hb (L2.passAt tk σ) I1 r gv
/-! ### methods -/
def RPost (K : PySem.W.Frag) (G : Wd) (pz : List Nat) (X0 : List Addr) (pins : Nat → V) (F : List Addr) (H : Hp) (σ : L2.St) (Q : VK) (r : Ag × D) (Γ' : Sl) (q : Bool) : Prop :=
  ∀ v H' F', Step G F H F' H' → Hold K G pz X0 pins Γ' σ H' F' → PtOk K G (X0 ++ F') H' σ [r.1] [v] → Bw K G H' (X0 ++ F') v r.2 → Qt G F H q H' F' → Q v H'
/-- a receiver -/
def GR (G : Wd) (pz : List Nat) (X : Cx) (e : Expr) (m : Sl → Rg (Ag × D)) : Prop :=
  ∀ pn xe W σ H X0 pins F Q Γ, Takes (X.tr pn xe) W → Hold X.K G pz X0 pins Γ σ H F → RgPost X.K G pz X0 pins F H σ W (RPost X.K G pz X0 pins F H σ Q) (m Γ) → wE (X.tr pn xe) e σ H Q
theorem gr_pl (h : GPl G pz X o pl) : GR G pz X o (rPl pl) := fun pn xe W σ H X0 pins F Q Γ tk ho q => by
  unfold rPl at q
  split at q
  · rename_i p hp
    split at q
    · rename_i d hd
      refine h pn xe σ H X0 pins F Q Γ p d ho hp hd fun v v0 H1 g hv o1 va => q v H1 F (g.step F) (ho.grow g) ?_ o1 fun _ => ⟨g, fun _ h => h⟩
      by_cases hf : d.fz = true
      · show PtOk X.K G (X0 ++ F) H1 σ [if d.fz = true then _ else _] [v]
        rw [if_pos hf]
        exact .val hf (o1.rp hf) .nil
      · show PtOk X.K G (X0 ++ F) H1 σ [if d.fz = true then _ else _] [v]
        rw [if_neg hf]
        exact .own hv (va (Bool.not_eq_true _ ▸ hf)) .nil
    · exact q.elim
  · exact q.elim
theorem gr_val (h : GO G pz X o m) : GR G pz X o (rVal m) := fun pn xe W σ H X0 pins F Q Γ tk ho q =>
  h pn xe W σ H X0 pins F Q Γ tk ho (q.bind fun d Γ1 q1 _ p v H' F' s ho' o1 qt => by
    by_cases hf : d.fz = true
    · rw [if_pos hf] at p
      have p : RPost X.K G pz X0 pins F H σ Q (.val d, d) Γ1 (q1 && true) := p
      rw [Bool.and_true] at p
      exact p v H' F' s ho' (.val hf (o1.rp hf) .nil) o1 qt
    · rw [if_neg hf] at p
      exact p.elim)
theorem PtOk.step {ag : Ag} (h : PtOk K G (X0 ++ F) H σ [ag] [v]) (s : Step G F H F' H') (qt : Qt G F H q H' F') (hq : (ag.fix || q) = true) : PtOk K G (X0 ++ F') H' σ [ag] [v] := by
  cases h with
  | val hf r _ => exact .val hf (r.move s.mv.left) .nil
  | @own i p v0 _ _ _ e va _ =>
    refine .own e ?_ .nil
    cases hp : p with
    | nil =>
      rw [hp] at va
      cases va
      exact .nil
    | cons j r =>
      rw [hp] at hq va
      have hq : q = true := by
        unfold Ag.fix at hq
        simpa using hq
      exact va.grow (qt hq).1
theorem PtOk.app {ag : Ag} : PtOk K G Y H σ [ag] [v] → PtOk K G Y H σ as vs → PtOk K G Y H σ (ag :: as) (v :: vs)
  | .val f r .nil, h => .val f r h
  | .own e va .nil, h => .own e va h
/-- the methods mn of the classes in cs -/
def MtOk (X : Cx) (G : Wd) (mn : Str) (cs : List (Str × (List D → RF))) : Prop := ∀ c fm, cs.lookup c = some fm →
  ∃ k f fd ps, FnOk X.prog X.w X.K X.mg X.base (L2.CX X.prog X.w) k f fd ps (Pr X.K G fm) ∧ Room k X.A ∧ Cls X.K (G.cls c) ∧ Meth X.K (G.cls c) mn f ∧ Binds X.K fd ps []
theorem D.cls_ins {c : Str} (h : d.cls mn = some c) : ∃ o fs l, d = .nd o (.ins c fs) l ∧ mn ∉ fs := by
  unfold D.cls at h
  split at h
  · split at h
    · cases h
    · rename_i hn
      cases h
      exact ⟨_, _, _, rfl, hn⟩
  · cases h
theorem look_out : ∀ {fvs : List (Str × V)}, mn ∉ fvs.map (·.1) → fvs.lookup mn = none
  | [], _ => rfl
  | (k, w) :: fvs, h => by
    rw [List.map_cons, List.mem_cons, not_or] at h
    have ek : (mn == k) = false := beq_eq_false_iff_ne.mpr h.1
    rw [List.lookup_cons, ek]
    exact look_out h.2
/-- what the receiver is, for the call of its method -/
def RecOk (K : PySem.W.Frag) (G : Wd) (mn : Str) (d : D) (v : V) (H : Hp) : Prop := ∀ c, d.cls mn = some c → ∃ qa dx fvs, v = .ref qa ∧ H qa = some (.ins (G.cls c) dx fvs) ∧ fvs.lookup mn = none
theorem Bw.rec (h : Bw K G H Y v d) : RecOk K G mn d v H := fun c e => by
  obtain ⟨o, fs, l, rfl, hn⟩ := D.cls_ins e
  obtain ⟨p, dx, fvs, F, rfl, h1, rfl, h3⟩ := h.ins
  exact ⟨p, dx, fvs, rfl, h1, look_out hn⟩
/-- the receiver is there -/
def Rcv (X : Cx) (G : Wd) (pz : List Nat) (X0 : List Addr) (pins : Nat → V) (F : List Addr) (H : Hp) (σ : L2.St) (W : WX) (Q : VK) (mn : Str) (cs : List (Str × (List D → RF))) (ms : Sl → Rg (List Ag)) (v : V) (H1 : Hp) : Prop :=
  ∃ ag c fm qa dx fvs Γ1 F1, Step G F H F1 H1 ∧ Hold X.K G pz X0 pins Γ1 σ H1 F1 ∧ PtOk X.K G (X0 ++ F1) H1 σ [ag] [v] ∧ cs.lookup c = some fm ∧ v = .ref qa ∧ H1 qa = some (.ins (G.cls c) dx fvs) ∧ fvs.lookup mn = none ∧
    RgPost X.K G pz X0 pins F1 H1 σ W (VPost X.K G pz X0 pins F1 H1 σ Q) (((ms Γ1).gd ag.fix).bind fun as Γ2 => runF fm (ag :: as) Γ2)
theorem rcv_run (ho' : GR G pz X o mr) (pn xe) (tk : Takes (X.tr pn xe) W) (hh : Hold X.K G pz X0 pins Γ σ H F) (q : RgPost X.K G pz X0 pins F H σ W (VPost X.K G pz X0 pins F H σ Q) (mMt cs mn mr ms Γ)) : wE (X.tr pn xe) o σ H (Rcv X G pz X0 pins F H σ W Q mn cs ms) :=
  ho' pn xe W σ H X0 pins F _ Γ tk hh (q.bind fun r Γ1 q1 e1 p v H1 F1 s1 ho1 pt ov qt => by
    cases ec : (r.2.cls mn).bind fun c => cs.lookup c with
    | none => simp only [ec] at p; exact p.elim
    | some fm =>
      simp only [ec] at p
      obtain ⟨c, e2, e3⟩ := Option.bind_eq_some_iff.mp ec
      obtain ⟨qa, dx, fvs, g1, g2, g3⟩ := ov.rec c e2
      exact ⟨r.1, c, fm, qa, dx, fvs, Γ1, F1, s1, ho1, pt, e3, g1, g2, g3, p.vaft s1 qt⟩)
/-- o.m(a, ..) -/
theorem ge_meth {plk : Sem Bool} (ho' : GR G pz X o mr) (ha : GAg G pz X (e :: es) ms) (hc : MtOk X G mn cs) (hst : ∀ pn xe, starEach (e :: es) (X.tr pn xe).env = (false, eval e (X.tr pn xe).env) :: starEach es (X.tr pn xe).env := by intro _ _; rfl) (hpl : ∀ pn xe, (backTo pos (starEach es (X.tr pn xe).env)).any (·.1) = false := by intro _ _; rfl)
    (ht : ∀ pn xe, eval (.Call (.Attribute o mn apos) (e :: es) [] pos) (X.tr pn xe).env = (do
      let ov ← eval o (X.tr pn xe).env
      standAt apos.atName
      let (f, first) ← holding [ov] (getMethod ov mn plk)
      callWith pos f first (backTo pos (starEach (e :: es) (X.tr pn xe).env)) (backToKw pos (keywordEach [] (X.tr pn xe).env))) := by intro _ _; rfl) :
    GE G pz X (.Call (.Attribute o mn apos) (e :: es) [] pos) (mMt cs mn mr ms) := fun pn xe W σ H X0 pins F Q Γ tk hh q => fun pins' s I => by
  refine PySem.W.methodCall_KW (pl := plk) (thn ((rcv_run ho' pn xe tk hh q) pins' s I) fun u s1 ⟨v, H1, I1, rx, ag, c, fm, qa, dx, fvs, Γ1, F1, st1, ho1, pt, ec, ev, h1, h2, p⟩ => ?_) (ht pn xe)
  subst ev
  obtain rfl : u = Value.ref qa := rx
  obtain ⟨k, f, fd, ps, Fk, hr, hcl, hme, hb⟩ := hc c fm ec
  refine getmeth_ok I1 h1 hcl hme h2 ?_
  refine PySem.W.callWith_K (first := [.ref qa]) (h₀ := X.base) I.ok.mod.kin hme.kp (thn ((ha pn xe W σ H1 X0 pins F1 (fun vs H2 => Given X.K G W σ Q fm (.ref qa :: vs) H2) Γ1 tk ho1 ((p.bind fun as Γ2 q2 _ p2 => p2).gd.mono fun as Γ2 q2 _ p2 vs H2 F2 s2 ho2 pt2 qt2 => by
    obtain ⟨hq, p2⟩ := p2
    exact ho2.given ((pt.step s2 qt2 hq).app pt2) (p2.vaft s2 qt2))) pos pins' s1 I1) fun us s2 ⟨vs, H2, I2, r, gv⟩ => ⟨I2.kIn, ?_⟩) (hst pn xe) (hpl pn xe)
  exact run_fnS (X := X.tr pn xe) (us := .ref qa :: us) (vs := .ref qa :: vs) (E := fun σ c d H => W c d σ H) (sp := Pr X.K G fm) (CX := L2.CX X.prog X.w) Fk hr hb (L2.passAt tk σ) I2 (.cons rfl r) gv
theorem ge_meth0 {plk : Sem Bool} (ho' : GR G pz X o mr) (hc : MtOk X G mn cs)
    (ht : ∀ pn xe, eval (.Call (.Attribute o mn apos) [] [] pos) (X.tr pn xe).env = (do
      let ov ← eval o (X.tr pn xe).env
      standAt apos.atName
      let (f, first) ← holding [ov] (getMethod ov mn plk)
      callWith pos f first (backTo pos (starEach [] (X.tr pn xe).env)) (backToKw pos (keywordEach [] (X.tr pn xe).env))) := by intro _ _; rfl) :
    GE G pz X (.Call (.Attribute o mn apos) [] [] pos) (mMt cs mn mr agNil) := fun pn xe W σ H X0 pins F Q Γ tk hh q => fun pins' s I => by
  refine PySem.W.methodCall_KW (pl := plk) (thn ((rcv_run ho' pn xe tk hh q) pins' s I) fun u s1 ⟨v, H1, I1, rx, ag, c, fm, qa, dx, fvs, Γ1, F1, st1, ho1, pt, ec, ev, h1, h2, p⟩ => ?_) (ht pn xe)
  subst ev
  obtain rfl : u = Value.ref qa := rx
  obtain ⟨k, f, fd, ps, Fk, hr, hcl, hme, hb⟩ := hc c fm ec
  refine getmeth_ok I1 h1 hcl hme h2 ?_
  have p : RgPost X.K G pz X0 pins F1 H1 σ W (VPost X.K G pz X0 pins F1 H1 σ Q) ((((Rg.ok [] Γ1 true : Rg (List Ag))).gd ag.fix).bind fun as Γ2 => runF fm (ag :: as) Γ2) := p
  have p2 : RgPost X.K G pz X0 pins F1 H1 σ W (VPost X.K G pz X0 pins F1 H1 σ Q) (runF fm [ag] Γ1) := by
    have e : ((Rg.ok [] Γ1 true : Rg (List Ag))).gd ag.fix = .ok [] Γ1 true := by
      show (if (ag.fix || true) = true then (Rg.ok [] Γ1 true : Rg (List Ag)) else .st) = _
      rw [Bool.or_true, if_pos rfl]
    rw [e] at p
    have p : RgPost X.K G pz X0 pins F1 H1 σ W (VPost X.K G pz X0 pins F1 H1 σ Q) ((runF fm [ag] Γ1).andq true) := p
    rwa [Rg.andq_true] at p
  exact PySem.W.callWith_K0 (first := [.ref qa]) I1.kIn hme.kp (run_fnS (X := X.tr pn xe) (us := [.ref qa]) (vs := [.ref qa]) (E := fun σ c d H => W c d σ H) (sp := Pr X.K G fm) (CX := L2.CX X.prog X.w) Fk hr hb (L2.passAt tk σ) I1 (.cons rfl .nil) (ho1.given pt p2))
end
end GL
namespace GL
open PySem PySem.Spec PyProof.Rows L2
section
variable {σ : L2.St} {X : Cx}
theorem run_makeS {CX : CXT} {k : Nat} {C f : Addr} {fd : FuncData} {ps : List Str} {sp : Sp} {E : L2.St → XK} {pins : List (Addr × Obj)} {s : Shared} {Q : VK} {us : List Value} {vs : List V} (M : Mk X.K C f) (Fk : FnOk X.prog X.w X.K X.mg X.base CX k f fd ps sp) (hr : Room (k + 1) X.A) (hb : Binds X.K fd ps []) (hx : PassesAt CX X σ (E σ)) (I : Inv X pins σ H s) (r : Vals vs us)
    (h : ∀ x dx, H x = none → H dx = none → dx ≠ x → sp (.ref x :: vs) (upd (upd H dx (.own x)) x (.ins C dx [])) (fun v H2 => v = .non ∧ Q (.ref x) H2) (E σ)) : wpAny (model X.prog X.w) X.A (call (.ref C) us) (EP X pins σ Q) X.xe s := by
  have q := h (s.heap.objs.size + 1) s.heap.objs.size (I.hok.fresh (Nat.le_succ _)) (I.hok.fresh (Nat.le_refl _)) (Nat.ne_of_lt (Nat.lt_succ_self _))
  have J := Inv.made (C := C) I
  have rr : Vals (V.ref (s.heap.objs.size + 1) :: vs) (Value.ref (s.heap.objs.size + 1) :: us) := .cons rfl r
  have len : (Value.ref (s.heap.objs.size + 1) :: us ++ ([] : List Value)).length = ps.length := by
    rw [List.append_nil, ← rr.length]
    exact Fk.len _ _ _ _ q
  have bd := hb _ (Value.ref (s.heap.objs.size + 1) :: us) J.kIn len
  rw [List.append_nil] at bd
  refine wpAny_call (make_map (f := f) I.kIn M.makes M.init (beq_iff_eq.mp M.fn) (codeAny_mono (Fk.run _ X.stack _ _ ⟨Value.ref (s.heap.objs.size + 1) :: us, []⟩ (Value.ref (s.heap.objs.size + 1) :: us) _ _ (E σ) (hr.make C us []) (J.env0.make C us []) bd rr q) fun res s' hq => ?_))
  cases res with
  | error e => exact hx pins _ _ e s' J hq
  | ok fl =>
    cases fl with
    | ret u =>
      obtain ⟨w, H', I3, rv, ew, q3⟩ := J.after hq
      subst ew
      exact ⟨rv, ⟨V.ref (s.heap.objs.size + 1), H', I3, rfl, q3⟩⟩
    | next => exact False.elim hq
    | brk => exact False.elim hq
    | cont => exact False.elim hq
end
/-- the class's __init__ is run on a new instance -/
def runMk (c : Str) (fm : List D → RF) (as : List Ag) (Γ : Sl) : Re := if as.all Ag.isV = true then match lendA Γ as with
  | some ds => match fm (.nd true (.ins c []) [] :: ds) with
    | .rt .non (b :: _) => .ok b Γ true
    | .er e _ => .er e Γ
    | _ => .st
  | none => .st
  else .st
def mMk (c : Str) (fm : List D → RF) (ms : Sl → Rg (List Ag)) : Sl → Re := fun Γ => (ms Γ).bind (runMk c fm)
def sRaise (c : Str) (m : Sl → Re) : Sl → So := fun Γ => (m Γ).so fun _ Γ => .er ⟨c, none⟩ Γ
section
variable {K : PySem.W.Frag} {G : Wd} {pz : List Nat} {X0 F F' F1 F2 Fv Fw Y Y' : List Addr} {pins : Nat → V} {Γ Γ1 : Sl} {σ : L2.St} {H H' H1 H2 : Hp} {X : Cx} {a b c e o : Expr} {es : List Expr} {d d1 : D} {v w y : V} {p pos apos : Pos} {W : WX} {Q : VK} {as : List Ag} {vs : List V} {ds bs : List D} {i : Nat} {m : Sl → Re} {ms : Sl → Rg (List Ag)} {pl : Sl → Option Place} {q q1 : Bool} {fm : List D → RF} {k : Nat} {f : Addr} {fd : FuncData} {ps : List Str} {x mn cn : Str} {mr : Sl → Rg (Ag × D)} {cs : List (Str × (List D → RF))}
theorem PtOk.vals : ∀ {as : List Ag} {vs : List V} {ds : List D} {Γ : Sl}, PtOk K G Y H σ as vs → as.all Ag.isV = true → lendA Γ as = some ds → Rps K G Y H vs ds
  | [], _, _, _, .nil, _, e => by cases e; exact .nil
  | .val d :: as, v :: vs, ds, Γ, .val hf r q, h, e => by
    rw [lendA] at e
    obtain ⟨ds', e1, e2⟩ := Option.map_eq_some_iff.mp e
    subst e2
    rw [List.all_cons, Bool.and_eq_true] at h
    exact .cons r (PtOk.vals q h.2 e1)
  | .own _ _ :: _, _, _, _, _, h, _ => by cases h
/-- x(a, ..), x a class of the program -/
theorem ge_make (M : Mk X.K (G.cls cn) f) (Fk : FnOk X.prog X.w X.K X.mg X.base (L2.CX X.prog X.w) k f fd ps (Pr X.K G fm)) (hr : Room (k + 1) X.A) (hx : X.mg x = some (.ref (G.cls cn))) (hb : Binds X.K fd ps []) (ha : GAg G pz X (e :: es) ms)
    (hg : Gl X x := by rfl) (hdb : (x == ("__debug__" : Str)) = false := by decide) (he : ∀ pn xe, starEach (e :: es) (X.tr pn xe).env = (false, eval e (X.tr pn xe).env) :: starEach es (X.tr pn xe).env := by intro _ _; rfl) (hpl : ∀ pn xe, (backTo pos (starEach es (X.tr pn xe).env)).any (·.1) = false := by intro _ _; rfl) :
    GE G pz X (.Call (.Name x p) (e :: es) [] pos) (mMk cn fm ms) := fun pn xe W σ H X0 pins F Q Γ tk ho q => fun pins' s I => by
  refine wpAny_Call_Name_kw (ld_glob (X := X.tr pn xe) I hg hx ?_ hdb)
  refine PySem.W.callWith_K (h₀ := X.base) I.ok.mod.kin M.kp (thn ((ha pn xe W σ H X0 pins F (fun vs H1 => ∃ as Γ1 F1, Hold X.K G pz X0 pins Γ1 σ H1 F1 ∧ PtOk X.K G (X0 ++ F1) H1 σ as vs ∧ RgPost X.K G pz X0 pins F1 H1 σ W (VPost X.K G pz X0 pins F1 H1 σ Q) (runMk cn fm as Γ1)) Γ tk ho (q.bind fun as Γ1 q1 _ p vs H1 F1 s1 ho1 pt qt => ⟨as, Γ1, F1, ho1, pt, p.vaft s1 qt⟩)) pos pins' s I) fun us s1 ⟨vs, H1, I1, r, as, Γ1, F1, ho1, pt, q⟩ => ⟨I1.kIn, ?_⟩) (he pn xe) (hpl pn xe)
  refine run_makeS (X := X.tr pn xe) (E := fun σ c d H => W c d σ H) (sp := Pr X.K G fm) (CX := L2.CX X.prog X.w) M Fk hr hb (L2.passAt tk σ) I1 r fun nx ndx n1 n2 n3 => ?_
  unfold runMk at q
  by_cases hv : as.all Ag.isV = true
  case neg => rw [if_neg hv] at q; exact q.elim
  rw [if_pos hv] at q
  cases el : lendA Γ1 as with
  | none => rw [el] at q; exact q.elim
  | some ds =>
  simp only [el] at q
  have rs := pt.vals hv el
  have g2 : Grow G H1 (upd (upd H1 ndx (.own nx)) nx (.ins (G.cls cn) ndx [])) := .of fun z u hu => by
    rw [upd_ne (ne_of_none hu n1), upd_ne (ne_of_none hu n2)]
    exact hu
  have ho2 := ho1.grow g2
  have nxX : nx ∉ X0 ++ F1 := fun z => by
    obtain ⟨u, hu, _⟩ := ho1.liveX nx z
    rw [n1] at hu
    cases hu
  have nod2 : ((X0 ++ F1) ++ [nx]).Nodup := by
    rw [List.nodup_append]
    refine ⟨ho1.nd, by simp, fun z hz w hw e => ?_⟩
    rw [List.mem_singleton.mp hw] at e
    exact nxX (e ▸ hz)
  have mvn : Mv (X0 ++ F1) H1 ((X0 ++ F1) ++ [nx]) (upd (upd H1 ndx (.own nx)) nx (.ins (G.cls cn) ndx [])) := ⟨fun z u hu _ n => g2.kp z u hu n, fun z u hz hu n => (List.mem_append.mp hz).elim id fun w => by
    rw [List.mem_singleton.mp w, n1] at hu
    cases hu⟩
  have kp2 : ∀ {Fx H'}, Step G [nx] (upd (upd H1 ndx (.own nx)) nx (.ins (G.cls cn) ndx [])) Fx H' → Grow G H1 H' := fun {Fx H'} st => ⟨fun z u hu n => st.mv.kp z u (g2.kp z u hu n) (fun y => by
    rw [List.mem_singleton.mp y, n1] at hu
    cases hu) n, fun t => st.tb (g2.tb t)⟩
  refine ⟨.nd true (.ins cn []) [] :: ds, X0 ++ F1, [nx], ?_, nod2, ho2.liveX, ho2.tb, ?_⟩
  · exact Owns.cons (F := [nx]) (F' := []) (.nd ⟨_, upd_same, ndx, [], rfl, rfl, rfl⟩ .nil) (rs.move mvn).owns
  · cases ef : fm (.nd true (.ins cn []) [] :: ds) with
    | st => rw [ef] at q; exact q.elim
    | er x bs =>
      rw [ef] at q
      intro c dd H' F' st os nod xr tb
      exact q c dd H' F1 ((kp2 st).step F1) (ho1.grow (kp2 st)) xr
    | rt d bs =>
      rw [ef] at q
      cases d with
      | non =>
        cases bs with
        | nil => exact q.elim
        | cons b bs =>
          intro v H' F' Fv st os nod ov tb
          obtain ⟨rv, ev⟩ := ov.rp rfl
          subst ev
          cases rv
          refine ⟨rfl, ?_⟩
          cases os with
          | @cons _ _ _ _ Fa Fb o1 o2 =>
            refine fr_v ho1 q (.ref nx) H' Fa (kp2 st) (fun z hz u hu n => ?_) ?_ ?_
            · have := st.mv.fr z u (List.mem_append_right _ (List.mem_append_left _ hz)) (g2.kp z u hu n) n
              rw [List.mem_singleton.mp this, n1] at hu
              cases hu
            · have := nod
              rw [List.nodup_append] at this
              have := this.2.1
              rw [List.nodup_append] at this
              exact this.1
            · exact o1.sub fun z hz => by
                simp only [List.mem_append] at hz ⊢
                rcases hz with (h | h) | h <;> simp [h]
      | any => exact q.elim
      | bl => exact q.elim
      | int => exact q.elim
      | str => exact q.elim
      | fn => exact q.elim
      | pr => exact q.elim
      | nd => exact q.elim
/-! ### raising -/
/-- an exception class of the program without fields, as the top has left it -/
structure XC (X : Cx) (G : Wd) (x : Str) : Prop where
  gC : X.mg x = some (.ref (G.cls x))
  q : PySem.W.excIn X.K (G.cls x) [.type "ValueError", .type "Exception", .type "BaseException", .type "object"] "ValueError.__new__" = true
  kC : PySem.W.keepIn X.K (.ref (G.cls x)) = true
  s1 : PySem.W.subIn X.K (.ref (G.cls x)) (.type "BaseException") = some true
  s2 : PySem.W.typeIn X.K (.ref (G.cls x)) = some (.type "type")
theorem gs_raise (C : XC X G x) (he : GE G pz X e m) (hc : X.calm = true := by rfl) (hg : Gl X x := by rfl) (hs : ∀ pn xe, starEach [e] (X.tr pn xe).env = (false, eval e (X.tr pn xe).env) :: starEach [] (X.tr pn xe).env := by intro _ _; rfl) (hdb : (x == ("__debug__" : Str)) = false := by decide) :
    GS G pz X (.Raise (some (.Call (.Name x p) [e] [] apos)) none pos) (sRaise x m) := fun pn xe W σ H X0 pins F D Γ tk hp ho q =>
  wS.of (ps_raise (X := X.tr pn xe) hc tk (SkE.pmk_own1 (X := X.tr pn xe) PySem.F.excBase_ValueError C.q C.gC C.kC (raises_own (X := X.tr pn xe) C.s1 C.s2) hg pe_w (hs pn xe) hdb)) (he pn xe W σ H X0 pins F _ Γ tk ho (So.bind (P := .st) q fun d Γ1 q1 _ p v H' F' Fv s0 ho' o qt =>
    p _ none σ H' F' (s0.shrink fun a ha => List.mem_append_right _ ha) ho'.drop ⟨rfl, rfl⟩))
end
end GL
namespace GL
open PySem PySem.Spec PyProof.Rows L2
def putP (Γ : Sl) (p : Place) (x : D) : Sl := match Γ[p.1]? with
  | some (some d) => Γ.set p.1 (some (d.put p.2 x))
  | _ => Γ
section
variable {K : PySem.W.Frag} {G : Wd} {pz : List Nat} {X0 F F' F1 F2 Fv Fw Fl Y Y' : List Addr} {pins : Nat → V} {Γ Γ1 : Sl} {σ : L2.St} {H H' H1 H2 : Hp} {X : Cx} {d d1 : D} {v w y : V} {W : WX} {Q : VK} {p : Place} {k : Kd} {l : List D}
/-- the tables stand where a thing is changed that is none -/
theorem tabs_upd {T : List (Addr × Str)} {H : Hp} {p : Addr} {u w : HO} (h : H p = some u) (h1 : NT u) (h2 : ∀ c q, u ≠ LamX.CodeO c q) (t : GL.Tabs T H) : GL.Tabs T (upd H p w) := fun r hr => by
  obtain ⟨ps, t1, t2, t3⟩ := t r hr
  refine ⟨ps, by rw [upd_ne (fun e => h1 ps (by rw [e, h] at t1; exact Option.some.inj t1))]; exact t1, t2, fun pos cv hc => ?_⟩
  obtain ⟨c, q1, c1, c2, c3⟩ := t3 pos cv hc
  exact ⟨c, q1, c1, by rw [upd_ne (fun e => h2 c q1 (by subst e; rw [h] at c2; exact Option.some.inj c2))]; exact c2, c3⟩
theorem ObO.co {o : HO} {vs : List V} (h : ObO G o k vs) : ∀ c q, o ≠ LamX.CodeO c q := fun c q e => by
  unfold LamX.CodeO at e
  cases k with
  | lst => cases h; cases e
  | dK ks => obtain ⟨_, rfl, _⟩ := h; cases e
  | dT ks => obtain ⟨_, rfl, _⟩ := h; cases e
  | ins c fs => obtain ⟨_, _, rfl, _⟩ := h; cases e
  | tup => cases h
  | ktp => cases h
  | scr => cases h
  | ptu => cases h
/-- an owned thing at a place, and how it may be changed -/
theorem Hold.node (ho : Hold K G pz (X0 ++ Fv) pins Γ σ H F) (hd : getP Γ p = some (.nd true k l)) : ∃ v0 a o vs Fl, σ[p.1]? = some (some v0) ∧ VAt G H v0 p.2 (.ref a) ∧ H a = some o ∧ ObO G o k vs ∧ Owns K G ((X0 ++ Fv) ++ F) H vs l Fl ∧
    ∀ {o' k' vs' l' Fl'}, ObO G o' k' vs' → Owns K G ((X0 ++ Fv) ++ F) H vs' l' Fl' → (∀ A : List Addr, (A ++ (Fv ++ Fl)).Nodup → (A ++ Fl').Nodup) → (∀ z ∈ Fl', z ∈ Fv ++ Fl) → ∃ F', Hold K G pz X0 pins (putP Γ p (.nd true k' l')) σ (upd H a o') F' ∧ Step G (Fv ++ F) H F' (upd H a o') := by
  unfold getP at hd
  split at hd
  case h_2 => cases hd
  rename_i d e
  obtain ⟨F0, s, p0⟩ := ho.sl
  obtain ⟨v0, Fi, F2, e2, o1, s2, p1⟩ := s.out e
  have pf := p1.trans p0
  obtain ⟨w, Fa, Fb, va, ow, p2, put⟩ := o1.hole hd rfl
  cases ow with
  | fz r => cases r
  | @nd a _ vs _ Fl n os =>
  obtain ⟨o, ha, ob⟩ := n
  refine ⟨v0, a, o, vs, Fl, e2, va, ha, ob, os, fun {o' k' vs' l' Fl'} ob' os' nodl sub => ?_⟩
  have nodF : ((X0 ++ Fv) ++ (((a :: Fl) ++ Fb) ++ F2)).Nodup := nd_of_perm ((p2.append_right F2).trans pf) ho.nd
  have memF : ∀ z, z ∈ ((a :: Fl) ++ Fb) ++ F2 ↔ z ∈ F := fun z => ((p2.append_right F2).trans pf).mem_iff
  -- the new whole
  have nodA : (X0 ++ (((a :: Fl') ++ Fb) ++ F2)).Nodup := by
    have z : (((X0 ++ [a]) ++ (Fb ++ F2)) ++ (Fv ++ Fl)).Nodup := by
      refine (List.Perm.nodup_iff ?_).mp nodF
      simp only [List.append_assoc]
      refine List.Perm.append_left X0 ?_
      show (Fv ++ (a :: (Fl ++ (Fb ++ F2)))).Perm (a :: (Fb ++ (F2 ++ (Fv ++ Fl))))
      refine List.perm_middle.trans (List.Perm.cons a ?_)
      have pm : ((Fv ++ Fl) ++ (Fb ++ F2)).Perm ((Fb ++ F2) ++ (Fv ++ Fl)) := List.perm_append_comm
      simpa only [List.append_assoc] using pm
    refine (List.Perm.nodup_iff ?_).mp (nodl _ z)
    simp only [List.append_assoc]
    refine List.Perm.append_left X0 (List.Perm.cons a ?_)
    show (Fb ++ (F2 ++ Fl')).Perm (Fl' ++ (Fb ++ F2))
    rw [← List.append_assoc]
    exact List.perm_append_comm
  have sub3 : ∀ z, z ∈ X0 ++ (((a :: Fl') ++ Fb) ++ F2) → z ∈ (X0 ++ Fv) ++ F := fun z hz => by
    rw [List.mem_append, ← memF]
    simp only [List.mem_append, List.mem_cons] at hz ⊢
    rcases hz with h | ((h | h) | h) | h
    · exact .inl (.inl h)
    · exact .inr (.inl (.inl (.inl h)))
    · rcases List.mem_append.mp (sub z h) with y | y
      · exact .inl (.inr y)
      · exact .inr (.inl (.inl (.inr y)))
    · exact .inr (.inl (.inr h))
    · exact .inr (.inr h)
  have aF : a ∈ F := (memF a).mp (by simp)
  have kp : ∀ z u, H z = some u → z ∉ (X0 ++ Fv) ++ F → NT u → upd H a o' z = some u := fun z u hu hx n => by
    rw [upd_ne (fun y => hx (by rw [y]; exact List.mem_append_right _ aF))]
    exact hu
  have mv : Mv ((X0 ++ Fv) ++ F) H (X0 ++ (((a :: Fl') ++ Fb) ++ F2)) (upd H a o') := ⟨kp, fun z u hz _ _ => sub3 z hz⟩
  have nota : ∀ z, z ∈ Fl' ∨ z ∈ Fb ∨ z ∈ F2 → z ≠ a := fun z hz y => by
    subst y
    have n := nodA
    rw [List.nodup_append] at n
    have n := n.2.1
    rw [List.append_assoc, List.cons_append] at n
    refine (List.nodup_cons.mp n).1 ?_
    simp only [List.mem_append]
    exact hz
  have kpF : ∀ A : List Addr, (∀ z ∈ A, z ∈ Fl' ∨ z ∈ Fb ∨ z ∈ F2) → KeepF A H (upd H a o') := fun A hA z u hz hu => by
    rw [upd_ne (nota z (hA z hz))]
    exact hu
  obtain ⟨_, F5, o5, p5⟩ := put (X' := X0 ++ (((a :: Fl') ++ Fb) ++ F2)) (H' := upd H a o') (.nd true k' l') (a :: Fl') mv (kpF Fb fun z hz => .inr (.inl hz)) (.nd ⟨o', upd_same, ob'⟩ (os'.move mv (kpF Fl' fun z hz => .inl hz)))
  obtain ⟨F6, s6, p6⟩ := (s2.move mv (kpF F2 fun z hz => .inr (.inr hz))).fill (i := p.1) (getSet e none) e2 o5
  rw [List.set_set] at s6
  have tb := tabs_upd (w := o') ha ob.nt ob.co ho.tb
  refine ⟨((a :: Fl') ++ Fb) ++ F2, ⟨⟨F6, ?_, p6.trans (p5.append_right F2)⟩, nodA, fun z hz => ?_, tb, ho.pn⟩, ⟨⟨fun z u hu hx n => ?_, fun z u hz hu n => ?_⟩, fun t => tabs_upd ha ob.nt ob.co t⟩⟩
  · unfold putP
    rw [e]
    exact s6
  · obtain ⟨u, hu, n⟩ := ho.in0 z (List.mem_append_left _ hz)
    refine ⟨u, ?_, n⟩
    rw [upd_ne (fun y => ?_)]
    · exact hu
    · have nn := nodF
      rw [List.nodup_append] at nn
      exact nn.2.2 z (List.mem_append_left _ hz) a (by simp) y
  · rw [upd_ne (fun y => hx (by rw [y]; exact List.mem_append_right _ aF))]
    exact hu
  · rcases List.mem_append.mp (sub3 z (List.mem_append_right _ hz)) with y | y
    · rcases List.mem_append.mp y with y | y
      · exfalso
        have nn := nodA
        rw [List.nodup_append] at nn
        exact nn.2.2 z y z hz rfl
      · exact List.mem_append_left _ y
    · exact List.mem_append_right _ y
end
end GL
namespace GL
open PySem PySem.Spec PyProof.Rows L2
/-- a field stored: in its place, or at the end -/
def putNs : List Str → Str → List Str
  | [], f => [f]
  | k :: ks, f => if k = f then k :: ks else k :: putNs ks f
def putNl : List Str → List D → Str → D → List D
  | k :: ks, x :: xs, f, d => if k = f then d :: xs else x :: putNl ks xs f d
  | _, _, _, d => [d]
def fldPut (cs : List Str) (f : Str) (x : D) (d : D) : Option D := match d with
  | .nd true (.ins c fs) l => if c ∈ cs ∧ fs.length < 900 then some (.nd true (.ins c (putNs fs f)) (putNl fs l f x)) else none
  | _ => none
/-- what is at a place is changed by u -/
def chg (pl : Sl → Option Place) (u : D → Option D) : Sl → So := fun Γ => match pl Γ with
  | some p => match getP Γ p with
    | some d => match u d with
      | some d' => .nx (putP Γ p d')
      | none => .st
    | none => .st
  | none => .st
def sFld (cs : List Str) (f : Str) (pl : Sl → Option Place) (mu : Bool) (m : Sl → Re) : Sl → So := fun Γ => (m Γ).so fun d Γ1 => chg pl (fldPut cs f (keepD mu d)) Γ1
section
variable {K : PySem.W.Frag} {G : Wd} {pz : List Nat} {X0 F F' F1 F2 Fv Fw Fl Y Y' : List Addr} {pins : Nat → V} {Γ Γ1 : Sl} {σ : L2.St} {H H' H1 H2 : Hp} {X : Cx} {d d1 : D} {v w y : V} {W : WX} {Q : VK} {p : Place} {k : Kd} {l : List D} {e o : Expr} {pos : Pos} {m : Sl → Re} {pl : Sl → Option Place}
/-- the value that is stored, kept owned or come to a stand -/
theorem Hold.kept (ho : Hold K G pz (X0 ++ Fv) pins Γ σ H F) (o : Own K G ((X0 ++ Fv) ++ F) H v d Fv) (mu : Bool) : ∃ Fw, Hold K G pz (X0 ++ Fw) pins Γ σ H F ∧ Own K G ((X0 ++ Fw) ++ F) H v (keepD mu d) Fw ∧ ∀ a ∈ Fw, a ∈ Fv := by
  unfold keepD
  cases mu with
  | true => exact ⟨Fv, ho, o, fun _ h => h⟩
  | false => exact ⟨[], ho.drop.nil, (Own.fz (ho.thaw o)).nil, fun _ z => by cases z⟩
theorem put_fld (o : Own K G Y H v d Fv) {f : Str} : ∀ {fvs : List (Str × V)} {l : List D} {F : List Addr}, Owns K G Y H (fvs.map (·.2)) l F →
    (putF f v fvs).map (·.1) = putNs (fvs.map (·.1)) f ∧ ∃ F1, Owns K G Y H ((putF f v fvs).map (·.2)) (putNl (fvs.map (·.1)) l f d) F1 ∧ (∀ A : List Addr, (A ++ (Fv ++ F)).Nodup → (A ++ F1).Nodup) ∧ ∀ a ∈ F1, a ∈ Fv ++ F
  | [], [], _, .nil => ⟨rfl, Fv ++ [], .cons o .nil, fun A h => h, fun a h => h⟩
  | (g, x) :: fvs, y :: l, _, .cons (F := F1) (F' := F2) o1 o2 => by
    unfold putF
    by_cases h : g = f
    · simp only [List.map_cons]
      rw [if_pos h, putNs, putNl, if_pos h, if_pos h]
      refine ⟨rfl, Fv ++ F2, .cons o o2, fun A n => n.sublist (((List.sublist_append_right F1 F2).append_left Fv).append_left A), fun a ha => ?_⟩
      simp only [List.mem_append] at ha ⊢
      rcases ha with z | z <;> simp [z]
    · simp only [List.map_cons]
      rw [if_neg h, putNs, putNl, if_neg h, if_neg h]
      obtain ⟨h1, F3, h2, h3, h4⟩ := put_fld o (f := f) o2
      refine ⟨congrArg (g :: ·) h1, F1 ++ F3, .cons o1 h2, fun A n => ?_, fun a ha => ?_⟩
      · rw [← List.append_assoc]
        refine h3 (A ++ F1) ?_
        refine (List.Perm.nodup_iff ?_).mp n
        simp only [List.append_assoc]
        refine List.Perm.append_left A ?_
        rw [← List.append_assoc, ← List.append_assoc]
        exact List.perm_append_comm.append_right F2
      · simp only [List.mem_append] at ha ⊢
        rcases ha with z | z
        · exact .inr (.inl z)
        · rcases List.mem_append.mp (h4 a z) with y | y <;> simp [y]
/-- o.f = e -/
theorem gs_fld {cs : List Str} {f : Str} (mu : Bool) {tp : Pos} (he : GE G pz X e m) (ho' : GPl G pz X o pl) (hc : ∀ c ∈ cs, Cls X.K (G.cls c) ∧ NoAttr X.K (G.cls c) f) (hs : ∀ pn xe, swapsWith e (some (.Attribute o f tp)) pos.line (X.tr pn xe).env = pure false := by intro _ _; rfl) :
    GS G pz X (.Assign [.Attribute o f tp] e pos) (sFld cs f pl mu m) := fun pn xe W σ H X0 pins F D' Γ tk hp ho q =>
  wS.of (ps_fld (X := X.tr pn xe) pe_w pe_w (hs pn xe)) (he pn xe W σ H X0 pins F _ Γ tk ho (So.bind (P := .st) q fun d Γ1 q1 _ p v H1 F1 Fv s1 ho1 ov qt => by
    obtain ⟨Fw, ho2, ow, sw⟩ := ho1.kept ov mu
    unfold chg at p
    split at p
    · rename_i pp hp'
      split at p
      · rename_i dd hd
        split at p
        · rename_i d' hu
          unfold fldPut at hu
          split at hu
          · rename_i c fs l
            split at hu
            · rename_i hm
              cases hu
              refine ho' pn xe σ H1 (X0 ++ Fw) pins F1 _ Γ1 pp _ ho2 hp' hd fun x v0 H2 g hv _ va => ?_
              obtain ⟨v0', a, ob, vs, Fl, e1, e2, e3, e4, e5, put⟩ := (ho2.grow g).node hd
              rw [hv] at e1
              cases e1
              have := e2.det (va rfl)
              subst this
              obtain ⟨dx, fvs, rfl, h2, h3⟩ := e4
              subst h2
              subst h3
              obtain ⟨k1, F3, k2, k3, k4⟩ := put_fld (f := f) (ow.grow g) e5
              obtain ⟨F', hh, st⟩ := put (o' := .ins (G.cls c) dx (putF f v fvs)) (k' := .ins c (putNs (fvs.map (·.1)) f)) (vs' := (putF f v fvs).map (·.2)) ⟨dx, _, rfl, k1, rfl⟩ k2 k3 k4
              have lf : fvs.length < 900 := by
                have := hm.2
                rwa [List.length_map] at this
              refine ⟨a, _, dx, fvs, rfl, e3, (hc _ hm.1).1, (hc _ hm.1).2, by omega, p σ _ F' ?_ hh⟩
              have s2 : Step G F H (Fw ++ F1) H2 := (s1.shrink fun a ha => (List.mem_append.mp ha).elim (fun z => List.mem_append_left _ (sw a z)) (List.mem_append_right _)).trans (g.step _)
              exact s2.trans st
            · cases hu
          · cases hu
        · exact p.elim
      · exact p.elim
    · exact p.elim))
end
end GL
namespace GL
open PySem PySem.Spec PyProof.Rows L2
/-- an owned list at a place -/
def getL (Γ : Sl) (p : Place) : Option (List D) := match getP Γ p with
  | some (.nd true .lst l) => some l
  | _ => none
def mApp (pl : Sl → Option Place) (mu : Bool) (m : Sl → Re) : Sl → Re := fun Γ => match pl Γ with
  | some p => match getL Γ p with
    | some _ => ((m Γ).gd p.2.isEmpty).bind fun d Γ1 => match getL Γ1 p with
      | some l => if l.length < sizeLine then .ok .non (putP Γ1 p (.nd true .lst (l ++ [keepD mu d]))) false else .st
      | none => .st
    | none => .st
  | none => .st
def mPop (pl : Sl → Option Place) : Sl → Re := fun Γ => match pl Γ with
  | some p => match getL Γ p with
    | some l => match l.getLast? with
      | some d => if (l.all D.fz) = true then .ok d (putP Γ p (.nd true .lst l.dropLast)) false else .st
      | none => .st
    | none => .st
  | none => .st
section
variable {K : PySem.W.Frag} {G : Wd} {pz : List Nat} {X0 F F' F1 F2 Fv Fw Fl Y Y' : List Addr} {pins : Nat → V} {Γ Γ1 : Sl} {σ : L2.St} {H H' H1 H2 : Hp} {X : Cx} {d d1 : D} {v w y : V} {W : WX} {Q : VK} {p : Place} {k : Kd} {l : List D} {e o : Expr} {pos apos : Pos} {m : Sl → Re} {pl : Sl → Option Place} {q : Bool} {pt : List Nat}
theorem getL_eq (h : getL Γ p = some l) : getP Γ p = some (.nd true .lst l) := by
  unfold getL at h
  split at h
  · rename_i e; cases h; exact e
  · cases h
theorem VAt.step {v0 : V} (va : VAt G H v0 pt v) (qt : Qt G F H q H' F') (hq : (pt.isEmpty || q) = true) : VAt G H' v0 pt v := by
  cases pt with
  | nil => cases va; exact .nil
  | cons j r =>
    have hq : q = true := by simpa using hq
    exact va.grow (qt hq).1
theorem ty_list (h : Bw K G H Y v (.nd true .lst l)) : tyV K "list" v H := by
  obtain ⟨pa, vs, _, rfl, h1, _⟩ := h.lst
  exact .inl ⟨rfl, vs, .inl (.inl h1)⟩
theorem ge_app (mu : Bool) (ho' : GPl G pz X o pl) (he : GE G pz X e m) (hbase : ∀ pn xe, attributeBase o "append" (X.tr pn xe).env (eval o (X.tr pn xe).env) = eval o (X.tr pn xe).env := by intro _ _; rfl)
    (hfew : ∀ pn xe, ((backTo pos (starEach [e] (X.tr pn xe).env)).all (fun x => !x.1) && (backToKw pos (keywordEach [] (X.tr pn xe).env)).all (fun x => x.1.isSome) && decide ([e].length + ([] : List Keyword).length + (if ([] : List Keyword).isEmpty then 0 else 1) < 30)) = true := by intro _ _; rfl)
    (hline : (apos.endLine == pos.line) = true := by rfl) (hs : ∀ pn xe, starEach [e] (X.tr pn xe).env = (false, eval e (X.tr pn xe).env) :: starEach [] (X.tr pn xe).env := by intro _ _; rfl) : GE G pz X (.Call (.Attribute o "append" apos) [e] [] pos) (mApp pl mu m) := fun pn xe W σ H X0 pins F Q Γ tk ho q =>
  wE.of (pe_bm (X := X.tr pn xe) PySem.F.plainAttrs_list PySem.F.slot_list_append PySem.F.type_list_append mt_append pe_w (pa_cons (X := X.tr pn xe) pe_w pa_nil (hs pn xe)) (hbase pn xe) (hfew pn xe) hline (hs pn xe) rfl) (by
    unfold mApp at q
    split at q
    case h_2 => exact q.elim
    rename_i p hp
    split at q
    case h_2 => exact q.elim
    rename_i l0 hl0
    refine ho' pn xe σ H X0 pins F _ Γ p _ ho hp (getL_eq hl0) fun x v0 H1 g hv o1 va => ⟨ty_list o1, ?_⟩
    have q2 : RgPost X.K G pz X0 pins F H1 σ W (VPost X.K G pz X0 pins F H1 σ Q) (((m Γ).gd p.2.isEmpty).bind fun d Γ1 => match getL Γ1 p with
      | some l => if l.length < sizeLine then .ok .non (putP Γ1 p (.nd true .lst (l ++ [keepD mu d]))) false else .st
      | none => .st) := by
      rw [← Rg.andq_true (Rg.bind _ _)] at q
      exact q.vaft (g.step F) fun _ => ⟨g, fun _ h => h⟩
    refine he pn xe W σ H1 X0 pins F _ Γ tk (ho.grow g) ((q2.bind fun d Γ1 q1 _ p2 => p2).gd.mono fun d Γ1 q1 _ p2 v H2 F2 Fv s2 ho2 ov qt2 => ?_)
    obtain ⟨hq, p2⟩ := p2
    cases el : getL Γ1 p with
    | none => simp only [el] at p2; exact p2.elim
    | some l =>
      simp only [el] at p2
      split at p2
      case isFalse => exact p2.elim
      rename_i hz
      obtain ⟨Fw, ho3, ow, sw⟩ := ho2.kept ov mu
      obtain ⟨v0', a, ob, vs, Fl, e1, e2, e3, e4, e5, put⟩ := ho3.node (getL_eq el)
      rw [hv] at e1
      cases e1
      have := e2.det ((va rfl).step qt2 hq)
      subst this
      cases e4
      obtain ⟨F', hh, st⟩ := put (o' := .lst (vs ++ [v])) (k' := .lst) (vs' := vs ++ [v]) (l' := l ++ [keepD mu d]) (Fl' := Fl ++ (Fw ++ [])) rfl (e5.append (.cons ow .nil)) (fun A h => by
        rw [List.append_nil]
        refine (List.Perm.nodup_iff ?_).mp h
        exact List.perm_append_comm.append_left A) (fun z hz => by
        rw [List.append_nil] at hz
        exact (List.mem_append.mp hz).elim (List.mem_append_right _) (List.mem_append_left _))
      have lz : vs.length < sizeLine := by rw [e5.length]; exact hz
      refine ⟨a, vs, v, rfl, rfl, e3, lz, ?_⟩
      have p2 : VPost X.K G pz X0 pins F H1 σ Q .non (putP Γ1 p (.nd true .lst (l ++ [keepD mu d]))) (q1 && false) := p2
      have s3 : Step G F H1 (Fw ++ F2) H2 := s2.shrink fun a ha => (List.mem_append.mp ha).elim (fun z => List.mem_append_left _ (sw a z)) (List.mem_append_right _)
      exact p2 .non _ F' [] (s3.trans st) hh.nil (Own.fz .non) fun z => by
        rw [Bool.and_false] at z
        cases z)
theorem Owns.dropLast {vs : List V} {l : List D} (h : Rps K G Y H vs l) : Rps K G Y H vs.dropLast l.dropLast := by
  rw [List.dropLast_eq_take, List.dropLast_eq_take, h.length]
  exact h.take _
theorem ge_pop (ho' : GPl G pz X o pl) (hbase : ∀ pn xe, attributeBase o "pop" (X.tr pn xe).env (eval o (X.tr pn xe).env) = eval o (X.tr pn xe).env := by intro _ _; rfl) (hline : (apos.endLine == pos.line) = true := by rfl) : GE G pz X (.Call (.Attribute o "pop" apos) [] [] pos) (mPop pl) := fun pn xe W σ H X0 pins F Q Γ tk ho q =>
  wE.of (pe_bm0 (X := X.tr pn xe) PySem.F.plainAttrs_list PySem.F.slot_list_pop PySem.F.type_list_pop mt_pop pe_w (hbase pn xe) hline) (by
    unfold mPop at q
    split at q
    case h_2 => exact q.elim
    rename_i p hp
    split at q
    case h_2 => exact q.elim
    rename_i l hl
    split at q
    case h_2 => exact q.elim
    rename_i d hd
    split at q
    case isFalse => exact q.elim
    rename_i hf
    refine ho' pn xe σ H X0 pins F _ Γ p _ ho hp (getL_eq hl) fun x v0 H1 g hv o1 va => ⟨ty_list o1, ?_⟩
    obtain ⟨v0', a, ob, vs, Fl, e1, e2, e3, e4, e5, put⟩ := (ho.grow g).nil.node (getL_eq hl)
    rw [hv] at e1
    cases e1
    have := e2.det (va rfl)
    subst this
    cases e4
    obtain ⟨rs, rfl⟩ := e5.rps hf
    obtain ⟨F', hh, st⟩ := put (o' := .lst vs.dropLast) (k' := .lst) (vs' := vs.dropLast) (l' := l.dropLast) (Fl' := []) rfl (Owns.dropLast rs).owns (fun A h => by
      rw [List.append_nil]
      exact h.sublist (List.sublist_append_left _ _)) (fun z hz => by cases hz)
    have hd' : l[l.length - 1]? = some d := by rw [← List.getLast?_eq_getElem?]; exact hd
    obtain ⟨v, w1, w2⟩ := rs.get' hd'
    have hfd : d.fz = true := List.all_eq_true.mp hf d (List.mem_of_getElem? hd')
    refine ⟨a, vs, v, rfl, rfl, e3, by rw [rs.length]; exact w1, ?_⟩
    have w3 : Rp X.K G (X0 ++ F') (upd H1 a (.lst vs.dropLast)) v d := by
      have s2 : Step G ([] ++ F) H1 F' (upd H1 a (.lst vs.dropLast)) := st
      have w2' : Rp X.K G (X0 ++ F) H1 v d := by
        rw [List.append_nil] at w2
        exact w2
      exact w2'.move s2.mv.left
    exact q v _ F' [] ((g.step F).trans st) hh.nil (Own.fz w3).nil fun z => by cases z)
end
end GL
namespace GL
open PySem PySem.Spec PyProof.Rows L2
def putKs {κ : Type} [DecidableEq κ] (ks : List κ) (k : κ) : List κ := if k ∈ ks then ks else ks ++ [k]
def repl {κ : Type} [DecidableEq κ] : List κ → List D → κ → D → List D
  | k' :: ks, y :: l, k, x => (if k' = k then x else y) :: repl ks l k x
  | _, l, _, _ => l
def putKl {κ : Type} [DecidableEq κ] (ks : List κ) (l : List D) (k : κ) (x : D) : List D := if k ∈ ks then repl ks l k x else l ++ [x]
def setIx (i x : D) : D → Option D
  | .nd true .lst l => match i with
    | .int i => (ixN l.length i).map fun j => .nd true .lst (l.set j x)
    | _ => none
  | .nd true (.dK ks) l => match i.key with
    | some k => if (x.fz && decide (l.length < sizeLine)) = true then some (.nd true (.dK (putKs ks k)) (putKl ks l k x)) else none
    | none => none
  | .nd true (.dT ks) l => match i.keyT with
    | some k => if (x.fz && decide (l.length < sizeLine)) = true then some (.nd true (.dT (putKs ks k)) (putKl ks l k x)) else none
    | none => none
  | _ => none
def quiet (r : Re) : Option D := match r with
  | .ok d _ true => some d
  | _ => none
def sIx (pl : Sl → Option Place) (mi : Sl → Re) (mu : Bool) (m : Sl → Re) : Sl → So := fun Γ => (m Γ).so fun d Γ1 => match quiet (mi Γ1) with
  | some di => chg pl (setIx di (keepD mu d)) Γ1
  | none => .st
section
variable {K : PySem.W.Frag} {G : Wd} {pz : List Nat} {X0 F F' F1 F2 Fv Fw Fl Y Y' : List Addr} {pins : Nat → V} {Γ Γ1 : Sl} {σ : L2.St} {H H' H1 H2 : Hp} {X : Cx} {d d1 di : D} {v w y : V} {W : WX} {Q : VK} {p : Place} {k : Kd} {l : List D} {e o i : Expr} {pos apos : Pos} {m mi : Sl → Re} {pl : Sl → Option Place} {q : Bool} {pt : List Nat}
theorem quiet_eq {r : Re} (h : quiet r = some d) : ∃ Γ, r = .ok d Γ true := by
  unfold quiet at h
  split at h
  · cases h; exact ⟨_, rfl⟩
  · cases h
theorem Owns.setItem : ∀ {vs : List V} {l : List D} {F : List Addr} (j : Nat), Owns K G Y H vs l F → Own K G Y H v d Fv → ∃ F1, Owns K G Y H (vs.set j v) (l.set j d) F1 ∧ (∀ A : List Addr, (A ++ (Fv ++ F)).Nodup → (A ++ F1).Nodup) ∧ ∀ a ∈ F1, a ∈ Fv ++ F
  | _, _, _, _, .nil, o => ⟨[], .nil, fun A h => by
      rw [List.append_nil]
      exact h.sublist (List.sublist_append_left _ _), fun a h => by cases h⟩
  | _, _, _, 0, .cons (F := Fa) (F' := Fb) o1 o2, o => ⟨Fv ++ Fb, .cons o o2, fun A n => n.sublist (((List.sublist_append_right Fa Fb).append_left Fv).append_left A), fun a ha => by
      simp only [List.mem_append] at ha ⊢
      rcases ha with z | z <;> simp [z]⟩
  | _, _, _, j + 1, .cons (F := Fa) (F' := Fb) o1 o2, o => by
    obtain ⟨F3, h2, h3, h4⟩ := Owns.setItem j o2 o
    refine ⟨Fa ++ F3, .cons o1 h2, fun A n => ?_, fun a ha => ?_⟩
    · rw [← List.append_assoc]
      refine h3 (A ++ Fa) ?_
      refine (List.Perm.nodup_iff ?_).mp n
      simp only [List.append_assoc]
      refine List.Perm.append_left A ?_
      rw [← List.append_assoc, ← List.append_assoc]
      exact List.perm_append_comm.append_right Fb
    · simp only [List.mem_append] at ha ⊢
      rcases ha with z | z
      · exact .inr (.inl z)
      · rcases List.mem_append.mp (h4 a z) with y | y <;> simp [y]
theorem Owns.repl {κ : Type} [DecidableEq κ] {k : κ} (r : Rp K G Y H v d) : ∀ {kvs : List (κ × V)} {l : List D} {F : List Addr}, Owns K G Y H (kvs.map (·.2)) l F → ∃ F1, Owns K G Y H ((kvs.map fun kv => if kv.1 = k then (kv.1, v) else kv).map (·.2)) (GL.repl (kvs.map (·.1)) l k d) F1 ∧ F1.Sublist F
  | [], [], _, .nil => ⟨[], .nil, .refl _⟩
  | (k', w) :: kvs, y :: l, _, .cons (F := Fa) (F' := Fb) o1 o2 => by
    obtain ⟨F1, h1, h2⟩ := Owns.repl r o2
    simp only [List.map_cons]
    rw [GL.repl]
    by_cases e : k' = k
    · rw [if_pos e, if_pos e]
      exact ⟨F1, Owns.cons (F := []) (.fz r) h1, h2.trans (List.sublist_append_right _ _)⟩
    · rw [if_neg e, if_neg e]
      exact ⟨Fa ++ F1, .cons o1 h1, h2.append_left Fa⟩
theorem putK_keys {κ : Type} [DecidableEq κ] {k : κ} (kvs : List (κ × V)) : (putK kvs k v).map (·.1) = putKs (kvs.map (·.1)) k := by
  unfold putK putKs
  by_cases h : k ∈ kvs.map (·.1)
  · have h2 : (kvs.any fun kv => decide (kv.1 = k)) = true := by
      obtain ⟨x, hx, e⟩ := List.mem_map.mp h
      exact List.any_eq_true.mpr ⟨x, hx, decide_eq_true e⟩
    rw [if_pos h, if_pos h2, List.map_map]
    refine List.map_congr_left fun x _ => ?_
    show (if x.1 = k then (x.1, v) else x).1 = x.1
    split <;> rfl
  · have h2 : ¬ (kvs.any fun kv => decide (kv.1 = k)) = true := fun z => by
      obtain ⟨x, hx, e⟩ := List.any_eq_true.mp z
      exact h (List.mem_map.mpr ⟨x, hx, of_decide_eq_true e⟩)
    rw [if_neg h, if_neg h2, List.map_append]
    rfl
theorem Owns.putK {κ : Type} [DecidableEq κ] {k : κ} (r : Rp K G Y H v d) {kvs : List (κ × V)} {l : List D} {F : List Addr} (o : Owns K G Y H (kvs.map (·.2)) l F) : ∃ F1, Owns K G Y H ((L2.putK kvs k v).map (·.2)) (putKl (kvs.map (·.1)) l k d) F1 ∧ F1.Sublist F := by
  unfold L2.putK putKl
  by_cases h : k ∈ kvs.map (·.1)
  · have h2 : (kvs.any fun kv => decide (kv.1 = k)) = true := by
      obtain ⟨x, hx, e⟩ := List.mem_map.mp h
      exact List.any_eq_true.mpr ⟨x, hx, decide_eq_true e⟩
    rw [if_pos h, if_pos h2]
    exact o.repl r
  · have h2 : ¬ (kvs.any fun kv => decide (kv.1 = k)) = true := fun z => by
      obtain ⟨x, hx, e⟩ := List.any_eq_true.mp z
      exact h (List.mem_map.mpr ⟨x, hx, of_decide_eq_true e⟩)
    rw [if_neg h, if_neg h2, List.map_append]
    exact ⟨F ++ ([] ++ []), o.append (.cons (.fz r) .nil), by simp⟩
/-- a list's or a dict's item stored, by values -/
def rSet2 : TSet := fun o i v H Q => rSetL o i v H Q ∨ rSetD o i v H Q
theorem set2 (hu : X.A.units + 1 < cLine) : PSet X rSet2 := fun pins s σ H o i v ov iv u Q I r1 r2 r3 h => h.elim (set_list pins s σ H o i v ov iv u Q I r1 r2 r3) (set_dict hu pins s σ H o i v ov iv u Q I r1 r2 r3)
/-- the change, by values -/
theorem Hold.setIx (ho : Hold K G pz (X0 ++ Fv) pins Γ σ H F) (ov : Own K G ((X0 ++ Fv) ++ F) H v d Fv) {c c' : D} (hp : getP Γ p = some c) (hs : GL.setIx di d c = some c') {x z : V} (oi : Bw K G H Y z di) {v0 : V} (hv : σ[p.1]? = some (some v0)) (va : VAt G H v0 p.2 x) {R : Hp → Prop}
    (k : ∀ H' F', Hold K G pz X0 pins (putP Γ p c') σ H' F' → Step G (Fv ++ F) H F' H' → R H') : rSet2 x z v H R := by
  unfold GL.setIx at hs
  split at hs
  · split at hs
    · rename_i l _ i
      obtain ⟨j, hj, e⟩ := Option.map_eq_some_iff.mp hs
      subst e
      obtain ⟨v0', a, ob, vs, Fl, e1, e2, e3, e4, e5, put⟩ := ho.node hp
      rw [hv] at e1
      cases e1
      have := e2.det va
      subst this
      cases e4
      obtain ⟨Fl', o2, n2, s2⟩ := e5.setItem j ov
      obtain ⟨F', hh, st⟩ := put (o' := .lst (vs.set j v)) (k' := .lst) rfl o2 n2 s2
      exact .inl ⟨a, vs, i, j, rfl, oi.int, e3, by rw [e5.length]; exact hj, k _ F' hh st⟩
    · cases hs
  · split at hs
    · rename_i ks l key hk
      split at hs
      · rename_i hz
        cases hs
        rw [Bool.and_eq_true, decide_eq_true_eq] at hz
        obtain ⟨r, rfl⟩ := ov.rp hz.1
        obtain ⟨v0', a, ob, vs, Fl, e1, e2, e3, e4, e5, put⟩ := ho.node hp
        rw [hv] at e1
        cases e1
        have := e2.det va
        subst this
        obtain ⟨kvs, rfl, h2, h3⟩ := e4
        subst h2
        subst h3
        obtain ⟨Fl', o2, s2⟩ := e5.putK (k := key) r
        obtain ⟨F', hh, st⟩ := put (o' := .dK (L2.putK kvs key v)) (k' := .dK (putKs (kvs.map (·.1)) key)) ⟨_, rfl, putK_keys kvs, rfl⟩ o2 (fun A n => n.sublist (s2.append_left A)) (fun z hz => s2.subset hz)
        have lz : kvs.length < sizeLine := by
          have := e5.length
          rw [List.length_map] at this
          rw [this]
          exact hz.2
        exact .inr ⟨a, _, rfl, .inl ⟨kvs, key, e3, oi.key hk, lz, rfl⟩, k _ F' hh st⟩
      · cases hs
    · cases hs
  · split at hs
    · rename_i ks l key hk
      split at hs
      · rename_i hz
        cases hs
        rw [Bool.and_eq_true, decide_eq_true_eq] at hz
        obtain ⟨r, rfl⟩ := ov.rp hz.1
        obtain ⟨v0', a, ob, vs, Fl, e1, e2, e3, e4, e5, put⟩ := ho.node hp
        rw [hv] at e1
        cases e1
        have := e2.det va
        subst this
        obtain ⟨kvs, rfl, h2, h3⟩ := e4
        subst h2
        subst h3
        obtain ⟨Fl', o2, s2⟩ := e5.putK (k := key) r
        obtain ⟨F', hh, st⟩ := put (o' := .dT (L2.putK kvs key v)) (k' := .dT (putKs (kvs.map (·.1)) key)) ⟨_, rfl, putK_keys kvs, rfl⟩ o2 (fun A n => n.sublist (s2.append_left A)) (fun z hz => s2.subset hz)
        have lz : kvs.length < sizeLine := by
          have := e5.length
          rw [List.length_map] at this
          rw [this]
          exact hz.2
        obtain ⟨b, rfl, hb⟩ := oi.keyT hk
        exact .inr ⟨a, _, rfl, .inr ⟨kvs, key, b, e3, rfl, hb, lz, rfl⟩, k _ F' hh st⟩
      · cases hs
    · cases hs
  · cases hs
theorem setIx_own {c c' : D} (h : setIx di d c = some c') : c.fz = false := by
  unfold setIx at h
  split at h <;> first | rfl | cases h
/-- o[i] = e -/
theorem gs_ix (hu : X.A.units + 1 < cLine) (mu : Bool) {tp : Pos} (he : GE G pz X e m) (ho' : GPl G pz X o pl) (hi : GO G pz X i mi)
    (ha : ∀ pn xe v, assign (.Subscript o i tp) (X.tr pn xe).env v = (do
      let ov ← holding [v] (eval o (X.tr pn xe).env)
      let iv ← holding [v, ov] (eval i (X.tr pn xe).env)
      standAt tp
      holding [v, ov, iv] (setItem ov iv v)
      release [v, ov, iv] []) := by intro _ _ _; rfl)
    (hs : ∀ pn xe, swapsWithSole [.Subscript o i tp] e pos.line (X.tr pn xe).env = pure false := by intro _ _; rfl) (hw : ∀ pn xe, swappedStores [.Subscript o i tp] e (X.tr pn xe).env = pure none := by intro _ _; rfl)
    (h1 : ∀ pn xe, (assignEach [.Subscript o i tp] (X.tr pn xe).env).map (·.2) = [assign (.Subscript o i tp) (X.tr pn xe).env] := by intro _ _; rfl) : GS G pz X (.Assign [.Subscript o i tp] e pos) (sIx pl mi mu m) := fun pn xe W σ H X0 pins F D' Γ tk hp ho q =>
  wS.of (ps_asg (X := X.tr pn xe) pe_w (pg_sub (X := X.tr pn xe) pe_w pe_w (set2 (X := X.tr pn xe) hu) (ha pn xe)) (hs pn xe) (hw pn xe) (h1 pn xe)) (he pn xe W σ H X0 pins F _ Γ tk ho (So.bind (P := .st) q fun d Γ1 q1 _ p v H1 F1 Fv s1 ho1 ov qt => by
    obtain ⟨Fw, ho2, ow, sw⟩ := ho1.kept ov mu
    split at p
    case h_2 => exact p.elim
    rename_i di hdi
    obtain ⟨Γ2, emi⟩ := quiet_eq hdi
    unfold chg at p
    split at p
    case h_2 => exact p.elim
    rename_i pp hpp
    split at p
    case h_2 => exact p.elim
    rename_i c hc
    split at p
    case h_2 => exact p.elim
    rename_i c' hc'
    refine ho' pn xe σ H1 (X0 ++ Fw) pins F1 _ Γ1 pp c ho2 hpp hc fun x v0 H2 g hv _ va => ?_
    refine hi pn xe W σ H2 (X0 ++ Fw) pins F1 _ Γ1 tk (ho2.grow g) ?_
    rw [emi]
    intro z H3 F3 s3 ho3 oz qt3
    obtain ⟨g3, e3⟩ := qt3 rfl
    clear e3
    refine Hold.setIx ((ho2.grow g).grow g3) ((ow.grow g).grow g3) hc hc' oz hv ((va (setIx_own hc')).grow g3) fun H' F' hh st => p σ H' F' ?_ hh
    exact (((s1.shrink fun a ha => (List.mem_append.mp ha).elim (fun z => List.mem_append_left _ (sw a z)) (List.mem_append_right _)).trans ((g.trans g3).step _)).trans st)))
end
end GL
namespace GL
open PySem PySem.Spec PyProof.Rows L2
/-- J yields the data ds while S stands -/
structure Src (K : PySem.W.Frag) (G : Wd) (J : It) (S : List Addr → Hp → Prop) (ds : List D) : Prop where
  go : ∀ X H (i : Nat) d, Lv X H → S X H → ds[i]? = some d → J.go i H ∧ ∀ x H', J.yld i H x H' → Grow G H H' ∧ Rp K G X H' x d
  stop : ∀ X H, S X H → J.stop ds.length H
  len : ds.length ≤ sizeLine
/-- S stands behind a step; where o: one that changes nothing -/
def StQ (o : Bool) (Hc : Hp) (S : List Addr → Hp → Prop) : Prop := ∀ X H X' H', Mv X H X' H' → (o = true → ∀ a u, Hc a ≠ none → H a = some u → NT u → H' a = some u) → S X H → S X' H'
def IPost (K : PySem.W.Frag) (G : Wd) (pz : List Nat) (X0 : List Addr) (pins : Nat → V) (F : List Addr) (H : Hp) (σ : L2.St) (R : It → Hp → Prop) (ds : List D × Bool) (Γ' : Sl) (q : Bool) : Prop :=
  ∀ J S H' F', Step G F H F' H' → Hold K G pz X0 pins Γ' σ H' F' → StQ ds.2 H' S → S (X0 ++ F') H' → Src K G J S ds.1 → Qt G F H q H' F' → R J H'
/-- what is walked: its items, and whether it is an owned list -/
def GIt (G : Wd) (pz : List Nat) (X : Cx) (tg it : Expr) (m : Sl → Rg (List D × Bool)) : Prop :=
  ∀ pn xe W σ H X0 pins F R Γ, Takes (X.tr pn xe) W → Hold X.K G pz X0 pins Γ σ H F → RgPost X.K G pz X0 pins F H σ W (IPost X.K G pz X0 pins F H σ R) (m Γ) → wI (X.tr pn xe) tg it σ H R
/-- the turns, one after the other -/
def forD (t : Tg) (s : Sl → So) : List D → Sl → So
  | [], Γ => .nx Γ
  | d :: ds, Γ => match t d Γ with
    | none => .st
    | some Γ1 => match s Γ1 with
      | .nx Γ2 => forD t s ds Γ2
      | .ct Γ2 => forD t s ds Γ2
      | .bk Γ2 => .nx Γ2
      | .rt d Γ2 => .rt d Γ2
      | .er e Γ2 => .er e Γ2
      | .st => .st
def sFor (m : Sl → Rg (List D × Bool)) (t : Tg) (s : Sl → So) : Sl → So := fun Γ => (m Γ).so fun ds Γ1 => if ds.2 = true then .st else forD t s ds.1 Γ1
/-- the items of what stands still -/
def D.items : D → Option (List D × Bool)
  | .nd o .lst l => if flat o l = true then some (l, o) else none
  | .nd _ .tup l => some (l, false)
  | .nd _ .ktp l => some (l, false)
  | .nd _ .scr l => some (l, false)
  | _ => none
def mSeq (m : Sl → Re) : Sl → Rg (List D × Bool) := fun Γ => (m Γ).bind fun d Γ => .of d.items Γ
/-- while: n turns at most -/
def whileD (mt : Sl → Rg Bool) (s : Sl → So) : Nat → Sl → So
  | 0, _ => .st
  | n + 1, Γ => (mt Γ).so fun b Γ1 => if b = true then match s Γ1 with
      | .nx Γ2 => whileD mt s n Γ2
      | .ct Γ2 => whileD mt s n Γ2
      | .bk Γ2 => .nx Γ2
      | .rt d Γ2 => .rt d Γ2
      | .er e Γ2 => .er e Γ2
      | .st => .st
    else .nx Γ1
open Classical in
/-- .. some number of turns that is enough -/
noncomputable def sWhile (mt : Sl → Rg Bool) (s : Sl → So) : Sl → So := fun Γ => if h : ∃ n, whileD mt s n Γ ≠ .st then whileD mt s (Classical.choose h) Γ else .st
section
variable {K : PySem.W.Frag} {G : Wd} {pz : List Nat} {X0 F F' F1 F2 Fv Fw Fl Y Y' : List Addr} {pins : Nat → V} {Γ Γ1 : Sl} {σ : L2.St} {H H' H1 H2 : Hp} {X : Cx} {d d1 di : D} {v w y : V} {W : WX} {Q : VK} {e o i c tg it : Expr} {pos apos : Pos} {m : Sl → Re} {mt : Sl → Rg Bool} {mi : Sl → Rg (List D × Bool)} {t : Tg} {s : Sl → So} {body : List Stmt} {R : It → Hp → Prop}
theorem wI.inv {tg it : Expr} {σ H R} (h : ∀ pins s, Inv X pins σ H s → wI X tg it σ H R) : wI X tg it σ H R := fun pins s I => h pins s I pins s I
theorem list_len {s : Shared} {ps : List (Addr × Obj)} {q : Addr} {xs : List V} (I : Inv X ps σ H s) (h : SqL X.K H q xs) : xs.length ≤ sizeLine := (I.list h).choose_spec.2.2
theorem tup_len {s : Shared} {ps : List (Addr × Obj)} {q : Addr} {xs : List V} (I : Inv X ps σ H s) (h : SqT X.K H q xs) : xs.length ≤ sizeLine := (I.tuple h).choose_spec.2.2
/-- the sizes of the lists and tuples that a value may be -/
def LenOk (K : PySem.W.Frag) (v : V) (H : Hp) : Prop := ∀ q xs, v = .ref q → (SqL K H q xs ∨ SqT K H q xs) → xs.length ≤ sizeLine
theorem pe_len {X : Cx} {e : Expr} {t : TE} (h : PE X e t) : PE X e (fun σ H Q => t σ H fun v H1 => LenOk X.K v H1 → Q v H1) := ⟨fun pins s σ H Q I q => thn (h.run pins s σ H _ I q) fun u s1 ⟨v, H1, I1, r, k⟩ =>
  ⟨v, H1, I1, r, k fun q xs _ hq => hq.elim (list_len I1) (tup_len I1)⟩⟩
theorem get_cons {α : Type} {l : List α} {i : Nat} {x : α} (h : l[i]? = some x) : l.drop i = x :: l.drop (i + 1) := by
  obtain ⟨hi, e⟩ := List.getElem?_eq_some_iff.mp h
  rw [List.drop_eq_getElem_cons hi, e]
theorem whileD_run (hc : GT G pz X c mt) (hb : GB G pz X body s) (n : Nat) : GS G pz X (.While c body [] pos) (whileD mt s n) := fun pn xe W σ H X0 pins F D' Γ tk hp ho q =>
  wS.of (ps_while (X := X.tr pn xe) hp pt_w pss_w) (by
    refine ⟨fun m σ' H' => ∃ Γ' F', Step G F H F' H' ∧ Hold X.K G pz X0 pins Γ' σ' H' F' ∧ SoPost X.K G pz X0 pins F' H' D' W (whileD mt s m Γ'), ⟨n, Γ, F, .refl _ _ _, ho, q⟩, ?_⟩
    rintro m σ' H' ⟨Γ', F', sp, ho', qq⟩
    cases m with
    | zero => exact False.elim qq
    | succ m =>
      rw [whileD] at qq
      refine hc pn xe W σ' H' X0 pins F' _ Γ' tk ho' (So.bind (P := .st) qq fun b Γ1 q1 _ qq H2 F2 g2 ho2 qt2 => ?_)
      cases b with
      | false => exact qq σ' H2 F2 g2 ho2
      | true =>
        refine ⟨fun σ4 H4 => ∃ Γ2 F2, Step G F H F2 H4 ∧ Hold X.K G pz X0 pins Γ2 σ4 H4 F2 ∧ SoPost X.K G pz X0 pins F2 H4 D' W (whileD mt s m Γ2), fun σ4 H4 ⟨Γ2, F2, a1, a2, a3⟩ => ⟨m, Nat.lt_succ_self _, Γ2, F2, a1, a2, a3⟩, ?_⟩
        refine hb pn xe W σ' H2 X0 pins F2 _ Γ1 tk hp ho2 ?_
        rw [if_pos rfl] at qq
        cases e2 : s Γ1 with
        | nx Γ2 =>
          simp only [e2] at qq
          exact fun σ4 H4 F4 sp4 ho4 => ⟨Γ2, F4, (sp.trans g2).trans sp4, ho4, qq.after (g2.trans sp4)⟩
        | ct Γ2 =>
          simp only [e2] at qq
          exact fun σ4 H4 F4 sp4 ho4 => ⟨Γ2, F4, (sp.trans g2).trans sp4, ho4, qq.after (g2.trans sp4)⟩
        | bk Γ2 =>
          simp only [e2] at qq
          exact fun σ4 H4 F4 sp4 ho4 => qq σ4 H4 F4 (g2.trans sp4) ho4
        | rt r Γ2 =>
          simp only [e2] at qq
          exact fun v σ4 H4 F4 Fv sp4 => qq v σ4 H4 F4 Fv (g2.trans sp4)
        | er z Γ2 =>
          simp only [e2] at qq
          exact fun c dd σ4 H4 F4 sp4 => qq c dd σ4 H4 F4 (g2.trans sp4)
        | st => simp only [e2] at qq; exact qq)
theorem gs_while (hc : GT G pz X c mt) (hb : GB G pz X body s) : GS G pz X (.While c body [] pos) (sWhile mt s) := fun pn xe W σ H X0 pins F D' Γ tk hp ho q => by
  unfold sWhile at q
  by_cases h : ∃ n, whileD mt s n Γ ≠ .st
  · rw [dif_pos h] at q
    exact whileD_run hc hb _ pn xe W σ H X0 pins F D' Γ tk hp ho q
  · rw [dif_neg h] at q
    exact q.elim
end
end GL
namespace GL
open PySem PySem.Spec PyProof.Rows L2
/-- the numbers from lo, n of them -/
def upto (lo : Int) (n : Nat) : List Int := (List.range n).map fun (i : Nat) => lo + (i : Int)
/-- range's ends -/
def okR (n : Int) : Bool := decide (-4611686018427387904 ≤ n) && decide (n ≤ 16000000)
def rng1 : List D → Option (List D × Bool)
  | [.int n] => if okR n = true then some ((upto 0 n.toNat).map D.int, false) else none
  | _ => none
def mRng (f : List D → Option (List D × Bool)) (ms : Sl → Rg (List D)) : Sl → Rg (List D × Bool) := fun Γ => (ms Γ).bind fun ds Γ => .of (f ds) Γ
section
variable {K : PySem.W.Frag} {G : Wd} {pz : List Nat} {X0 F F' F1 F2 Fv Fw Fl Y Y' : List Addr} {pins : Nat → V} {Γ Γ1 : Sl} {σ : L2.St} {H H' H1 H2 : Hp} {X : Cx} {d d1 di : D} {v w y : V} {W : WX} {Q : VK} {e o i c tg it a b : Expr} {p pos apos : Pos} {m : Sl → Re} {ms : Sl → Rg (List D)} {mt : Sl → Rg Bool} {mi : Sl → Rg (List D × Bool)} {t : Tg} {s : Sl → So} {body : List Stmt} {R : It → Hp → Prop}
theorem src_lst {S : List Addr → Hp → Prop} {a : Addr} {vs : List V} {l : List D} (h : ∀ Y H, S Y H → SqL K H a vs ∧ Rps K G Y H vs l) (hl : l.length ≤ sizeLine) : Src K G (Itl K a) S l := ⟨fun Y H i d _ s hi => by
    obtain ⟨g1, g2⟩ := h Y H s
    obtain ⟨w, hw, rw'⟩ := g2.get' hi
    refine ⟨⟨vs, w, g1, hw⟩, fun x H' y => ?_⟩
    obtain ⟨e, y⟩ := y
    subst e
    have := y vs g1
    rw [hw] at this
    cases this
    exact ⟨.refl _ _, rw'⟩, fun Y H s => by
    obtain ⟨g1, g2⟩ := h Y H s
    exact ⟨vs, g1, Nat.le_of_eq g2.length⟩, hl⟩
theorem src_tup {S : List Addr → Hp → Prop} {a : Addr} {vs : List V} {l : List D} (h : ∀ Y H, S Y H → SqT K H a vs ∧ Rps K G Y H vs l) (hl : l.length ≤ sizeLine) : Src K G (Itt K a) S l := ⟨fun Y H i d _ s hi => by
    obtain ⟨g1, g2⟩ := h Y H s
    obtain ⟨w, hw, rw'⟩ := g2.get' hi
    refine ⟨⟨vs, w, g1, hw⟩, fun x H' y => ?_⟩
    obtain ⟨e, y⟩ := y
    subst e
    have := y vs g1
    rw [hw] at this
    cases this
    exact ⟨.refl _ _, rw'⟩, fun Y H s => by
    obtain ⟨g1, g2⟩ := h Y H s
    exact ⟨vs, g1, Nat.le_of_eq g2.length⟩, hl⟩
theorem ndf_seq {k : Kd} {vs : List V} {l : List D} {a : Addr} {Hc : Hp} : StQ false Hc (fun Y H => NdF K G Y H a k vs ∧ Rps K G Y H vs l) := fun Y H Y' H' m _ h => ⟨h.1.move m, h.2.move m⟩
/-- a list, a tuple -/
theorem git_seq (h : GO G pz X e m) : GIt G pz X tg e (mSeq m) := fun pn xe W σ H X0 pins F R Γ tk ho q => by
  have bad : (∀ d Γ1 q1, m Γ = .ok d Γ1 q1 → d.items = none) → wI (X.tr pn xe) tg e σ H R := fun hb => wI.of (pi_list (X := X.tr pn xe) pe_w) (h pn xe W σ H X0 pins F _ Γ tk ho (q.bind fun d Γ1 q1 e p => by
    rw [hb d Γ1 q1 e] at p
    exact p.elim))
  have lst : (∀ d Γ1 q1, m Γ = .ok d Γ1 q1 → ∃ l ow, d.items = some (l, ow) ∧ ∀ Y H v, Bw X.K G H Y v d → ∃ a vs S, v = .ref a ∧ SqL X.K H a vs ∧ StQ ow H S ∧ S Y H ∧ vs.length = l.length ∧ ∀ Y H, S Y H → SqL X.K H a vs ∧ Rps X.K G Y H vs l) → wI (X.tr pn xe) tg e σ H R := fun hb => wI.of (pi_list (X := X.tr pn xe) (pe_len pe_w)) (h pn xe W σ H X0 pins F _ Γ tk ho (q.bind fun d Γ1 q1 e p v H' F' s ho' ov qt ln => by
    obtain ⟨l, ow, e1, e2⟩ := hb d Γ1 q1 e
    rw [e1] at p
    obtain ⟨a, vs, S, rfl, h1, h2, h3, h4, h5⟩ := e2 _ _ v ov
    have p : IPost X.K G pz X0 pins F H σ R (l, ow) Γ1 (q1 && true) := p
    rw [Bool.and_true] at p
    exact ⟨a, rfl, ⟨vs, h1⟩, p _ S H' F' s ho' h2 h3 (src_lst h5 (by rw [← h4]; exact ln a vs rfl (.inl h1))) qt⟩))
  have tup : (∀ d Γ1 q1, m Γ = .ok d Γ1 q1 → ∃ l ow, d.items = some (l, ow) ∧ ∀ Y H v, Bw X.K G H Y v d → ∃ a vs S, v = .ref a ∧ SqT X.K H a vs ∧ StQ ow H S ∧ S Y H ∧ vs.length = l.length ∧ ∀ Y H, S Y H → SqT X.K H a vs ∧ Rps X.K G Y H vs l) → wI (X.tr pn xe) tg e σ H R := fun hb => wI.of (pi_tup (X := X.tr pn xe) (pe_len pe_w)) (h pn xe W σ H X0 pins F _ Γ tk ho (q.bind fun d Γ1 q1 e p v H' F' s ho' ov qt ln => by
    obtain ⟨l, ow, e1, e2⟩ := hb d Γ1 q1 e
    rw [e1] at p
    obtain ⟨a, vs, S, rfl, h1, h2, h3, h4, h5⟩ := e2 _ _ v ov
    have p : IPost X.K G pz X0 pins F H σ R (l, ow) Γ1 (q1 && true) := p
    rw [Bool.and_true] at p
    exact ⟨a, rfl, ⟨vs, h1⟩, p _ S H' F' s ho' h2 h3 (src_tup h5 (by rw [← h4]; exact ln a vs rfl (.inr h1))) qt⟩))
  cases em : m Γ with
  | er => exact bad fun d Γ1 q1 e => by rw [em] at e; cases e
  | st => exact bad fun d Γ1 q1 e => by rw [em] at e; cases e
  | ok d0 Γ0 q0 =>
    have same : ∀ {P : D → Prop}, P d0 → ∀ d Γ1 q1, m Γ = .ok d Γ1 q1 → P d := fun hP d Γ1 q1 e => by
      rw [em] at e
      cases e
      exact hP
    cases d0 with
    | any => exact bad (same rfl)
    | non => exact bad (same rfl)
    | bl => exact bad (same rfl)
    | int => exact bad (same rfl)
    | str => exact bad (same rfl)
    | fn => exact bad (same rfl)
    | pr => exact bad (same rfl)
    | nd ow k l =>
      cases k with
      | ptu => exact bad (same rfl)
      | dK => exact bad (same rfl)
      | dT => exact bad (same rfl)
      | ins => exact bad (same rfl)
      | lst =>
        by_cases hf : flat ow l = true
        · refine lst (same (P := fun d => ∃ l ow, d.items = some (l, ow) ∧ ∀ Y H v, Bw X.K G H Y v d → ∃ a vs S, v = .ref a ∧ SqL X.K H a vs ∧ StQ ow H S ∧ S Y H ∧ vs.length = l.length ∧ ∀ Y H, S Y H → SqL X.K H a vs ∧ Rps X.K G Y H vs l) ⟨l, ow, by rw [D.items, if_pos hf], fun Y H v ov => ?_⟩)
          cases ow with
          | false =>
            cases ov.rp rfl with
            | nd h r => exact ⟨_, _, fun Y H => NdF X.K G Y H _ .lst _ ∧ Rps X.K G Y H _ l, rfl, .inl (.inl h.2), ndf_seq, ⟨h, r⟩, r.length, fun Y H s => ⟨.inl (.inl s.1.2), s.2⟩⟩
          | true =>
            obtain ⟨a, vs, F1, rfl, g1, g2, g3⟩ := ov.lst
            exact ⟨a, vs, fun Y H => H a = some (.lst vs) ∧ Rps X.K G Y H vs l, rfl, .inl (.inl g1), fun Y H Y' H' m g h => ⟨g rfl a _ (by rw [g1]; simp) h.1 nt_lst, h.2.move m⟩, ⟨g1, g3 hf⟩, g2.length, fun Y H s => ⟨.inl (.inl s.1), s.2⟩⟩
        · exact bad (same (P := fun d => d.items = none) (by rw [D.items, if_neg hf]))
      | scr =>
        refine lst (same (P := fun d => ∃ l ow, d.items = some (l, ow) ∧ ∀ Y H v, Bw X.K G H Y v d → ∃ a vs S, v = .ref a ∧ SqL X.K H a vs ∧ StQ ow H S ∧ S Y H ∧ vs.length = l.length ∧ ∀ Y H, S Y H → SqL X.K H a vs ∧ Rps X.K G Y H vs l) ⟨l, false, rfl, fun Y H v ov => ?_⟩)
        obtain ⟨F1, ov⟩ := ov
        cases ov with
        | fz r => cases r with | nd h r => exact ⟨_, _, fun Y H => NdF X.K G Y H _ .scr _ ∧ Rps X.K G Y H _ l, rfl, LstX.sq h, ndf_seq, ⟨h, r⟩, r.length, fun Y H s => ⟨LstX.sq s.1, s.2⟩⟩
        | nd h r => obtain ⟨_, _, h⟩ := h; exact h.elim
      | tup =>
        refine tup (same (P := fun d => ∃ l ow, d.items = some (l, ow) ∧ ∀ Y H v, Bw X.K G H Y v d → ∃ a vs S, v = .ref a ∧ SqT X.K H a vs ∧ StQ ow H S ∧ S Y H ∧ vs.length = l.length ∧ ∀ Y H, S Y H → SqT X.K H a vs ∧ Rps X.K G Y H vs l) ⟨l, false, rfl, fun Y H v ov => ?_⟩)
        obtain ⟨F1, ov⟩ := ov
        cases ov with
        | fz r => cases r with | nd h r => exact ⟨_, _, fun Y H => NdF X.K G Y H _ .tup _ ∧ Rps X.K G Y H _ l, rfl, .inl (.inl h.2), ndf_seq, ⟨h, r⟩, r.length, fun Y H s => ⟨.inl (.inl s.1.2), s.2⟩⟩
        | nd h r => obtain ⟨_, _, h⟩ := h; exact h.elim
      | ktp =>
        refine tup (same (P := fun d => ∃ l ow, d.items = some (l, ow) ∧ ∀ Y H v, Bw X.K G H Y v d → ∃ a vs S, v = .ref a ∧ SqT X.K H a vs ∧ StQ ow H S ∧ S Y H ∧ vs.length = l.length ∧ ∀ Y H, S Y H → SqT X.K H a vs ∧ Rps X.K G Y H vs l) ⟨l, false, rfl, fun Y H v ov => ?_⟩)
        obtain ⟨F1, ov⟩ := ov
        cases ov with
        | fz r => cases r with | nd h r => exact ⟨_, _, fun Y H => NdF X.K G Y H _ .ktp _ ∧ Rps X.K G Y H _ l, rfl, .inr h, ndf_seq, ⟨h, r⟩, r.length, fun Y H s => ⟨.inr s.1, s.2⟩⟩
        | nd h r => obtain ⟨_, _, h⟩ := h; exact h.elim
/-! ### range -/
theorem upto_get {lo : Int} {n i : Nat} {d : D} (h : ((upto lo n).map D.int)[i]? = some d) : i < n ∧ d = .int (lo + i) := by
  unfold upto at h
  rw [List.map_map, List.getElem?_map] at h
  by_cases hi : i < n
  · rw [List.getElem?_range hi] at h
    cases h
    exact ⟨hi, rfl⟩
  · rw [List.getElem?_eq_none (by rw [List.length_range]; omega)] at h
    cases h
theorem upto_len (lo : Int) (n : Nat) : ((upto lo n).map D.int).length = n := by simp [upto]
theorem src_range {lo : Int} {n : Nat} (hn : n ≤ sizeLine) : Src K G (Itr lo n) (fun _ _ => True) ((upto lo n).map D.int) := ⟨fun Y H i d _ _ hi => by
    obtain ⟨h1, h2⟩ := upto_get hi
    subst h2
    refine ⟨h1, fun x H' y => ?_⟩
    obtain ⟨e, y⟩ := y
    subst e y
    exact ⟨.refl _ _, .int⟩, fun Y H _ => Nat.le_of_eq (upto_len lo n).symm, by rw [upto_len]; exact hn⟩
theorem okR_of {n : Int} (h : okR n = true) : -(2 ^ 62) ≤ n ∧ n < 2 ^ 62 ∧ n ≤ 16000000 := by
  unfold okR at h
  rw [Bool.and_eq_true, decide_eq_true_eq, decide_eq_true_eq] at h
  omega
theorem le_line {n : Nat} (h : n ≤ 16000000) : n ≤ sizeLine := Nat.le_trans h (by decide)
theorem git_range1 (hr : X.mg "range" = none) (ha : GA G pz X [a] ms) (hg : Gl X "range" := by rfl) (hs : ∀ pn xe, starEach [a] (X.tr pn xe).env = [(false, eval a (X.tr pn xe).env)] := by intro _ _; rfl) : GIt G pz X tg (.Call (.Name "range" p) [a] [] pos) (mRng rng1 ms) := fun pn xe W σ H X0 pins F R Γ tk ho q =>
  wI.of (pi_range1 (X := X.tr pn xe) hg hr pa_w (hs pn xe)) (ha pn xe W σ H X0 pins F _ Γ tk ho (q.bind fun ds Γ1 q1 e0 p vs H' F' s ho' ov qt => by
    clear e0
    unfold rng1 at p
    split at p
    · rename_i n
      by_cases hn : okR n = true
      · rw [if_pos hn] at p
        obtain ⟨n1, n2, n3⟩ := okR_of hn
        have p : IPost X.K G pz X0 pins F H σ R ((upto 0 n.toNat).map D.int, false) Γ1 (q1 && true) := p
        rw [Bool.and_true] at p
        cases ov with
        | cons o1 o2 =>
          cases o2
          exact ⟨n, by rw [o1.int], n1, n2, p _ (fun _ _ => True) H' F' s ho' (fun _ _ _ _ _ _ _ => trivial) trivial (src_range (le_line (by omega))) qt⟩
      · rw [if_neg hn] at p
        exact p.elim
    · exact p.elim))
end
end GL
namespace GL
open PySem PySem.Spec PyProof.Rows L2
def wTs (X : Cx) (ifs : List Expr) : TT := fun σ H Q => ∀ pins s, Inv X pins σ H s →
  wpAny (model X.prog X.w) X.A (forIn ifs true fun c r => if r = true then do let ok ← isTrue c X.env (eval c X.env); pure (ForInStep.yield ok) else pure (ForInStep.yield r)) (TP X pins σ Q) X.xe s
theorem pts_w {X : Cx} {ifs : List Expr} : PTs X ifs (wTs X ifs) := ⟨fun pins s _ _ _ I h => h pins s I⟩
theorem wTs.of {X : Cx} {ifs : List Expr} {t : TT} {σ H Q} (h : PTs X ifs t) (q : t σ H Q) : wTs X ifs σ H Q := fun pins s I => h.run pins s σ H Q I q
/-- slots forgotten -/
def wipeG (Γ : Sl) (vs : List Nat) : Sl := vs.foldl (fun Γ i => Γ.set i none) Γ
/-- one turn: an element, or none -/
def turnD (t : Tg) (mc : Sl → Rg Bool) (me : Sl → Re) (mu : Bool) : D → Sl → Rg (Option D) := fun d Γ => match t d Γ with
  | none => .st
  | some Γ1 => (mc Γ1).bind fun b Γ2 => if b = true then (me Γ2).bind fun y Γ3 => .ok (some (keepD mu y)) Γ3 true else .ok none Γ2 true
def lcD (vs : List Nat) (ow : Bool) (f : D → Sl → Rg (Option D)) : List D → List D → Sl → Rg (List D)
  | [], acc, Γ => .ok acc Γ true
  | d :: ds, acc, Γ => match f d Γ with
    | .ok y Γ' q => if (!ow || q) = true then (lcD vs ow f ds (acc ++ y.toList) (wipeG Γ' vs)).andq q else .st
    | _ => .st
def mLc (vs : List Nat) (mi : Sl → Rg (List D × Bool)) (f : D → Sl → Rg (Option D)) : Sl → Re := fun Γ => (mi Γ).bind fun xs Γ1 => (lcD vs xs.2 f xs.1 [] (wipeG Γ1 vs)).bind fun acc Γ2 => .ok (.nd true .lst acc) Γ2 true
/-- no conditions -/
def mTrue : Sl → Rg Bool := fun Γ => .ok true Γ true
section
variable {K : PySem.W.Frag} {G : Wd} {pz : List Nat} {X0 F F' F1 F2 Fv Fw Fl Y Y' : List Addr} {pins : Nat → V} {Γ Γ1 : Sl} {σ σ' : L2.St} {H H' H1 H2 : Hp} {X : Cx} {d d1 di : D} {ds : List D} {v w y : V} {W : WX} {Q : VK} {e o i c tg it a b : Expr} {ifs tgs : List Expr} {p pos apos : Pos} {m me : Sl → Re} {mt mc : Sl → Rg Bool} {mi : Sl → Rg (List D × Bool)} {t : Tg} {ts : List Tg} {vs : List Nat} {x : Str}
def offV (Γ : Sl) (vs : List Nat) : Prop := ∀ i ∈ vs, ∀ d, Γ[i]? ≠ some (some d)
theorem Slots.congr (h : Slots K G Y H σ Γ F) : ∀ {σ' : L2.St}, σ'.length = σ.length → (∀ (i : Nat) d, Γ[i]? = some (some d) → σ'[i]? = σ[i]?) → Slots K G Y H σ' Γ F := by
  induction h with
  | nil =>
    intro σ' hl _
    cases σ' with
    | nil => exact .nil
    | cons => cases hl
  | no _ ih =>
    intro σ' hl he
    cases σ' with
    | nil => cases hl
    | cons y σ' => exact .no (ih (Nat.succ.inj hl) fun i d hd => he (i + 1) d hd)
  | yes o _ ih =>
    intro σ' hl he
    cases σ' with
    | nil => cases hl
    | cons y σ' =>
      have := he 0 _ rfl
      simp only [List.getElem?_cons_zero, Option.some.injEq] at this
      subst this
      exact .yes o (ih (Nat.succ.inj hl) fun i d hd => he (i + 1) d hd)
theorem wipe_out {σ : L2.St} {i : Nat} : ∀ {vs : List Nat}, i ∉ vs → (wipe σ vs)[i]? = σ[i]?
  | [], _ => rfl
  | v :: vs, h => by
    rw [wipe, List.getElem?_set_ne (fun e => h (by rw [e]; exact List.mem_cons_self))]
    exact wipe_out fun z => h (List.mem_cons_of_mem _ z)
theorem wipe_in {σ : L2.St} {i : Nat} : ∀ {vs : List Nat}, i ∈ vs → (wipe σ vs)[i]? = (σ[i]?).map fun _ => none
  | v :: vs, h => by
    rw [wipe]
    by_cases e : v = i
    · subst e
      rw [List.getElem?_set]
      simp only [if_true]
      rw [wipe_length]
      by_cases hl : v < σ.length
      · rw [if_pos hl, List.getElem?_eq_getElem hl]
        rfl
      · rw [if_neg hl, List.getElem?_eq_none (by omega)]
        rfl
    · rw [List.getElem?_set_ne e]
      exact wipe_in ((List.mem_cons.mp h).resolve_left fun z => e z.symm)
theorem wipe_wipe (σ : L2.St) (vs : List Nat) : wipe (wipe σ vs) vs = wipe σ vs := by
  refine List.ext_getElem? fun i => ?_
  by_cases h : i ∈ vs
  · rw [wipe_in h, wipe_in h]
    cases σ[i]? <;> rfl
  · rw [wipe_out h]
theorem Hold.wipe {vs : List Nat} (h : Hold K G pz X0 pins Γ σ H F) (ov : offV Γ vs) (hp : ∀ i ∈ vs, i ∉ pz) : Hold K G pz X0 pins Γ (L2.wipe σ vs) H F := by
  obtain ⟨F0, s, p0⟩ := h.sl
  refine ⟨⟨F0, s.congr (wipe_length σ vs) fun i d hd => wipe_out fun z => ?_, p0⟩, h.nd, h.in0, h.tb, fun i hi => ?_⟩
  · exact ov i z d hd
  · rw [wipe_out fun z => hp i z hi]
    exact h.pn i hi
theorem Hold.unwipe {vs : List Nat} (h : Hold K G pz X0 pins Γ (L2.wipe σ vs) H F) (ov : offV Γ vs) (hp : ∀ i ∈ vs, i ∉ pz) : Hold K G pz X0 pins Γ σ H F := by
  obtain ⟨F0, s, p0⟩ := h.sl
  refine ⟨⟨F0, s.congr (wipe_length σ vs).symm fun i d hd => (wipe_out fun z => ?_).symm, p0⟩, h.nd, h.in0, h.tb, fun i hi => ?_⟩
  · exact ov i z d hd
  · rw [← wipe_out (σ := σ) (vs := vs) fun z => hp i z hi]
    exact h.pn i hi
theorem wipe_set {vs : List Nat} {i : Nat} {v : Option V} : ∀ {vs : List Nat} {σ : L2.St}, i ∈ vs → wipe (σ.set i v) vs = wipe σ vs := by
  intro vs
  induction vs with
  | nil => intro σ h; cases h
  | cons w vs ih =>
    intro σ h
    rw [L2.wipe, L2.wipe]
    by_cases hm : i ∈ vs
    · rw [ih hm]
    · have e : i = w := by
        rcases List.mem_cons.mp h with e | e
        · exact e
        · exact absurd e hm
      subst e
      have comm : ∀ {us : List Nat} {σ : L2.St}, i ∉ us → wipe (σ.set i v) us = (wipe σ us).set i v := by
        intro us
        induction us with
        | nil => intro σ _; rfl
        | cons u us ih2 =>
          intro σ hn
          rw [L2.wipe, L2.wipe, ih2 fun z => hn (List.mem_cons_of_mem _ z), List.set_comm _ _ (fun z => hn (by rw [z]; exact List.mem_cons_self))]
      rw [comm hm, List.set_set]
theorem Hold.wipeG (h : Hold K G pz X0 pins Γ σ H F) : ∀ (vs : List Nat), ∃ F1, Hold K G pz X0 pins (GL.wipeG Γ vs) σ H F1 ∧ ∀ a ∈ F1, a ∈ F := by
  intro vs
  unfold GL.wipeG
  induction vs generalizing Γ F with
  | nil => exact ⟨F, h, fun _ h => h⟩
  | cons i vs ih =>
    obtain ⟨F1, h1, h2⟩ := h.forget i
    obtain ⟨F2, h3, h4⟩ := ih h1
    exact ⟨F2, h3, fun a ha => h2 a (h4 a ha)⟩
theorem wipeG_none : ∀ {vs : List Nat} {Γ : Sl} {i : Nat} {d : D}, Γ[i]? ≠ some (some d) → (wipeG Γ vs)[i]? ≠ some (some d)
  | [], _, _, _, h => h
  | v :: vs, Γ, i, d, h => by
    show (wipeG (Γ.set v none) vs)[i]? ≠ _
    refine wipeG_none ?_
    by_cases e : v = i
    · subst e
      rw [List.getElem?_set]
      simp only [if_true]
      split <;> simp
    · rw [List.getElem?_set_ne e]
      exact h
theorem off_wipeG (Γ : Sl) : ∀ (vs : List Nat), offV (wipeG Γ vs) vs
  | [], i, h, _ => by cases h
  | v :: vs, i, h, d => by
    show (wipeG (Γ.set v none) vs)[i]? ≠ _
    by_cases e : i ∈ vs
    · exact off_wipeG _ vs i e d
    · have e : i = v := (List.mem_cons.mp h).resolve_right e
      subst e
      refine wipeG_none ?_
      rw [List.getElem?_set]
      simp only [if_true]
      split <;> simp
/-- a target that stores nothing but the slots vs -/
def GTgV (G : Wd) (pz : List Nat) (X : Cx) (tg : Expr) (vs : List Nat) (t : Tg) : Prop :=
  ∀ pn xe σ H X0 pins F Q v d Γ Γ', t d Γ = some Γ' → Hold X.K G pz X0 pins Γ σ H F → Rp X.K G (X0 ++ F) H v d → (∀ σ' F', wipe σ' vs = wipe σ vs → Hold X.K G pz X0 pins Γ' σ' H F' → (∀ a ∈ F', a ∈ F) → Q σ' H) → wG (X.tr pn xe) tg v σ H Q
theorem gtv_name (i : Nat) (hz : i ∉ pz := by decide) (hv : i ∈ vs := by decide) (hN : X.N.Nodup := by decide) (hi : X.N[i]? = some x := by rfl) (hx : Loc X.env.scope x := by first | exact Or.inl rfl | exact Or.inr rfl) (hfn : X.fn x = true ∨ X.env.scope.names.lookup x = some .local := by first | exact .inl rfl | exact .inr rfl) : GTgV G pz X (.Name x pos) vs (tgName i false) := fun pn xe σ H X0 pins F Q v d Γ Γ' ht ho r q => wG.inv fun pi s I =>
  wG.of (pg_name (X := X.tr pn xe) hN hi hx hfn) (by
    cases ht
    obtain ⟨F1, h1, h2⟩ := ho.nil.keep (Own.fz r).nil false (i := i) (ho.lt I.len hi) hz
    exact q _ F1 (wipe_set (vs := vs) hv) h1 h2)
/-- conditions of a comprehension -/
def GTs (G : Wd) (pz : List Nat) (X : Cx) (ifs : List Expr) (m : Sl → Rg Bool) : Prop :=
  ∀ pn xe W σ H X0 pins F Q Γ, Takes (X.tr pn xe) W → Hold X.K G pz X0 pins Γ σ H F → RgPost X.K G pz X0 pins F H σ W (TPost X.K G pz X0 pins F H σ Q) (m Γ) → wTs (X.tr pn xe) ifs σ H Q
theorem gts_nil : GTs G pz X [] mTrue := fun pn xe W σ H X0 pins F Q Γ tk ho q => wTs.of pts_nil (q H F (.refl _ _ _) ho .refl)
end
end GL
namespace GL
open PySem PySem.Spec PyProof.Rows L2
/-- the contexts of a comprehension's block -/
abbrev BX (X : Cx) (s : Shared) (H : Hp) (scope : Scope) (C : Addr) (cl : List (Str × Addr)) (fp : List Addr) : Cx := X.blk s H scope (compEnvC scope cl C X.env) fp
abbrev lcT (X : Cx) (it tg elt : Expr) (ifs : List Expr) (scope : Scope) (vs : List Nat) (pn : List (Addr × Obj)) (xe : Value → Shared → Prop) : TE := tLc (wI (X.tr pn xe) tg it) (fun v σ H Q => ∀ s H0 C cl fp, wG (BX X s H0 scope C cl fp) tg v σ H Q) (fun σ H Q => ∀ s H0 C cl fp, wTs (BX X s H0 scope C cl fp) ifs σ H Q) (fun σ H Q => ∀ s H0 C cl fp, wE (BX X s H0 scope C cl fp) elt σ H Q) vs
theorem bind_ok {α β : Type} {r : Rg α} {f : α → Sl → Rg β} {y : β} {Γ : Sl} {q : Bool} (h : r.bind f = .ok y Γ q) : ∃ x Γ1 q1 q2, r = .ok x Γ1 q1 ∧ f x Γ1 = .ok y Γ q2 ∧ q = (q1 && q2) := by
  cases r with
  | er => cases h
  | st => cases h
  | ok x Γ1 q1 =>
    have h : (f x Γ1).andq q1 = .ok y Γ q := h
    cases e : f x Γ1 with
    | er => rw [e] at h; cases h
    | st => rw [e] at h; cases h
    | ok y' Γ' q2 =>
      rw [e] at h
      cases h
      exact ⟨x, Γ1, q1, q2, rfl, e, rfl⟩
theorem andq_andq {α : Type} (r : Rg α) (a b : Bool) : (r.andq b).andq a = r.andq (a && b) := by
  cases r <;> simp [Rg.andq, Bool.and_assoc]
section
variable {K : PySem.W.Frag} {G : Wd} {pz : List Nat} {X0 F F' F1 F2 Fv Fw Fl Y Y' A : List Addr} {pins : Nat → V} {Γ Γ1 : Sl} {σ σ' : L2.St} {H H' H1 H2 : Hp} {X : Cx} {d d1 di : D} {ds : List D} {v w y : V} {W : WX} {Q : VK} {e o i c tg it a b elt : Expr} {ifs tgs : List Expr} {p pos apos : Pos} {m me : Sl → Re} {mt mc : Sl → Rg Bool} {mi : Sl → Rg (List D × Bool)} {t : Tg} {ts : List Tg} {vs : List Nat} {x : Str} {Da : Addr} {us us' : List V}
theorem upd_step (h : H Da = some (.lst us)) (hA : Da ∈ A) : Step G A H A (upd H Da (.lst us')) := ⟨⟨fun a o e hx _ => by
  rw [upd_ne (fun z => hx (by rw [z]; exact hA))]
  exact e, fun a o ha _ _ => ha⟩, fun t => tabs_upd h nt_lst (fun _ _ z => by unfold LamX.CodeO at z; cases z) t⟩
theorem Hold.updX (ho : Hold K G pz X0 pins Γ σ H F) (h : H Da = some (.lst us)) (hA : Da ∈ X0) : Hold K G pz X0 pins Γ σ (upd H Da (.lst us')) F := by
  obtain ⟨F0, sl, p0⟩ := ho.sl
  have st := upd_step (G := G) (us' := us') h (A := X0 ++ F) (List.mem_append_left _ hA)
  refine ⟨⟨F0, sl.move st.mv fun a o ha e => ?_, p0⟩, ho.nd, fun a ha => ?_, st.tb ho.tb, ho.pn⟩
  · rw [upd_ne (fun z => ?_)]
    · exact e
    · have nd := ho.nd
      rw [List.nodup_append] at nd
      exact nd.2.2 Da hA a (p0.mem_iff.mp ha) z.symm
  · by_cases hz : a = Da
    · rw [hz]
      exact ⟨_, upd_same, nt_lst, fun l z => by cases z⟩
    · rw [upd_ne hz]
      exact ho.in0 a ha
end
end GL
namespace GL
open PySem PySem.Spec PyProof.Rows L2
section
variable {G : Wd} {pz : List Nat} {X : Cx} {e o i c tg it a b elt : Expr} {ifs tgs : List Expr} {p pos apos spos py : Pos} {m me : Sl → Re} {mt mc : Sl → Rg Bool} {mi : Sl → Rg (List D × Bool)} {t : Tg} {y : Str} {scope : Scope} {own : List (Str × Nat)} {mu : Bool}
end
end GL
namespace GL
open PySem PySem.Spec PyProof.Rows L2
def D.seq : D → Option (List D)
  | .nd o .lst l => if flat o l = true then some l else none
  | .nd _ .tup l => some l
  | .nd _ .ktp l => some l
  | .nd _ .scr l => some l
  | _ => none
def lenD : List D → Option D
  | [.str s] => if s.length ≤ sizeLine then some (.int s.length) else none
  | [.nd _ .lst l] => some (.int l.length)
  | [.nd _ .tup l] => some (.int l.length)
  | [.nd _ .ktp l] => some (.int l.length)
  | [.nd _ .scr l] => some (.int l.length)
  | _ => none
def absD : List D → Option D
  | [.int i] => some (.int (if i < 0 then -i else i))
  | _ => none
def intD : List D → Option D
  | [.int i] => some (.int i)
  | [.bl b] => some (.int (if b then 1 else 0))
  | _ => none
def strD : List D → Option D
  | [.int i] => if i.natAbs.log2 < 1920 then some (.str (toString i)) else none
  | _ => none
def max2D : List D → Option D
  | [.int i, .int j] => some (.int (if j > i then j else i))
  | _ => none
def min2D : List D → Option D
  | [.int i, .int j] => some (.int (if j < i then j else i))
  | _ => none
section
variable {K : PySem.W.Frag} {G : Wd} {Y : List Addr} {H : Hp} {X : Cx} {d : D} {l : List D} {v : V} {vs : List V} {Q : VK}
theorem Bws.one (h : Bws K G H Y vs [d]) : ∃ v, vs = [v] ∧ Bw K G H Y v d := by
  cases h with
  | cons r q => cases q; exact ⟨_, rfl, r⟩
theorem Bws.two {d e : D} (h : Bws K G H Y vs [d, e]) : ∃ v w, vs = [v, w] ∧ Bw K G H Y v d ∧ Bw K G H Y w e := by
  cases h with
  | cons r q =>
    obtain ⟨w, rfl, q2⟩ := q.one
    exact ⟨_, _, rfl, r, q2⟩
theorem Bw.seq (h : Bw K G H Y v d) (e : d.seq = some l) : ∃ p vs, v = .ref p ∧ (SqL K H p vs ∨ SqT K H p vs) ∧ Rps K G Y H vs l := by
  unfold D.seq at e
  split at e
  · split at e
    · rename_i hf
      cases e
      obtain ⟨p, vs, F, rfl, h1, _, h3⟩ := h.lst
      exact ⟨p, vs, rfl, .inl (.inl (.inl h1)), h3 hf⟩
    · cases e
  · cases e
    obtain ⟨p, vs, rfl, h1, h2⟩ := h.tup
    exact ⟨p, vs, rfl, .inr h1, h2⟩
  · cases e
    obtain ⟨p, vs, rfl, h1, h2⟩ := h.ktp
    exact ⟨p, vs, rfl, .inr h1, h2⟩
  · cases e
    obtain ⟨p, vs, rfl, h1, h2⟩ := h.scr
    exact ⟨p, vs, rfl, .inl h1, h2⟩
  · cases e
def cLen : CallF X G (.builtin "len") lenD := ⟨_, fun pn xe => (call_len_str (X := X.tr pn xe)).or (show CallR (X.tr pn xe) (.builtin "len") (fun xs H Q => ∃ p ys, xs = [.ref p] ∧ (SqL X.K H p ys ∨ SqT X.K H p ys) ∧ Q (.int ys.length) H) from call_len_seq), fun ds d e Y H vs Q lv os q => by
  unfold lenD at e
  split at e
  · split at e
    · rename_i hz
      cases e
      obtain ⟨v, rfl, o⟩ := os.one
      exact .inl ⟨_, by rw [o.str], hz, q.val .int⟩
    · cases e
  · cases e
    obtain ⟨v, rfl, o⟩ := os.one
    obtain ⟨p, vs, F, rfl, h1, h2, _⟩ := o.lst
    exact .inr ⟨p, vs, rfl, .inl (.inl (.inl h1)), by rw [h2.length]; exact q.val .int⟩
  · cases e
    obtain ⟨v, rfl, o⟩ := os.one
    obtain ⟨p, vs, rfl, h1, h2⟩ := o.tup
    exact .inr ⟨p, vs, rfl, .inr h1, by rw [h2.length]; exact q.val .int⟩
  · cases e
    obtain ⟨v, rfl, o⟩ := os.one
    obtain ⟨p, vs, rfl, h1, h2⟩ := o.ktp
    exact .inr ⟨p, vs, rfl, .inr h1, by rw [h2.length]; exact q.val .int⟩
  · cases e
    obtain ⟨v, rfl, o⟩ := os.one
    obtain ⟨p, vs, rfl, h1, h2⟩ := o.scr
    exact .inr ⟨p, vs, rfl, .inl h1, by rw [h2.length]; exact q.val .int⟩
  · cases e⟩
def cAbs : CallF X G (.builtin "abs") absD := ⟨_, fun pn xe => call_abs (X := X.tr pn xe), fun ds d e Y H vs Q lv os q => by
  unfold absD at e
  split at e
  · cases e
    obtain ⟨v, rfl, o⟩ := os.one
    exact ⟨_, by rw [o.int], q.val .int⟩
  · cases e⟩
def cInt : CallF X G (.type "int") intD := ⟨_, fun pn xe => call_int1 (X := X.tr pn xe), fun ds d e Y H vs Q lv os q => by
  unfold intD at e
  split at e
  · cases e
    obtain ⟨v, rfl, o⟩ := os.one
    exact .inl ⟨_, by rw [o.int], q.val .int⟩
  · cases e
    obtain ⟨v, rfl, o⟩ := os.one
    exact .inr ⟨_, by rw [o.bl], q.val .int⟩
  · cases e⟩
def cStr : CallF X G (.type "str") strD := ⟨_, fun pn xe => call_str_int (X := X.tr pn xe), fun ds d e Y H vs Q lv os q => by
  unfold strD at e
  split at e
  · split at e
    · rename_i hz
      cases e
      obtain ⟨v, rfl, o⟩ := os.one
      exact ⟨_, by rw [o.int], hz, q.val .str⟩
    · cases e
  · cases e⟩
def cMax2 (hc : X.calm = true) : CallF X G (.builtin "max") max2D := ⟨_, fun pn xe => call_max2 (X := X.tr pn xe) hc, fun ds d e Y H vs Q lv os q => by
  unfold max2D at e
  split at e
  · cases e
    obtain ⟨v, w, rfl, o1, o2⟩ := os.two
    exact ⟨_, _, by rw [o1.int, o2.int], q.val .int⟩
  · cases e⟩
def cMin2 (hc : X.calm = true) : CallF X G (.builtin "min") min2D := ⟨_, fun pn xe => call_min2 (X := X.tr pn xe) hc, fun ds d e Y H vs Q lv os q => by
  unfold min2D at e
  split at e
  · cases e
    obtain ⟨v, w, rfl, o1, o2⟩ := os.two
    exact ⟨_, _, by rw [o1.int, o2.int], q.val .int⟩
  · cases e⟩
end
end GL
namespace GL
open PySem PySem.Spec PyProof.Rows L2 PySem.SeqAt
open Classical in
/-- == to d, told of a value -/
noncomputable def eqR (h : Heap) (d : PyData) (u : Value) : Bool := if x : ∃ z as, ndP z = true ∧ Reads h u z as then PyData.eqv (Classical.choose x) d else false
theorem eqR_of {h : Heap} {d z : PyData} {u : Value} {as : List Addr} (hn : ndP z = true) (r : Reads h u z as) : eqR h d u = PyData.eqv z d := by
  have x : ∃ z as, ndP z = true ∧ Reads h u z as := ⟨z, as, hn, r⟩
  unfold eqR
  rw [dif_pos x]
  obtain ⟨bs, n1, r1⟩ := Classical.choose_spec x
  rw [rd_one n1 r1 r]
theorem eqR_all {A : Around} {s : Shared} {d : PyData} {v : Value} {bs : List Addr} (n2 : ndP d = true) (rv : Reads s.heap v d bs) : ∀ {ds : List PyData} {us : List Value} {as : List Addr}, ndPs ds = true → ReadsAll s.heap us ds as → A.units + PyData.depthAll ds < cLine → (∀ u ∈ us, EqAt A s u v (eqR s.heap d u)) ∧ us.any (eqR s.heap d) = ds.any fun z => PyData.eqv z d
  | [], _, _, _, .nil, _ => ⟨fun u h => (by cases h), rfl⟩
  | z :: ds, _, _, hn, .cons r q, hu => by
    rw [ndPs, Bool.and_eq_true] at hn
    have u0 : A.units + max z.depth (PyData.depthAll ds) < cLine := hu
    have m1 := Nat.le_max_left z.depth (PyData.depthAll ds)
    have m2 := Nat.le_max_right z.depth (PyData.depthAll ds)
    obtain ⟨h1, h2⟩ := eqR_all (A := A) n2 rv hn.2 q (by omega)
    have e := eqR_of (d := d) hn.1 r
    refine ⟨fun u hm => ?_, ?_⟩
    · rcases List.mem_cons.mp hm with e1 | hm
      · rw [e1, e]
        exact eq_any z d A s _ _ _ _ hn.1 n2 r rv (show A.units + z.depth < cLine by omega)
      · exact h1 u hm
    · rw [List.any_cons, List.any_cons, e, h2]
def inG (x c : D) : Option Bool := match c.seq with
  | some l => if (x.pk 60 && l.all (D.pk 59)) = true then some (l.any fun y => eqD y x) else none
  | none => none
def rInX (K : PySem.W.Frag) (neg : Bool) : R2 := fun x y H Q => ∃ d c ds, Dp K H x d ∧ Dp K H y c ∧ (c = .list ds ∨ c = .tuple ds) ∧ ndP d = true ∧ ndPs ds = true ∧ PyData.depthAll ds ≤ 60 ∧ Q (.bl (if neg = true then !(ds.any fun z => PyData.eqv z d) else ds.any fun z => PyData.eqv z d)) H
section
variable {X : Cx} {K : PySem.W.Frag} {G : Wd} {Y : List Addr} {H : Hp} {v : V} {c : D} {l : List D}
theorem op_inX (hu : X.A.units + 64 < cLine) : OpR X (compareOp .In) (rInX X.K false) := by
  intro pins s σ H x y v u Q I rx ry ⟨d, c, ds, hd, he, hc, n1, n2, dp, q⟩
  obtain ⟨as, r1⟩ := Dp.reads I d x v hd rx
  obtain ⟨bs, r2⟩ := Dp.reads I c y u he ry
  have hu1 : X.A.in1.units + PyData.depthAll ds < cLine := by
    show X.A.units + 1 + PyData.depthAll ds < cLine
    omega
  rcases hc with rfl | rfl
  · cases r2 with
    | @list l o its n _ _ a1 a2 a3 a4 =>
      obtain ⟨e1, e2⟩ := eqR_all (A := X.A.in1) n1 r1 n2 a4 hu1
      refine in_listAt (eqR s.heap d) ⟨o, a1, a2, n, a3⟩ (fun w hw => e1 w (by simpa using hw)) ⟨.bl _, H, I, ?_, q⟩
      rw [← Array.any_toList, e2]
      rfl
  · cases r2 with
    | @tuple l o its n _ _ a1 a2 a3 a4 =>
      obtain ⟨e1, e2⟩ := eqR_all (A := X.A.in1) n1 r1 n2 a4 hu1
      refine in_tupleAt (eqR s.heap d) ⟨o, a1, a2, n, a3⟩ (fun w hw => e1 w (by simpa using hw)) ⟨.bl _, H, I, ?_, q⟩
      rw [← Array.any_toList, e2]
      rfl
theorem op_ninX (hu : X.A.units + 64 < cLine) : OpR X (compareOp .NotIn) (rInX X.K true) := by
  intro pins s σ H x y v u Q I rx ry ⟨d, c, ds, hd, he, hc, n1, n2, dp, q⟩
  obtain ⟨as, r1⟩ := Dp.reads I d x v hd rx
  obtain ⟨bs, r2⟩ := Dp.reads I c y u he ry
  have hu1 : X.A.in1.units + PyData.depthAll ds < cLine := by
    show X.A.units + 1 + PyData.depthAll ds < cLine
    omega
  rcases hc with rfl | rfl
  · cases r2 with
    | @list l o its n _ _ a1 a2 a3 a4 =>
      obtain ⟨e1, e2⟩ := eqR_all (A := X.A.in1) n1 r1 n2 a4 hu1
      refine notIn_listAt (eqR s.heap d) ⟨o, a1, a2, n, a3⟩ (fun w hw => e1 w (by simpa using hw)) ⟨.bl _, H, I, ?_, q⟩
      rw [← Array.any_toList, e2]
      rfl
  · cases r2 with
    | @tuple l o its n _ _ a1 a2 a3 a4 =>
      obtain ⟨e1, e2⟩ := eqR_all (A := X.A.in1) n1 r1 n2 a4 hu1
      refine notIn_tupleAt (eqR s.heap d) ⟨o, a1, a2, n, a3⟩ (fun w hw => e1 w (by simpa using hw)) ⟨.bl _, H, I, ?_, q⟩
      rw [← Array.any_toList, e2]
      rfl
theorem any_pds (x : D) : ∀ l : List D, (pds l).any (fun z => PyData.eqv z (pd x)) = l.any fun y => eqD y x
  | [] => rfl
  | d :: l => by
    rw [pds, List.any_cons, List.any_cons, any_pds x l]
    rfl
theorem seq_pk (h : c.seq = some l) (hl : l.all (D.pk 59) = true) : c.pk 60 = true ∧ (pd c = .list (pds l) ∨ pd c = .tuple (pds l)) := by
  unfold D.seq at h
  split at h
  · split at h
    · cases h; exact ⟨hl, .inl rfl⟩
    · cases h
  · cases h; exact ⟨hl, .inr rfl⟩
  · cases h; exact ⟨hl, .inr rfl⟩
  · cases h; exact ⟨hl, .inl rfl⟩
  · cases h
theorem in_data {x : D} {b : Bool} {u : V} (e : inG x c = some b) (o1 : Bw K G H Y u x) (o2 : Bw K G H Y v c) : ∃ d cc ds, Dp K H u d ∧ Dp K H v cc ∧ (cc = .list ds ∨ cc = .tuple ds) ∧ ndP d = true ∧ ndPs ds = true ∧ PyData.depthAll ds ≤ 60 ∧ (ds.any fun z => PyData.eqv z d) = b := by
  unfold inG at e
  split at e
  · rename_i l hl
    split at e
    · rename_i hp
      cases e
      rw [Bool.and_eq_true] at hp
      obtain ⟨h1, h2⟩ := seq_pk hl hp.2
      obtain ⟨n1, _⟩ := pk_ok 60 x hp.1
      obtain ⟨n2, d2⟩ := pds_ok (pk_ok 59) l hp.2
      exact ⟨pd x, pd c, pds l, o1.dp hp.1, o2.dp h1, h2, n1, n2, by omega, any_pds x l⟩
    · cases e
  · cases e
end
end GL
namespace GL
open PySem PySem.Spec PyProof.Rows L2
def wI' (X : Cx) (e : Option Expr) : TO := fun σ H Q => ∀ pins s, Inv X pins σ H s → wpAny (model X.prog X.w) X.A (evalPart e X.env) (fun u s' => ∃ o H', Inv X pins σ H' s' ∧ IsPart u o ∧ Q o H') X.xe s
theorem po_w {X : Cx} {e : Option Expr} : PO X e (wI' X e) := ⟨fun pins s _ _ _ I h => h pins s I⟩
theorem wI'.of {X : Cx} {e : Option Expr} {t : TO} {σ H Q} (h : PO X e t) (q : t σ H Q) : wI' X e σ H Q := fun pins s I => h.run pins s σ H Q I q
def cutD (xs : List D) (lo hi : Option Int) : List D := (xs.drop (HT.sIx xs.length 0 lo)).take (HT.sIx xs.length xs.length hi - HT.sIx xs.length 0 lo)
def slD (c : D) (lo hi : Option Int) : Option D := match c with
  | .nd o .lst l => if flat o l = true then some (.nd true .lst (cutD l lo hi)) else none
  | .nd _ .scr l => some (.nd true .lst (cutD l lo hi))
  | .nd _ .tup l => some (.tup (cutD l lo hi))
  | .nd _ .ktp l => if (cutD l lo hi).length < l.length then some (.tup (cutD l lo hi)) else none
  | .str z => if z.length ≤ sizeLine then some (.str (cutS z lo hi)) else none
  | _ => none
def ptNo : Sl → Rg (Option Int) := fun Γ => .ok none Γ true
def ptSome (m : Sl → Re) : Sl → Rg (Option Int) := fun Γ => (m Γ).bind fun d Γ => match d with
  | .int i => .ok (some i) Γ true
  | _ => .st
def mSl (m : Sl → Re) (lo hi : Sl → Rg (Option Int)) : Sl → Re := fun Γ => (m Γ).bind fun c Γ1 => ((lo Γ1).gd c.fz).bind fun l Γ2 => ((hi Γ2).gd c.fz).bind fun h Γ3 => .of (slD c l h) Γ3
section
variable {K : PySem.W.Frag} {G : Wd} {pz : List Nat} {X0 F F' F1 F2 Y : List Addr} {pins : Nat → V} {Γ Γ1 : Sl} {σ : L2.St} {H H' H1 H2 : Hp} {X : Cx} {e : Expr} {lo hi : Option Expr} {d c : D} {v : V} {p2 pos : Pos} {W : WX} {Q : VK} {m : Sl → Re} {ml mh : Sl → Rg (Option Int)} {q q1 : Bool}
def PPost (K : PySem.W.Frag) (G : Wd) (pz : List Nat) (X0 : List Addr) (pins : Nat → V) (F : List Addr) (H : Hp) (σ : L2.St) (Q : Option Int → Hp → Prop) (o : Option Int) (Γ' : Sl) (q : Bool) : Prop :=
  ∀ H' F', Step G F H F' H' → Hold K G pz X0 pins Γ' σ H' F' → Qt G F H q H' F' → Q o H'
/-- a slice's part -/
def GPt (G : Wd) (pz : List Nat) (X : Cx) (e : Option Expr) (m : Sl → Rg (Option Int)) : Prop :=
  ∀ pn xe W σ H X0 pins F Q Γ, Takes (X.tr pn xe) W → Hold X.K G pz X0 pins Γ σ H F → RgPost X.K G pz X0 pins F H σ W (PPost X.K G pz X0 pins F H σ Q) (m Γ) → wI' (X.tr pn xe) e σ H Q
theorem gpt_no : GPt G pz X none ptNo := fun pn xe W σ H X0 pins F Q Γ tk ho q => wI'.of po_none (q H F (.refl _ _ _) ho .refl)
theorem gpt_some (h : GO G pz X e m) : GPt G pz X (some e) (ptSome m) := fun pn xe W σ H X0 pins F Q Γ tk ho q => wI'.of (po_some pe_w) (h pn xe W σ H X0 pins F _ Γ tk ho (q.bind fun d Γ1 q1 e0 p v H' F' s ho' o qt => by
  clear e0
  cases d with
  | int i =>
    have p : PPost X.K G pz X0 pins F H σ Q (some i) Γ1 (q1 && true) := p
    rw [Bool.and_true] at p
    exact ⟨i, o.int, p H' F' s ho' qt⟩
  | any => exact p.elim
  | non => exact p.elim
  | bl => exact p.elim
  | str => exact p.elim
  | fn => exact p.elim
  | pr => exact p.elim
  | nd => exact p.elim))
theorem Rps.cut {vs : List V} {l : List D} (r : Rps K G Y H vs l) (a b : Option Int) : Rps K G Y H (cutV vs a b) (cutD l a b) := by
  unfold cutV cutD
  rw [r.length]
  exact (r.drop _).take _
def rSlX2 (K : PySem.W.Frag) : V → Option Int → Option Int → Hp → VK → Prop := fun x lo hi H Q => rSlL K x lo hi H Q ∨ (rSlA K x lo hi H Q ∨ rSlS x lo hi H Q)
theorem sl_all : SlR X (rSlX2 X.K) := sl_list.or (sl_tupA.or sl_str)
theorem sl_of {a b : Option Int} (lv : Lv Y H) (o : Bw K G H Y v c) (e : slD c a b = some d) (q : FrQ K G H Y d Q) : rSlX2 K v a b H Q := by
  unfold slD at e
  split at e
  · split at e
    · rename_i hf
      cases e
      obtain ⟨p, vs, F, rfl, h1, _, h3⟩ := o.lst
      exact .inl ⟨p, vs, rfl, .inl (.inl h1), fun p hp => fr_new q hp rfl ((h3 hf).cut a b)⟩
    · cases e
  · cases e
    obtain ⟨p, vs, rfl, h1, h2⟩ := o.scr
    exact .inl ⟨p, vs, rfl, h1, fun p hp => fr_new q hp rfl (h2.cut a b)⟩
  · cases e
    obtain ⟨p, vs, rfl, h1, h2⟩ := o.tup
    refine .inr (.inl ⟨p, vs, rfl, h1, fun hw => ?_, fun _ p hp => fr_tup q lv hp (h2.cut a b)⟩)
    have : ∀ l : List D, l.length = vs.length → cutD l a b = l := fun l hl => by
      unfold cutD
      rw [hl, hw.1, hw.2, List.drop_zero, ← hl, Nat.sub_zero, List.take_length]
    rw [this _ h2.length.symm] at q
    exact q.val o.tupR
  · split at e
    · rename_i hz
      cases e
      obtain ⟨p, vs, rfl, h1, h2⟩ := o.ktp
      refine .inr (.inl ⟨p, vs, rfl, h1, fun hw => ?_, fun _ p hp => fr_tup q lv hp (h2.cut a b)⟩)
      have whole : ∀ l : List D, l.length = vs.length → cutD l a b = l := fun l hl => by
        unfold cutD
        rw [hl, hw.1, hw.2, List.drop_zero, ← hl, Nat.sub_zero, List.take_length]
      rw [whole _ h2.length.symm] at hz
      exact absurd hz (Nat.lt_irrefl _)
    · cases e
  · split at e
    · rename_i hz
      cases e
      exact .inr (.inr ⟨_, o.str, hz, q.val .str⟩)
    · cases e
  · cases e
/-- e[lo:hi] -/
theorem ge_sl (he : GO G pz X e m) (hl : GPt G pz X lo ml) (hh : GPt G pz X hi mh) : GE G pz X (.Subscript e (.Slice lo hi none p2) pos) (mSl m ml mh) := fun pn xe W σ H X0 pins F Q Γ tk ho q =>
  wE.of (pe_slice (X := X.tr pn xe) (r := rSlX2 X.K) (sl_all (X := X.tr pn xe)) pe_w po_w po_w) (he pn xe W σ H X0 pins F _ Γ tk ho (q.bind fun c Γ1 q1 _ p1 v H1 F1 s1 ho1 o1 qt1 =>
    hl pn xe W σ H1 X0 pins F1 _ Γ1 tk ho1 (((p1.vaft s1 qt1).bind fun a Γ2 q2 _ p2 => p2).gd.mono fun a Γ2 q2 _ p2 H2 F2 s2 ho2 qt2 => by
      obtain ⟨hq2, p2⟩ := p2
      have o2 := o1.step s2 qt2 hq2
      exact hh pn xe W σ H2 X0 pins F2 _ Γ2 tk ho2 (((p2.vaft s2 qt2).bind fun b Γ3 q3 _ p3 => p3).gd.mono fun b Γ3 q3 _ p3 H3 F3 s3 ho3 qt3 => by
        obtain ⟨hq3, p3⟩ := p3
        obtain ⟨d, e, fr⟩ := fr_of ho3 (p3.vaft s3 qt3)
        exact sl_of ho3.liveX (o2.step s3 qt3 hq3) e fr))))
end
end GL
namespace GL
open PySem PySem.Spec PyProof.Rows L2 PySem.W PySem.W
mutual
/-- data told by their signs: numbers, truth values, texts, tuples and still lists of these -/
def D.pj : D → Bool
  | .bl _ | .int _ | .str _ => true
  | .nd false .tup l => D.pjs l
  | .nd false .lst l => D.pjs l
  | _ => false
def D.pjs : List D → Bool
  | [] => true
  | d :: l => d.pj && D.pjs l
end
mutual
theorem pd_inj : ∀ (d e : D), d.pj = true → e.pj = true → pd d = pd e → d = e
  | .bl _, .bl _, _, _, h => by cases h; rfl
  | .bl _, .int _, _, _, h => by cases h
  | .bl _, .str _, _, _, h => by cases h
  | .bl _, .nd false .tup _, _, _, h => by cases h
  | .bl _, .nd false .lst _, _, _, h => by cases h
  | .int _, .int _, _, _, h => by cases h; rfl
  | .int _, .bl _, _, _, h => by cases h
  | .int _, .str _, _, _, h => by cases h
  | .int _, .nd false .tup _, _, _, h => by cases h
  | .int _, .nd false .lst _, _, _, h => by cases h
  | .str _, .str _, _, _, h => by cases h; rfl
  | .str _, .bl _, _, _, h => by cases h
  | .str _, .int _, _, _, h => by cases h
  | .str _, .nd false .tup _, _, _, h => by cases h
  | .str _, .nd false .lst _, _, _, h => by cases h
  | .nd false .tup l, .nd false .tup m, h1, h2, h => by
    rw [D.pj] at h1 h2
    have h : PyData.tuple (pds l) = .tuple (pds m) := h
    injection h with h
    rw [pds_inj l m h1 h2 h]
  | .nd false .lst l, .nd false .lst m, h1, h2, h => by
    rw [D.pj] at h1 h2
    have h : PyData.list (pds l) = .list (pds m) := h
    injection h with h
    rw [pds_inj l m h1 h2 h]
  | .nd false .tup _, .nd false .lst _, _, _, h => by cases h
  | .nd false .lst _, .nd false .tup _, _, _, h => by cases h
  | .nd false .tup _, .bl _, _, _, h => by cases h
  | .nd false .tup _, .int _, _, _, h => by cases h
  | .nd false .tup _, .str _, _, _, h => by cases h
  | .nd false .lst _, .bl _, _, _, h => by cases h
  | .nd false .lst _, .int _, _, _, h => by cases h
  | .nd false .lst _, .str _, _, _, h => by cases h
  | .any, _, h, _, _ | .non, _, h, _, _ | .fn _, _, h, _, _ => by cases h
  | _, .any, _, h, _ | _, .non, _, h, _ | _, .fn _, _, h, _ => by cases h
  | .nd true _ _, _, h, _, _ => by cases h
  | _, .nd true _ _, _, h, _ => by cases h
  | .nd false .ptu _, _, h, _, _ | .nd false .ktp _, _, h, _, _ | .nd false .scr _, _, h, _, _ | .nd false (.dK _) _, _, h, _, _ | .nd false (.dT _) _, _, h, _, _ | .nd false (.ins _ _) _, _, h, _, _ => by cases h
  | _, .nd false .ptu _, _, h, _ | _, .nd false .ktp _, _, h, _ | _, .nd false .scr _, _, h, _ | _, .nd false (.dK _) _, _, h, _ | _, .nd false (.dT _) _, _, h, _ | _, .nd false (.ins _ _) _, _, h, _ => by cases h
theorem pds_inj : ∀ (l m : List D), D.pjs l = true → D.pjs m = true → pds l = pds m → l = m
  | [], [], _, _, _ => rfl
  | [], _ :: _, _, _, h => by cases h
  | _ :: _, [], _, _, h => by cases h
  | d :: l, e :: m, h1, h2, h => by
    rw [D.pjs, Bool.and_eq_true] at h1 h2
    rw [pds, pds] at h
    injection h with h3 h4
    rw [pd_inj d e h1.1 h2.1 h3, pds_inj l m h1.2 h2.2 h4]
end
/-- a < b of data -/
def ltX (a b : D) : Bool := dataLt (pd a) (pd b)
def minX (x : D) (xs : List D) : D := xs.foldl (fun a y => if ltX y a = true then y else a) x
/-- all may be compared -/
def alikeX (l : List D) : Bool := l.all (fun a => l.all fun b => alike (pd a) (pd b)) && l.all D.pj && l.all (D.pk 58)
theorem pd_min (x : D) : ∀ xs : List D, pd (minX x xs) = minD (pd x) (pds xs) := fun xs => by
  induction xs generalizing x with
  | nil => rfl
  | cons y xs ih =>
    show pd (minX (if ltX y x = true then y else x) xs) = minD (if dataLt (pd y) (pd x) = true then pd y else pd x) (pds xs)
    rw [ih]
    by_cases h : dataLt (pd y) (pd x) = true
    · have h' : ltX y x = true := h
      rw [if_pos h, if_pos h']
    · have h' : ¬ ltX y x = true := h
      rw [if_neg h, if_neg h']
theorem minX_mem (x : D) : ∀ xs : List D, minX x xs ∈ x :: xs := fun xs => by
  induction xs generalizing x with
  | nil => exact List.mem_cons_self
  | cons y xs ih =>
    show minX (if ltX y x = true then y else x) xs ∈ _
    have := ih (if ltX y x = true then y else x)
    rcases List.mem_cons.mp this with e | h
    · rw [e]
      split <;> simp
    · simp [h]
end GL
namespace GL
open PySem PySem.Spec PyProof.Rows L2 PySem.W
/-- a list's items -/
def D.sql : D → Option (List D)
  | .nd o .lst l => if flat o l = true then some l else none
  | .nd _ .scr l => some l
  | _ => none
def minLD : List D → Option D
  | [d] => match d.sql with
    | some (x :: xs) => if alikeX (x :: xs) = true then some (minX x xs) else none
    | _ => none
  | _ => none
/-- one of a row, told by its data -/
def rPick (K : PySem.W.Frag) (f : PyData → List PyData → PyData) : List V → Hp → VK → Prop := fun vs H Q => ∃ p us x xs, vs = [.ref p] ∧ SqL K H p us ∧ Dp K H (.ref p) (.list (x :: xs)) ∧ AlikeAll (x :: xs) ∧ ndPs (x :: xs) = true ∧ PyData.depthAll (x :: xs) ≤ 60 ∧ ∀ (i : Nat) w, us[i]? = some w → (x :: xs)[i]? = some (f x xs) → Q w H
theorem ReadsAll.at {h : Heap} : ∀ {vs : List Value} {ds : List PyData} {as : List Addr} {i : Nat} {v : Value}, ReadsAll h vs ds as → vs[i]? = some v → ∃ d bs, ds[i]? = some d ∧ Reads h v d bs
  | _, _, _, 0, _, .cons r _, e => by cases e; exact ⟨_, _, rfl, r⟩
  | _, _, _, i + 1, _, .cons _ q, e => ReadsAll.at (i := i) q e
  | _, _, _, _, _, .nil, e => by simp at e
theorem ndPs_at : ∀ {ds : List PyData} {i : Nat} {d : PyData}, ndPs ds = true → ds[i]? = some d → ndP d = true
  | z :: ds, 0, d, h, e => by
    rw [ndPs, Bool.and_eq_true] at h
    cases e
    exact h.1
  | z :: ds, i + 1, d, h, e => by
    rw [ndPs, Bool.and_eq_true] at h
    exact ndPs_at (i := i) h.2 e
  | [], _, _, _, e => by simp at e
section
variable {X : Cx} {G : Wd}
theorem cr_minX (hc : X.calm = true) (hu : X.A.units + 64 < cLine) : CallR X (.builtin "min") (rPick X.K minD) := by
  intro pins s σ H xs us Q I r h
  obtain ⟨p, vs, x, ys, rfl, hs, hd, al, nn, dp, q⟩ := h
  rw [Vals.ref1 r]
  obtain ⟨its, rv, pl, hz⟩ := I.list hs
  obtain ⟨as, r2⟩ := Dp.reads I (.list (x :: ys)) (.ref p) (.ref p) hd rfl
  cases r2 with
  | @list l o its2 n _ _ a1 a2 a3 a4 =>
    obtain ⟨o', b1, b2, n', b3⟩ := pl.isList
    rw [a1] at b1
    cases b1
    rw [a3] at b3
    cases b3
    refine min_list_data (I.ok.hd hc) ⟨o, a1, a2, n, a3⟩ a4 al (by omega) fun i v h' tk bs e1 e2 kp => ?_
    have e1' : its[i]? = some v := by simpa using e1
    obtain ⟨w, hw, rw'⟩ : ∃ w, vs[i]? = some w ∧ RelV w v := by
      have : ∀ {vs : List V} {its : List Value} {i : Nat}, Vals vs its → its[i]? = some v → ∃ w, vs[i]? = some w ∧ RelV w v := by
        intro vs
        induction vs with
        | nil => intro its i r e; cases r; simp at e
        | cons a vs ih =>
          intro its i r e
          cases r with
          | cons r1 r2 =>
            cases i with
            | zero => cases e; exact ⟨_, rfl, r1⟩
            | succ i => exact ih r2 e
      exact this rv e1'
    obtain ⟨d, cs, g1, g2⟩ := ReadsAll.at a4 (by simpa using e1)
    have g3 := PyProof.Rows.Reads.keeps (fun b o => kp b o) g2
    have := rd_one (ndPs_at nn g1) g3 e2
    rw [this] at g1
    exact ⟨w, H, I.kept kp, rw', q i w hw g1⟩
theorem Bw.sql {K : PySem.W.Frag} {Y : List Addr} {H : Hp} {v : V} {d : D} {l : List D} (h : Bw K G H Y v d) (e : d.sql = some l) (hk : l.all (D.pk 58) = true) : ∃ p vs, v = .ref p ∧ SqL K H p vs ∧ Rps K G Y H vs l ∧ Dp K H v (.list (pds l)) := by
  unfold D.sql at e
  split at e
  · split at e
    · rename_i hf
      cases e
      have hd := h.dp (n := 59) (show D.pk 59 (.nd _ .lst _) = true from hk)
      obtain ⟨p, vs, F, rfl, h1, _, h3⟩ := h.lst
      exact ⟨p, vs, rfl, .inl (.inl h1), h3 hf, hd⟩
    · cases e
  · cases e
    have hd := h.dp (n := 59) (show D.pk 59 (.nd _ .scr _) = true from hk)
    obtain ⟨p, vs, rfl, h1, h2⟩ := h.scr
    exact ⟨p, vs, rfl, h1, h2, hd⟩
  · cases e
theorem pds_get : ∀ {l : List D} {i : Nat}, (pds l)[i]? = (l[i]?).map pd
  | [], i => by simp [pds]
  | d :: l, 0 => rfl
  | d :: l, i + 1 => by
    rw [pds, List.getElem?_cons_succ, List.getElem?_cons_succ]
    exact pds_get
theorem pds_mem : ∀ {l : List D} {z : PyData}, z ∈ pds l → ∃ d ∈ l, z = pd d
  | d :: l, z, h => by
    rw [pds] at h
    rcases List.mem_cons.mp h with e | h
    · exact ⟨d, List.mem_cons_self, e⟩
    · obtain ⟨d', h1, h2⟩ := pds_mem h
      exact ⟨d', List.mem_cons_of_mem _ h1, h2⟩
theorem pj_ne {d : D} (h : d.pj = true) : pd d ≠ .none := fun e => by
  unfold D.pj at h
  split at h <;> first | cases e | cases h
theorem alike_all {l : List D} (h : alikeX l = true) : AlikeAll (pds l) ∧ (∀ d ∈ l, d.pj = true) ∧ l.all (D.pk 58) = true := by
  unfold alikeX at h
  rw [Bool.and_eq_true, Bool.and_eq_true] at h
  have hj : ∀ d ∈ l, d.pj = true := fun d hd => List.all_eq_true.mp h.1.2 d hd
  refine ⟨⟨fun a ha b hb => ?_, fun a ha => ?_⟩, hj, h.2⟩
  · obtain ⟨x, hx, rfl⟩ := pds_mem ha
    obtain ⟨y, hy, rfl⟩ := pds_mem hb
    exact List.all_eq_true.mp (List.all_eq_true.mp h.1.1 x hx) y hy
  · obtain ⟨x, hx, rfl⟩ := pds_mem ha
    exact pj_ne (hj x hx)
theorem pick_ok {K : PySem.W.Frag} {Y : List Addr} {H : Hp} {v : V} {d x m : D} {xs : List D} {f : PyData → List PyData → PyData} {Q : VK} (o : Bw K G H Y v d) (e : d.sql = some (x :: xs)) (ha : alikeX (x :: xs) = true) (hm : m ∈ x :: xs) (hf : pd m = f (pd x) (pds xs)) (q : FrQ K G H Y m Q) : rPick K f [v] H Q := by
  obtain ⟨al, hj, hk⟩ := alike_all ha
  obtain ⟨p, vs, rfl, h1, h2, h3⟩ := o.sql e hk
  obtain ⟨n2, d2⟩ := pds_ok (pk_ok 58) (x :: xs) hk
  refine ⟨p, vs, pd x, pds xs, rfl, h1, h3, al, n2, by
    have : PyData.depthAll (pds (x :: xs)) ≤ 58 := d2
    rw [pds] at this
    omega, fun i w hw hi => ?_⟩
  have hi : (pds (x :: xs))[i]? = some (f (pd x) (pds xs)) := hi
  rw [pds_get] at hi
  obtain ⟨z, hz, ez⟩ := Option.map_eq_some_iff.mp hi
  obtain ⟨w', hw', rw'⟩ := h2.get' hz
  rw [hw] at hw'
  cases hw'
  have : z = m := pd_inj z m (hj z (List.mem_of_getElem? hz)) (hj m hm) (ez.trans hf.symm)
  subst this
  exact q.val rw'
def cMinL (hc : X.calm = true) (hu : X.A.units + 64 < cLine) : CallF X G (.builtin "min") minLD := ⟨rPick X.K minD, fun pn xe => cr_minX (X := X.tr pn xe) hc hu, fun ds d e Y H vs Q lv os q => by
  unfold minLD at e
  split at e
  · split at e
    · rename_i x xs hq
      split at e
      · rename_i ha
        cases e
        obtain ⟨v, rfl, o⟩ := os.one
        exact pick_ok o hq ha (minX_mem x xs) (pd_min x xs) q
      · cases e
    · cases e
  · cases e⟩
end
end GL
namespace GL
open PySem PySem.Spec PyProof.Rows L2
section
variable {K : PySem.W.Frag} {G : Wd} {pz : List Nat} {X0 F F' F1 F2 Fv Fw Y Y' : List Addr} {pins : Nat → V} {Γ Γ1 : Sl} {σ : L2.St} {H H' H1 H2 : Hp} {v : V} {W : WX} {Q : VK}
theorem fn_okC {P : Program} {w : World} {K : PySem.W.Frag} {mg : Str → Option Value} {base : Heap} {G : Wd} {pz : List Nat} {s : Sl → So} {ms : List Bool}
    {x qual : Str} {st : Stmt} {f : Addr} {fd : FuncData} {N ps : List Str} {k : Nat} {dvs : List V} {kws : List (Str × V)} (F : FunD K x qual (defArgs st) (defBody st) (defScope st) dvs kws f fd) (S : FnScope N ps (defScope st)) (hz : ∀ i : Nat, i ∈ pz → ms[i]? = some true) (hz' : ∀ i : Nat, ms[i]? = some true → i ∈ pz)
    (hm : ms.length = ps.length)
    (body : ∀ (A : Around) (outer : List Env) (s0 : Shared) (H : Hp) (E : XK), Room k (A.deeper (envOfC qual (defScope st) s0.heap.objs.size f fd.code)) → GB G pz (cxOf (L2.CX P w) P w K mg base N qual (defScope st) f fd.code A outer s0 H E) (defBody st) s) :
    FnOk P w K mg base (L2.CX P w) (k + 1) f fd ps (Pr K G (mDef N.length ms s)) := by
  have hl : ∀ {ds : List D} {X0 F H vs Q E}, CPost K G X0 F H vs Q E (mDef N.length ms s ds) → ds.length = ms.length := fun {ds X0 F H vs Q E} q => by
    unfold mDef at q
    by_cases h : ds.length = ms.length
    · exact h
    · rw [if_neg h] at q
      exact q.elim
  obtain ⟨oc, od, dV, kV, doc, pm, an, cdv, ct, osl, rfl, lk, hcd, _, _⟩ := F.ex
  refine fn_of lk hcd S (fun vs H Q E hsp => ?_) (fun A outer s0 H vs Q E hr hsp => ?_)
  · obtain ⟨ds, X0, Fx, o, _, _, _, q⟩ := hsp
    rw [o.length, hl q, hm]
  · obtain ⟨ds, X0, Fx, o, nod, in0, tb, q⟩ := hsp
    refine ⟨wB _ _, pss_w, ?_⟩
    have hd := hl q
    have hlen : vs.length = ms.length := by rw [o.length]; exact hd
    unfold mDef at q
    rw [if_pos hd] at q
    have hst : ∀ i v, vs[i]? = some v → (L2.start N vs)[i]? = some (some v) := fun i v hi => by
      unfold L2.start
      rw [List.getElem?_append_left (by rw [List.length_map]; exact (List.getElem?_eq_some_iff.mp hi).1), List.getElem?_map, hi]
      rfl
    have H0 : Hold K G pz X0 (fun i => vs.getD i .non) (stD N.length ds) (L2.start N vs) H Fx := ⟨⟨Fx, o.start N, .refl _⟩, nod, in0, tb, fun i hi => by
      have h1 : i < vs.length := by rw [hlen]; exact (List.getElem?_eq_some_iff.mp (hz i hi)).1
      rw [List.getD_eq_getElem?_getD, List.getElem?_eq_getElem h1]
      exact hst i _ (List.getElem?_eq_getElem h1)⟩
    have bk : ∀ {X1 : List Addr} {Γ σ' H' F'}, Hold K G pz X1 (fun i => vs.getD i .non) Γ σ' H' F' → ∃ F1, Owns K G (X1 ++ F1) H' vs (bkS ms Γ) F1 ∧ (X1 ++ F1).Nodup ∧ ∀ a ∈ F1, a ∈ F' := fun {X1 Γ σ' H' F'} ho => by
      obtain ⟨F0, s0, p0⟩ := ho.sl
      obtain ⟨F1, o1, sub⟩ := s0.back hlen fun i v h1 h2 => by
        have := ho.pn i (hz' i h1)
        rw [List.getD_eq_getElem?_getD, h2] at this
        exact this
      have hs : ∀ a ∈ F1, a ∈ F' := fun a ha => p0.mem_iff.mp (sub.subset ha)
      exact ⟨F1, o1.sub (sub_app hs), (nd_of_perm p0 ho.nd).sublist (sub.append_left X1), hs⟩
    refine (body A outer s0 H E hr) [] _ (fun cls d _ H => E cls d H) _ H X0 _ Fx _ _ (takes_of (X := cxOf (L2.CX P w) P w K mg base N qual (defScope st) f cdv A outer s0 H E) rfl rfl rfl rfl) (passes_of (X := cxOf (L2.CX P w) P w K mg base N qual (defScope st) f cdv A outer s0 H E) rfl) H0 ?_
    cases e : s (stD N.length ds) with
    | rt r Γ =>
      rw [e] at q
      intro v σ' H' F' Fv st ho ov
      obtain ⟨F1, o1, n1, sub⟩ := bk ho
      exact q v H' F1 Fv (st.app sub) o1 n1 (ov.sub (sub_app sub)) ho.tb
    | er y Γ =>
      rw [e] at q
      intro c dd σ' H' F' st ho xr
      obtain ⟨F1, o1, n1, sub⟩ := bk ho
      exact q c dd H' F1 (st.shrink sub) o1 n1 xr ho.tb
    | nx Γ =>
      rw [e] at q
      intro σ' H' F' st ho
      obtain ⟨F1, o1, n1, sub⟩ := bk ho
      exact q .non H' F1 [] (st.shrink sub) (by rw [List.append_nil]; exact o1) (by rw [List.append_nil]; exact n1) (.fz .non) ho.tb
    | bk => rw [e] at q; exact q.elim
    | ct => rw [e] at q; exact q.elim
    | st => rw [e] at q; exact q.elim

/-! ### x(lambda: body), x tells exceptions by texts -/
def tells (K : PySem.W.Frag) : List (Value × Str) → Value → Hp → VK → Prop
  | [], _, _, _ => False
  | (c, ret) :: l, cls, H', Q => ∃ b, PySem.W.exmOne K cls c = some b ∧ (b = true → Q (.str ret) H') ∧ (b = false → tells K l cls H' Q)
/-- the clauses: except e: return ret -/
inductive TellH (sg : Scope) (mg : Str → Option Value) : List ExceptHandler → List (Value × Str) → Prop
  | nil : TellH sg mg [] []
  | cons {e ret : Str} {c : Value} {hds : List ExceptHandler} {l : List (Value × Str)} {j : Nat} {p4 p5 p6 p7 : Pos} (hge : sg.names.lookup e = some .globalImplicit) (hde : (e == ("__debug__" : Str)) = false) (hme : mg e = some c) (r : TellH sg mg hds l) :
      TellH sg mg (.ExceptHandler (some (.Name e p4)) none [.Return (some (.Constant (.str ret) j p5)) p6] p7 :: hds) ((c, ret) :: l)
/-- what the telling def is, as the top has left it: tl: the classes and their texts -/
structure ToldOk (K : PySem.W.Frag) (mg : Str → Option Value) (G : Wd) (x a : Str) (st : Stmt) (g : Addr) (tl : List (Str × Str)) : Prop where
  hm : mg x = some (.ref g)
  fn : ∃ fd, FunD K x x (defArgs st) (defBody st) (defScope st) [] [] g fd ∧ L2.Binds K fd [a] []
  sc : FnScope [a] [a] (defScope st)
  va : Vis (defScope st) a
  body : ∃ p1 p2 p3 p8 h₀ hds l, defBody st = [.Try [.Return (some (.Call (.Name a p1) [] [] p2)) p3] (h₀ :: hds) [] [] p8] ∧ TellH (defScope st) mg (h₀ :: hds) l ∧ l = tl.map fun p => (.ref (G.cls p.1), p.2)
  ex : ∀ c ∈ tl.map (·.1), ∀ e ∈ tl.map (·.1), PySem.W.exmOne K (.ref (G.cls c)) (.ref (G.cls e)) = some (decide (c = e))
def mTold (tl : List (Str × Str)) (m : Sl → Re) : Sl → Re := fun Γ => match m Γ with
  | .ok d Γ' q => .ok d Γ' q
  | .er e Γ' => match tl.lookup e.c with
    | some s => .ok (.str s) Γ' false
    | none => .st
  | .st => .st
/-! ### a lambda is made: its code object is new, or found in the table -/
section
variable {X : Cx} {pins : List (Addr × Obj)} {σ : L2.St} {H : Hp} {s : Shared} {T : List (Addr × Str)} {c P : Addr} {q q0 : Str}
theorem tabs_add {ps : Array Value} {c' : Addr} {gpos : Pos} (hm : (P, q0) ∈ T) (hu : (∀ r ∈ T, r.1 = P → r.2 = q0) ∧ (q0 = q ∨ q0 = "")) (hT : Tabs T H) (hP : H P = some (.tbl ps)) (nC : H c' = none) :
    LamX.ExtN H (upd (upd H P (.tbl (ps ++ #[rawInt gpos.line, rawInt gpos.col, .ref c']))) c' (LamX.CodeO c' q)) ∧ Tabs T (upd (upd H P (.tbl (ps ++ #[rawInt gpos.line, rawInt gpos.col, .ref c']))) c' (LamX.CodeO c' q)) := by
  generalize hz : ps ++ #[rawInt gpos.line, rawInt gpos.col, .ref c'] = zs
  have zl : zs.toList = ps.toList ++ [rawInt gpos.line, rawInt gpos.col, .ref c'] := by rw [← hz]; simp
  have pc : P ≠ c' := ne_of_none hP nC
  have ext : LamX.ExtN H (upd (upd H P (.tbl zs)) c' (LamX.CodeO c' q)) := fun b o hb ho => by
    have b1 : b ≠ c' := ne_of_none hb nC
    have b2 : b ≠ P := fun z => ho ps (by rw [z, hP] at hb; exact (Option.some.inj hb).symm)
    rw [upd_ne b1, upd_ne b2, hb]
  refine ⟨ext, fun r hr => ?_⟩
  obtain ⟨rs, r1, r2, r3⟩ := hT r hr
  have old : ∀ (pos : Pos) (cv : Value), codeAmong pos rs.toList = some cv → ∃ d q1, cv = .ref d ∧ upd (upd H P (.tbl zs)) c' (LamX.CodeO c' q) d = some (LamX.CodeO d q1) ∧ (r.2 = q1 ∨ r.2 = "") := fun pos cv hcv => by
    obtain ⟨d, q1, d1, d2, d3⟩ := r3 pos cv hcv
    exact ⟨d, q1, d1, ext d _ d2 LamX.codeO_ne, d3⟩
  by_cases hb : r.1 = P
  · have hq := hu.1 r hr hb
    rw [hb, hP] at r1
    cases r1
    refine ⟨zs, by rw [hb, upd_ne pc, upd_same], by rw [zl]; exact PySem.TriplesOk_snoc _ _ _ _ r2, fun pos cv hcv => ?_⟩
    rw [zl] at hcv
    rcases LamX.among_app _ r2 hcv with z | z
    · exact old pos cv z
    · exact ⟨c', q, z, upd_same, by rw [hq]; exact hu.2⟩
  · exact ⟨rs, by rw [upd_ne (ne_of_none r1 nC), upd_ne hb]; exact r1, r2, old⟩
theorem lam_make3 {params : Arguments} {body : Expr} {scope : Scope} {pos : Pos} {E : Value → Shared → Prop} {Q : Value → Shared → Prop} (I : Inv X pins σ H s) (TB : LamX.TabB X.base X.mg c P) (hcode : X.env.code = .ref c)
    (hm : (P, q0) ∈ T) (hu : (∀ r ∈ T, r.1 = P → r.2 = q0) ∧ (q0 = X.env.qual ++ "<lambda>" ∨ q0 = "")) (hT : Tabs T H) (hdef : defaultsOf params X.env = ([], [])) (hfree : ∀ y ∈ scope.names, y.2 = .free → ∃ c, X.env.cells.lookup y.1 = some c)
    (h : ∀ (f c' : Addr) (q1 : Str) (pm ctv : Value) (H1 : Hp) (s' : Shared), Inv X pins σ H1 s' → LamX.ExtN H H1 → Tabs T H1 →
      s'.heap.get? f = some (PySem.W.kla_obj "<lambda>" (X.env.qual ++ "<lambda>") params body scope (cloFrom X.env.cells scope.names []) pm c' ctv) → H1 f = none → f ∉ frs X.stack → H1 c' = some (LamX.CodeO c' q1) → (q0 = q1 ∨ q0 = "") → Q (.ref f) s') :
    wpAny (model X.prog X.w) X.A (eval (.Lambda params body scope pos) X.env) Q E s := by
  obtain ⟨ps, hP, ht, ha⟩ := hT _ hm
  have bP : s.heap.BuiltinsAt X.mg P := TB.bm.keeps I.bk
  have pS : s.heap.get? P = some { cls := .none, data := .fields ps } := I.hok P _ hP
  have noF : ∀ {f : Addr}, s.heap.objs.size ≤ f → f ∉ frs X.stack := fun {f} hf z => by
    rcases List.mem_cons.mp (I.stkSub _ z) with e | e
    · have lt := I.lt
      rw [← e] at lt
      exact absurd lt (Nat.not_lt.mpr hf)
    · exact I.nofs hf e
  refine PySem.W.kla_eval hdef ?_
  cases hc : codeAmong pos ps.toList with
  | some cv =>
    obtain ⟨c', q1, rfl, hco, hq⟩ := ha pos cv hc
    exact PySem.W.kla_makeFunctionHit (mg := X.mg) (c := c) (P := P) (ps := ps) (closure_ok hfree) I.ok.glob (I.mod.glob.keeps I.bk) hcode (TB.code.keeps I.bk) pS ht hc bP fun ctv h' tk hx hsz =>
      h h'.objs.size c' q1 _ ctv H _ (I.kept fun b o e => Heap.get?_push_of_some _ (hx b o e)) (LamX.ExtN.refl H) hT (Heap.get?_push_size _ rfl) (I.hok.fresh hsz) (noF hsz) hco hq
  | none =>
    refine PySem.W.kla_makeFunction (mg := X.mg) (c := c) (P := P) (ps := ps) (closure_ok hfree) I.ok.glob (I.mod.glob.keeps I.bk) hcode (TB.code.keeps I.bk) pS ht hc TB.gP bP fun c' ctv h' tk hx hge hlt hrec htb => ?_
    obtain ⟨d, oc, vs, t, e2, hoc, hd, hv⟩ := hrec
    cases e2
    have hsz : s.heap.objs.size ≤ h'.objs.size := Nat.le_trans hge (Nat.le_of_lt hlt)
    have nC : H c' = none := I.hok.fresh hge
    obtain ⟨tx, tt⟩ := tabs_add (gpos := pos) hm hu hT hP nC
    have I1 := LamX.inv_table (t' := tk) (h' := h'.push (PySem.W.kla_obj "<lambda>" (X.env.qual ++ "<lambda>") params body scope (cloFrom X.env.cells scope.names []) ((X.mg "__name__").getD .none) c' ctv)) I hP
      (fun b o hb e => Heap.get?_push_of_some _ (hx b o hb e)) (Heap.get?_push_of_some _ htb) hge ⟨oc, vs, t, Heap.get?_push_of_some _ hoc, hd, hv⟩
    refine h h'.objs.size c' (X.env.qual ++ "<lambda>") _ ctv _ _ I1 tx tt (Heap.get?_push_size _ rfl) ?_ (noF hsz) upd_same hu.2
    rw [upd_ne (Nat.ne_of_gt hlt), upd_ne (Nat.ne_of_gt (Nat.lt_of_lt_of_le (Heap.lt_size pS) hsz))]
    exact I.hok.fresh hsz
end
theorem lam_ne (a : Str) : a ++ ("<lambda>" : Str) ≠ "" := fun h => by
  have e : (a ++ ("<lambda>" : Str)).cps.size = 0 := by rw [h]; rfl
  have e2 : (a ++ ("<lambda>" : Str)).cps.size = a.cps.size + 8 := by
    show (a.cps ++ ("<lambda>" : Str).cps).size = _
    rw [Array.size_append]
    rfl
  omega
section
variable {X : Cx}
end
end
end GL
namespace GL
open PySem PySem.Spec PyProof.Rows L2
/-! ### x op= e -/
/-- an operator in place is f -/
structure IpF (X : Cx) (G : Wd) (op : Operator) (f : D → D → Option D) where
  r : R2
  h : ∀ pn xe, OpR (X.tr pn xe) (inplaceOp op) r
  s : SR2 X.K G r f
def sAug (i : Nat) (f : D → D → Option D) (m : Sl → Re) : Sl → So := fun Γ => match Γ[i]? with
  | some (some dx) => if dx.fz = true then (m Γ).so fun d Γ1 => match f dx d with
    | some z => .nx (Γ1.set i (some z))
    | none => .st
    else .st
  | _ => .st
def addI : D → D → Option D
  | .int i, .int j => some (.int (i + j))
  | _, _ => none
section
variable {K : PySem.W.Frag} {G : Wd} {pz : List Nat} {X0 F F' F1 F2 Fv Fw Fl Y Y' : List Addr} {pins : Nat → V} {Γ Γ1 : Sl} {σ : L2.St} {H H' H1 H2 : Hp} {X : Cx} {d d1 di : D} {v w y : V} {W : WX} {Q : VK} {e o i : Expr} {pos tp : Pos} {m mi : Sl → Re} {pl : Sl → Option Place} {f : D → D → Option D} {op : Operator}
def iAdd : IpF X G .Add addI := ⟨_, fun pn xe => iop_add (X := X.tr pn xe), fun da db d e Y H x y Q o1 o2 q => by
  unfold addI at e
  split at e
  · cases e; exact ⟨_, _, o1.int, o2.int, q.val .int⟩
  · cases e⟩
def iSub : IpF X G .Sub subD := ⟨_, fun pn xe => iop_sub (X := X.tr pn xe), fun da db d e Y H x y Q o1 o2 q => by
  unfold subD at e
  split at e
  · cases e; exact ⟨_, _, o1.int, o2.int, q.val .int⟩
  · cases e⟩
theorem gs_aug (i : Nat) {x : Str} {pos' : Pos} (ip : IpF X G op f) (h : GO G pz X e m) (hz : i ∉ pz := by decide) (hN : X.N.Nodup := by decide) (hi : X.N[i]? = some x := by rfl) (hx : Loc X.env.scope x := by first | exact Or.inl rfl | exact Or.inr rfl)
    (hfn : X.fn x = true ∨ X.env.scope.names.lookup x = some .local := by first | exact .inl rfl | exact .inr rfl) : GS G pz X (.AugAssign (.Name x pos') op e pos) (sAug i f m) := fun pn xe W σ H X0 pins F D' Γ tk hp ho q => wS.inv fun pi s I => by
  unfold sAug at q
  cases e1 : Γ[i]? with
  | none => rw [e1] at q; exact q.elim
  | some o =>
  rw [e1] at q
  cases o with
  | none => exact q.elim
  | some dx =>
  have q : SoPost X.K G pz X0 pins F H D' W (if dx.fz = true then (m Γ).so fun d Γ1 => match f dx d with
    | some z => .nx (Γ1.set i (some z))
    | none => .st
    else .st) := q
  by_cases hd : dx.fz = true
  case neg => rw [if_neg hd] at q; exact q.elim
  rw [if_pos hd] at q
  obtain ⟨v, Fv, hv, ov⟩ := ho.var e1
  refine wS.of (ps_aug (X := X.tr pn xe) hN hi hx pe_w (fun pins s σ H x y v u Q I r1 r2 hh => ip.h pn xe pins s σ H x y v u Q I r1 r2 hh) hfn) ⟨v, hv, ?_⟩
  refine h pn xe W σ H X0 pins F _ Γ tk ho (So.bind (P := .st) q fun d Γ1 q1 _ p y H1 F1 s1 ho1 oy qt => ?_)
  cases ef : f dx d with
  | none => simp only [ef] at p; exact p.elim
  | some z =>
    simp only [ef] at p
    have ox : Bw X.K G H1 (X0 ++ F1) v dx := ((ov.rp hd).1.move s1.mv.left).bw
    refine ip.s dx d z ef _ H1 v y _ ox oy (fr_v (Γ := Γ1) (pins := pins) (pz := pz) (σ := σ) ho1 fun v2 H2 F2 Fv2 s2 h2 o2 _ => ?_)
    have hlen : i < Γ1.length := h2.lt I.len hi
    obtain ⟨F3, h3, k3⟩ := h2.put o2 hlen hz
    exact p _ H2 F3 (s1.trans (s2.shrink k3)) h3
end
end GL
namespace GL
open PySem PySem.Spec PyProof.Rows L2 PySem.W
/-! ### sorted(xs), sum(xs), tuple(xs), dict(pairs), max and min of three and four -/
section
variable {X : Cx} {G : Wd} {K : PySem.W.Frag} {Y : List Addr} {H : Hp} {v : V} {d : D} {Q : VK}
end
end GL
namespace GL
open PySem PySem.Spec PyProof.Rows L2 PySem.W
/-- a list of numbers -/
def D.ints : List D → Option (List Int)
  | [] => some []
  | .int i :: l => (D.ints l).map (i :: ·)
  | _ => none
def sumD : List D → Option D
  | [d] => match d.sql with
    | some l => (D.ints l).map fun ns => .int ns.sum
    | none => none
  | _ => none
/-- pairs of a key and a value -/
def D.pair : D → Option (Key × D)
  | .nd _ .tup [k, x] => k.key.map (·, x)
  | _ => none
def D.pairs : List D → Option (List (Key × D))
  | [] => some []
  | d :: l => match d.pair, D.pairs l with
    | some p, some ps => some (p :: ps)
    | _, _ => none
section
variable {X : Cx} {G : Wd} {K : PySem.W.Frag} {Y : List Addr} {H : Hp} {v : V} {d : D} {Q : VK}
theorem Bw.sqs {l : List D} (h : Bw K G H Y v d) (e : d.sql = some l) : ∃ p vs, v = .ref p ∧ SqL K H p vs ∧ Rps K G Y H vs l := by
  unfold D.sql at e
  split at e
  · split at e
    · rename_i hf
      cases e
      obtain ⟨p, vs, F, rfl, h1, _, h3⟩ := h.lst
      exact ⟨p, vs, rfl, .inl (.inl h1), h3 hf⟩
    · cases e
  · cases e
    obtain ⟨p, vs, rfl, h1, h2⟩ := h.scr
    exact ⟨p, vs, rfl, h1, h2⟩
  · cases e
theorem Rps.ints : ∀ {vs : List V} {l : List D} {ns : List Int}, Rps K G Y H vs l → D.ints l = some ns → vs = ns.map V.int
  | _, _, _, .nil, h => by cases h; rfl
  | _, .int i :: l, _, .cons r t, h => by
    cases r
    obtain ⟨ns, e1, e2⟩ := Option.map_eq_some_iff.mp h
    subst e2
    rw [Rps.ints t e1]
    rfl
  | _, .any :: _, _, .cons _ _, h => by cases h
  | _, .non :: _, _, .cons _ _, h => by cases h
  | _, .bl _ :: _, _, .cons _ _, h => by cases h
  | _, .str _ :: _, _, .cons _ _, h => by cases h
  | _, .fn _ :: _, _, .cons _ _, h => by cases h
  | _, .nd _ _ _ :: _, _, .cons _ _, h => by cases h
def cSum (hc : X.calm = true) : CallF X G (.builtin "sum") sumD := ⟨rSum X.K, fun pn xe => cr_sum (X := X.tr pn xe) hc, fun ds d e Y H vs Q lv os q => by
  unfold sumD at e
  split at e
  · obtain ⟨v, rfl, o⟩ := os.one
    split at e
    · rename_i l hl
      obtain ⟨ns, e1, e2⟩ := Option.map_eq_some_iff.mp e
      subst e2
      obtain ⟨p, us, rfl, h1, h2⟩ := o.sqs hl
      have := h2.ints e1
      subst this
      exact ⟨p, ns, rfl, h1, q.val .int⟩
    · cases e
  · cases e⟩
/-- tuple(xs), xs a list -/
def tupL : List D → Option D
  | [d] => match d with
    | .nd false .tup l => some (.nd false .tup l)
    | d => d.sql.map .tup
  | _ => none
def cTuple : CallF X G (.type "tuple") tupL := ⟨_, fun pn xe => (show CallR (X.tr pn xe) (.type "tuple") (fun xs H Q => ∃ p ys, xs = [.ref p] ∧ ((SqL X.K H p ys ∧ ∀ l, H l = none → Q (.ref l) (upd H l (.tup ys))) ∨ (SqT X.K H p ys ∧ Q (.ref p) H))) from call_tuple_of), fun ds d e Y H vs Q lv os q => by
  unfold tupL at e
  split at e
  · obtain ⟨v, rfl, o⟩ := os.one
    split at e
    · cases e
      obtain ⟨p, vs, rfl, h1, h2⟩ := o.tup
      exact ⟨p, vs, rfl, .inr ⟨h1, q.val o.tupR⟩⟩
    · obtain ⟨l, e1, e2⟩ := Option.map_eq_some_iff.mp e
      subst e2
      obtain ⟨p, vs, rfl, h1, h2⟩ := o.sqs e1
      exact ⟨p, vs, rfl, .inl ⟨h1, fun a ha => fr_tup q lv ha h2⟩⟩
  · cases e⟩
/-- the pairs' tuples -/
theorem Rps.pairs : ∀ {vs : List V} {l : List D} {ps : List (Key × D)}, Rps K G Y H vs l → D.pairs l = some ps → ∃ (as : List Addr) (kvs : List (Key × V)), vs = as.map V.ref ∧ Paired (fun p kv => SqT K H p [kV kv.1, kv.2]) as kvs ∧ kvs.map (·.1) = ps.map (·.1) ∧ Rps K G Y H (kvs.map (·.2)) (ps.map (·.2))
  | _, _, _, .nil, h => by cases h; exact ⟨[], [], rfl, .nil, rfl, .nil⟩
  | _, d :: l, _, .cons r t, h => by
    rw [D.pairs] at h
    split at h
    · rename_i p ps hp hps
      cases h
      obtain ⟨as, kvs, e1, e2, e3, e4⟩ := Rps.pairs t hps
      unfold D.pair at hp
      split at hp
      · rename_i o k x
        obtain ⟨kk, ek, e⟩ := Option.map_eq_some_iff.mp hp
        subst e
        obtain ⟨a, us, rfl, h1, h2⟩ := r.bw.tup
        cases h2 with
        | cons r1 h2 => cases h2 with
          | cons r2 h2 =>
            cases h2
            have := r1.key ek
            subst this
            exact ⟨a :: as, (kk, _) :: kvs, by rw [e1]; rfl, .cons h1 e2, by rw [List.map_cons, e3]; rfl, .cons r2 e4⟩
      · cases hp
    · cases h
end
end GL
namespace GL
open PySem PySem.Spec PyProof.Rows L2
/-! ### a dict that stands still may be locked and unlocked -/
def Dct : HO → Prop
  | .dK _ => True
  | .dT _ => True
  | _ => False
theorem Dct.nt {u : HO} (h : Dct u) : NT u := fun _ z => by subst z; exact h
theorem Dct.co {u : HO} (h : Dct u) : ∀ c q, u ≠ LamX.CodeO c q := fun c q z => by subst z; exact h
theorem Dct.mut {u : HO} (h : Dct u) : Mut (some u) := by cases u <;> first | exact h | trivial
theorem Dct.nf {u : HO} (h : Dct u) : ∀ o u', u ≠ .frz o u' := fun _ _ z => by subst z; exact h
theorem frz_nt {a b} : NT (.frz a b) := nt_frz
theorem frz_co {a b} : ∀ c q, HO.frz a b ≠ LamX.CodeO c q := fun _ _ z => by cases z
def SameO (o : HO) (r : Option HO) : Prop := r = some o ∨ ∃ u od, Dct u ∧ ((o = u ∧ r = some (.frz od u)) ∨ (o = .frz od u ∧ r = some u))
theorem SameO.eq {o r} (h : SameO o r) (n1 : ¬ Dct o) (n2 : ∀ od u, Dct u → o ≠ .frz od u) : r = some o := by
  rcases h with h | ⟨u, od, d, ⟨rfl, _⟩ | ⟨e, _⟩⟩
  · exact h
  · exact absurd d n1
  · exact absurd e (n2 od u d)
structure MvL (X : List Addr) (H : Hp) (X' : List Addr) (H' : Hp) : Prop where
  kp : ∀ a o, H a = some o → a ∉ X → NT o → SameO o (H' a)
  fr : ∀ a o, a ∈ X' → H a = some o → NT o → a ∈ X
section
variable {K : PySem.W.Frag} {G : Wd} {pz : List Nat} {X0 X X' F F' F1 Fv Y : List Addr} {pins : Nat → V} {Γ : Sl} {σ : L2.St} {H H' H1 H2 : Hp} {v : V} {d : D}
theorem MvL.ne (m : MvL X H X' H') {a o} (h : H a = some o) (ht : NT o) (hx : a ∉ X) : a ∉ X' := fun z => hx (m.fr a o z h ht)
theorem SameO.rd {a : Addr} {u : HO} (hd : Dct u) (h : Rd H a u) (s : ∀ o, H a = some o → SameO o (H' a)) : Rd H' a u := by
  rcases h with h | ⟨o, h⟩
  · rcases s _ h with e | ⟨u', od, d, ⟨e, r⟩ | ⟨e, _⟩⟩
    · exact .inl e
    · subst e; exact .inr ⟨od, r⟩
    · exact absurd e (hd.nf _ _)
  · rcases s _ h with e | ⟨u', od, d, ⟨e, _⟩ | ⟨e, r⟩⟩
    · exact .inr ⟨o, e⟩
    · rw [← e] at d; exact d.elim
    · cases e; exact .inl r
theorem NdF.moveL (m : MvL X H X' H') {a k vs} (h : NdF K G X H a k vs) : NdF K G X' H' a k vs := by
  cases k with
  | lst => exact ⟨m.ne h.2 nt_lst h.1, (m.kp _ _ h.2 h.1 nt_lst).eq id fun _ _ _ z => by cases z⟩
  | tup => exact ⟨m.ne h.2 nt_tup h.1, (m.kp _ _ h.2 h.1 nt_tup).eq id fun _ _ _ z => by cases z⟩
  | ktp => exact h
  | ptu =>
    obtain ⟨hx, o, its, n, h, e⟩ := h
    exact ⟨m.ne h nt_frz hx, o, its, n, (m.kp _ _ h hx nt_frz).eq id fun _ _ d z => by cases z; exact d, e⟩
  | scr =>
    refine h.imp (fun q => ?_) id
    obtain ⟨hx, h | ⟨o, h⟩⟩ := q
    · exact ⟨m.ne h nt_lst hx, .inl ((m.kp _ _ h hx nt_lst).eq id fun _ _ _ z => by cases z)⟩
    · exact ⟨m.ne h nt_frz hx, .inr ⟨o, (m.kp _ _ h hx nt_frz).eq id fun _ _ d z => by cases z; exact d⟩⟩
  | dK ks =>
    obtain ⟨hx, kvs, h, e⟩ := h
    refine ⟨?_, kvs, SameO.rd (u := .dK kvs) trivial h fun o ho => m.kp a o ho hx ?_, e⟩
    · rcases h with h | ⟨o, h⟩
      · exact m.ne h nt_dK hx
      · exact m.ne h nt_frz hx
    · rcases h with h | ⟨o', h⟩ <;> (rw [h] at ho; cases ho)
      · exact nt_dK
      · exact nt_frz
  | dT ks =>
    obtain ⟨hx, kvs, h, e⟩ := h
    refine ⟨?_, kvs, SameO.rd (u := .dT kvs) trivial h fun o ho => m.kp a o ho hx ?_, e⟩
    · rcases h with h | ⟨o, h⟩
      · exact m.ne h nt_dT hx
      · exact m.ne h nt_frz hx
    · rcases h with h | ⟨o', h⟩ <;> (rw [h] at ho; cases ho)
      · exact nt_dT
      · exact nt_frz
  | ins c fs => obtain ⟨hx, dx, fvs, h, e⟩ := h; exact ⟨m.ne h nt_ins hx, dx, fvs, (m.kp _ _ h hx nt_ins).eq id (fun _ _ _ z => (nomatch z)), e⟩
mutual
theorem Rp.moveL (m : MvL X H X' H') : ∀ {v d}, Rp K G X H v d → Rp K G X' H' v d
  | _, _, .any => .any
  | _, _, .non => .non
  | _, _, .bl => .bl
  | _, _, .int => .int
  | _, _, .str => .str
  | _, _, .fn => .fn
  | _, _, .nd h r => .nd (h.moveL m) (Rps.moveL m r)
theorem Rps.moveL (m : MvL X H X' H') : ∀ {vs l}, Rps K G X H vs l → Rps K G X' H' vs l
  | _, _, .nil => .nil
  | _, _, .cons h r => .cons (Rp.moveL m h) (Rps.moveL m r)
end
mutual
theorem Own.moveL (m : MvL X H X' H') : ∀ {v d F}, KeepF F H H' → Own K G X H v d F → Own K G X' H' v d F
  | _, _, _, _, .fz r => .fz (r.moveL m)
  | _, _, _, k, .nd h r => .nd (h.keep k List.mem_cons_self) (Owns.moveL m (fun a o ha => k a o (List.mem_cons_of_mem _ ha)) r)
  | _, _, _, k, .pr h r => .pr (h.moveL m) (Owns.moveL m k r)
theorem Owns.moveL (m : MvL X H X' H') : ∀ {vs l F}, KeepF F H H' → Owns K G X H vs l F → Owns K G X' H' vs l F
  | _, _, _, _, .nil => .nil
  | _, _, _, k, .cons h r => .cons (Own.moveL m (fun a o ha => k a o (List.mem_append_left _ ha)) h) (Owns.moveL m (fun a o ha => k a o (List.mem_append_right _ ha)) r)
end
theorem Slots.moveL (m : MvL X H X' H') (k : KeepF F H H') (h : Slots K G X H σ Γ F) : Slots K G X' H' σ Γ F := by
  induction h with
  | nil => exact .nil
  | no _ ih => exact .no (ih k)
  | yes o _ ih => exact .yes (o.moveL m fun a u ha => k a u (List.mem_append_left _ ha)) (ih fun a u ha => k a u (List.mem_append_right _ ha))
theorem Hold.moveL (h : Hold K G pz X0 pins Γ σ H F) (m : MvL (X0 ++ F) H (X0 ++ F) H') (k : KeepF (X0 ++ F) H H') (tb : GL.Tabs G.T H → GL.Tabs G.T H') : Hold K G pz X0 pins Γ σ H' F :=
  ⟨let ⟨F0, s, p⟩ := h.sl; ⟨F0, s.moveL m (k.sub fun a ha => List.mem_append_right _ (p.mem_iff.mp ha)), p⟩, h.nd, fun a ha => let ⟨o, e, n⟩ := h.in0 a ha; ⟨o, k a o (List.mem_append_left _ ha) e, n⟩, tb h.tb, h.pn⟩

structure LkS where
  d : Addr
  u : HO
  od : Obj
def lkH : Option LkS → Hp → Hp
  | none, H => H
  | some l, H => upd H l.d (.frz l.od l.u)
def unH : Option LkS → Hp → Hp
  | none, H => H
  | some l, H => upd H l.d l.u
/-- it may be locked -/
def LkOk (nf : Addr → Prop) (Y : List Addr) (H : Hp) (lk : Option LkS) : Prop := ∀ l, lk = some l → H l.d = some l.u ∧ Dct l.u ∧ l.d ∉ Y ∧ nf l.d
/-- it is locked -/
def LkIn (nf : Addr → Prop) (Y : List Addr) (H : Hp) (lk : Option LkS) : Prop := ∀ l, lk = some l → H l.d = some (.frz l.od l.u) ∧ Dct l.u ∧ l.d ∉ Y ∧ nf l.d
variable {nf : Addr → Prop} {lk : Option LkS}
theorem LkOk.none {Y H} : LkOk nf Y H none := fun _ z => by cases z
theorem LkOk.in_ (k : LkOk nf Y H lk) : LkIn nf Y (lkH lk H) lk := fun l e => by
  subst e
  obtain ⟨h1, h2, h3, h4⟩ := k l rfl
  exact ⟨upd_same, h2, h3, h4⟩
theorem mvl_lk (k : LkOk nf Y H lk) (X : List Addr) : MvL X H X (lkH lk H) := ⟨fun a o e _ _ => by
    cases lk with
    | none => exact .inl e
    | some l =>
      obtain ⟨h1, h2, h3, h4⟩ := k l rfl
      by_cases ha : a = l.d
      · subst ha
        rw [h1] at e
        cases e
        exact .inr ⟨l.u, l.od, h2, .inl ⟨rfl, upd_same⟩⟩
      · exact .inl ((upd_ne ha).trans e), fun a o h _ _ => h⟩
theorem mvl_un (k : LkIn nf Y H lk) (X : List Addr) : MvL X H X (unH lk H) := ⟨fun a o e _ _ => by
    cases lk with
    | none => exact .inl e
    | some l =>
      obtain ⟨h1, h2, h3, h4⟩ := k l rfl
      by_cases ha : a = l.d
      · subst ha
        rw [h1] at e
        cases e
        exact .inr ⟨l.u, l.od, h2, .inr ⟨rfl, upd_same⟩⟩
      · exact .inl ((upd_ne ha).trans e), fun a o h _ _ => h⟩
theorem keep_lk (k : LkOk nf Y H lk) (h : ∀ a ∈ F, a ∈ Y) : KeepF F H (lkH lk H) := fun a o ha e => by
  cases lk with
  | none => exact e
  | some l =>
    obtain ⟨h1, h2, h3, h4⟩ := k l rfl
    exact (upd_ne fun z => h3 (by rw [← z]; exact h a ha)).trans e
theorem keep_un (k : LkIn nf Y H lk) (h : ∀ a ∈ F, a ∈ Y) : KeepF F H (unH lk H) := fun a o ha e => by
  cases lk with
  | none => exact e
  | some l =>
    obtain ⟨h1, h2, h3, h4⟩ := k l rfl
    exact (upd_ne fun z => h3 (by rw [← z]; exact h a ha)).trans e
theorem tabs_lk (k : LkOk nf Y H lk) (t : GL.Tabs G.T H) : GL.Tabs G.T (lkH lk H) := by
  cases lk with
  | none => exact t
  | some l =>
    obtain ⟨h1, h2, h3, h4⟩ := k l rfl
    exact tabs_upd h1 h2.nt h2.co t
theorem tabs_un (k : LkIn nf Y H lk) (t : GL.Tabs G.T H) : GL.Tabs G.T (unH lk H) := by
  cases lk with
  | none => exact t
  | some l =>
    obtain ⟨h1, h2, h3, h4⟩ := k l rfl
    exact tabs_upd h1 frz_nt frz_co t
theorem relk (k : LkIn nf Y H lk) : lkH lk (unH lk H) = H := by
  cases lk with
  | none => rfl
  | some l =>
    obtain ⟨h1, _⟩ := k l rfl
    funext a
    show upd (upd H l.d l.u) l.d (.frz l.od l.u) a = H a
    by_cases ha : a = l.d
    · subst ha; rw [upd_same, h1]
    · rw [upd_ne ha, upd_ne ha]
theorem LkIn.un (k : LkIn nf Y H lk) : LkOk nf Y (unH lk H) lk := fun l e => by
  subst e
  obtain ⟨h1, h2, h3, h4⟩ := k l rfl
  exact ⟨upd_same, h2, h3, h4⟩
theorem Hold.lock (ho : Hold K G pz X0 pins Γ σ H F) (k : LkOk nf (X0 ++ F) H lk) : Hold K G pz X0 pins Γ σ (lkH lk H) F := ho.moveL (mvl_lk k _) (keep_lk k fun _ h => h) (tabs_lk k)
theorem Hold.unlock (ho : Hold K G pz X0 pins Γ σ H F) (k : LkIn nf (X0 ++ F) H lk) : Hold K G pz X0 pins Γ σ (unH lk H) F := ho.moveL (mvl_un k _) (keep_un k fun _ h => h) (tabs_un k)
theorem Own.unlock (o : Own K G X H v d Fv) (k : LkIn nf Y H lk) (h : ∀ a ∈ Fv, a ∈ Y) : Own K G X (unH lk H) v d Fv := o.moveL (mvl_un k _) (keep_un k h)
/-- what is locked stays locked through a step -/
theorem Step.lkd (s : Step G F H F' H') (k : LkIn nf (X0 ++ F) H lk) : LkIn nf (X0 ++ F') H' lk := fun l e => by
  obtain ⟨h1, h2, h3, h4⟩ := k l e
  have n : l.d ∉ F := fun z => h3 (List.mem_append_right _ z)
  exact ⟨s.mv.kp _ _ h1 n frz_nt, h2, fun z => (List.mem_append.mp z).elim (fun z => h3 (List.mem_append_left _ z)) fun z => n (s.mv.fr _ _ z h1 frz_nt), h4⟩
theorem Step.un (s : Step G F H F' H') (k : LkIn nf (X0 ++ F) H lk) : Step G F (unH lk H) F' (unH lk H') := by
  cases hl : lk with
  | none => exact s
  | some l =>
    subst hl
    have k' := s.lkd k
    obtain ⟨h1, h2, h3, h4⟩ := k l rfl
    obtain ⟨g1, _, g3, _⟩ := k' l rfl
    have n : l.d ∉ F := fun z => h3 (List.mem_append_right _ z)
    refine ⟨⟨fun a o e hx nt => ?_, fun a o ha e nt => ?_⟩, fun t => tabs_un k' (s.tb ?_)⟩
    · by_cases ha : a = l.d
      · subst ha
        have e2 : upd H l.d l.u l.d = some o := e
        rw [upd_same] at e2
        cases e2
        exact upd_same
      · exact (upd_ne ha).trans (s.mv.kp a o ((upd_ne ha).symm.trans e) hx nt)
    · by_cases hd : a = l.d
      · subst hd; exact absurd (List.mem_append_right _ ha) g3
      · exact s.mv.fr a o ha ((upd_ne hd).symm.trans e) nt
    · have := tabs_lk (G := G) k.un t
      rwa [relk k] at this
theorem Qt.un {q : Bool} (h : Qt G F H q H' F') (k : LkIn nf (X0 ++ F) H lk) (s : Step G F H F' H') : Qt G F (unH lk H) q (unH lk H') F' := fun hq => by
  obtain ⟨g, e⟩ := h hq
  refine ⟨⟨fun a o e nt => ?_, (s.un k).tb⟩, e⟩
  cases hl : lk with
  | none => subst hl; exact g.kp a o e nt
  | some l =>
    subst hl
    by_cases ha : a = l.d
    · subst ha
      have e2 : upd H l.d l.u l.d = some o := e
      rw [upd_same] at e2
      cases e2
      exact upd_same
    · exact (upd_ne ha).trans (g.kp a o ((upd_ne ha).symm.trans e) nt)
theorem unlk (k : LkOk nf Y H lk) : unH lk (lkH lk H) = H := by
  cases lk with
  | none => rfl
  | some l =>
    obtain ⟨h1, _⟩ := k l rfl
    funext a
    show upd (upd H l.d (.frz l.od l.u)) l.d l.u a = H a
    by_cases ha : a = l.d
    · subst ha; rw [upd_same, h1]
    · rw [upd_ne ha, upd_ne ha]
/-- P, perhaps behind an unlocking -/
def QU (nf : Addr → Prop) (P : Hp → Prop) (H : Hp) : Prop := P H ∨ ∃ d u od, H d = some (.frz od u) ∧ nf d ∧ P (upd H d u)
theorem LkIn.qu {P : Hp → Prop} (k : LkIn nf Y H lk) (p : P (unH lk H)) : QU nf P H := by
  cases lk with
  | none => exact .inl p
  | some l =>
    obtain ⟨h1, _, _, h4⟩ := k l rfl
    exact .inr ⟨l.d, l.u, l.od, h1, h4, p⟩
end
section
variable {X : Cx} {st : Stmt} {e : Expr} {D : Ends} {σ : L2.St} {H : Hp} {Q : VK} {W : WX} {pins : List (Addr × Obj)} {s : Shared}
def nfX (X : Cx) (d : Addr) : Prop := ∀ o' u', X.H_0 d ≠ some (.frz o' u')
theorem QU.inv {P : Hp → Prop} (I : Inv X pins σ H s) (q : QU (nfX X) P H) : ∃ H', Inv X pins σ H' s ∧ P H' := by
  rcases q with q | ⟨d, u, od, h1, h2, q⟩
  · exact ⟨H, I, q⟩
  · exact ⟨_, I.unlock h1 h2, q⟩
def DU (X : Cx) (D : Ends) : Ends := { nx := fun σ => QU (nfX X) (D.nx σ), rt := fun v => QU (nfX X) (D.rt v), bk := fun σ => QU (nfX X) (D.bk σ), ct := fun σ => QU (nfX X) (D.ct σ) }
theorem wS.un (h : wS X st (DU X D) σ H) : wS X st D σ H := fun pins s I => thn (h pins s I) fun f s1 q => by
  cases f with
  | next => obtain ⟨σ', H', J, q⟩ := q; obtain ⟨H2, J2, q⟩ := q.inv J; exact ⟨σ', H2, J2, q⟩
  | brk => obtain ⟨σ', H', J, q⟩ := q; obtain ⟨H2, J2, q⟩ := q.inv J; exact ⟨σ', H2, J2, q⟩
  | cont => obtain ⟨σ', H', J, q⟩ := q; obtain ⟨H2, J2, q⟩ := q.inv J; exact ⟨σ', H2, J2, q⟩
  | ret u => obtain ⟨v, σ', H', J, r, q⟩ := q; obtain ⟨H2, J2, q⟩ := q.inv J; exact ⟨v, σ', H2, J2, r, q⟩
theorem wE.un (h : wE X e σ H (fun v => QU (nfX X) (Q v))) : wE X e σ H Q := fun pins s I => thn (h pins s I) fun u s1 ⟨v, H', J, r, q⟩ => by
  obtain ⟨H2, J2, q⟩ := q.inv J
  exact ⟨v, H2, J2, r, q⟩
def WU (X : Cx) (W : WX) : WX := fun c d σ => QU (nfX X) (W c d σ)
theorem Takes.un (tk : Takes X W) : Takes X (WU X W) := fun u s' ⟨a, B, sI, pins, σ, H, cls, d, e, I, nb, up, sky, na, os, ag, w⟩ => by
  rcases w with w | ⟨dd, u', od, h1, h2, w⟩
  · exact tk u s' ⟨a, B, sI, pins, σ, H, cls, d, e, I, nb, up, sky, na, os, ag, w⟩
  · exact tk u s' ⟨a, B, sI, pins, σ, upd H dd u', cls, d, e, I.unlock h1 h2, nb, up, sky, by rw [upd_ne (fun z => by rw [z, h1] at na; cases na)]; exact na, os, ag, w⟩
/-- e's value; a dict may be locked -/
theorem pe_lk {t : TE} (h : PE X e t) : PE X e (fun σ H Q => t σ H fun v H1 => Q v H1 ∨ ∃ d u, H1 d = some u ∧ Mut (some u) ∧ (nfX X d → ∀ od, Q v (upd H1 d (.frz od u)))) := ⟨fun pins s σ H Q I q =>
  thn (h.run pins s σ H _ I q) fun u s1 ⟨v, H1, J, r, q⟩ => by
    rcases q with q | ⟨d, w, e1, mu, q⟩
    · exact ⟨v, H1, J, r, q⟩
    · obtain ⟨od, J2⟩ := J.lock e1 mu
      exact ⟨v, _, J2, r, q (J.nofrz e1 mu) od⟩⟩
end
end GL
namespace GL
open PySem PySem.Spec PyProof.Rows L2
/-! ### loops over what may be locked meanwhile -/
def IPostL (X : Cx) (K : PySem.W.Frag) (G : Wd) (pz : List Nat) (X0 : List Addr) (pins : Nat → V) (F : List Addr) (H : Hp) (σ : L2.St) (R : It → Hp → Prop) (ds : List D × Bool) (Γ' : Sl) (q : Bool) : Prop :=
  ∀ J S H' F' lk, Step G F H F' H' → Hold K G pz X0 pins Γ' σ H' F' → LkOk (nfX X) (X0 ++ F') H' lk → StQ ds.2 (lkH lk H') S → S (X0 ++ F') (lkH lk H') → Src K G J S ds.1 → Qt G F H q H' F' → R J (lkH lk H')
def GItL (G : Wd) (pz : List Nat) (X : Cx) (tg it : Expr) (m : Sl → Rg (List D × Bool)) : Prop :=
  ∀ pn xe W σ H X0 pins F R Γ, Takes (X.tr pn xe) W → Hold X.K G pz X0 pins Γ σ H F → RgPost X.K G pz X0 pins F H σ W (IPostL X X.K G pz X0 pins F H σ R) (m Γ) → wI (X.tr pn xe) tg it σ H R
section
variable {K : PySem.W.Frag} {G : Wd} {pz : List Nat} {X0 F F' F1 F2 Fv Fw Fl Y Y' : List Addr} {pins : Nat → V} {Γ Γ1 : Sl} {σ : L2.St} {H H' H1 H2 : Hp} {X : Cx} {d d1 di : D} {v w y : V} {W : WX} {Q : VK} {e o i tg it c : Expr} {pos tp : Pos} {m mi : Sl → Re} {mit : Sl → Rg (List D × Bool)} {t : Tg} {s : Sl → So} {body : List Stmt}
theorem GIt.l (h : GIt G pz X tg it mit) : GItL G pz X tg it mit := fun pn xe W σ H X0 pins F R Γ tk ho q =>
  h pn xe W σ H X0 pins F R Γ tk ho (q.mono fun ds Γ1 q1 _ p J S H' F' st ho' sq s0 src qt => p J S H' F' none st ho' .none sq s0 src qt)
theorem gs_forL (hi : GItL G pz X tg it mit) (ht : GTg G pz X tg t) (hb : GB G pz X body s) (hc : X.calm = true := by rfl) (hs : ∀ pn xe x, foldedSetIterable it (X.tr pn xe).env x = pure x := by intro _ _ _; rfl) : GS G pz X (.For tg it body [] pos) (sFor mit t s) := fun pn xe W σ H X0 pins F D' Γ tk hp ho q =>
  wS.un (X := X.tr pn xe) (wS.of (ps_for (X := X.tr pn xe) hp hc pi_w pg_w pss_w (hs pn xe)) (hi pn xe W σ H X0 pins F _ Γ tk ho (So.bind (P := .st) q fun ds Γ1 q1 _ p J S0 H1 F1 lk stp ho1 lko st s1 src qt => by
    by_cases ho' : ds.2 = true
    · rw [if_pos ho'] at p
      exact p.elim
    rw [if_neg ho'] at p
    have stm : ∀ X H X' H', Mv X H X' H' → S0 X H → S0 X' H' := fun X H X' H' m h => st X H X' H' m (fun z => absurd z ho') h
    generalize ds.1 = xs at p src
    refine ⟨fun i m σ' H' => m = xs.length - i ∧ i ≤ xs.length ∧ ∃ Γ' F', Step G F1 (lkH lk H1) F' H' ∧ Hold X.K G pz X0 pins Γ' σ' H' F' ∧ S0 (X0 ++ F') H' ∧ SoPost X.K G pz X0 pins F' (unH lk H') D' W (forD t s (xs.drop i) Γ'),
      ⟨xs.length, by simp, Nat.zero_le _, Γ1, F1, .refl _ _ _, ho1.lock lko, s1, by rw [List.drop_zero, unlk lko]; exact p.after stp⟩, ?_⟩
    rintro i m σ' H' ⟨rfl, hi, Γ', F', sp, ho', ss, qq⟩
    have lki : LkIn (nfX X) (X0 ++ F') H' lk := sp.lkd lko.in_
    by_cases hlt : i < xs.length
    · obtain ⟨x, hx⟩ : ∃ x, xs[i]? = some x := ⟨_, List.getElem?_eq_getElem hlt⟩
      obtain ⟨go, yl⟩ := src.go _ _ i _ ho'.liveX ss hx
      rw [get_cons hx, forD] at qq
      refine .inr ⟨go, fun σ2 H2 => ∃ Γ2 F2, Step G F1 (lkH lk H1) F2 H2 ∧ Hold X.K G pz X0 pins Γ2 σ2 H2 F2 ∧ S0 (X0 ++ F2) H2 ∧ SoPost X.K G pz X0 pins F2 (unH lk H2) D' W (forD t s (xs.drop (i + 1)) Γ2), fun σ2 H2 ⟨Γ2, F2, a1, a2, a3, a4⟩ => ⟨xs.length - (i + 1), by omega, rfl, hlt, Γ2, F2, a1, a2, a3, a4⟩, fun v H2 y => ?_⟩
      obtain ⟨g2, rv⟩ := yl v H2 y
      have ss2 : S0 (X0 ++ F') H2 := stm _ _ _ _ (g2.mv _) ss
      cases et : t x Γ' with
      | none => rw [et] at qq; exact qq.elim
      | some Γ2 =>
      simp only [et] at qq
      refine ht pn xe σ' H2 X0 pins F' _ v x [] Γ' Γ2 et (ho'.grow g2).nil (Own.fz rv).nil fun σ3 F3 ho3 sub3 => ?_
      have sub3 : ∀ a ∈ F3, a ∈ F' := sub3
      have sp3 : Step G F' H' F3 H2 := (g2.step F').shrink sub3
      have ss3 : S0 (X0 ++ F3) H2 := stm _ _ _ _ (.sub (sub_app sub3)) ss2
      have lk3 : LkIn (nfX X) (X0 ++ F3) H2 lk := sp3.lkd lki
      refine hb pn xe (WU X W) σ3 H2 X0 pins F3 _ Γ2 (Takes.un tk) hp ho3 ?_
      cases e : s Γ2 with
      | nx Γ3 =>
        simp only [e] at qq
        exact fun σ4 H4 F4 sp4 ho4 => ⟨Γ3, F4, (sp.trans sp3).trans sp4, ho4, stm _ _ _ _ sp4.mv.left ss3, qq.after ((sp3.trans sp4).un lki)⟩
      | ct Γ3 =>
        simp only [e] at qq
        exact fun σ4 H4 F4 sp4 ho4 => ⟨Γ3, F4, (sp.trans sp3).trans sp4, ho4, stm _ _ _ _ sp4.mv.left ss3, qq.after ((sp3.trans sp4).un lki)⟩
      | bk Γ3 =>
        simp only [e] at qq
        exact fun σ4 H4 F4 sp4 ho4 => (sp4.lkd lk3).qu (P := D'.nx σ4) (qq σ4 _ F4 ((sp3.trans sp4).un lki) (ho4.unlock (sp4.lkd lk3)))
      | rt r Γ3 =>
        simp only [e] at qq
        intro v σ4 H4 F4 Fv sp4 ho4 o4
        have l4 : LkIn (nfX X) (X0 ++ (Fv ++ F4)) H4 lk := sp4.lkd lk3
        have l5 : LkIn (nfX X) ((X0 ++ Fv) ++ F4) H4 lk := by rw [List.append_assoc]; exact l4
        exact l4.qu (P := D'.rt v) (qq v σ4 _ F4 Fv ((sp3.trans sp4).un lki) (ho4.unlock l5) (o4.unlock l4 fun a ha => List.mem_append_right _ (List.mem_append_left _ ha)))
      | er z Γ3 =>
        simp only [e] at qq
        intro c dd σ4 H4 F4 sp4 ho4 xr
        have l4 : LkIn (nfX X) (X0 ++ F4) H4 lk := sp4.lkd lk3
        refine l4.qu (P := W c dd σ4) (qq c dd σ4 _ F4 ((sp3.trans sp4).un lki) (ho4.unlock l4) ?_)
        obtain ⟨x1, x2⟩ := xr
        refine ⟨x1, ?_⟩
        cases hz : z.row with
        | none => rw [hz] at x2; exact x2
        | some n =>
          rw [hz] at x2
          obtain ⟨a, ea, ha⟩ := x2
          refine ⟨a, ea, ?_⟩
          cases hl : lk with
          | none => subst hl; exact ha
          | some l =>
            subst hl
            obtain ⟨h1, _⟩ := l4 l rfl
            exact (upd_ne fun z => by rw [z, h1] at ha; cases ha).trans ha
      | st => simp only [e] at qq; exact qq
    · have hn : i = xs.length := by omega
      subst hn
      rw [List.drop_length, forD] at qq
      exact .inl ⟨src.stop _ _ ss, lki.qu (P := D'.nx σ') (qq _ _ F' (.refl _ _ _) (ho'.unlock lki))⟩)))
/-! ### dicts as sources -/
def keyD : Key → D
  | .inl i => .int i
  | .inr s => .str s
def D.keyIts : D → Option (List D × Bool)
  | .nd false (.dK ks) _ => if ks.length ≤ sizeLine then some (ks.map keyD, false) else none
  | .nd false (.dT ks) _ => if ks.length ≤ sizeLine then some (ks.map fun k => .tup (k.map keyD), false) else none
  | _ => none
/-- e's value, come to a stand, walked by f -/
def mWalk (f : D → Option (List D × Bool)) (m : Sl → Re) : Sl → Rg (List D × Bool) := fun Γ => (m Γ).bind fun d Γ => .of (f d.cold) Γ
theorem keyD_rp (k : Key) : Rp K G Y H (kV k) (keyD k) := by
  cases k with
  | inl i => exact .int
  | inr s => exact .str
/-- a dict's value is ready to be walked: the dict is locked -/
theorem dict_lock {f : D → Option (List D × Bool)} {R : V → Hp → Prop} {d : D} {ds : List D × Bool} (ho : Hold K G pz (X0 ++ Fv) pins Γ σ H F) (ov : Own K G ((X0 ++ Fv) ++ F) H v d Fv) {k : Kd} {l : List D} (hd : d.cold = .nd false k l) (hk : (∃ ks, k = .dK ks) ∨ ∃ ks, k = .dT ks)
    (q : ∀ a lk u od vs HL, v = .ref a → LkOk (nfX X) (X0 ++ F) H lk → HL = lkH lk H → HL a = some (.frz od u) → Dct u → ObO G u k vs → Rps K G (X0 ++ F) HL vs l → a ∉ X0 ++ F → R v HL) :
    R v H ∨ ∃ a u, H a = some u ∧ Mut (some u) ∧ (nfX X a → ∀ od, R v (upd H a (.frz od u))) := by
  have rp := ho.thaw ov
  rw [hd] at rp
  cases rp with
  | @nd a k' vs l' hn hr =>
    have core : ∀ u, Rd H a u → Dct u → ObO G u k vs → a ∉ X0 ++ F → R (.ref a) H ∨ ∃ a' u, H a' = some u ∧ Mut (some u) ∧ (nfX X a' → ∀ od, R (.ref a) (upd H a' (.frz od u))) := by
      intro u hu hd hob na
      rcases hu with hu | ⟨od, hu⟩
      · refine .inr ⟨a, u, hu, hd.mut, fun nf od => ?_⟩
        have lko : LkOk (nfX X) (X0 ++ F) H (some ⟨a, u, od⟩) := fun l e => by cases e; exact ⟨hu, hd, na, nf⟩
        exact q a (some ⟨a, u, od⟩) u od vs _ rfl lko rfl upd_same hd hob (hr.moveL (mvl_lk lko _)) na
      · exact .inl (q a none u od vs H rfl .none rfl hu hd hob hr na)
    rcases hk with ⟨ks, rfl⟩ | ⟨ks, rfl⟩
    · obtain ⟨na, kvs, hrd, h2, h3⟩ := hn
      exact core (.dK kvs) hrd trivial ⟨kvs, rfl, h2, h3⟩ na
    · obtain ⟨na, kvs, hrd, h2, h3⟩ := hn
      exact core (.dT kvs) hrd trivial ⟨kvs, rfl, h2, h3⟩ na
theorem stq_frz {a : Addr} {od : Obj} {u : HO} {vs : List V} {l : List D} {Hc : Hp} : StQ false Hc (fun Y H => a ∉ Y ∧ H a = some (.frz od u) ∧ Rps K G Y H vs l) := fun Y H Y' H' m _ h => ⟨m.ne h.2.1 nt_frz h.1, m.kp _ _ h.2.1 h.1 nt_frz, h.2.2.move m⟩
theorem zip_get {kvs : List (Key × V)} {ks : List Key} {vs : List V} (h1 : kvs.map (·.1) = ks) (h2 : kvs.map (·.2) = vs) {i : Nat} {k : Key} {x : V} (e : kvs[i]? = some (k, x)) : ks[i]? = some k ∧ vs[i]? = some x := by
  subst h1
  subst h2
  rw [List.getElem?_map, List.getElem?_map, e]
  exact ⟨rfl, rfl⟩
/-- for x in a dict -/
theorem git_keys (he : GE G pz X e m) : GItL G pz X tg e (mWalk D.keyIts m) := fun pn xe W σ H X0 pins F R Γ tk ho q =>
  wI.of (pi_keys (X := X.tr pn xe) (pe_lk (X := X.tr pn xe) pe_w)) (he pn xe W σ H X0 pins F _ Γ tk ho (q.bind fun d Γ1 q1 _ p v H1 F1 Fv s1 ho1 ov qt => by
    cases ek : d.cold.keyIts with
    | none => rw [ek] at p; exact p.elim
    | some ds =>
    rw [ek] at p
    have p : IPostL X X.K G pz X0 pins F H σ R ds Γ1 (q1 && true) := p
    rw [Bool.and_true] at p
    have s1' : Step G F H F1 H1 := s1.shrink fun a ha => List.mem_append_right _ ha
    unfold D.keyIts at ek
    split at ek
    · rename_i ks l hd
      split at ek
      case isFalse => cases ek
      rename_i hz
      cases ek
      refine dict_lock (f := D.keyIts) (ds := (ks.map keyD, false)) (R := fun v H1 => ∃ d o, v = .ref d ∧ ((∃ kvs, H1 d = some (.frz o (.dK kvs)) ∧ R (Itk d o kvs) H1) ∨ ∃ kvs, H1 d = some (.frz o (.dT kvs)) ∧ R (Itkt d o kvs) H1)) ho1 ov hd (.inl ⟨_, rfl⟩) fun a lk u od vs HL ev lko eH hf hdc hob hr na => ?_
      obtain ⟨kvs, rfl, h2, h3⟩ := hob
      subst eH
      refine ⟨a, od, ev, .inl ⟨kvs, hf, p _ (fun Y H => a ∉ Y ∧ H a = some (.frz od (.dK kvs)) ∧ Rps X.K G Y H vs l) H1 F1 lk s1' ho1.drop lko stq_frz ⟨na, hf, hr⟩ ⟨fun Y H i d _ hs hi => ?_, fun Y H hs => ⟨hs.2.1, ?_⟩, by rw [List.length_map]; exact hz⟩ qt⟩⟩
      · have hi : (ks.map keyD)[i]? = some d := hi
        rw [List.getElem?_map] at hi
        obtain ⟨k, hk, rfl⟩ := Option.map_eq_some_iff.mp hi
        have lt : i < kvs.length := by rw [← List.length_map (f := (·.1)), h2]; exact (List.getElem?_eq_some_iff.mp hk).1
        refine ⟨⟨hs.2.1, lt⟩, fun x H' ⟨eh, k', v', e1, e2⟩ => ?_⟩
        subst eh e2
        have := (zip_get h2 h3 e1).1
        rw [hk] at this
        cases this
        exact ⟨.refl _ _, keyD_rp k⟩
      · show kvs.length ≤ (ks.map keyD).length
        rw [List.length_map, ← h2, List.length_map]
        exact Nat.le_refl _
    · rename_i ks l hd
      split at ek
      case isFalse => cases ek
      rename_i hz
      cases ek
      refine dict_lock (f := D.keyIts) (ds := (ks.map fun k => .tup (k.map keyD), false)) (R := fun v H1 => ∃ d o, v = .ref d ∧ ((∃ kvs, H1 d = some (.frz o (.dK kvs)) ∧ R (Itk d o kvs) H1) ∨ ∃ kvs, H1 d = some (.frz o (.dT kvs)) ∧ R (Itkt d o kvs) H1)) ho1 ov hd (.inr ⟨_, rfl⟩) fun a lk u od vs HL ev lko eH hf hdc hob hr na => ?_
      obtain ⟨kvs, rfl, h2, h3⟩ := hob
      subst eH
      refine ⟨a, od, ev, .inr ⟨kvs, hf, p _ (fun Y H => a ∉ Y ∧ H a = some (.frz od (.dT kvs)) ∧ Rps X.K G Y H vs l) H1 F1 lk s1' ho1.drop lko stq_frz ⟨na, hf, hr⟩ ⟨fun Y H i d lv hs hi => ?_, fun Y H hs => ⟨hs.2.1, ?_⟩, by rw [List.length_map]; exact hz⟩ qt⟩⟩
      · have hi : (ks.map fun k => D.tup (k.map keyD))[i]? = some d := hi
        rw [List.getElem?_map] at hi
        obtain ⟨k, hk, rfl⟩ := Option.map_eq_some_iff.mp hi
        have lt : i < kvs.length := by rw [← List.length_map (f := (·.1)), h2]; exact (List.getElem?_eq_some_iff.mp hk).1
        refine ⟨⟨hs.2.1, lt⟩, fun x H' ⟨eh, k', v', q, e1, e2, e3⟩ => ?_⟩
        subst eh e2
        have e4 : ks[i]? = some k' := by rw [← h2, List.getElem?_map, e1]; rfl
        rw [hk] at e4
        cases e4
        refine ⟨.refl _ _, .nd ⟨fun z => ?_, e3⟩ ?_⟩
        · obtain ⟨o, eo, n⟩ := lv q z
          rw [e3] at eo
          cases eo
          exact n.2 _ rfl
        · have : ∀ k : List Key, Rps X.K G Y H' (k.map kV) (k.map keyD) := by
            intro k
            induction k with
            | nil => exact .nil
            | cons a k ih => exact .cons (keyD_rp a) ih
          exact this k
      · show kvs.length ≤ (ks.map _).length
        rw [List.length_map, ← h2, List.length_map]
        exact Nat.le_refl _
    · cases ek))
end
end GL
namespace GL
open PySem PySem.Spec PyProof.Rows L2
/-! ### zip, enumerate, range with a step, a text, as sources -/
def D.signs : D → Option (List D × Bool)
  | .str z => if z.length ≤ sizeLine then some (z.cps.toList.map fun c => .str ⟨#[c]⟩, false) else none
  | _ => none
/-! ### enumerate(tuple) -/
section
variable {prog : Program} {w : World} {A : Around} {E : Value → Shared → Prop} {s : Shared}
end
section
variable {K : PySem.W.Frag} {G : Wd} {pz : List Nat} {X0 F F' F1 F2 Fv Fw Fl Y Y' : List Addr} {pins : Nat → V} {Γ Γ1 : Sl} {σ : L2.St} {H H' H1 H2 : Hp} {X : Cx} {d d1 di : D} {v w y : V} {W : WX} {Q : VK} {e e2 a b c o i tg it : Expr} {es : List Expr} {p pos tp tpos : Pos} {m mi : Sl → Re} {ms : Sl → Rg (List D)} {l : List D} {ow : Bool}
theorem StQ.and {o o' : Bool} {S S' : List Addr → Hp → Prop} (h : StQ o H S) (h' : StQ o' H S') : StQ (o || o') H (fun Y H => S Y H ∧ S' Y H) := fun Y H1 Y' H2 m g s =>
  ⟨h Y H1 Y' H2 m (fun z => g (by rw [z, Bool.true_or])) s.1, h' Y H1 Y' H2 m (fun z => g (by rw [z, Bool.or_true])) s.2⟩
/-- for c in a text -/
theorem git_str (he : GO G pz X e m) : GIt G pz X tg e (fun Γ => (m Γ).bind fun d Γ => .of d.signs Γ) := fun pn xe W σ H X0 pins F R Γ tk ho q =>
  wI.of (pi_str (X := X.tr pn xe) pe_w) (he pn xe W σ H X0 pins F _ Γ tk ho (q.bind fun d Γ1 q1 e0 p v H' F' s ho' ov qt => by
    clear e0
    cases ek : d.signs with
    | none => rw [ek] at p; exact p.elim
    | some ds =>
    rw [ek] at p
    unfold D.signs at ek
    split at ek
    case h_2 => cases ek
    rename_i z
    split at ek
    case isFalse => cases ek
    rename_i hz
    cases ek
    have p : IPost X.K G pz X0 pins F H σ R (z.cps.toList.map fun c => .str ⟨#[c]⟩, false) Γ1 (q1 && true) := p
    rw [Bool.and_true] at p
    refine ⟨z, ov.str, p _ (fun _ _ => True) H' F' s ho' (fun _ _ _ _ _ _ _ => trivial) trivial ⟨fun Y H k d lv _ hi => ?_, fun Y H _ => ?_, ?_⟩ qt⟩
    · have hi : (z.cps.toList.map fun c => D.str ⟨#[c]⟩)[k]? = some d := hi
      rw [List.getElem?_map] at hi
      obtain ⟨c, hk, rfl⟩ := Option.map_eq_some_iff.mp hi
      have hk' : z.cps[k]? = some c := by rw [← Array.getElem?_toList]; exact hk
      obtain ⟨lt, _⟩ := Array.getElem?_eq_some_iff.mp hk'
      exact ⟨lt, fun x H' ⟨e1, c', e2, e3⟩ => by
        rw [hk'] at e2
        cases e2
        subst e1 e3
        exact ⟨.refl _ _, .str⟩⟩
    · show z.cps.size ≤ (z.cps.toList.map _).length
      rw [List.length_map, Array.length_toList]
      exact Nat.le_refl _
    · show (z.cps.toList.map _).length ≤ sizeLine
      rw [List.length_map, Array.length_toList]
      exact hz))
end
end GL
namespace GL
open PySem PySem.Spec PyProof.Rows L2
section
variable {K : PySem.W.Frag} {G : Wd} {pz : List Nat} {X0 F F' F1 F2 Fv Fw Fl Y Y' A : List Addr} {pins : Nat → V} {Γ Γ1 : Sl} {σ σ' : L2.St} {H H' H1 H2 : Hp} {X : Cx} {d d1 di : D} {ds : List D} {v w y : V} {W : WX} {Q : VK} {e o i c tg it a b elt : Expr} {ifs tgs : List Expr} {p pos apos : Pos} {m me : Sl → Re} {mt mc : Sl → Rg Bool} {mi : Sl → Rg (List D × Bool)} {t : Tg} {ts : List Tg} {vs : List Nat} {x : Str} {Da : Addr} {us us' : List V}
/-- [elt for tg in it if ..] -/
theorem lc_runL {scope : Scope} {own : List (Str × Nat)} {mu : Bool} (hi : GItL G pz X tg it mi)
    (hb : ∀ (s : Shared) (H : Hp) (C : Addr) (cl : List (Str × Addr)) (fp : List Addr), GTgV G pz (BX X s H scope C cl fp) tg (own.map (·.2)) t ∧ GTs G pz (BX X s H scope C cl fp) ifs mc ∧ GE G pz (BX X s H scope C cl fp) elt me)
    (hpz : ∀ i ∈ own.map (·.2), i ∉ pz) (pn : List (Addr × Obj)) (xe : Value → Shared → Prop) (tk : Takes (X.tr pn xe) W) (ho : Hold X.K G pz X0 pins Γ σ H F)
    (q : RgPost X.K G pz X0 pins F H σ W (VPost X.K G pz X0 pins F H σ Q) (mLc (own.map (·.2)) mi (turnD t mc me mu) Γ)) : lcT X it tg elt ifs scope (own.map (·.2)) pn xe σ H (fun v => QU (nfX X) (Q v)) := by
  generalize own.map (·.2) = vs at *
  refine hi pn xe W σ H X0 pins F _ Γ tk ho (q.bind fun xs Γ1 q1 _ p1 J S0 H0u F1 lk st1 ho1u lko1 stq s0 src qt1 D hD => ?_)
  have ho1 := ho1u.lock lko1
  have eU : unH lk (lkH lk H0u) = H0u := unlk lko1
  have lki1 : LkIn (nfX X) (X0 ++ F1) (lkH lk H0u) lk := lko1.in_
  generalize lkH lk H0u = H1 at *
  obtain ⟨F2, hoA, subA⟩ := ho1.wipeG vs
  have lki : LkIn (nfX X) (X0 ++ F2) H1 lk := fun l e => let ⟨a1, a2, a3, a4⟩ := lki1 l e; ⟨a1, a2, fun z => a3 (sub_app subA _ z), a4⟩
  have hoB := hoA.wipe (off_wipeG Γ1 vs) hpz
  have stA : Step G F H F2 H0u := st1.shrink subA
  have p : RgPost X.K G pz X0 pins F2 H0u σ W (VPost X.K G pz X0 pins F2 H0u σ Q) ((lcD vs xs.2 (turnD t mc me mu) xs.1 [] (wipeG Γ1 vs)).bind fun acc Γ2 => .ok (.nd true .lst acc) Γ2 true) := p1.vaft stA fun h => ⟨(qt1 h).1, fun a ha => (qt1 h).2 a (subA a ha)⟩
  have s0A : S0 (X0 ++ F2) H1 := stq _ _ _ _ (.sub (sub_app subA)) (fun _ _ _ _ h _ => h) s0
  generalize xs.1 = zs at *
  generalize xs.2 = ow at *
  have DX : D ∉ X0 ++ F2 := fun z => by
    obtain ⟨u, hu, _⟩ := hoA.liveX D z
    rw [hD] at hu
    cases hu
  have g0 : Grow G H1 (upd H1 D (.lst [])) := .new hD
  have hold0 : Hold X.K G pz (X0 ++ [D]) pins (wipeG Γ1 vs) (wipe σ vs) (upd H1 D (.lst [])) F2 := hoB.fresh g0 (fun a ha o e => by
    rw [List.mem_singleton.mp ha, hD] at e
    cases e) (by simp) fun a ha => by
    rw [List.mem_singleton.mp ha]
    exact ⟨_, upd_same, nt_lst, fun l z => by cases z⟩
  have mvD : Mv (X0 ++ F2) H1 ((X0 ++ [D]) ++ F2) (upd H1 D (.lst [])) := ⟨fun a o e _ n => g0.kp a o e n, fun a o ha e n => by
    simp only [List.mem_append, List.mem_singleton] at ha ⊢
    rcases ha with (h | h) | h
    · exact .inl h
    · rw [h, hD] at e
      cases e
    · exact .inr h⟩
  refine ⟨fun i k H2 => k = zs.length - i ∧ i ≤ zs.length ∧ ∃ Γ' F' acc us Fa qa, Step G F2 H1 ((D :: Fa) ++ F') H2 ∧ Hold X.K G pz (X0 ++ (D :: Fa)) pins Γ' (wipe σ vs) H2 F' ∧ S0 ((X0 ++ (D :: Fa)) ++ F') H2 ∧ H2 D = some (.lst us) ∧ Owns X.K G ((X0 ++ (D :: Fa)) ++ F') H2 us acc Fa ∧ acc.length ≤ i ∧ offV Γ' vs ∧ Qt G F2 H1 qa H2 F' ∧
      lcD vs ow (turnD t mc me mu) zs [] (wipeG Γ1 vs) = (lcD vs ow (turnD t mc me mu) (zs.drop i) acc Γ').andq qa,
    ⟨zs.length, by simp, Nat.zero_le _, wipeG Γ1 vs, F2, [], [], [], true, ⟨⟨fun a o e hx n => g0.kp a o e n, fun a o ha e n => by
      rcases List.mem_append.mp ha with z | z
      · rw [List.mem_singleton.mp z, hD] at e
        cases e
      · exact z⟩, g0.tb⟩, hold0, stq _ _ _ _ mvD (fun _ a u _ h n => g0.kp a u h n) s0A, upd_same, .nil, Nat.le_refl _, off_wipeG _ _, fun _ => ⟨g0, fun _ h => h⟩, by rw [List.drop_zero, Rg.andq_true]⟩, ?_⟩
  rintro i k H2 ⟨rfl, hi', Γ', F', acc, us, Fa, qa, sp, ho2, ss, hacc, os, al, off', qta, eqn⟩
  by_cases hlt : i < zs.length
  · obtain ⟨x, hx⟩ : ∃ x, zs[i]? = some x := ⟨_, List.getElem?_eq_getElem hlt⟩
    obtain ⟨go, yl⟩ := src.go _ _ i _ ho2.liveX ss hx
    rw [get_cons hx, lcD] at eqn
    cases er : turnD t mc me mu x Γ' with
    | er => rw [er] at eqn; rw [eqn] at p; exact p.elim
    | st => rw [er] at eqn; rw [eqn] at p; exact p.elim
    | ok oy Γ4 q4 =>
    rw [er] at eqn
    by_cases how : (!ow || q4) = true
    case neg =>
      simp only [if_neg how] at eqn
      rw [eqn] at p
      exact p.elim
    simp only [if_pos how, andq_andq] at eqn
    -- what the turn is made of
    unfold turnD at er
    cases et : t x Γ' with
    | none => rw [et] at er; cases er
    | some Γ2 =>
    simp only [et] at er
    obtain ⟨bv, Γ3, q3, q5, emc, er, eq4⟩ := bind_ok er
    refine .inr ⟨go, fun H3 => ∃ Γ' F' acc us Fa qa, Step G F2 H1 ((D :: Fa) ++ F') H3 ∧ Hold X.K G pz (X0 ++ (D :: Fa)) pins Γ' (wipe σ vs) H3 F' ∧ S0 ((X0 ++ (D :: Fa)) ++ F') H3 ∧ H3 D = some (.lst us) ∧ Owns X.K G ((X0 ++ (D :: Fa)) ++ F') H3 us acc Fa ∧ acc.length ≤ i + 1 ∧ offV Γ' vs ∧ Qt G F2 H1 qa H3 F' ∧
        lcD vs ow (turnD t mc me mu) zs [] (wipeG Γ1 vs) = (lcD vs ow (turnD t mc me mu) (zs.drop (i + 1)) acc Γ').andq qa,
      fun H3 hh => ⟨zs.length - (i + 1), by omega, rfl, hlt, hh⟩, fun v H3 y s H0 C cl fp => ?_⟩
    obtain ⟨g3, rv⟩ := yl v H3 y
    have ho3 := ho2.grow g3
    refine (hb s H0 C cl fp).1 [] (fun _ _ => False) _ H3 (X0 ++ (D :: Fa)) pins F' _ v x Γ' Γ2 et ho3 rv fun σ4 F4 hww ho4 s4 => ⟨hww.trans (wipe_wipe σ _), fun s' H0' C' cl' fp' => ?_⟩
    refine (hb s' H0' C' cl' fp').2.1 [] (fun _ _ => False) (fun _ _ _ _ => False) σ4 H3 (X0 ++ (D :: Fa)) pins F4 _ Γ2 L2.takes0 ho4 ?_
    rw [emc]
    intro H5 F5 st5 ho5 qt5
    have st35 : Step G F' H2 F5 H5 := ((g3.step F').shrink s4).trans st5
    have qt35 : Qt G F' H2 q3 H5 F5 := fun h => ⟨g3.trans (qt5 h).1, fun a ha => s4 a ((qt5 h).2 a ha)⟩
    have hw5 : wipe σ4 vs = wipe σ vs := hww.trans (wipe_wipe σ _)
    have ndF : ∀ {Γ σ' H F}, Hold X.K G pz (X0 ++ (D :: Fa)) pins Γ σ' H F → D ∉ F := fun hh z => by
      have nd := hh.nd
      rw [List.nodup_append] at nd
      exact nd.2.2 D (by simp) D z rfl
    have keepA : ∀ {F6 H6}, Step G F' H2 F6 H6 → ∀ a ∈ X0 ++ (D :: Fa), ∀ u, H2 a = some u → H6 a = some u := fun {F6 H6} st a ha u hu => by
      obtain ⟨w, hw, n⟩ := ho2.in0 a ha
      have : u = w := Option.some.inj (hu.symm.trans hw)
      subst this
      refine st.mv.kp a u hu (fun z => ?_) n.1
      have nd := ho2.nd
      rw [List.nodup_append] at nd
      exact nd.2.2 a ha a z rfl
    cases bv with
    | false =>
      rw [if_neg Bool.false_ne_true] at er
      cases er
      rw [Bool.and_true] at eq4
      subst eq4
      obtain ⟨F6, h6, s6⟩ := ho5.wipeG vs
      have h7 := h6.wipe (off_wipeG Γ4 vs) hpz
      rw [hw5] at h7
      have st36 : Step G F' H2 F6 H5 := st35.shrink s6
      have qt36 : Qt G F' H2 q4 H5 F6 := fun h => ⟨(qt35 h).1, fun a ha => (qt35 h).2 a (s6 a ha)⟩
      have mv36 : Mv ((X0 ++ (D :: Fa)) ++ F') H2 ((X0 ++ (D :: Fa)) ++ F6) H5 := st36.mv.left
      refine ⟨wipeG Γ4 vs, F6, acc, us, Fa, qa && q4, sp.trans (st36.frame _), h7, stq _ _ _ _ mv36 (fun h a u _ hu n => ?_) ss, keepA st36 D (by simp) _ hacc, os.move mv36 fun a u ha hu => keepA st36 a (by simp [ha]) u hu, by omega, off_wipeG _ _, qta.trans qt36, ?_⟩
      · rw [h, Bool.not_true, Bool.false_or] at how
        exact (qt36 how).1.kp a u hu n
      · rw [eqn]
        show (lcD _ _ _ _ (acc ++ []) _).andq _ = _
        rw [List.append_nil]
    | true =>
      rw [if_pos rfl] at er
      obtain ⟨y0, Γ5, q6, q7, eme, er, eq5⟩ := bind_ok er
      cases er
      rw [Bool.and_true] at eq5
      subst eq5
      subst eq4
      intro s5 H05 C5 cl5 fp5
      refine (hb s5 H05 C5 cl5 fp5).2.2 [] (fun _ _ => False) (fun _ _ _ _ => False) σ4 H5 (X0 ++ (D :: Fa)) pins F5 _ Γ3 L2.takes0 ho5 ?_
      rw [eme]
      intro w H6 F6 Fv st6 ho6 ow6 qt6
      obtain ⟨Fw, ho7, ow7, sw⟩ := ho6.kept ow6 mu
      have st6' : Step G F5 H5 (Fw ++ F6) H6 := st6.shrink fun a ha => (List.mem_append.mp ha).elim (fun z => List.mem_append_left _ (sw a z)) (List.mem_append_right _)
      have st26 : Step G F' H2 (Fw ++ F6) H6 := st35.trans st6'
      have qt26 : Qt G F' H2 (q3 && q5) H6 F6 := qt35.trans qt6
      have hacc6 : H6 D = some (.lst us) := keepA st26 D (by simp) _ hacc
      obtain ⟨F7, h8, s8⟩ := ho7.wipeG vs
      have h9 := h8.wipe (off_wipeG Γ4 vs) hpz
      rw [hw5] at h9
      have lz : us.length < sizeLine := by
        have h3 := src.len
        have := os.length
        omega
      have eA : (X0 ++ (D :: Fa)) ++ Fw = X0 ++ (D :: (Fa ++ Fw)) := by simp only [List.append_assoc, List.cons_append]
      rw [eA] at h9
      have h10 := h9.updX (us' := us ++ [w]) hacc6 (by simp)
      -- the whole step
      have stT : Step G ((D :: Fa) ++ F') H2 ((D :: (Fa ++ Fw)) ++ F7) (upd H6 D (.lst (us ++ [w]))) := by
        have a1 := st26.frame (D :: Fa)
        have a2 : Step G ((D :: Fa) ++ (Fw ++ F6)) H6 ((D :: Fa) ++ (Fw ++ F6)) (upd H6 D (.lst (us ++ [w]))) := upd_step hacc6 (by simp)
        refine (a1.trans a2).shrink fun a ha => ?_
        simp only [List.mem_append, List.mem_cons] at ha ⊢
        rcases ha with (h | h | h) | h
        · exact .inl (.inl h)
        · exact .inl (.inr h)
        · exact .inr (.inl h)
        · exact .inr (.inr (s8 a h))
      have mvT : Mv ((X0 ++ (D :: Fa)) ++ F') H2 ((X0 ++ (D :: (Fa ++ Fw))) ++ F7) (upd H6 D (.lst (us ++ [w]))) := by
        have := stT.mv.left (X0 := X0)
        simpa only [List.append_assoc] using this
      have notD : ∀ a, a ∈ Fa ∨ a ∈ Fw → a ≠ D := fun a ha z => by
        subst z
        have nd := h10.nd
        rw [List.append_assoc, List.nodup_append] at nd
        have nd := nd.2.1
        rw [List.cons_append] at nd
        refine (List.nodup_cons.mp nd).1 ?_
        simp only [List.mem_append]
        exact .inl ha
      refine ⟨us, hacc6, lz, wipeG Γ4 vs, F7, acc ++ [keepD mu y0], us ++ [w], Fa ++ Fw, qa && (q3 && q5), sp.trans stT, h10, ?_, upd_same, ?_, by rw [List.length_append]; show acc.length + 1 ≤ i + 1; omega, off_wipeG _ _, ?_, ?_⟩
      · refine stq _ _ _ _ mvT (fun h a u hc hu n => ?_) ss
        rw [h, Bool.not_true, Bool.false_or] at how
        rw [upd_ne (fun z => hc (by rw [z]; exact hD))]
        exact (qt26 how).1.kp a u hu n
      · have o1 : Owns X.K G ((X0 ++ (D :: (Fa ++ Fw))) ++ F7) (upd H6 D (.lst (us ++ [w]))) us acc Fa := os.move mvT fun a u ha hu => by
          rw [upd_ne (notD a (.inl ha))]
          exact keepA st26 a (by simp [ha]) u hu
        have o2 : Own X.K G ((X0 ++ (D :: (Fa ++ Fw))) ++ F7) (upd H6 D (.lst (us ++ [w]))) w (keepD mu y0) Fw := ow7.move ⟨fun a u hu hx _ => by
            rw [upd_ne (fun z => hx (by rw [z]; simp))]
            exact hu, fun a u ha _ _ => by
            rw [← eA] at ha
            exact (List.mem_append.mp ha).elim (List.mem_append_left _) fun z => List.mem_append_right _ (s8 a z)⟩ fun a u ha hu => by
          rw [upd_ne (notD a (.inr ha))]
          exact hu
        have := o1.append (.cons o2 .nil)
        rwa [List.append_nil] at this
      · intro h
        rw [Bool.and_eq_true] at h
        have ga := qta h.1
        have gb := qt26 h.2
        refine ⟨⟨fun a u hu n => ?_, fun tb => (sp.trans stT).tb tb⟩, fun a ha => ga.2 a (gb.2 a (s8 a ha))⟩
        rw [upd_ne (fun z => by rw [z, hD] at hu; cases hu)]
        exact gb.1.kp a u (ga.1.kp a u hu n) n
      · rw [eqn]
        rfl
  · have hn : i = zs.length := by omega
    subst hn
    rw [List.drop_length, lcD] at eqn
    rw [eqn] at p
    refine .inl ⟨src.stop _ _ ss, ?_⟩
    have p : VPost X.K G pz X0 pins F2 H0u σ Q (.nd true .lst acc) Γ' ((qa && true) && true) := p
    rw [Bool.and_true, Bool.and_true] at p
    have l4 : LkIn (nfX X) (X0 ++ ((D :: Fa) ++ F')) H2 lk := sp.lkd lki
    have l5 : LkIn (nfX X) ((X0 ++ (D :: Fa)) ++ F') H2 lk := by rw [List.append_assoc]; exact l4
    have sU := sp.un lki
    rw [eU] at sU
    have qU : Qt G F2 H0u qa (unH lk H2) F' := by
      have h := qta
      intro hq
      obtain ⟨g, e⟩ := h hq
      refine ⟨⟨fun a o e nt => ?_, sU.tb⟩, e⟩
      rw [← eU] at e
      cases hl : lk with
      | none => subst hl; exact g.kp a o e nt
      | some l =>
        subst hl
        by_cases ha : a = l.d
        · subst ha
          have e2 : upd H1 l.d l.u l.d = some o := e
          rw [upd_same] at e2
          cases e2
          exact upd_same
        · exact (upd_ne ha).trans (g.kp a o ((upd_ne ha).symm.trans e) nt)
    have oD : Own X.K G ((X0 ++ (D :: Fa)) ++ F') H2 (.ref D) (.nd true .lst acc) (D :: Fa) := .nd ⟨_, hacc, rfl⟩ os
    exact l4.qu (P := Q (.ref D)) (p (.ref D) _ F' (D :: Fa) sU ((ho2.unwipe off' hpz).unlock l5) (oD.unlock l4 fun a ha => List.mem_append_right _ (List.mem_append_left _ ha)) qU)
end
section
variable {G : Wd} {pz : List Nat} {X : Cx} {e o i c tg it a b elt : Expr} {ifs tgs : List Expr} {p pos apos spos py : Pos} {m me : Sl → Re} {mt mc : Sl → Rg Bool} {mi : Sl → Rg (List D × Bool)} {t : Tg} {y : Str} {scope : Scope} {own : List (Str × Nat)} {mu : Bool}
/-- [elt for tg in it if ..] -/
theorem ge_lcL (own : List (Str × Nat)) (mu : Bool) (hi : GItL G pz X tg it mi)
    (hb : ∀ (s : Shared) (H : Hp) (C : Addr) (cl : List (Str × Addr)) (fp : List Addr), GTgV G pz (BX X s H scope C cl fp) tg (own.map (·.2)) t ∧ GTs G pz (BX X s H scope C cl fp) ifs mc ∧ GE G pz (BX X s H scope C cl fp) elt me)
    (ok : BlkOk X.N X.env.scope scope own) (hN : X.N.Nodup := by decide) (hpz : ∀ i ∈ own.map (·.2), i ∉ pz := by decide) (hc : X.calm = true := by rfl) (hs : ∀ pn xe x, foldedSetIterable it (X.tr pn xe).env x = pure x := by intro _ _ _; rfl) :
    GE G pz X (.ListComp elt [⟨tg, it, ifs, 0⟩] scope pos) (mLc (own.map (·.2)) mi (turnD t mc me mu)) := fun pn xe W σ H X0 pins F Q Γ tk ho q =>
  wE.un (X := X.tr pn xe) (wE.of (pe_lc (X := X.tr pn xe) (own := own) (g := (fun v σ H Q => ∀ s H0 C cl fp, wG (BX X s H0 scope C cl fp) tg v σ H Q)) (tt := (fun σ H Q => ∀ s H0 C cl fp, wTs (BX X s H0 scope C cl fp) ifs σ H Q)) (te := (fun σ H Q => ∀ s H0 C cl fp, wE (BX X s H0 scope C cl fp) elt σ H Q)) hc hN pi_w ok
    (fun s H0 C cl fp => ⟨fun pins s' σ H v u Q I r h => (pg_w (X := BX X s H0 scope C cl fp)).run pins s' σ H v u Q I r (h s H0 C cl fp)⟩)
    (fun s H0 C cl fp => ⟨fun pins s' σ H Q I h => (pts_w (X := BX X s H0 scope C cl fp)).run pins s' σ H Q I (h s H0 C cl fp)⟩)
    (fun s H0 C cl fp => ⟨fun pins s' σ H Q I h => (pe_w (X := BX X s H0 scope C cl fp)).run pins s' σ H Q I (h s H0 C cl fp)⟩) (hs pn xe)) (lc_runL (own := own) hi hb hpz pn xe tk ho q))
end
end GL
namespace GL
open PySem PySem.Spec PyProof.Rows L2
/-! ### a loop that takes its items out of a new list -/
def sForMv (m : Sl → Re) (t : Tg) (s : Sl → So) : Sl → So := fun Γ => (m Γ).so fun d Γ1 => match d with
  | .nd true .lst l => if l.length ≤ sizeLine then forD t s l Γ1 else .st
  | _ => .st
section
variable {K : PySem.W.Frag} {G : Wd} {pz : List Nat} {X0 F F' F1 F2 Fv Fw Fl Y Y' A : List Addr} {pins : Nat → V} {Γ Γ1 : Sl} {σ : L2.St} {H H' H1 H2 : Hp} {X : Cx} {d d1 di : D} {v w y : V} {W : WX} {Q : VK} {e tg it : Expr} {pos : Pos} {m : Sl → Re} {t : Tg} {s : Sl → So} {body : List Stmt} {vs : List V} {l : List D}
theorem Owns.aside (o : Owns K G ((X0 ++ A) ++ F1) H1 vs l Fl) (hs : ∀ a ∈ Fl, a ∈ X0 ++ A) (ho : Hold K G pz (X0 ++ A) pins Γ σ H1 F1) (s : Step G F1 H1 F2 H2) : Owns K G ((X0 ++ A) ++ F2) H2 vs l Fl := o.move s.mv.left fun a u ha e => by
  obtain ⟨w, e1, n⟩ := o.live a ha
  have : u = w := Option.some.inj (e.symm.trans e1)
  subst this
  refine s.mv.kp a u e (fun z => ?_) n.1
  have nd := ho.nd
  rw [List.nodup_append] at nd
  exact nd.2.2 a (hs a ha) a z rfl
theorem keepA (ho : Hold K G pz (X0 ++ A) pins Γ σ H1 F1) (s : Step G F1 H1 F2 H2) {a : Addr} (ha : a ∈ A) {u : HO} (hu : H1 a = some u) : H2 a = some u := by
  obtain ⟨w, hw, n⟩ := ho.in0 a (List.mem_append_right _ ha)
  have : u = w := Option.some.inj (hu.symm.trans hw)
  subst this
  refine s.mv.kp a u hu (fun z => ?_) n.1
  have nd := ho.nd
  rw [List.nodup_append] at nd
  exact nd.2.2 a (List.mem_append_right _ ha) a z rfl
theorem Owns.cons' {d : D} {l : List D} {vs : List V} {F : List Addr} (h : Owns K G Y H vs (d :: l) F) : ∃ v vs' F1 F2, vs = v :: vs' ∧ F = F1 ++ F2 ∧ Own K G Y H v d F1 ∧ Owns K G Y H vs' l F2 := by
  cases h with
  | cons h r => exact ⟨_, _, _, _, rfl, rfl, h, r⟩
/-- for x in a new list of owned things -/
theorem gs_forMv (he : GE G pz X e m) (ht : GTg G pz X tg t) (hb : GB G pz X body s) (hc : X.calm = true := by rfl) (hs : ∀ pn xe x, foldedSetIterable e (X.tr pn xe).env x = pure x := by intro _ _ _; rfl) : GS G pz X (.For tg e body [] pos) (sForMv m t s) := fun pn xe W σ H X0 pins F D' Γ tk hp ho q =>
  wS.of (ps_for (X := X.tr pn xe) hp hc (pi_list (X := X.tr pn xe) pe_w) pg_w pss_w (hs pn xe)) (he pn xe W σ H X0 pins F _ Γ tk ho (So.bind (P := .st) q fun d Γ1 q1 e0 p v H1 F1 Fv s1 ho1 ov qt => by
    clear e0
    split at p
    case h_2 => exact p.elim
    rename_i l
    split at p
    case isFalse => exact p.elim
    rename_i hz
    cases ov with
    | fz r => cases r
    | @nd a _ vs _ Fl hn hl =>
    obtain ⟨_, ha, rfl⟩ := hn
    refine ⟨a, rfl, ⟨vs, .inl (.inl ha)⟩, fun i m σ' H' => m = l.length - i ∧ i ≤ l.length ∧ ∃ Γ' F' Fr, Step G F H ((a :: Fr) ++ F') H' ∧ Hold X.K G pz (X0 ++ (a :: Fr)) pins Γ' σ' H' F' ∧ H' a = some (.lst vs) ∧ Owns X.K G ((X0 ++ (a :: Fr)) ++ F') H' (vs.drop i) (l.drop i) Fr ∧ SoPost X.K G pz X0 pins F H D' W (forD t s (l.drop i) Γ'),
      ⟨l.length, by simp, Nat.zero_le _, Γ1, F1, Fl, s1, ho1, ha, by rw [List.drop_zero, List.drop_zero]; exact hl, by rw [List.drop_zero]; exact p⟩, ?_⟩
    rintro i m σ' H' ⟨rfl, hi, Γ', F', Fr, sp, ho', ha', os, qq⟩
    by_cases hlt : i < l.length
    · obtain ⟨x, hx⟩ : ∃ x, l[i]? = some x := ⟨_, List.getElem?_eq_getElem hlt⟩
      rw [get_cons hx] at os
      obtain ⟨u, us, Fi, Fr', e1, rfl, oi, or⟩ := os.cons'
      have hu : vs[i]? = some u := by
        have : (vs.drop i)[0]? = some u := by rw [e1]; rfl
        rwa [List.getElem?_drop, Nat.add_zero] at this
      have hus : us = vs.drop (i + 1) := by
        have : (vs.drop i).tail = us := by rw [e1]; rfl
        rw [← this, List.tail_drop]
      rw [get_cons hx, forD] at qq
      refine .inr ⟨⟨vs, u, .inl (.inl ha'), hu⟩, fun σ2 H2 => ∃ Γ2 F2 Fr, Step G F H ((a :: Fr) ++ F2) H2 ∧ Hold X.K G pz (X0 ++ (a :: Fr)) pins Γ2 σ2 H2 F2 ∧ H2 a = some (.lst vs) ∧ Owns X.K G ((X0 ++ (a :: Fr)) ++ F2) H2 (vs.drop (i + 1)) (l.drop (i + 1)) Fr ∧ SoPost X.K G pz X0 pins F H D' W (forD t s (l.drop (i + 1)) Γ2),
        fun σ2 H2 ⟨Γ2, F2, Fr, a1, a2, a3, a4, a5⟩ => ⟨l.length - (i + 1), by omega, rfl, hlt, Γ2, F2, Fr, a1, a2, a3, a4, a5⟩, fun v H2 y => ?_⟩
      obtain ⟨eh, y⟩ := y
      subst eh
      have := y vs (.inl (.inl ha'))
      rw [hu] at this
      cases this
      cases et : t x Γ' with
      | none => rw [et] at qq; exact qq.elim
      | some Γ2 =>
      simp only [et] at qq
      have pm : ((X0 ++ (a :: Fr')) ++ Fi).Perm (X0 ++ (a :: (Fi ++ Fr'))) := by
        rw [List.append_assoc]
        refine List.Perm.append_left X0 ?_
        rw [List.cons_append]
        exact (List.perm_append_comm (l₁ := Fr') (l₂ := Fi)).cons a
      refine ht pn xe σ' H2 (X0 ++ (a :: Fr')) pins F' _ u x Fi Γ' Γ2 et (ho'.perm pm) (oi.sub fun b hb => (List.mem_append.mp hb).elim (fun z => List.mem_append_left _ (pm.mem_iff.mp z)) (List.mem_append_right _)) fun σ3 F3 ho3 sub3 => ?_
      have inc : ∀ b, b ∈ (X0 ++ (a :: Fr')) ++ F3 → b ∈ (X0 ++ (a :: (Fi ++ Fr'))) ++ F' := fun b hb => by
        rcases List.mem_append.mp hb with z | z
        · exact List.mem_append_left _ (pm.mem_iff.mp (List.mem_append_left _ z))
        · rcases List.mem_append.mp (sub3 b z) with z | z
          · exact List.mem_append_left _ (pm.mem_iff.mp (List.mem_append_right _ z))
          · exact List.mem_append_right _ z
      have or3 : Owns X.K G ((X0 ++ (a :: Fr')) ++ F3) H2 us (l.drop (i + 1)) Fr' := or.sub inc
      have sp3 : Step G F H ((a :: Fr') ++ F3) H2 := sp.shrink fun b hb => by
        rcases List.mem_append.mp hb with z | z
        · rcases List.mem_cons.mp z with z | z
          · subst z; simp
          · simp [z]
        · rcases List.mem_append.mp (sub3 b z) with z | z
          · simp [z]
          · simp [z]
      have inA : ∀ b ∈ Fr', b ∈ X0 ++ (a :: Fr') := fun b hb => List.mem_append_right _ (List.mem_cons_of_mem _ hb)
      refine hb pn xe W σ3 H2 (X0 ++ (a :: Fr')) pins F3 _ Γ2 tk hp ho3 ?_
      cases e : s Γ2 with
      | nx Γ3 =>
        simp only [e] at qq
        exact fun σ4 H4 F4 sp4 ho4 => ⟨Γ3, F4, Fr', sp3.trans (sp4.frame _), ho4, keepA ho3 sp4 List.mem_cons_self ha', by rw [← hus]; exact or3.aside inA ho3 sp4, qq⟩
      | ct Γ3 =>
        simp only [e] at qq
        exact fun σ4 H4 F4 sp4 ho4 => ⟨Γ3, F4, Fr', sp3.trans (sp4.frame _), ho4, keepA ho3 sp4 List.mem_cons_self ha', by rw [← hus]; exact or3.aside inA ho3 sp4, qq⟩
      | bk Γ3 =>
        simp only [e] at qq
        exact fun σ4 H4 F4 sp4 ho4 => qq σ4 H4 F4 ((sp3.trans (sp4.frame _)).shrink fun b hb => List.mem_append_right _ hb) ho4.drop
      | rt r Γ3 =>
        simp only [e] at qq
        intro v σ4 H4 F4 Fv sp4 ho4 o4
        have pm2 : ((X0 ++ Fv) ++ (a :: Fr')).Perm ((X0 ++ (a :: Fr')) ++ Fv) := by
          rw [List.append_assoc, List.append_assoc]
          exact List.perm_append_comm.append_left X0
        refine qq v σ4 H4 F4 Fv ((sp3.trans (sp4.frame _)).shrink fun b hb => List.mem_append_right _ hb) (ho4.perm pm2).drop (o4.sub fun b hb => ?_)
        rcases List.mem_append.mp hb with z | z
        · refine List.mem_append_left _ (pm2.mem_iff.mp (List.mem_append_left _ z))
        · exact List.mem_append_right _ z
      | er z Γ3 =>
        simp only [e] at qq
        exact fun c dd σ4 H4 F4 sp4 ho4 xr => qq c dd σ4 H4 F4 ((sp3.trans (sp4.frame _)).shrink fun b hb => List.mem_append_right _ hb) ho4.drop xr
      | st => simp only [e] at qq; exact qq
    · have hn : i = l.length := by omega
      subst hn
      rw [List.drop_length, forD] at qq
      refine .inl ⟨⟨vs, .inl (.inl ha'), ?_⟩, qq _ _ F' (sp.shrink fun b hb => List.mem_append_right _ hb) ho'.drop⟩
      rw [hl.length]
      exact Nat.le_refl _))
/-! ### -x -/
def negD : D → Option D
  | .int i => some (.int (-i))
  | _ => none
end
end GL
namespace GL
open PySem PySem.Spec PyProof.Rows L2 PySem.W
/-! ### dict displays -/
inductive Prs (K : PySem.W.Frag) (G : Wd) (Y : List Addr) (H : Hp) : List (V × V) → List (Key × D) → Prop
  | nil : Prs K G Y H [] []
  | cons {k x d ps ds} : Rp K G Y H x d → Prs K G Y H ps ds → Prs K G Y H ((kV k, x) :: ps) ((k, d) :: ds)
section
variable {K : PySem.W.Frag} {G : Wd} {pz : List Nat} {X0 F F' F1 F2 Fv Fw Fl Y Y' A : List Addr} {pins : Nat → V} {Γ Γ1 : Sl} {σ : L2.St} {H H' H1 H2 : Hp} {X : Cx} {d d1 di : D} {v w y : V} {W : WX} {Q : VK} {e k : Expr} {ks : List (Option Expr)} {vs : List Expr} {pos : Pos} {m mk mv : Sl → Re} {r : Sl → Rg (List (Key × D))}
theorem Prs.move {X X' : List Addr} (m : Mv X H X' H') : ∀ {ps ds}, Prs K G X H ps ds → Prs K G X' H' ps ds
  | _, _, .nil => .nil
  | _, _, .cons a b => .cons (a.move m) (Prs.move m b)
theorem Prs.split : ∀ {ps : List (V × V)} {ds : List (Key × D)}, Prs K G Y H ps ds → ∃ kvs : List (Key × V), ps = kvs.map (fun kv => (kV kv.1, kv.2)) ∧ kvs.map (·.1) = ds.map (·.1) ∧ Rps K G Y H (kvs.map (·.2)) (ds.map (·.2))
  | _, _, .nil => ⟨[], rfl, rfl, .nil⟩
  | _, _, .cons (k := k) (x := x) a b => by
    obtain ⟨kvs, e1, e2, e3⟩ := Prs.split b
    exact ⟨(k, x) :: kvs, by rw [e1]; rfl, by rw [List.map_cons, e2]; rfl, .cons a e3⟩
/-! ### sorted(d) -/
end
end GL
namespace GL
open PySem PySem.Spec PyProof.Rows L2 PySem.W
/-! ### sorted(d), by keys -/
section
variable {X : Cx} {G : Wd} {K : PySem.W.Frag} {Y : List Addr} {H : Hp} {v : V} {d : D} {Q : VK}
theorem rps_strs : ∀ ys : List Str, Rps K G Y H (ys.map V.str) (ys.map D.str)
  | [] => .nil
  | _ :: ys => .cons .str (rps_strs ys)
theorem rps_ints : ∀ ys : List Int, Rps K G Y H (ys.map V.int) (ys.map D.int)
  | [] => .nil
  | _ :: ys => .cons .int (rps_ints ys)
end
end GL
namespace GL
open PySem PySem.Spec PyProof.Rows L2 PySem.W
section
variable {K : PySem.W.Frag} {G : Wd} {pz : List Nat} {X0 F F' F1 F2 Fv Fw Fl Y Y' A : List Addr} {pins : Nat → V} {Γ Γ1 : Sl} {σ : L2.St} {H H' H1 H2 : Hp} {X : Cx} {d d1 di : D} {v w y : V} {W : WX} {Q : VK} {e a b c : Expr} {pos : Pos} {m : Sl → Re} {ms : Sl → Rg (List D)} {mt : Sl → Rg Bool} {t : Tg}
/-! ### what the generator leans on -/
/-- a def that is shown -/
def DOk (P : Program) (w : World) (K : PySem.W.Frag) (mg : Str → Option Value) (base : Heap) (G : Wd) (k : Nat) (f : Addr) (ps : List Str) (fm : List GL.D → RF) : Prop :=
  ∃ fd, FnOk P w K mg base (L2.CX P w) k f fd ps (Pr K G fm) ∧ L2.Binds K fd ps [] ∧ PySem.W.keepIn K (.ref f) = true
theorem ge_callD {k : Nat} {f : Addr} {ps : List Str} {fm : List GL.D → RF} {x : Str} {es : List Expr} {ms : Sl → Rg (List Ag)} {p : Pos} (D : DOk X.prog X.w X.K X.mg X.base G k f ps fm) (hr : Room k X.A) (hm : X.mg x = some (.ref f)) (ha : GAg G pz X (e :: es) ms)
    (hg : Gl X x := by rfl) (hdb : (x == ("__debug__" : Str)) = false := by decide) (he : ∀ pn xe, starEach (e :: es) (X.tr pn xe).env = (false, eval e (X.tr pn xe).env) :: starEach es (X.tr pn xe).env := by intro _ _; rfl) (hpl : ∀ pn xe, (backTo pos (starEach es (X.tr pn xe).env)).any (·.1) = false := by intro _ _; rfl) :
    GE G pz X (.Call (.Name x p) (e :: es) [] pos) (mFn fm ms) := by
  obtain ⟨fd, h1, h2, h3⟩ := D
  exact ge_call h1 hr hm h3 h2 ha hg hdb he hpl
theorem ge_makeD {k : Nat} {cn : Str} {f : Addr} {ps : List Str} {fm : List GL.D → RF} {x : Str} {es : List Expr} {ms : Sl → Rg (List Ag)} {p : Pos} (D : DOk X.prog X.w X.K X.mg X.base G k f ps fm) (M : Mk X.K (G.cls cn) f) (hr : Room (k + 1) X.A) (hx : X.mg x = some (.ref (G.cls cn))) (ha : GAg G pz X (e :: es) ms)
    (hg : Gl X x := by rfl) (hdb : (x == ("__debug__" : Str)) = false := by decide) (he : ∀ pn xe, starEach (e :: es) (X.tr pn xe).env = (false, eval e (X.tr pn xe).env) :: starEach es (X.tr pn xe).env := by intro _ _; rfl) (hpl : ∀ pn xe, (backTo pos (starEach es (X.tr pn xe).env)).any (·.1) = false := by intro _ _; rfl) :
    GE G pz X (.Call (.Name x p) (e :: es) [] pos) (mMk cn fm ms) := by
  obtain ⟨fd, h1, h2, h3⟩ := D
  exact ge_make M h1 hr hx h2 ha hg hdb he hpl
theorem mtok_nil {mn : Str} : MtOk X G mn [] := fun c fm h => by cases h
theorem mtok_cons {k : Nat} {mn c : Str} {f : Addr} {ps : List Str} {fm : List GL.D → RF} {cs : List (Str × (List GL.D → RF))} (D : DOk X.prog X.w X.K X.mg X.base G k f ps fm) (hr : Room k X.A) (hc : Cls X.K (G.cls c)) (hm : Meth X.K (G.cls c) mn f) (r : MtOk X G mn cs) : MtOk X G mn ((c, fm) :: cs) := fun c' fm' h => by
  rw [List.lookup_cons] at h
  split at h
  · rename_i hb
    have := beq_iff_eq.mp hb
    subst this
    cases h
    obtain ⟨fd, h1, h2, h3⟩ := D
    exact ⟨k, f, fd, ps, h1, hr, hc, hm, h2⟩
  · exact r c' fm' h
end
end GL
namespace GL
open PySem PySem.Spec PyProof.Rows L2 PySem.W
def pzOf (ms : List Bool) : List Nat := (List.range ms.length).filter fun i => ms[i]? == some true
theorem pz_ok {ms : List Bool} {pz : List Nat} (h : pz = pzOf ms) : (∀ i : Nat, i ∈ pz → ms[i]? = some true) ∧ ∀ i : Nat, ms[i]? = some true → i ∈ pz := by
  subst h
  unfold pzOf
  refine ⟨fun i hi => ?_, fun i hi => ?_⟩
  · exact eq_of_beq (List.mem_filter.mp hi).2
  · refine List.mem_filter.mpr ⟨List.mem_range.mpr (List.getElem?_eq_some_iff.mp hi).1, ?_⟩
    rw [hi]; rfl
theorem code_of {K : PySem.W.Frag} {p : He.Defn} {x qual : Str} {params : Arguments} {body : List Stmt} {scope : Scope} {dvs : List V} {kws : List (Str × V)} {fd : FuncData} (F : FunD K x qual params body scope dvs kws (He.fAd K p) fd) : fd.code = .ref (He.cT K p).1 := by
  obtain ⟨oc, od, dV, kV, doc, pm, an, cdv, ct, osl, rfl, lk, hcd, _, _⟩ := F.ex
  obtain ⟨c, hc⟩ := He.codeIn_ref hcd
  have := He.codeOf_eq lk hc
  show cdv = .ref (He.codeOf K p)
  rw [this, hc]
/-- the name of a lambda, of a generator expression in the def at p -/
def defQ (p : He.Defn) : Str := (match p.2 with
  | none => p.1
  | some m => p.1 ++ "." ++ m) ++ ".<locals>."
def lamQ (p : He.Defn) : Str := defQ p ++ "<lambda>"
def genQ (p : He.Defn) : Str := defQ p ++ "<genexpr>"
abbrev Tq : Type := List (He.Defn × Str)
def gOf (tf : Tq) (K : PySem.W.Frag) : Wd := ⟨He.ga K, tf.map fun p => ((He.cT K p.1).2, p.2)⟩
def tabND (tf : Tq) (K : PySem.W.Frag) : Bool := decide ((tf.map fun p => (He.cT K p.1).2).Nodup)
theorem gOf_mem {tf : Tq} {K : PySem.W.Frag} {p : He.Defn} {q : Str} (h : (p, q) ∈ tf) : ((He.cT K p).2, q) ∈ (gOf tf K).T := List.mem_map.mpr ⟨(p, q), h, rfl⟩
theorem gOf_one {tf : Tq} {K : PySem.W.Frag} {p : He.Defn} {q : Str} (h : (p, q) ∈ tf) (nd : tabND tf K = true) : ∀ r ∈ (gOf tf K).T, r.1 = (He.cT K p).2 → r.2 = q := fun r hr e => by
  obtain ⟨⟨p', q'⟩, hp', rfl⟩ := List.mem_map.mp hr
  have nd := of_decide_eq_true nd
  have : ∀ {l : Tq}, (l.map fun p => (He.cT K p.1).2).Nodup → (p, q) ∈ l → (p', q') ∈ l → (He.cT K p').2 = (He.cT K p).2 → q' = q := by
    intro l
    induction l with
    | nil => intro _ h; cases h
    | cons a l ih =>
      intro nd h h' e
      rw [List.map_cons, List.nodup_cons] at nd
      rcases List.mem_cons.mp h with hh | hh
      · subst hh
        rcases List.mem_cons.mp h' with h' | h'
        · cases h'
          rfl
        · exact absurd (List.mem_map.mpr ⟨(p', q'), h', e⟩ : (He.cT K p).2 ∈ l.map fun p => (He.cT K p.1).2) nd.1
      · rcases List.mem_cons.mp h' with h' | h'
        · subst h'
          exact absurd (List.mem_map.mpr ⟨(p, q), hh, e.symm⟩ : (He.cT K p').2 ∈ l.map fun p => (He.cT K p.1).2) nd.1
        · exact ih nd.2 hh h' e
  exact this nd h hp' e
/-! ### constants of the module: texts, numbers, tuples of them -/
mutual
def ktV (K : PySem.W.Frag) : Value → D → Bool
  | .int i _, .int j => decide (i = j)
  | .str a _, .str b => decide (a = b)
  | .ref a, .nd false .ktp l => (match K.lookup a with
    | some o => decide (o.cls = .type "tuple" ∧ o.dict = none) && (match o.data with
      | .seq its _ => decide (its.size ≤ sizeLine) && ktVs K its.toList l
      | _ => false)
    | none => false)
  | _, _ => false
def ktVs (K : PySem.W.Frag) : List Value → List D → Bool
  | [], [] => true
  | u :: us, d :: ds => ktV K u d && ktVs K us ds
  | _, _ => false
end
mutual
theorem ktV_ok {K : PySem.W.Frag} {G : Wd} {Y : List Addr} {H : Hp} : ∀ (d : D) (u : Value), ktV K u d = true → ∃ v, RelV v u ∧ Rp K G Y H v d
  | .int j, u, h => by
    unfold ktV at h
    split at h
    · rename_i i t jj e
      cases e
      obtain rfl := of_decide_eq_true h
      exact ⟨.int i, ⟨t, rfl⟩, .int⟩
    · rename_i e; cases e
    · rename_i e; cases e
    · cases h
  | .str b, u, h => by
    unfold ktV at h
    split at h
    · rename_i e; cases e
    · rename_i i t jj e
      cases e
      obtain rfl := of_decide_eq_true h
      exact ⟨.str i, ⟨t, rfl⟩, .str⟩
    · rename_i e; cases e
    · cases h
  | .nd o k l, u, h => by
    unfold ktV at h
    split at h
    · rename_i e; cases e
    · rename_i e; cases e
    · rename_i a ll e
      cases e
      split at h
      · rename_i ob hl
        rw [Bool.and_eq_true] at h
        obtain ⟨h1, h2⟩ := h
        split at h2
        · rename_i its n hd
          rw [Bool.and_eq_true] at h2
          obtain ⟨vs, r1, r2⟩ := ktVs_ok (G := G) (Y := Y) (H := H) l its.toList h2.2
          exact ⟨.ref a, rfl, .nd (show KTup K a vs from ⟨ob, its, n, hl, (of_decide_eq_true h1).1, hd, of_decide_eq_true h2.1, r1⟩) r2⟩
        · cases h2
      · cases h
    · cases h
  | .any, u, h | .non, u, h | .bl _, u, h | .fn _, u, h => by
    unfold ktV at h
    split at h
    · rename_i e; cases e
    · rename_i e; cases e
    · rename_i e; cases e
    · cases h
theorem ktVs_ok {K : PySem.W.Frag} {G : Wd} {Y : List Addr} {H : Hp} : ∀ (ds : List D) (us : List Value), ktVs K us ds = true → ∃ vs, Vals vs us ∧ Rps K G Y H vs ds
  | [], [], _ => ⟨[], .nil, .nil⟩
  | [], _ :: _, h => by unfold ktVs at h; cases h
  | _ :: _, [], h => by unfold ktVs at h; cases h
  | d :: ds, u :: us, h => by
    unfold ktVs at h
    rw [Bool.and_eq_true] at h
    obtain ⟨v, r1, r2⟩ := ktV_ok (G := G) (Y := Y) (H := H) d u h.1
    obtain ⟨vs, q1, q2⟩ := ktVs_ok (G := G) (Y := Y) (H := H) ds us h.2
    exact ⟨v :: vs, .cons r1 q1, .cons r2 q2⟩
end
/-- the constants' names and what they are -/
abbrev Cst : Type := List (Str × D)
def cstB (cs : Cst) (K : PySem.W.Frag) : Bool := cs.all fun c => ktV K (.ref (He.ga K c.1)) c.2
def moreB (cs : Cst) (tf : Tq) (K : PySem.W.Frag) : Bool := tabND tf K && cstB cs K
/-- what is known of a text behind its top -/
structure Env (fa : List He.Fa) (fn : List He.DefD) (tf : Tq) (cs : Cst) (w : World) (K : PySem.W.Frag) (mg : Str → Option Value) (base : Heap) : Prop where
  h : ∃ h : Heap, He.SaysX fa fn [] (tf.map (·.1)) (moreB cs tf) w h K ∧ K.In h ∧ h.Ns mainGlobals mg
  tb : ∀ p ∈ tf, LamX.TabB base mg (He.cT K p.1).1 (He.cT K p.1).2
section
variable {fa : List He.Fa} {fn : List He.DefD} {tf : Tq} {cs : Cst} {w : World} {K : PySem.W.Frag} {mg : Str → Option Value} {base : Heap}
theorem Env.fact (E : Env fa fn tf cs w K mg base) (i : Nat) {f : He.Fa} (hf : fa[i]? = some f) : f.ok K = true := by
  obtain ⟨h, C, _, _⟩ := E.h
  exact C.t.d.fact i hf
theorem Env.def_ (E : Env fa fn tf cs w K mg base) (i : Nat) {d : He.DefD} (hf : fn[i]? = some d) : ∃ fd, FunD K d.name d.qual d.params d.body d.scope (d.dvs K) (d.kws K) (He.fAd K d.at_) fd := by
  obtain ⟨h, C, _, _⟩ := E.h
  exact C.t.d.def_ i hf
theorem Env.nd (E : Env fa fn tf cs w K mg base) : tabND tf K = true := by
  obtain ⟨h, C, _, _⟩ := E.h
  exact (Bool.and_eq_true_iff.mp C.more).1
theorem Env.cst (E : Env fa fn tf cs w K mg base) {x : Str} {d : D} (hc : (x, d) ∈ cs) : ktV K (.ref (He.ga K x)) d = true := by
  obtain ⟨h, C, _, _⟩ := E.h
  exact List.all_eq_true.mp (Bool.and_eq_true_iff.mp C.more).2 (x, d) hc
theorem Env.glo (E : Env fa fn tf cs w K mg base) (i : Nat) {x : Str} (hf : fa[i]? = some (.glo x)) : mg x = some (.ref (He.ga K x)) := by
  obtain ⟨h, C, KX, NS⟩ := E.h
  exact He.glo_ok KX NS (C.t.d.fact i hf)
theorem Env.free (E : Env fa fn tf cs w K mg base) (i : Nat) {x : Str} (hf : fa[i]? = some (.free x)) : mg x = none := by
  obtain ⟨h, C, KX, NS⟩ := E.h
  exact He.free_ok KX NS (C.t.d.fact i hf)
theorem Env.xc (E : Env fa fn tf cs w K mg base) {G : Wd} {X : Cx} {x : Str} (hX : X.mg = mg) (hK : X.K = K) (hG : G.cls x = He.ga K x) (i j : Nat) (hi : fa[i]? = some (.glo x)) (hj : fa[j]? = some (.exc x)) : XC X G x := by
  obtain ⟨h1, h2, h3, h4⟩ := He.exc_ok (E.fact j hj)
  subst hX hK
  exact ⟨by rw [hG]; exact E.glo i hi, by rw [hG]; exact h1, by rw [hG]; exact h2, by rw [hG]; exact h3, by rw [hG]; exact h4⟩
end
end GL
namespace GL
open PySem PySem.Spec PyProof.Rows L2 PySem.W
/-! ### any source; a list unpacked -/
def D.srcs : D → Option (List D × Bool)
  | .str z => (D.str z).signs
  | .nd false (.dK ks) l => (D.nd false (.dK ks) l).keyIts
  | .nd false (.dT ks) l => (D.nd false (.dT ks) l).keyIts
  | d => d.items
def mSrc (m : Sl → Re) : Sl → Rg (List D × Bool) := fun Γ => (m Γ).bind fun d Γ => .of d.srcs Γ
section
variable {K : PySem.W.Frag} {G : Wd} {pz : List Nat} {X0 F F' F1 F2 Fv Fw Fl Y Y' A : List Addr} {pins : Nat → V} {Γ Γ1 : Sl} {σ : L2.St} {H H' H1 H2 : Hp} {X : Cx} {d d1 di : D} {v w y : V} {W : WX} {Q : VK} {e tg : Expr} {pos : Pos} {m : Sl → Re} {ms : Sl → Rg (List D)} {mt : Sl → Rg Bool} {t : Tg}
theorem keyIts_cold {k : Kd} {l : List D} {r : List D × Bool} (h : (D.nd false k l).keyIts = some r) : ∃ l', ((D.nd false k l).cold).keyIts = some r ∧ (D.nd false k l).cold = .nd false k l' := by
  refine ⟨D.colds l, ?_, by rw [D.cold]⟩
  rw [D.cold]
  cases k with
  | dK => exact h
  | dT => exact h
  | _ => cases h
theorem git_any (h : GO G pz X e m) : GItL G pz X tg e (mSrc m) := fun pn xe W σ H X0 pins F R Γ tk ho q => by
  have dict : ∀ {d Γ1 q1}, m Γ = .ok d Γ1 q1 → d.fz = true → d.srcs = d.keyIts → wI (X.tr pn xe) tg e σ H R := fun {d Γ1 q1} em hd hs => by
    classical
    have hg : ∀ pn xe W σ H X0 pins F Q, Takes (X.tr pn xe) W → Hold X.K G pz X0 pins Γ σ H F → RgPost X.K G pz X0 pins F H σ W (VPost X.K G pz X0 pins F H σ Q) (.ok d Γ1 q1) → wE (X.tr pn xe) e σ H Q := fun pn xe W σ H X0 pins F Q tk ho q =>
      h pn xe W σ H X0 pins F Q Γ tk ho (by
        rw [em]
        exact fun v H' F' s ho' o qt => q v H' F' [] s ho'.nil (Own.fz (o.rp hd)).nil qt)
    have git : GItL G pz X tg e (mWalk D.keyIts fun Γ' => if Γ' = Γ then .ok d Γ1 q1 else .st) := git_keys fun pn xe W σ H X0 pins F Q Γ' tk ho2 q => by
      by_cases e : Γ' = Γ
      · subst e
        simp only [↓reduceIte] at q
        exact hg pn xe W σ H X0 pins F Q tk ho2 q
      · simp only [if_neg e] at q
        exact q.elim
    refine git pn xe W σ H X0 pins F R Γ tk ho ?_
    unfold mSrc at q
    rw [em] at q
    unfold mWalk
    simp only [↓reduceIte]
    have q : RgPost X.K G pz X0 pins F H σ W (IPostL X X.K G pz X0 pins F H σ R) ((Rg.of d.srcs Γ1).andq q1) := q
    show RgPost X.K G pz X0 pins F H σ W (IPostL X X.K G pz X0 pins F H σ R) ((Rg.of d.cold.keyIts Γ1).andq q1)
    rw [hs] at q
    cases hk : d.keyIts with
    | none => rw [hk] at q; exact q.elim
    | some r =>
      rw [hk] at q
      have : d.cold.keyIts = some r := by
        cases d with
        | nd o k l =>
          cases o with
          | false => exact (keyIts_cold hk).choose_spec.1
          | true => cases hd
        | _ => cases hk
      rw [this]
      exact q
  have seq : (∀ d Γ1 q1, m Γ = .ok d Γ1 q1 → d.srcs = d.items) → wI (X.tr pn xe) tg e σ H R := fun hs => by
    refine (GIt.l (git_seq h)) pn xe W σ H X0 pins F R Γ tk ho ?_
    unfold mSrc at q
    unfold mSeq
    cases em : m Γ with
    | er => rw [em] at q; exact q
    | st => rw [em] at q; exact q
    | ok d Γ1 q1 =>
      rw [em] at q
      have q : RgPost X.K G pz X0 pins F H σ W (IPostL X X.K G pz X0 pins F H σ R) ((Rg.of d.srcs Γ1).andq q1) := q
      rw [hs d Γ1 q1 em] at q
      exact q
  cases em : m Γ with
  | er => exact seq fun d Γ1 q1 e => by rw [em] at e; cases e
  | st => exact seq fun d Γ1 q1 e => by rw [em] at e; cases e
  | ok d0 Γ0 q0 =>
    have same : ∀ {P : D → Prop}, P d0 → ∀ d Γ1 q1, m Γ = .ok d Γ1 q1 → P d := fun hP d Γ1 q1 e => by
      rw [em] at e
      cases e
      exact hP
    cases d0 with
    | str z =>
      refine (GIt.l (git_str h)) pn xe W σ H X0 pins F R Γ tk ho ?_
      unfold mSrc at q
      show RgPost X.K G pz X0 pins F H σ W (IPostL X X.K G pz X0 pins F H σ R) ((m Γ).bind fun d Γ => .of d.signs Γ)
      rw [em] at q ⊢
      exact q
    | nd o k l =>
      cases o with
      | true => exact seq (same (by cases k <;> rfl))
      | false =>
        cases k with
        | dK ks => exact dict em rfl rfl
        | dT ks => exact dict em rfl rfl
        | _ => exact seq (same rfl)
    | _ => exact seq (same rfl)
end
/-- -x -/
def mNeg (m : Sl → Re) : Sl → Re := fun Γ => (m Γ).bind fun d Γ => .of (negD d) Γ
end GL
namespace GL
open PySem PySem.Spec PyProof.Rows L2 PySem.W
section
variable {G : Wd} {pz : List Nat} {X : Cx} {e o : Expr} {es : List Expr} {pos apos : Pos} {mr : Sl → Rg (Ag × D)} {ms : Sl → Rg (List Ag)} {mn : Str} {cs : List (Str × (List D → RF))}
/-- o.m(a, ..) -/
theorem ge_methD (ho' : GR G pz X o mr) (ha : GAg G pz X (e :: es) ms) (hc : MtOk X G mn cs)
    (ht : eval (.Call (.Attribute o mn apos) (e :: es) [] pos) X.env = (do
      let ov ← eval o X.env
      standAt apos.atName
      let (f, first) ← holding [ov] (getMethod ov mn (plainOf o X.env))
      callWith pos f first (backTo pos (starEach (e :: es) X.env)) (backToKw pos (keywordEach [] X.env))) := by rfl)
    (hst : ∀ pn xe, starEach (e :: es) (X.tr pn xe).env = (false, eval e (X.tr pn xe).env) :: starEach es (X.tr pn xe).env := by intro _ _; rfl) (hpl : ∀ pn xe, (backTo pos (starEach es (X.tr pn xe).env)).any (·.1) = false := by intro _ _; rfl) :
    GE G pz X (.Call (.Attribute o mn apos) (e :: es) [] pos) (mMt cs mn mr ms) := ge_meth (plk := plainOf o X.env) ho' ha hc hst hpl fun _ _ => ht
theorem ge_meth0D (ho' : GR G pz X o mr) (hc : MtOk X G mn cs)
    (ht : eval (.Call (.Attribute o mn apos) [] [] pos) X.env = (do
      let ov ← eval o X.env
      standAt apos.atName
      let (f, first) ← holding [ov] (getMethod ov mn (plainOf o X.env))
      callWith pos f first (backTo pos (starEach [] X.env)) (backToKw pos (keywordEach [] X.env))) := by rfl) :
    GE G pz X (.Call (.Attribute o mn apos) [] [] pos) (mMt cs mn mr agNil) := ge_meth0 (plk := plainOf o X.env) ho' hc fun _ _ => ht
end
end GL
namespace GL
open PySem PySem.Spec PyProof.Rows L2 PySem.W
/-! ### the end -/
def scrD (ns : List Int) : D := .nd false .scr (ns.map .int)
theorem cx_none {P : Program} {w : World} {H : Hp} {s : Shared} {e : Value} {s' : Shared} (z : L2.CX P w [] H s (fun _ _ _ => False) e s') : False := by
  obtain ⟨_, _, _, _, _, _, _, _, _, _, _, _, z⟩ := z
  exact z
theorem law_in {l : PySem.W.OpenLaw} {fa : List He.Fa} {fn : List He.DefD} {tf : Tq} {cs : Cst} {w : World} {h : Heap} {K : PySem.W.Frag} {mg : Str → Option Value} {fa' : Addr} {x qual : Str} {params : Arguments} {body : List Stmt} {scope : Scope} {fd : FuncData} {f : Addr} {CX : CXT} {k : Nat} {law : List D → RF} {y : Str}
    (C : He.SaysX fa fn [] (tf.map (·.1)) (moreB cs tf) w h K) (KX : K.In h) (F : FunD K x qual params body scope [] [] f fd) (b : ∀ (s : Shared) (u : Value), BindsTo s fd ⟨[u], []⟩ [(y, u)])
    (plain : ∀ ns : List Int, ns.length ≤ 63 → (∀ z ∈ ns, Builtin.Int.intBits z ≤ 1048576) → ∃ bs, law [scrD ns] = .rt (.bl true) bs)
    (ok : ∀ base : Heap, K.In base → base.Ns mainGlobals mg → (∀ p ∈ tf, LamX.TabB base mg (He.cT K p.1).1 (He.cT K p.1).2) → FnOk l.prog w K mg base CX k fa' fd [y] (Pr K (gOf tf K) law)) :
    LamX.LawAtS l w K CX k 63 y mg fa' h := by
  refine ⟨fd, (tf.map (·.1)).map (He.cT K), Pr K (gOf tf K) law, fun p hp => ?_, fun p hp => ?_, fun p hp => ?_, b, fun H a ns hl hb ht hs => ?_, fun base kb nb tb => ok base kb nb fun p hp => tb _ (List.mem_map.mpr ⟨p.1, List.mem_map.mpr ⟨p, hp, rfl⟩, rfl⟩)⟩
  · obtain ⟨q, hq, rfl⟩ := List.mem_map.mp hp
    exact C.empty q hq
  · obtain ⟨q, hq, rfl⟩ := List.mem_map.mp hp
    exact C.out q hq
  · obtain ⟨q, hq, rfl⟩ := List.mem_map.mp hp
    exact PySem.W.codeHd_of_K KX (C.hd q hq)
  · obtain ⟨bs, e⟩ := plain ns hl hb
    have hr : Rps K (gOf tf K) [] H (ns.map V.int) (ns.map D.int) := rps_ints ns
    refine ⟨[scrD ns], [], [], ?_, .nil, (fun _ h => nomatch h), fun p hp => ?_, ?_⟩
    · have o : Own K (gOf tf K) ([] ++ []) H (.ref a) (scrD ns) [] := .fz (.nd (hs.imp (fun r => ⟨by simp, r⟩) id) hr)
      exact .cons (F := []) (F' := []) o .nil
    · obtain ⟨q, hq, rfl⟩ := List.mem_map.mp hp
      exact GL.TabS.nil (ht _ (List.mem_map.mpr ⟨q.1, List.mem_map.mpr ⟨q, hq, rfl⟩, rfl⟩))
    · rw [e]
      intro v H' F' Fv _ _ _ o _
      exact (show Bw K (gOf tf K) H' _ v (.bl true) from ⟨_, o⟩).bl
end GL
namespace GL
open PySem PySem.Spec PyProof.Rows L2
/-! ### texts that only read: the bodies of generator expressions and of keys -/
structure QC where
  prog : Program
  w : World
  K : PySem.W.Frag
  mg : Str → Option Value
  base : Heap
  env : PySem.Env
  N : List Str
structure QC.Ok (C : QC) : Prop where
  mod : Mod C.K C.mg C.base
  kind : C.env.scope.kind = .function
  glob : C.env.globals = mainGlobals
  blt : C.env.builtins = builtinsNs
structure QI (C : QC) (H : Hp) (s : Shared) : Prop where
  ok : C.Ok
  bk : ∀ b o, C.base.get? b = some o → s.heap.get? b = some o
  hok : HOk C.prog C.w H s.heap
/-- the names -/
def QN (C : QC) (σ : L2.St) (h : Heap) : Prop := ∃ m, h.Ns C.env.locals m ∧ ∀ (i : Nat) (x : Str) (v : V), C.N[i]? = some x → σ[i]? = some (some v) → Vis C.env.scope x → ∃ u, RelV v u ∧ Look C.env h m x u
abbrev Ext (H H' : Hp) : Prop := ∀ b o, H b = some o → H' b = some o
section
variable {C : QC} {G : Wd} {H H' H1 H2 : Hp} {s s1 s2 : Shared} {σ : L2.St} {Γ Γ1 Γ2 : Sl} {Y : List Addr} {d da db : D} {A : Around} {E : Value → Shared → Prop} {v x y z : V}
theorem QI.kin (I : QI C H s) : C.K.In s.heap := I.ok.mod.kin.keeps I.bk
theorem keeps_heap (k : Keeps s s1) : ∀ b o, s.heap.get? b = some o → s1.heap.get? b = some o := by
  obtain ⟨h, t, rfl, e⟩ := k
  exact e
theorem keeps_tr (a : Keeps s s1) (b : Keeps s1 s2) : Keeps s s2 := by
  obtain ⟨h, t, rfl, e⟩ := a
  obtain ⟨h', t', rfl, e'⟩ := b
  exact ⟨h', t', rfl, fun c o q => e' c o (e c o q)⟩
theorem keeps_rf (s : Shared) (t : Nat) : Keeps s { s with toks := t } := ⟨s.heap, t, rfl, fun _ _ e => e⟩
theorem keeps_id (s : Shared) : Keeps s s := keeps_rf s s.toks
theorem QI.tok (I : QI C H s) (t : Nat) : QI C H { s with toks := t } := ⟨I.ok, I.bk, I.hok⟩
theorem QI.kept (I : QI C H s) (k : ∀ b u, s.heap.get? b = some u → s1.heap.get? b = some u) : QI C H s1 := ⟨I.ok, fun b o e => k b o (I.bk b o e), I.hok.kept k⟩
theorem cell_keeps {h0 h1 : Heap} {c : Addr} {u : Option Value} (i : h0.IsCell c u) (k : ∀ b o, h0.get? b = some o → h1.get? b = some o) : h1.IsCell c u := by
  obtain ⟨o, e, r⟩ := i
  exact ⟨o, k _ _ e, r⟩
theorem QN.keeps {h0 h1 : Heap} (q : QN C σ h0) (k : ∀ b o, h0.get? b = some o → h1.get? b = some o) : QN C σ h1 := by
  obtain ⟨m, hn, hl⟩ := q
  refine ⟨m, hn.keeps k, fun i x v e1 e2 e3 => ?_⟩
  obtain ⟨u, r, l⟩ := hl i x v e1 e2 e3
  refine ⟨u, r, ?_⟩
  rcases l with ⟨hk, hm⟩ | ⟨hk, c, hc, hi⟩
  · exact .inl ⟨hk, hm⟩
  · exact .inr ⟨hk, c, hc, cell_keeps hi k⟩
/-- the slots' data -/
def QSl (C : QC) (G : Wd) (Y : List Addr) (H : Hp) (σ : L2.St) (Γ : Sl) : Prop := ∀ (i : Nat) d, Γ[i]? = some (some d) → ∃ v, σ[i]? = some (some v) ∧ Bw C.K G H Y v d
theorem Lv.ext (q : Lv Y H) (e : Ext H H') : Lv Y H' := fun a h => by
  obtain ⟨o, h1, h2⟩ := q a h
  exact ⟨o, e a o h1, h2⟩
theorem QSl.ext (q : QSl C G Y H σ Γ) (e : Ext H H') : QSl C G Y H' σ Γ := fun i d h => by
  obtain ⟨v, h1, h2⟩ := q i d h
  exact ⟨v, h1, h2.grow (.of e)⟩
/-- what comes of it: all that stood stands as it was -/
def QPost (C : QC) (G : Wd) (Y : List Addr) (s : Shared) (H : Hp) (d : D) (y : Value) (s' : Shared) : Prop := ∃ v H', RelV v y ∧ QI C H' s' ∧ Keeps s s' ∧ Ext H H' ∧ Bw C.K G H' Y v d
/-- e reads to d -/
def GQ (C : QC) (G : Wd) (e : Expr) (m : Sl → Re) : Prop := ∀ (A : Around) (E : Value → Shared → Prop) H s σ Γ Y d Γ' q, A.handled = none → QI C H s → QN C σ s.heap → QSl C G Y H σ Γ → Lv Y H → m Γ = .ok d Γ' q → Γ' = Γ ∧ wpAny (model C.prog C.w) A (eval e C.env) (QPost C G Y s H d) E s
theorem QPost.here (I : QI C H s1) (k : Keeps s s1) {u : Value} (r : RelV v u) (b : Bw C.K G H Y v d) : QPost C G Y s H d u s1 := ⟨v, H, r, I, k, fun _ _ e => e, b⟩
theorem bw_int (i : Int) {K : PySem.W.Frag} : Bw K G H Y (.int i) (.int i) := ⟨[], .fz .int⟩
theorem bw_bl (i : Bool) {K : PySem.W.Frag} : Bw K G H Y (.bl i) (.bl i) := ⟨[], .fz .bl⟩
theorem bw_str (i : Str) {K : PySem.W.Frag} : Bw K G H Y (.str i) (.str i) := ⟨[], .fz .str⟩
theorem QPost.int {i : Int} {tk : Tok} (I : QI C H s1) (k : Keeps s s1) : QPost C G Y s H (.int i) (.int i tk) s1 := QPost.here (v := .int i) I k ⟨_, rfl⟩ (bw_int i)
theorem QPost.bl {i : Bool} (I : QI C H s1) (k : Keeps s s1) : QPost C G Y s H (.bl i) (.bool i) s1 := QPost.here (v := .bl i) I k rfl (bw_bl i)
theorem QPost.str {i : Str} {tk : Tok} (I : QI C H s1) (k : Keeps s s1) : QPost C G Y s H (.str i) (.str i tk) s1 := QPost.here (v := .str i) I k ⟨_, rfl⟩ (bw_str i)
theorem gq_int {i j} {pos : Pos} : GQ C G (.Constant (.int i) j pos) (mVal (.int i)) := fun A E H s σ Γ Y d Γ' q hh I N S L e => by
  cases e
  exact ⟨rfl, wpAny_Constant_int (.int (I.tok _) (keeps_rf _ _))⟩
theorem gq_str {i j} {pos : Pos} : GQ C G (.Constant (.str i) j pos) (mVal (.str i)) := fun A E H s σ Γ Y d Γ' q hh I N S L e => by
  cases e
  exact ⟨rfl, Calls.Constant_str (.str (I.tok _) (keeps_rf _ _))⟩
theorem gq_var (i : Nat) {x : Str} {pos : Pos} (hN : C.N[i]? = some x := by rfl) (hv : Vis C.env.scope x := by first | exact Or.inl rfl | exact Or.inr (Or.inl rfl) | exact Or.inr (Or.inr rfl)) (hd : (x == ("__debug__" : Str)) = false := by decide) (hcd : (x == ("__classdict__" : Str)) = false := by decide) :
    GQ C G (.Name x pos) (mVar i) := fun A E H s σ Γ Y d Γ' q hh I N S L e => by
  unfold mVar at e
  cases h : Γ[i]? with
  | none => rw [h] at e; cases e
  | some o =>
    cases o with
    | none => rw [h] at e; cases e
    | some d' =>
      rw [h] at e
      cases e
      obtain ⟨v, h1, h2⟩ := S i d h
      obtain ⟨m, hn, hl⟩ := N
      obtain ⟨u, r, l⟩ := hl i x v hN h1 hv
      have fin : QPost C G Y s H d u s := .here I (keeps_id s) r h2
      refine ⟨rfl, ?_⟩
      rcases l with ⟨hk, hm⟩ | ⟨hk, c, hc, hcell⟩
      · exact wpAny_Name (wpAny_loadName_local I.ok.kind hk hn hm fin) hd
      · rcases hk with hk | hk
        · exact wpAny_Name (wpAny_loadName_cell I.ok.kind hk hc hcell fin) hd
        · exact wpAny_Name (wpAny_loadName_free I.ok.kind hk hc hcell fin hcd) hd
/-- f reckons g -/
def QOp (C : QC) (G : Wd) (f : Value → Value → Sem Value) (g : D → D → Option D) : Prop := ∀ (A : Around) (E : Value → Shared → Prop) H s Y x y v u da db d, A.handled = none → QI C H s → RelV x v → RelV y u → Bw C.K G H Y x da → Bw C.K G H Y y db → g da db = some d → wpAny (model C.prog C.w) A (f v u) (QPost C G Y s H d) E s
/-- both operands, one after the other -/
theorem q_two {a b : Expr} {ma mb : Sl → Re} {g : D → D → Option D} {f : Value → Value → Sem Value} {Γ' : Sl} {q : Bool} (ha : GQ C G a ma) (hb : GQ C G b mb) (hf : QOp C G f g) (hh : A.handled = none) (I : QI C H s) (N : QN C σ s.heap) (S : QSl C G Y H σ Γ) (L : Lv Y H) (e : m2 g ma mb Γ = .ok d Γ' q) :
    Γ' = Γ ∧ wpAny (model C.prog C.w) A (eval a C.env) (fun v s1 => wpAny (model C.prog C.w) A (eval b C.env) (fun u s2 => wpAny (model C.prog C.w) A (f v u) (QPost C G Y s H d) E s2) E s1) E s := by
  unfold m2 at e
  cases ea : ma Γ with
  | er => rw [ea] at e; cases e
  | st => rw [ea] at e; cases e
  | ok da Γ1 q1 =>
    rw [ea] at e
    simp only [Rg.bind] at e
    cases eb : mb Γ1 with
    | er => rw [eb] at e; cases e
    | st => rw [eb] at e; cases e
    | ok db Γ2 q2 =>
      rw [eb] at e
      simp only [Rg.gd] at e
      by_cases hg : (da.fz || q2) = true
      · rw [if_pos hg] at e
        simp only [Rg.of] at e
        cases eg : g da db with
        | none => rw [eg] at e; cases e
        | some d' =>
          rw [eg] at e
          cases e
          obtain ⟨rfl, wa⟩ := ha A E H s σ Γ Y da Γ1 q1 hh I N S L ea
          refine ⟨(hb A E H s σ Γ1 Y db Γ' q2 hh I N S L eb).1, ?_⟩
          refine wpAny_mono wa (fun v1 s1 ⟨x, H1, r1, I1, k1, e1, b1⟩ => ?_) fun _ _ e => e
          obtain ⟨_, wb⟩ := hb A E H1 s1 σ Γ1 Y db Γ' q2 hh I1 (N.keeps (keeps_heap k1)) (S.ext e1) (L.ext e1) eb
          refine wpAny_mono wb (fun v2 s2 ⟨y, H2, r2, I2, k2, e2, b2⟩ => ?_) fun _ _ e => e
          refine wpAny_mono (hf A E H2 s2 Y x y v1 v2 da db d hh I2 r1 r2 (b1.grow (.of e2)) b2 eg) (fun v3 s3 ⟨z, H3, r3, I3, k3, e3, b3⟩ => ?_) fun _ _ e => e
          exact ⟨z, H3, r3, I3, keeps_tr k1 (keeps_tr k2 k3), fun b o h => e3 b o (e2 b o (e1 b o h)), b3⟩
      · rw [if_neg hg] at e
        cases e
theorem gq_bin {op : Operator} {a b : Expr} {ma mb : Sl → Re} {g : D → D → Option D} {pos : Pos} (hf : QOp C G (binaryOp op) g) (ha : GQ C G a ma) (hb : GQ C G b mb) : GQ C G (.BinOp a op b pos) (m2 g ma mb) := fun A E H s σ Γ Y d Γ' q hh I N S L e => by
  obtain ⟨e1, w⟩ := q_two (E := E) ha hb hf hh I N S L e
  exact ⟨e1, wpAny_BinOp w⟩
theorem gq_cmp {op : CmpOp} {a b : Expr} {ma mb : Sl → Re} {g : D → D → Option D} {pos : Pos} (hf : QOp C G (compareOp op) g) (ha : GQ C G a ma) (hb : GQ C G b mb) (h1 : behindInMarks op b = false := by first | exact nobehind _ (by decide) (by decide) | rfl) : GQ C G (.Compare a [op] [b] pos) (m2 g ma mb) := fun A E H s σ Γ Y d Γ' q hh I N S L e => by
  obtain ⟨e1, w⟩ := q_two (E := E) ha hb hf hh I N S L e
  exact ⟨e1, wpAny_Compare1 w h1⟩
theorem qop_int {f : Value → Value → Sem Value} {g : D → D → Option D} (k : Int → Int → Int) (c : Int → Int → Prop) (hg : ∀ da db d, g da db = some d → ∃ i j, da = .int i ∧ db = .int j ∧ d = .int (k i j) ∧ c i j)
    (rule : ∀ (A : Around) (i j : Int) (t u : Tok) (s : Shared) (Q : Value → Shared → Prop) (E : Value → Shared → Prop), c i j → Q (.int (k i j) s.toks) { s with toks := s.toks + 1 } → wpAny (model C.prog C.w) A (f (.int i t) (.int j u)) Q E s) : QOp C G f g := by
  intro A E H s Y x y v u da db d hh I r1 r2 b1 b2 e
  obtain ⟨i, j, rfl, rfl, rfl, hc⟩ := hg da db d e
  cases b1.int
  cases b2.int
  obtain ⟨t, rfl⟩ := r1
  obtain ⟨t', rfl⟩ := r2
  exact rule A i j t t' s _ E hc (.int (I.tok _) (keeps_rf _ _))
def addQ : D → D → Option D
  | .int i, .int j => some (.int (i + j))
  | _, _ => none
def mulQ : D → D → Option D
  | .int i, .int j => if mulG i j = true then some (.int (i * j)) else none
  | _, _ => none
theorem q_add : QOp C G (binaryOp .Add) addQ := qop_int (fun i j => i + j) (fun _ _ => True) (fun da db d e => by
  unfold addQ at e
  split at e
  · cases e; exact ⟨_, _, rfl, rfl, rfl, trivial⟩
  · cases e) fun A i j t u s Q E _ q => add_int q
theorem q_mul : QOp C G (binaryOp .Mult) mulQ := qop_int (fun i j => i * j) (fun i j => L2.CMul i j) (fun da db d e => by
  unfold mulQ at e
  split at e
  · split at e
    · rename_i h
      cases e
      refine ⟨_, _, rfl, rfl, rfl, ?_⟩
      unfold mulG at h
      simp only [Bool.or_eq_true, Bool.and_eq_true, decide_eq_true_eq] at h
      exact h
    · cases e
  · cases e) fun A i j t u s Q E hc q => mul_int q hc.ok
end
end GL
namespace GL
open PySem PySem.Spec PyProof.Rows L2
section
variable {C : QC} {G : Wd} {H H' H1 H2 : Hp} {s s1 s2 : Shared} {σ : L2.St} {Γ Γ1 Γ2 : Sl} {Y : List Addr} {d da db : D} {A : Around} {E : Value → Shared → Prop} {v x y z : V} {m : Sl → Re} {ms : Sl → Rg (List D)} {e : Expr} {es : List Expr} {pos : Pos}
/-! ### fields -/
/-! ### several, one after the other -/
/-! ### abs -/
/-! ### what is read is a key -/
def D.atm : D → Bool
  | .int _ | .str _ | .bl _ => true
  | _ => false
def D.ktp : D → Bool
  | .nd _ .tup l => l.all D.atm
  | d => d.atm
end
end GL
namespace GL
open PySem PySem.Spec PyProof.Rows L2
/-! ### a lambda of one parameter that only reads -/
structure LamP (sc scope : Scope) (x : Str) : Prop where
  kind : scope.kind = .function
  co : scope.isCoroutine = false
  gen : scope.isGenerator = false
  loc : scope.names.lookup x = some .local
  cell : ∀ y ∈ scope.names, y.2 ≠ .cell
  own : ∀ y ∈ scope.names, y.2 = .local → y.1 = x
  free : ∀ y ∈ scope.names, y.2 = .free → sc.names.lookup y.1 = some .cell ∨ sc.names.lookup y.1 = some .free
  nil : scope.names.lookup ("" : Str) = none
/-- M: the def's names, those hidden by x told as "" -/
structure Hid (N M : List Str) (x : Str) : Prop where
  len : M.length = N.length
  at' : ∀ (i : Nat) y, M[i]? = some y → y = "" ∨ (N[i]? = some y ∧ y ≠ x ∧ y ≠ ".0")
def hidB (x : Str) : List Str → List Str → Bool
  | [], [] => true
  | a :: N, b :: M => (decide (b = "") || (decide (a = b) && !decide (b = x) && !decide (b = ".0"))) && hidB x N M
  | _, _ => false
theorem hid_by {x : Str} : ∀ {N M : List Str}, hidB x N M = true → Hid N M x
  | [], [], _ => ⟨rfl, fun i y h => by cases h⟩
  | [], _ :: _, h | _ :: _, [], h => by cases h
  | a :: N, b :: M, h => by
    unfold hidB at h
    simp only [Bool.and_eq_true, Bool.or_eq_true, Bool.not_eq_true', decide_eq_true_eq, decide_eq_false_iff_not] at h
    obtain ⟨h1, h2⟩ := h
    have ih := hid_by h2
    refine ⟨by rw [List.length_cons, List.length_cons, ih.len], fun i y hy => ?_⟩
    cases i with
    | zero =>
      cases hy
      rcases h1 with z | ⟨⟨z1, z2⟩, z3⟩
      · exact .inl z
      · exact .inr ⟨by rw [z1]; rfl, z2, z3⟩
    | succ i => exact ih.at' i y hy
section
variable {C : QC} {G : Wd} {H : Hp} {s s1 : Shared} {Y : List Addr} {d : D} {u : Value}
end
section
variable {X : Cx} {G : Wd} {pins : List (Addr × Obj)} {σ : L2.St} {H Hq : Hp} {s s2 : Shared} {Γ Γ' : Sl} {Y : List Addr} {d dv : D} {A : Around} {E : Value → Shared → Prop} {v : V} {u : Value} {scope : Scope} {x q1 : Str} {f c' : Addr} {q : Bool} {m : Sl → Re} {params : Arguments} {body : Expr} {pm ctv : Value}
end
end GL
namespace GL
open PySem PySem.Spec PyProof.Rows L2
/-! ### min(range(n), key=lambda x: ..) -/
section
variable {X : Cx} {G : Wd} {pins : List (Addr × Obj)} {σ : L2.St} {H : Hp} {s : Shared} {Γ : Sl} {Y : List Addr} {E : Value → Shared → Prop} {scope : Scope} {x : Str} {f c' r : Addr} {m : Sl → Re} {params : Arguments} {body : Expr} {pm ctv : Value} {t u v : Tok} {Q : Value → Shared → Prop} {k0 : Nat}
end
end GL
namespace GL
open PySem PySem.Spec PyProof.Rows L2
section
variable {X : Cx} {G : Wd} {pz : List Nat} {scope : Scope} {x : Str} {mn m : Sl → Re} {params : Arguments} {body en : Expr} {p p2 p3 pos lpos kpos : Pos} {c P : Addr} {k0 : Nat}
end
end GL
namespace GL
open PySem PySem.Spec PyProof.Rows L2
/-! ### constants, min of three, a number's place in a list -/
def min3I : List D → Option D
  | [.int i, .int j, .int k] => some (.int (min i (min j k)))
  | _ => none
section
variable {K : PySem.W.Frag} {G : Wd} {pz : List Nat} {Y : List Addr} {H : Hp} {X : Cx} {o e : Expr} {mo me : Sl → Re} {pos apos : Pos} {v : V} {vs : List V}
theorem ge_cst {x : Str} {d : D} {u : Value} (hk : ktV X.K u d = true) (hm : X.mg x = some u) (hg : Gl X x := by rfl) (hdb : (x == ("__debug__" : Str)) = false := by decide) : GE G pz X (.Name x pos) (mVal d) := by
  intro pn xe W σ H X0 pins F Q Γ tk ho q
  obtain ⟨v, r, -⟩ := ktV_ok (K := X.K) (G := G) (Y := X0 ++ F) (H := H) d u hk
  intro pins' s I
  refine ld_glob (X := X.tr pn xe) I hg hm ⟨v, H, I, r, ?_⟩ hdb
  obtain ⟨d', e, fr⟩ := fr_of (o := some d) ho q
  cases e
  obtain ⟨v2, r2, p2⟩ := ktV_ok (K := X.K) (G := G) (Y := (X0 ++ F) ++ []) (H := H) d u hk
  have hv : v2 = v := by
    have a := ktV_ok (K := X.K) (G := G) (Y := []) (H := H) d u hk
    cases d with
    | int i => cases p2; obtain ⟨w, rw1, pw⟩ := a; obtain ⟨t, rfl⟩ := r2; cases v <;> first | (obtain ⟨t', e'⟩ := r; cases e'; rfl) | (obtain ⟨t', e'⟩ := r; cases e') | cases r
    | str i => cases p2; obtain ⟨t, rfl⟩ := r2; cases v <;> first | (obtain ⟨t', e'⟩ := r; cases e'; rfl) | (obtain ⟨t', e'⟩ := r; cases e') | cases r
    | nd o k l => cases p2; cases r2; cases v <;> first | (obtain ⟨t', e'⟩ := r; cases e') | (cases r; rfl) | cases r
    | _ => unfold ktV at hk; split at hk <;> first | (rename_i e; cases e) | cases hk
  subst hv
  exact fr _ H [] (Grow.refl ..) (fun a z => by cases z) .nil (.fz p2)
theorem Bws.three {a b c : D} (h : Bws K G H Y vs [a, b, c]) : ∃ x y z, vs = [x, y, z] ∧ Bw K G H Y x a ∧ Bw K G H Y y b ∧ Bw K G H Y z c := by
  cases h with
  | cons r q =>
    obtain ⟨y, z, rfl, q1, q2⟩ := q.two
    exact ⟨_, _, _, rfl, r, q1, q2⟩
theorem call_min3 (hc : X.calm = true) : CallR X (.builtin "min") (fun xs H Q => ∃ i j k, xs = [.int i, .int j, .int k] ∧ Q (.int (min i (min j k))) H) := by
  intro pins s σ H xs us Q I r h
  obtain ⟨i, j, k, rfl, q⟩ := h
  cases r with
  | cons r1 r =>
    obtain ⟨u2, u3, rfl, ⟨t2, rfl⟩, ⟨t3, rfl⟩⟩ := vals2 r
    obtain ⟨t1, rfl⟩ := r1
    refine min_three_ints (I.ok.hd hc) fun h' tk kp => ⟨_, H, I.kept kp, ?_, q⟩
    by_cases c1 : j < i
    · by_cases c2 : k < j
      · rw [if_pos c1, if_pos c2]; exact ⟨_, by congr 1; omega⟩
      · rw [if_pos c1, if_neg c2]; exact ⟨_, by congr 1; omega⟩
    · by_cases c2 : k < i
      · rw [if_neg c1, if_pos c2]; exact ⟨_, by congr 1; omega⟩
      · rw [if_neg c1, if_neg c2]; exact ⟨_, by congr 1; omega⟩
def cMin3 (hc : X.calm = true) : CallF X G (.builtin "min") min3I := ⟨_, fun pn xe => call_min3 (X := X.tr pn xe) hc, fun ds d e Y H vs Q lv os q => by
  unfold min3I at e
  split at e
  · cases e
    obtain ⟨x, y, z, rfl, o1, o2, o3⟩ := os.three
    exact ⟨_, _, _, by rw [o1.int, o2.int, o3.int], q.val .int⟩
  · cases e⟩
end
end GL
namespace GL
open PySem PySem.Spec PyProof.Rows L2
/-! ### any, all of a generator expression that only reads, over a list or a tuple -/
structure GenP (sc scope : Scope) (x : Str) : Prop where
  kind : scope.kind = .function
  co : scope.isCoroutine = false
  loc : scope.names.lookup x = some .local
  dot : scope.names.lookup (".0" : Str) = some .local
  cell : ∀ y ∈ scope.names, y.2 ≠ .cell
  own : ∀ y ∈ scope.names, y.2 = .local → y.1 = x ∨ y.1 = ".0"
  free : ∀ y ∈ scope.names, y.2 = .free → sc.names.lookup y.1 = some .cell ∨ sc.names.lookup y.1 = some .free
  nil : scope.names.lookup ("" : Str) = none
def genPB (sc scope : Scope) (x : Str) : Bool :=
  decide (scope.kind = .function) && !scope.isCoroutine && decide (scope.names.lookup x = some .local) && decide (scope.names.lookup ("" : Str) = none) && decide (scope.names.lookup (".0" : Str) = some .local) && scope.names.all fun y => !decide (y.2 = .cell) && (!decide (y.2 = .local) || decide (y.1 = x) || decide (y.1 = ".0")) && (!decide (y.2 = .free) || decide (sc.names.lookup y.1 = some .cell) || decide (sc.names.lookup y.1 = some .free))
theorem genP_by {sc scope : Scope} {x : Str} (h : genPB sc scope x = true) : GenP sc scope x := by
  unfold genPB at h
  simp only [Bool.and_eq_true, Bool.or_eq_true, Bool.not_eq_true', decide_eq_true_eq, decide_eq_false_iff_not, List.all_eq_true] at h
  obtain ⟨⟨⟨⟨⟨h1, h2⟩, h4⟩, h6⟩, h3⟩, h5⟩ := h
  refine ⟨h1, h2, h4, h3, fun y hy => (h5 y hy).1.1, fun y hy e => ?_, fun y hy e => ?_, h6⟩
  · rcases (h5 y hy).1.2 with (z | z) | z
    · exact absurd e z
    · exact .inl z
    · exact .inr z
  · rcases (h5 y hy).2 with (z | z) | z
    · exact absurd e z
    · exact .inl z
    · exact .inr z
/-- the reader of the element's text -/
abbrev QGen (X : Cx) (scope : Scope) (M : List Str) (x : Str) (L : Addr) (code : Value) : QC := ⟨X.prog, X.w, X.K, X.mg, X.base, genEnv scope (cloFrom X.env.cells scope.names []) L code builtinsNs X.env, M ++ [x]⟩
section
variable {X : Cx} {pins : List (Addr × Obj)} {σ : L2.St} {H : Hp} {s : Shared} {T : List (Addr × Str)} {c P : Addr} {gpos : Pos} {scope : Scope} {E : Value → Shared → Prop} {q : Str}
/-- the generator expression's code object: found in the table, or a new one -/
theorem gen_code {o : Obj} (I : Inv X pins σ H s) (TB : LamX.TabB X.base X.mg c P) (hcode : X.env.code = .ref c) {q0 : Str} (hm : (P, q0) ∈ T) (hu : (∀ r ∈ T, r.1 = P → r.2 = q0) ∧ (q0 = q ∨ q0 = "")) (hT : GL.Tabs T H) :
    wpAny (model X.prog X.w) X.A (genexprCode X.env gpos q scope) (fun code s3 => ∃ h3 tk H2, s3 = { s with heap := h3, toks := tk } ∧ LamX.ExtN H H2 ∧ GL.Tabs T H2 ∧ Heap.ExtBut P (s.heap.push o) h3 ∧ (s.heap.push o).objs.size ≤ h3.objs.size ∧
      ∀ h' t', (∀ b u, b ≠ s.heap.objs.size → h3.get? b = some u → h'.get? b = some u) → Inv X pins σ H2 { s with heap := h', toks := t' }) E { s with heap := s.heap.push o } := by
  obtain ⟨ps, hP, ht, ha⟩ := hT _ hm
  have pS := I.hok P _ hP
  have pS : s.heap.get? P = some { cls := .none, data := .fields ps } := pS
  have pN : P ≠ s.heap.objs.size := Nat.ne_of_lt (Heap.lt_size pS)
  have cd : PySem.W.CodeHd (s.heap.push o) c P := TB.code.keeps fun b u e => Heap.get?_push_of_some _ (I.bk b u e)
  have pS2 : (s.heap.push o).get? P = some { cls := .none, data := .fields ps } := Heap.get?_push_of_some _ pS
  have nI : ∀ b u, s.heap.get? b = some u → b ≠ s.heap.objs.size := fun b u e => Nat.ne_of_lt (Heap.lt_size e)
  have szp : (s.heap.push o).objs.size = s.heap.objs.size + 1 := Heap.size_push ..
  cases hf : codeAmong gpos ps.toList with
  | none =>
    refine wpAny_genexprCodeX hcode (cd.code pS2 ht) (cd.tab pS2) hf fun c' h3 tk hx hge hlt _ hrec htab _ => ?_
    have cge : s.heap.objs.size ≤ c' := by
      have : (s.heap.objs.size : Nat) + 1 ≤ c' := by rw [← szp]; exact hge
      exact Nat.le_of_succ_le this
    have cne : c' ≠ s.heap.objs.size := by
      have : (s.heap.objs.size : Nat) + 1 ≤ c' := by rw [← szp]; exact hge
      exact Nat.ne_of_gt this
    obtain ⟨tx, tt⟩ := tabs_add (gpos := gpos) (c' := c') (q := q) hm hu hT hP (I.hok.fresh cge)
    refine ⟨h3, tk, _, rfl, tx, tt, hx, Nat.le_trans hge (Nat.le_of_lt hlt), fun h' t' k => ?_⟩
    obtain ⟨d, oc, vs, t, e2, hoc, hd, hv⟩ := hrec
    cases e2
    exact LamX.inv_table I hP (fun b u hb e => k b u (nI b u e) (hx b u hb (Heap.get?_push_of_some _ e))) (k P _ pN htab.2) cge ⟨oc, vs, t, k _ _ cne hoc, hd, hv⟩
  | some cv =>
    refine wpAny_genexprCode_hit hcode (cd.code pS2 ht) hf ?_
    refine ⟨s.heap.push o, s.toks, H, rfl, LamX.ExtN.refl H, hT, Heap.ExtBut.refl _ _, Nat.le_refl _, fun h' t' k => ?_⟩
    exact I.kept fun b u e => k b u (nI b u e) (Heap.get?_push_of_some _ e)
/-- generators do not matter to what is held -/
theorem inv_gens {g' : Array GenState} {d' : Drawn} {ps : Array Value} (I : Inv X pins σ H s) (hP : H P = some (.tbl ps)) (hg : AllBare g') : Inv X pins σ H { s with gens := g', drawn := d' } := by
  have J := GxR.inv_tab (g' := g') (d' := d') (t' := s.toks) (h' := s.heap) (more := #[]) I hP (fun _ _ _ e => e) (by rw [Array.append_empty]; exact I.hok P _ hP) hg
  have e : upd H P (.tbl (ps ++ #[])) = H := by
    funext b
    by_cases hb : b = P
    · rw [hb, upd_same, Array.append_empty, hP]
    · rw [upd_ne hb]
  rw [e] at J
  exact J
end
/-- how the walked thing is gone through: o, its iterator, to be pushed; n items -/
structure ItD (X : Cx) (P : Addr) (s : Shared) (o : Obj) (fx : List Addr) (n : Nat) (Pf : Nat → Value → Prop) (St : Nat → Heap → Prop) : Prop where
  w : ∀ A' : Around, A'.handled = none → Walks X.prog X.w A' s.heap.objs.size (s.heap.objs.size :: fx) [s.heap.objs.size] n Pf St
  st : ∀ h' : Heap, (∀ b u, b ≠ P → (s.heap.push o).get? b = some u → h'.get? b = some u) → St 0 h'
  lt : ∀ b ∈ fx, b < s.heap.objs.size
section
variable {X : Cx} {G : Wd} {pins : List (Addr × Obj)} {σ : L2.St} {H : Hp} {s : Shared} {c P : Addr} {gpos px : Pos} {scope : Scope} {E : Value → Shared → Prop} {x : Str} {elt iter : Expr} {k : Nat} {m : Sl → Re} {Γ : Sl} {ds : List D} {bs : List Bool} {vs : List V} {fx : List Addr} {Pf : Nat → Value → Prop} {St : Nat → Heap → Prop} {o : Obj} {xv : Value} {Y : List Addr} {Q : Value → Shared → Prop} {M : List Str}
/-- the test at place j -/
def bAt (bs : List Bool) (j : Nat) : Bool := bs.getD j false
theorem any_bAt (bs : List Bool) : (List.range bs.length).any (bAt bs) = bs.any id := by
  rw [Bool.eq_iff_iff, List.any_eq_true, List.any_eq_true]
  constructor
  · intro ⟨j, hj, h⟩
    have hj := List.mem_range.mp hj
    unfold bAt at h
    rw [List.getD_eq_getElem?_getD, List.getElem?_eq_getElem hj] at h
    exact ⟨bs[j], List.getElem_mem hj, h⟩
  · intro ⟨b, hb, h⟩
    obtain ⟨j, hj, e⟩ := List.getElem_of_mem hb
    refine ⟨j, List.mem_range.mpr hj, ?_⟩
    unfold bAt
    rw [List.getD_eq_getElem?_getD, List.getElem?_eq_getElem hj, e]
    exact h
/-- the generator is walked: its tests are bs; behind it Hv holds -/
def Rdy (X : Cx) (pins : List (Addr × Obj)) (σ : L2.St) (T : List (Addr × Str)) (H : Hp) (bs : List Bool) (g : Addr) (s5 : Shared) : Prop :=
  ∃ (fp wr : List Addr) (Gs : Array GenState → Array GenState → Prop) (F : Nat → Value → Prop) (Sx : Nat → Shared → Prop) (H2 : Hp),
    WalksS X.prog X.w X.A.in1 g fp wr Gs bs.length F Sx ∧ Sx 0 s5 ∧ TruthOf X.prog X.w X.A.in1 F (bAt bs) ∧ LamX.ExtN H H2 ∧ GL.Tabs T H2 ∧ ∀ s', Moved wr Gs s5 s' → Inv X pins σ H2 s'
theorem gen_run (ok : X.Ok) (hr : Room k X.A) (TB : LamX.TabB X.base X.mg c P) (hcode : X.env.code = .ref c) {q0 : Str} (hm : (P, q0) ∈ G.T) (hu : (∀ r ∈ G.T, r.1 = P → r.2 = q0) ∧ (q0 = X.env.qual ++ "<genexpr>" ∨ q0 = ""))
    (L : GenP X.env.scope scope x) (hx : Hid X.N M x) (hb : ∀ L0 cv, GQ (QGen X scope M x L0 cv) G elt m)
    (hs : ∀ v, genFold iter X.env v = pure v) (he : wpAny (model X.prog X.w) X.A (eval iter X.env) (fun xv s1 => ∃ (H : Hp) (Γ : Sl) (Y : List Addr) (ds : List D) (bs : List Bool) (vs : List V) (fx : List Addr) (Pf : Nat → Value → Prop) (St : Nat → Heap → Prop) (o : Obj), Inv X pins σ H s1 ∧ GL.Tabs G.T H ∧
      (∀ Q', Q' (.ref s1.heap.objs.size) { s1 with heap := s1.heap.push o } → wpAny (model X.prog X.w) X.A (pyIter xv) Q' E s1) ∧ ItD X P s1 o fx bs.length Pf St ∧
      (∀ (i : Nat) v, Pf i v → ∃ w d, vs[i]? = some w ∧ RelV w v ∧ ds[i]? = some d) ∧
      (∀ H2, LamX.ExtN H H2 → GL.Tabs G.T H2 → (∀ (i : Nat) d, Γ[i]? = some (some d) → ∃ v, σ[i]? = some (some v) ∧ Bw X.K G H2 Y v d) ∧ Lv Y H2 ∧ (∀ (i : Nat) w d, vs[i]? = some w → ds[i]? = some d → Bw X.K G H2 Y w d)) ∧ Γ.length = σ.length ∧
      (∀ (i : Nat) d, ds[i]? = some d → ∃ Γ' q b, m (Γ ++ [some d]) = .ok (.bl b) Γ' q ∧ bs[i]? = some b) ∧
      ∀ g s5, Rdy X pins σ G.T H bs g s5 → Q (.ref g) s5) E s) : wpAny (model X.prog X.w) X.A (eval (.GeneratorExp elt [⟨.Name x px, iter, [], 0⟩] scope gpos) X.env) Q E s := by
  refine wpAny_GeneratorExp_walksQ hr.hd L.co (closure_ok fun y hy e => ok.has y.1 (L.free y hy e)) L.cell L.dot L.loc L.kind (by have := hr.dp; omega) ?_ hs
  refine wpAny_mono he (fun v s1 h1 => ?_) fun _ _ e => e
  obtain ⟨H, Γ, Y, ds, bs, vs, fx, Pf, St, o, I, hT, hit, D, hPf, hS, hlen, hbs, hQ⟩ := h1
  refine hit _ ⟨I.nolimit.push o, ?_⟩
  refine wpAny_mono (gen_code (o := o) (gpos := gpos) (scope := scope) I TB hcode hm hu hT) (fun code s3 h3 => ?_) fun _ _ e => e
  obtain ⟨h3, tk, H2, rfl, tx, tt, hx3, hsz, mk⟩ := h3
  have szp : (s1.heap.push o).objs.size = s1.heap.objs.size + 1 := Heap.size_push ..
  have lt3 : s1.heap.objs.size < h3.objs.size := by
    have : (s1.heap.objs.size : Nat) + 1 ≤ h3.objs.size := by rw [← szp]; exact hsz
    exact this
  have J3 := mk h3 tk fun _ _ _ e => e
  obtain ⟨bm, ob, b1, b2, b3, b4, b5, b6, b7, b8⟩ := TB.bm
  have bg : ({ s1 with heap := h3, toks := tk } : Shared).heap.Ns X.env.globals X.mg := by
    rw [I.ok.glob]
    exact I.mod.glob.keeps J3.bk
  refine wpAny_builtinsFor (m := X.mg) bg b1 b2 (J3.bk _ _ b5) b6 b7 b8 ?_
  obtain ⟨sS, sL, sV⟩ := hS H2 tx tt
  have hcl : cStatics ≠ s1.heap.objs.size := by
    obtain ⟨_, hn, _⟩ := I.nolimit
    exact Nat.ne_of_lt hn.lt
  refine ⟨s1.heap.objs.size, s1.heap.objs.size :: fx, [s1.heap.objs.size], bs.length, Pf, St, fun _ => true, fun i y => ∃ b, bs[i]? = some b ∧ y = .bool b, rfl, D.w, D.st h3 fun b u hb e => hx3 b u hb e, ?_, J3.nolimit, ?_, ?_, ?_⟩
  · intro b hb
    rcases List.mem_cons.mp hb with z | z
    · rw [z]; exact lt3
    · exact Nat.lt_trans (D.lt b z) lt3
  · intro z
    rcases List.mem_cons.mp z with z | z
    · exact hcl z
    · cases z
  · intro href hk
    refine ⟨fun A' E' i v s2 m2 hA hv hn hm hkp => ?_, fun A' E' i v s2 m2 hA hv _ hn hm hkp => ?_⟩
    · simp only [List.forIn_nil]
      exact wpAny_pure ⟨rfl, keeps_id _⟩
    · obtain ⟨w, d, hw, rw1, hd⟩ := hPf i v hv
      obtain ⟨Γ', q, b, hmq, hbi⟩ := hbs i d hd
      have kp : ∀ b u, b ≠ s1.heap.objs.size → h3.get? b = some u → s2.heap.get? b = some u := fun b u hb e =>
        hkp b (List.mem_range.mpr (Heap.lt_size e)) (fun z => by
          rcases List.mem_cons.mp z with z | z
          · exact hb z
          · cases z) u (hk b u e)
      have J := mk s2.heap s2.toks kp
      have I0 : QI (QGen X scope M x h3.objs.size code) H2 s2 := ⟨⟨I.ok.mod, L.kind, I.ok.glob, rfl⟩, J.bk, J.hok⟩
      have N0 : QN (QGen X scope M x h3.objs.size code) (σ ++ [some w]) s2.heap := by
        refine ⟨m2, hn, fun j y u e1 e2 e3 => ?_⟩
        have hl := I.len
        have hM := hx.len
        by_cases hj : j < X.N.length
        · have e1 : (M ++ [x])[j]? = some y := e1
          rw [List.getElem?_append_left (by omega)] at e1
          rw [List.getElem?_append_left (by omega)] at e2
          rcases hx.at' j y e1 with z0 | ⟨e1, y1, y0⟩
          · subst z0
            exfalso
            have n0 := L.nil
            rcases e3 with z | z | z <;> (rw [show (genEnv scope (cloFrom X.env.cells scope.names []) h3.objs.size code builtinsNs X.env).scope = scope from rfl, n0] at z; cases z)
          have hfree : scope.names.lookup y = some .free := by
            rcases e3 with z | z | z
            · rcases L.own _ (PySem.mem_of_lookup z) rfl with q | q
              · exact absurd q y1
              · exact absurd q y0
            · exact absurd rfl (L.cell _ (PySem.mem_of_lookup z))
            · exact z
          have hsc := L.free _ (PySem.mem_of_lookup hfree) rfl
          obtain ⟨m0, _, hl0⟩ := J.loc
          obtain ⟨u', r', l'⟩ := hl0 j y u e1 e2 (.inr hsc)
          refine ⟨u', r', .inr ⟨.inr hfree, ?_⟩⟩
          rcases l' with ⟨hk1, _⟩ | ⟨_, c1, hc, hic⟩
          · have hk1 : X.env.scope.names.lookup y = some .local := hk1
            rcases hsc with z | z <;> (rw [hk1] at z; cases z)
          · obtain ⟨c2, hc2⟩ := mem_lookup (cloFrom_has (cells := X.env.cells) (acc := []) (PySem.mem_of_lookup hfree))
            have : c2 = c1 := by
              rcases cloFrom_mem (PySem.mem_of_lookup hc2) with hm' | ⟨_, h2⟩
              · cases hm'
              · rw [h2, hc] <;> rfl
            subst this
            exact ⟨c2, hc2, hic⟩
        · have e1 : (M ++ [x])[j]? = some y := e1
          rw [List.getElem?_append_right (by omega), hM] at e1
          have j0 : j - X.N.length = 0 := by
            cases h0 : j - X.N.length with
            | zero => rfl
            | succ n => rw [h0] at e1; cases e1
          rw [j0] at e1
          cases e1
          rw [List.getElem?_append_right (by omega), hl, j0] at e2
          cases e2
          exact ⟨v, rw1, .inl ⟨L.loc, hm⟩⟩
      have S0 : QSl (QGen X scope M x h3.objs.size code) G Y H2 (σ ++ [some w]) (Γ ++ [some d]) := by
        intro j dd hdd
        by_cases hj : j < Γ.length
        · rw [List.getElem?_append_left hj] at hdd
          obtain ⟨v', h1, h2⟩ := sS j dd hdd
          exact ⟨v', by rw [List.getElem?_append_left (by omega)]; exact h1, h2⟩
        · rw [List.getElem?_append_right (by omega)] at hdd
          have hj2 : j - Γ.length = 0 := by
            cases h0 : j - Γ.length with
            | zero => rfl
            | succ m' => rw [h0] at hdd; cases hdd
          rw [hj2] at hdd
          cases hdd
          exact ⟨w, by rw [List.getElem?_append_right (by omega), ← hlen, hj2]; rfl, sV i w d hw hd⟩
      refine wpAny_mono (hb h3.objs.size code A' E' H2 s2 (σ ++ [some w]) (Γ ++ [some d]) Y (.bl b) Γ' q hA I0 N0 S0 sL hmq).2 (fun y s9 hp => ?_) fun _ _ e => e
      obtain ⟨v9, _, r9, _, k9, _, b9⟩ := hp
      have := b9.bl
      subst this
      cases r9
      exact ⟨⟨b, hbi, rfl⟩, k9⟩
  · intro g h5 tk5 gs hgb hag hsz5 hk5 W5 hat
    simp only [GxR.passing_true, List.length_range] at W5
    refine hQ g _ ⟨_, _, _, _, _, H2, W5.in4_1, hat, ?_, tx, tt, fun s' hmv => ?_⟩
    · intro j y sj Qj Ej hy hQj
      obtain ⟨i, hij, b, hbi, rfl⟩ := hy
      obtain ⟨hj, ej⟩ := List.getElem?_eq_some_iff.mp hij
      rw [List.getElem_range] at ej
      subst ej
      have hQ2 : Qj (bAt bs j) sj := hQj
      unfold bAt at hQ2
      rw [List.getD_eq_getElem?_getD, hbi] at hQ2
      exact wpAny_truthy_bool hQ2
    · have kp : ∀ b u, b ≠ s1.heap.objs.size → h3.get? b = some u → s'.heap.get? b = some u := fun b u hb e => by
        refine hmv.heap b u (fun z => ?_) (hk5 b u e)
        rcases List.mem_cons.mp z with z | z
        · rw [z] at e
          exact Nat.lt_irrefl _ (Heap.lt_size e)
        · rcases List.mem_cons.mp z with z | z
          · exact hb z
          · cases z
      have J := mk s'.heap s'.toks kp
      obtain ⟨ps2, hP2, _⟩ := tt _ hm
      have J2 := inv_gens (g' := s'.gens) (d' := s'.drawn) J hP2 (AllBare.movedS (I.bare.push hgb) hmv)
      have e : ({ s1 with heap := s'.heap, gens := s'.gens, drawn := s'.drawn, toks := s'.toks } : Shared) = s' := GxR.sh_eta s1 s' hmv.os
      rw [← e]
      exact J2
end
end GL
namespace GL
open PySem PySem.Spec PyProof.Rows L2
def boolsD (m : Sl → Re) (Γ : Sl) : List D → Option (List Bool)
  | [] => some []
  | d :: ds => match m (Γ ++ [some d]) with
    | .ok (.bl b) _ _ => (boolsD m Γ ds).map (b :: ·)
    | _ => none
def gxD (f : List Bool → Bool) (m : Sl → Re) (Γ : Sl) (d : D) : Option D := match d.seq with
  | some l => (boolsD m Γ l).map fun bs => .bl (f bs)
  | none => none
def anyB (bs : List Bool) : Bool := bs.any id
def mGx (f : List Bool → Bool) (mi m : Sl → Re) : Sl → Re := fun Γ => (mi Γ).bind fun d Γ1 => .of (gxD f m Γ1 d) Γ1
theorem boolsD_get {m : Sl → Re} {Γ : Sl} : ∀ {l : List D} {bs : List Bool}, boolsD m Γ l = some bs → bs.length = l.length ∧ ∀ (i : Nat) d, l[i]? = some d → ∃ Γ' q b, m (Γ ++ [some d]) = .ok (.bl b) Γ' q ∧ bs[i]? = some b
  | [], bs, h => by cases h; exact ⟨rfl, fun i d h => by cases h⟩
  | e :: l, bs, h => by
    unfold boolsD at h
    split at h
    · rename_i b Γ1 q1 hm
      cases hl : boolsD m Γ l with
      | none => rw [hl] at h; cases h
      | some cs =>
        rw [hl] at h
        cases h
        obtain ⟨h1, h2⟩ := boolsD_get hl
        refine ⟨by rw [List.length_cons, List.length_cons, h1], fun i d hd => ?_⟩
        cases i with
        | zero => cases hd; exact ⟨Γ1, q1, b, hm, rfl⟩
        | succ i => exact h2 i d hd
    · cases h
section
variable {X : Cx} {G : Wd} {pz : List Nat} {scope : Scope} {x : Str} {mi m : Sl → Re} {elt iter : Expr} {p px pos gpos : Pos} {c P : Addr} {k0 : Nat} {pins : List (Addr × Obj)} {σ : L2.St} {H : Hp} {s : Shared} {K : PySem.W.Frag} {vs : List V} {ds : List D} {Y : List Addr} {M : List Str}
theorem vals_at {us : List Value} (r : Vals vs us) {i : Nat} {v : Value} (h : us.toArray[i]? = some v) : ∃ w, vs[i]? = some w ∧ RelV w v := by
  have h2 : us[i]? = some v := by simpa using h
  have hi := (List.getElem?_eq_some_iff.mp h2).1
  have hl := r.length
  have hw : vs[i]? = some (vs[i]'(by omega)) := List.getElem?_eq_getElem _
  obtain ⟨u, hu, ru⟩ := r.get hw
  rw [h2] at hu
  cases hu
  exact ⟨_, hw, ru⟩
/-- a list, a tuple that stands is gone through -/
theorem seq_itd {q : Addr} {ps : Array Value} (I : Inv X pins σ H s) (hP : H P = some (.tbl ps)) (h : SqL X.K H q vs ∨ SqT X.K H q vs) (hn : ds.length = vs.length) :
    ∃ o fx Pf St, (∀ (E : Value → Shared → Prop) (Q' : Value → Shared → Prop), Q' (.ref s.heap.objs.size) { s with heap := s.heap.push o } → wpAny (model X.prog X.w) X.A (pyIter (.ref q)) Q' E s) ∧ ItD X P s o fx vs.length Pf St ∧ ∀ (i : Nat) v, Pf i v → ∃ w d, vs[i]? = some w ∧ RelV w v ∧ ds[i]? = some d := by
  have pS : s.heap.get? P = some { cls := .none, data := .fields ps } := I.hok P _ hP
  have plt : P < s.heap.objs.size := Heap.lt_size pS
  have dd : ∀ (i : Nat) w, vs[i]? = some w → ∃ d, ds[i]? = some d := fun i w e => by
    have := (List.getElem?_eq_some_iff.mp e).1
    exact ⟨_, List.getElem?_eq_getElem (by omega)⟩
  rcases h with h | h
  · obtain ⟨its, rv, hl, _⟩ := I.list h
    have il := hl.isList
    have ne : q ≠ P := fun z => by
      obtain ⟨_, e, _, _, e2⟩ := il
      rw [z, pS] at e
      cases e
      cases e2
    have qlt : q < s.heap.objs.size := by
      obtain ⟨_, e, _⟩ := il
      exact Heap.lt_size e
    have sz : its.toArray.size = vs.length := by rw [List.size_toArray, rv.length]
    refine ⟨{ cls := .type "list_iterator", data := .fields #[.ref q, .int 0 0] }, [q], fun i v => its.toArray[i]? = some v, fun i h' => h'.IsListIter s.heap.objs.size q i ∧ h'.IsList q its.toArray, fun E Q' hq => wpAny_pyIter_list il hq, ?_, fun i v hv => ?_⟩
    · rw [← sz]
      refine ⟨fun A' hA => Walks.list hA _ _ (Nat.ne_of_lt qlt) _, fun h' hk => ⟨⟨_, hk _ _ (Nat.ne_of_gt plt) (Heap.get?_push_size _ rfl), rfl, rfl⟩, ?_⟩, fun b hb => ?_⟩
      · obtain ⟨ob, e, r⟩ := il
        exact ⟨ob, hk _ _ ne (Heap.get?_push_of_some _ e), r⟩
      · rw [List.mem_singleton.mp hb]; exact qlt
    · obtain ⟨w, hw, r⟩ := vals_at rv hv
      obtain ⟨d, hd⟩ := dd i w hw
      exact ⟨w, d, hw, r, hd⟩
  · obtain ⟨its, rv, il, _⟩ := I.tuple h
    have il : s.heap.IsTuple q its.toArray := il
    have ne : q ≠ P := fun z => by
      obtain ⟨_, e, _, _, e2⟩ := il
      rw [z, pS] at e
      cases e
      cases e2
    have qlt : q < s.heap.objs.size := by
      obtain ⟨_, e, _⟩ := il
      exact Heap.lt_size e
    have sz : its.toArray.size = vs.length := by rw [List.size_toArray, rv.length]
    refine ⟨{ cls := .type "tuple_iterator", data := .fields #[.ref q, .int 0 0] }, [q], fun i v => its.toArray[i]? = some v, fun i h' => h'.IsTupleIter s.heap.objs.size q i ∧ h'.IsTuple q its.toArray, fun E Q' hq => wpAny_pyIter_tuple il hq, ?_, fun i v hv => ?_⟩
    · rw [← sz]
      refine ⟨fun A' hA => Walks.tuple hA _ _ (Nat.ne_of_lt qlt) _, fun h' hk => ⟨⟨_, hk _ _ (Nat.ne_of_gt plt) (Heap.get?_push_size _ rfl), rfl, rfl⟩, ?_⟩, fun b hb => ?_⟩
      · obtain ⟨ob, e, r⟩ := il
        exact ⟨ob, hk _ _ ne (Heap.get?_push_of_some _ e), r⟩
      · rw [List.mem_singleton.mp hb]; exact qlt
    · obtain ⟨w, hw, r⟩ := vals_at rv hv
      obtain ⟨d, hd⟩ := dd i w hw
      exact ⟨w, d, hw, r, hd⟩
/-- the call's argument, the generator, ready -/
theorem gx_run {f : List Bool → Bool} {X0 : List Addr} {ppins : Nat → V} {F : List Addr} {W : WX} {Γ : Sl} {Q : VK} {Q' : Value → Shared → Prop} (hi : GO G pz X iter mi) (TB : LamX.TabB X.base X.mg c P) (hcode : X.env.code = .ref c) {q0 : Str} (hmT : (P, q0) ∈ G.T) (hu : (∀ r ∈ G.T, r.1 = P → r.2 = q0) ∧ (q0 = X.env.qual ++ "<genexpr>" ∨ q0 = "")) (hr : Room k0 X.A)
    (hb : ∀ L0 cv, GQ (QGen X scope M x L0 cv) G elt m) (L : GenP X.env.scope scope x) (hx : Hid X.N M x) (hs : ∀ pn xe v, genFold iter (X.tr pn xe).env v = pure v) (pn xe) (tk : Takes (X.tr pn xe) W) (ho : Hold X.K G pz X0 ppins Γ σ H F)
    (q : RgPost X.K G pz X0 ppins F H σ W (VPost X.K G pz X0 ppins F H σ Q) (mGx f mi m Γ)) (I : Inv (X.tr pn xe) pins σ H s)
    (fin : ∀ bs H1 g s5, Rdy (X.tr pn xe) pins σ G.T H1 bs g s5 → (∀ H2, LamX.ExtN H1 H2 → GL.Tabs G.T H2 → Q (.bl (f bs)) H2) → Q' (.ref g) s5) :
    wpAny (model (X.tr pn xe).prog (X.tr pn xe).w) (X.tr pn xe).A (eval (.GeneratorExp elt [⟨.Name x px, iter, [], 0⟩] scope gpos) (X.tr pn xe).env) Q' (X.tr pn xe).xe s := by
  have run := hi pn xe W σ H X0 ppins F (fun v H1 => ∃ Γ1 F1 d l bs, d.seq = some l ∧ boolsD m Γ1 l = some bs ∧ Bw X.K G H1 (X0 ++ F1) v d ∧ Hold X.K G pz X0 ppins Γ1 σ H1 F1 ∧ FrQ X.K G H1 (X0 ++ F1) (.bl (f bs)) Q) Γ tk ho (q.bind fun d Γ1 q1 e0 p1 v H1 F1 s1 ho1 o1 qt1 => by
    clear e0
    obtain ⟨d', e, fr⟩ := fr_of ho1 (p1.vaft s1 qt1)
    unfold gxD at e
    split at e
    · rename_i l hl
      cases hb : boolsD m Γ1 l with
      | none => rw [hb] at e; cases e
      | some bs =>
        rw [hb] at e
        cases e
        exact ⟨Γ1, F1, d, l, bs, hl, hb, o1, ho1, fr⟩
    · cases e)
  refine gen_run (X := X.tr pn xe) (k := k0) (pins := pins) (σ := σ) (Q := Q') I.ok hr TB hcode hmT hu L hx hb (hs pn xe) (thn (run pins s I) fun u s1 ⟨v, H1, I1, r1, Γ1, F1, d, l, bs, hl, hbs, o1, ho1, fr⟩ => ?_)
  obtain ⟨p, vs, rfl, sq, rp⟩ := o1.seq hl
  cases r1
  obtain ⟨ps, hP, _⟩ := ho1.tb _ hmT
  obtain ⟨b1, b2⟩ := boolsD_get hbs
  have hlen := rp.length
  obtain ⟨o, fx, Pf, St, i1, i2, i3⟩ := seq_itd (ds := l) I1 hP sq hlen.symm
  refine ⟨H1, Γ1, X0 ++ F1, l, bs, vs, fx, Pf, St, o, I1, ho1.tb, fun Q2 h => i1 _ Q2 h, by rw [b1, ← hlen]; exact i2, i3, fun H2 ex tb => ?_, ?_, b2, fun g s5 hR => fin bs H1 g s5 hR fun H2 ex tb => fr _ H2 [] ⟨ex, fun _ => tb⟩ (fun a z => by cases z) .nil (.fz .bl)⟩
  · have g2 : Grow G H1 H2 := ⟨ex, fun _ => tb⟩
    have ho2 := ho1.grow g2
    refine ⟨fun i d hd => ?_, ho2.liveX, fun i w d hw hd => ?_⟩
    · obtain ⟨v, Fv, h1, h2⟩ := ho2.var hd
      exact ⟨v, h1, Fv, h2⟩
    · obtain ⟨w', e1, e2⟩ := rp.get' hd
      rw [hw] at e1
      cases e1
      exact (show Bw X.K G H1 (X0 ++ F1) w d from ⟨[], .fz e2⟩).grow g2
  · obtain ⟨F0, sl, _⟩ := ho1.sl
    exact sl.len.symm
theorem ge_any (hi : GO G pz X iter mi) (TB : LamX.TabB X.base X.mg c P) (hcode : X.env.code = .ref c) {q0 : Str} (hmT : (P, q0) ∈ G.T) (hu : (∀ r ∈ G.T, r.1 = P → r.2 = q0) ∧ (q0 = X.env.qual ++ "<genexpr>" ∨ q0 = "")) (hr : Room k0 X.A) (hm : X.mg "any" = none)
    (hb : ∀ L0 cv, GQ (QGen X scope M x L0 cv) G elt m) (L : GenP X.env.scope scope x := by exact genP_by (by decide +kernel)) (hx : Hid X.N M x) (hs : ∀ pn xe v, genFold iter (X.tr pn xe).env v = pure v := by intro _ _ _; rfl) (hg : Gl X "any" := by rfl)
    (he : ∀ pn xe, starEach [.GeneratorExp elt [⟨.Name x px, iter, [], 0⟩] scope gpos] (X.tr pn xe).env = (false, eval (.GeneratorExp elt [⟨.Name x px, iter, [], 0⟩] scope gpos) (X.tr pn xe).env) :: starEach [] (X.tr pn xe).env := by intro _ _; rfl) :
    GE G pz X (.Call (.Name "any" p) [.GeneratorExp elt [⟨.Name x px, iter, [], 0⟩] scope gpos] [] pos) (mGx anyB mi m) := fun pn xe W σ H X0 pins F Q Γ tk ho q => by
  intro pins' s I
  refine wpAny_Call_Name_kw (ld_blt I hg hm (show bootBuiltins "any" = some (.builtin "any") by rfl) ?_)
  refine PyProof.Rows.callWith_builtin1 ?_ (he pn xe) (by rfl)
  rw [he pn xe]
  refine Calls.spliced_cons (gx_run (f := anyB) hi TB hcode hmT hu hr hb L hx hs pn xe tk ho q I fun bs H1 g s5 hR fin => Calls.spliced_nil ?_)
  obtain ⟨fp, wr, Gs, F5, Sx, H2, w1, w2, w3, w4, w5, w6⟩ := hR
  refine call_any_walkS (w1.self 0 _ _ _ w2 ⟨g, fp, wr, Gs, _, F5, Sx, _, rfl, w1, w2, w3, fun s' hv => ⟨.bl (anyB bs), H2, w6 s' hv, ?_, fin H2 w4 w5⟩⟩)
  rw [any_bAt]
  rfl
end
end GL
namespace GL
open PySem PySem.Spec PyProof.Rows L2
/-! ### in for lists, dicts, texts; d.get(k, x) -/
def D.isDct : D → Bool
  | .nd _ (.dK _) _ => true
  | .nd _ (.dT _) _ => true
  | _ => false
def inT (x z : Str) : Bool := match x.cps.toList with
  | [c] => decide (c ∈ z.cps.toList)
  | _ => !(Builtin.Str.occurrences z x 0 z.length 1).isEmpty
def hasD (x c : D) : Option Bool := if c.isDct = true then (c.dget x).map fun r => r.isSome else match c with
  | .str z => (match x with
    | .str y => some (inT y z)
    | _ => none)
  | c => inG x c
def inA (x c : D) : Option D := (hasD x c).map .bl
def ninA (x c : D) : Option D := (hasD x c).map fun b => .bl (!b)
section
variable {X : Cx} {K : PySem.W.Frag} {G : Wd} {pz : List Nat} {Y : List Addr} {H : Hp} {x y : V} {da db c d : D} {v : V} {l : List D} {r : Option D}
theorem op_inDct (hu : X.A.units + 1 < cLine) : OpR X (compareOp .In) (fun x y H Q => ∃ a o, y = .ref a ∧ DGet H a x o ∧ Q (.bl o.isSome) H) := by
  intro pins s σ H x y v u Q I rx ry ⟨a, o, e, g, q⟩
  subst e
  obtain rfl : u = Value.ref a := ry
  exact d_in hu I g rx fun s3 I3 => ⟨.bl o.isSome, H, I3, rfl, q⟩
theorem op_ninDct (hu : X.A.units + 1 < cLine) : OpR X (compareOp .NotIn) (fun x y H Q => ∃ a o, y = .ref a ∧ DGet H a x o ∧ Q (.bl (!o.isSome)) H) := by
  intro pins s σ H x y v u Q I rx ry ⟨a, o, e, g, q⟩
  subst e
  obtain rfl : u = Value.ref a := ry
  exact d_notIn hu I g rx fun s3 I3 => ⟨.bl (!o.isSome), H, I3, rfl, q⟩
theorem op_nin_str : OpR X (compareOp .NotIn) (fun x y H Q => ∃ i j, x = .str i ∧ y = .str j ∧ Q (.bl (!(!(Builtin.Str.occurrences j i 0 j.length 1).isEmpty))) H) := by
  intro pins s σ H x y v u Q I rx ry ⟨i, j, ex, ey, q⟩
  subst ex ey
  obtain ⟨t, rfl⟩ := rx
  obtain ⟨t', rfl⟩ := ry
  exact PyProof.Rows.notIn_str (fin_bl I q rfl)
theorem dget_some (h1 : Bw K G H Y x da) (h2 : Bw K G H Y y db) (e : da.dget db = some r) : ∃ p ov, x = .ref p ∧ DGet H p y ov ∧ ov.isSome = r.isSome := by
  obtain ⟨p, ov, e1, g, g1, g2⟩ := h1.dget h2 e
  refine ⟨p, ov, e1, g, ?_⟩
  cases r with
  | none => rw [g1 rfl]; rfl
  | some d => obtain ⟨v, e2, _⟩ := g2 d rfl; rw [e2]; rfl
/-- what in says -/
theorem has_ok {b : Bool} (h1 : Bw K G H Y x da) (h2 : Bw K G H Y y c) (e : hasD da c = some b) :
    (∃ a o, y = .ref a ∧ DGet H a x o ∧ o.isSome = b) ∨ (∃ i z, x = .str i ∧ y = .str z ∧ (!(Builtin.Str.occurrences z i 0 z.length 1).isEmpty) = b) ∨ (∃ (n : Nat), ∃ (z : Str), x = .str ⟨#[n]⟩ ∧ y = .str z ∧ decide (n ∈ z.cps.toList) = b) ∨ inG da c = some b := by
  unfold hasD at e
  split at e
  · obtain ⟨r, e1, e2⟩ := Option.map_eq_some_iff.mp e
    obtain ⟨p, ov, rfl, g, q⟩ := dget_some h2 h1 e1
    exact .inl ⟨p, ov, rfl, g, by rw [q, e2]⟩
  · split at e
    · rename_i z _hz
      split at e
      · rename_i i
        cases e
        have ex := h1.str
        have ey := h2.str
        unfold inT
        split
        · rename_i n hn
          have hi : i = ⟨#[n]⟩ := by
            cases i with
            | mk a => 
              have : a = #[n] := by
                apply Array.toList_inj.mp
                exact hn
              rw [this]
          exact .inr (.inr (.inl ⟨n, z, by rw [ex, hi], ey, rfl⟩))
        · exact .inr (.inl ⟨i, z, ex, ey, rfl⟩)
      · cases e
    · exact .inr (.inr (.inr e))
def rDctIn (neg : Bool) : R2 := fun x y H Q => ∃ a o, y = .ref a ∧ DGet H a x o ∧ Q (.bl (if neg = true then !o.isSome else o.isSome)) H
def rTxtIn (neg : Bool) : R2 := fun x y H Q => ∃ i j, x = .str i ∧ y = .str j ∧ Q (.bl (if neg = true then !(!(Builtin.Str.occurrences j i 0 j.length 1).isEmpty) else !(Builtin.Str.occurrences j i 0 j.length 1).isEmpty)) H
def rSgnIn (neg : Bool) : R2 := fun x y H Q => ∃ (c : Nat) (z : Str), x = .str ⟨#[c]⟩ ∧ y = .str z ∧ Q (.bl (if neg = true then !decide (c ∈ z.cps.toList) else decide (c ∈ z.cps.toList))) H
def rInA (K : PySem.W.Frag) (neg : Bool) : R2 := fun x y H Q => ((rDctIn neg x y H Q ∨ rTxtIn neg x y H Q) ∨ rSgnIn neg x y H Q) ∨ rInX K neg x y H Q
theorem op_inA (hu : X.A.units + 64 < cLine) : OpR X (compareOp .In) (rInA X.K false) := (((op_inDct (X := X) (Nat.lt_of_le_of_lt (Nat.add_le_add_left (by decide) _) hu)).or (op_in_str (X := X))).or (op_in_sign (X := X))).or (op_inX (X := X) hu)
theorem op_ninA (hu : X.A.units + 64 < cLine) : OpR X (compareOp .NotIn) (rInA X.K true) := (((op_ninDct (X := X) (Nat.lt_of_le_of_lt (Nat.add_le_add_left (by decide) _) hu)).or (op_nin_str (X := X))).or (op_notIn_sign (X := X))).or (op_ninX (X := X) hu)
def cInA (hu : X.A.units + 64 < cLine) : CmpF X G .In inA := ⟨rInA X.K false, fun pn xe => op_inA (X := X.tr pn xe) hu, fun da db d e Y H x y Q o1 o2 q => by
  obtain ⟨b, e1, e2⟩ := Option.map_eq_some_iff.mp e
  subst e2
  rcases has_ok o1 o2 e1 with ⟨a, o, ey, g, eb⟩ | ⟨i, z, ex, ey, eb⟩ | ⟨n, z, ex, ey, eb⟩ | e3
  · exact .inl (.inl (.inl ⟨a, o, ey, g, by first | (rw [eb]; exact q.val .bl) | (simp only [if_true, if_false, Bool.false_eq_true, eb]; exact q.val .bl)⟩))
  · exact .inl (.inl (.inr ⟨i, z, ex, ey, by first | (rw [eb]; exact q.val .bl) | (simp only [if_true, if_false, Bool.false_eq_true, eb]; exact q.val .bl)⟩))
  · exact .inl (.inr ⟨n, z, ex, ey, by first | (rw [eb]; exact q.val .bl) | (simp only [if_true, if_false, Bool.false_eq_true, eb]; exact q.val .bl)⟩)
  · obtain ⟨d, cc, ds, h1, h2, h3, h4, h5, h6, h7⟩ := in_data e3 o1 o2
    refine .inr ⟨d, cc, ds, h1, h2, h3, h4, h5, h6, ?_⟩
    rw [h7]
    exact q.val .bl⟩
def cNinA (hu : X.A.units + 64 < cLine) : CmpF X G .NotIn ninA := ⟨rInA X.K true, fun pn xe => op_ninA (X := X.tr pn xe) hu, fun da db d e Y H x y Q o1 o2 q => by
  obtain ⟨b, e1, e2⟩ := Option.map_eq_some_iff.mp e
  subst e2
  rcases has_ok o1 o2 e1 with ⟨a, o, ey, g, eb⟩ | ⟨i, z, ex, ey, eb⟩ | ⟨n, z, ex, ey, eb⟩ | e3
  · exact .inl (.inl (.inl ⟨a, o, ey, g, by first | (rw [eb]; exact q.val .bl) | (simp only [if_true, if_false, Bool.false_eq_true, eb]; exact q.val .bl)⟩))
  · exact .inl (.inl (.inr ⟨i, z, ex, ey, by first | (rw [eb]; exact q.val .bl) | (simp only [if_true, if_false, Bool.false_eq_true, eb]; exact q.val .bl)⟩))
  · exact .inl (.inr ⟨n, z, ex, ey, by first | (rw [eb]; exact q.val .bl) | (simp only [if_true, if_false, Bool.false_eq_true, eb]; exact q.val .bl)⟩)
  · obtain ⟨d, cc, ds, h1, h2, h3, h4, h5, h6, h7⟩ := in_data e3 o1 o2
    refine .inr ⟨d, cc, ds, h1, h2, h3, h4, h5, h6, ?_⟩
    rw [h7]
    exact q.val .bl⟩
end
section
variable {X : Cx} {G : Wd} {pz : List Nat} {o e f : Expr} {mo mk mx : Sl → Re} {pos apos : Pos} {K : PySem.W.Frag} {H : Hp} {Y : List Addr} {v : V} {c : D}
end
end GL
namespace GL
open PySem PySem.Spec PyProof.Rows L2 PySem.SeqAt
/-! ### readers: subscripts, in, not, and, or, chains -/
section
variable {C : QC} {G : Wd} {H H' H1 H2 : Hp} {s s1 s2 : Shared} {σ : L2.St} {Γ Γ1 Γ2 : Sl} {Y : List Addr} {d da db : D} {A : Around} {E : Value → Shared → Prop} {v x y z : V} {a b c e : Expr} {es : List Expr} {m ma mb mc : Sl → Re} {pos : Pos} {p : Addr} {vs : List V}
theorem QI.lst (I : QI C H s) (h : SqL C.K H p vs) : ∃ us : List Value, Vals vs us ∧ PlainL s.heap p us.toArray ∧ vs.length ≤ sizeLine := by
  rcases h with h | ⟨ob, ar, k, q1, q2, q3, q4, q5, q6⟩
  · obtain ⟨w1, us, k, w2, w3⟩ := h.ok I.hok
    exact ⟨us, w2, ⟨_, k, w3, rfl, rfl, rfl⟩, w1⟩
  · have hl := q6.length
    simp only [Array.length_toList] at hl
    exact ⟨ar.toList, q6, ⟨ob, k, I.kin p ob q1, q2, q3, by simpa using q4⟩, by omega⟩
theorem QI.tpl (I : QI C H s) (h : SqT C.K H p vs) : ∃ us : List Value, Vals vs us ∧ IsTup s.heap p us.toArray ∧ vs.length ≤ sizeLine := by
  rcases h with h | ⟨ob, ar, k, q1, q2, q4, q5, q6⟩
  · obtain ⟨w1, us, w2, w3⟩ := h.ok I.hok
    exact ⟨us, w2, w3, w1⟩
  · have hl := q6.length
    simp only [Array.length_toList] at hl
    exact ⟨ar.toList, q6, ⟨ob, I.kin p ob q1, q2, k, by simpa using q4⟩, by omega⟩
/-! ### in -/
def D.isI : D → Bool
  | .int _ => true
  | _ => false
def eqI (n : Int) : D → Bool
  | .int k => decide (k = n)
  | _ => false
def hasQ (x c : D) : Option Bool := match x with
  | .str y => (match c with
    | .str z => some (inT y z)
    | _ => none)
  | .int n => (match c.seq with
    | some l => if l.all D.isI = true then some (l.any (eqI n)) else none
    | none => none)
  | _ => none
def ninQ (x c : D) : Option D := (hasQ x c).map fun b => .bl (!b)
def eqU (n : Int) : Value → Bool
  | .int k _ => k == n
  | _ => false
theorem eqU_at {A : Around} {s : Shared} {n : Int} {t : Tok} {K : PySem.W.Frag} : ∀ {vs : List V} {l : List D} {us : List Value}, Rps K G Y H vs l → Vals vs us → l.all D.isI = true → (∀ u ∈ us, EqAt A s u (.int n t) (eqU n u)) ∧ us.any (eqU n) = l.any (eqI n)
  | _, _, _, .nil, .nil, _ => ⟨fun u h => (by cases h), rfl⟩
  | _, d :: l, _, .cons r rs, .cons w ws, h => by
    rw [List.all_cons, Bool.and_eq_true] at h
    obtain ⟨i1, i2⟩ := eqU_at (A := A) (n := n) (t := t) rs ws h.2
    cases d with
    | int k =>
      cases (show Bw K G H Y _ (.int k) from ⟨[], .fz r⟩).int
      obtain ⟨t', rfl⟩ := w
      refine ⟨fun u hu => ?_, ?_⟩
      · rcases List.mem_cons.mp hu with z | z
        · rw [z]; exact EqAt.int_int k t' n t
        · exact i1 u z
      · rw [List.any_cons, List.any_cons, i2]
        rfl
    | _ => cases h.1
theorem inT_or (i z : Str) : (!(Builtin.Str.occurrences z i 0 z.length 1).isEmpty) = inT i z ∨ ∃ n : Nat, i = ⟨#[n]⟩ ∧ inT i z = decide (n ∈ z.cps.toList) := by
  unfold inT
  split
  · rename_i n hn
    refine .inr ⟨n, ?_, rfl⟩
    cases i with
    | mk q =>
      have : q = #[n] := Array.toList_inj.mp hn
      rw [this]
  · exact .inl rfl
theorem inT_eq (i z : Str) : (!(Builtin.Str.occurrences z i 0 z.length 1).isEmpty) = inT i z := by
  rcases inT_or i z with h | ⟨n, rfl, h⟩
  · exact h
  · rw [h]; exact (PySem.StrLaws.found_one z n)
theorem q_nin : QOp C G (compareOp .NotIn) ninQ := by
  intro A E H s Y x y v u da db d hh I r1 r2 b1 b2 e
  obtain ⟨k, e1, rfl⟩ := Option.map_eq_some_iff.mp e
  unfold hasQ at e1
  split at e1
  · split at e1
    · cases e1
      cases b1.str
      cases b2.str
      obtain ⟨t, rfl⟩ := r1
      obtain ⟨t', rfl⟩ := r2
      rw [← inT_eq]
      exact PyProof.Rows.notIn_str (.bl I (keeps_id _))
    · cases e1
  · rename_i n
    split at e1
    case h_2 => cases e1
    rename_i l hl
    split at e1
    case isFalse => cases e1
    rename_i hI
    cases e1
    cases b1.int
    obtain ⟨t, rfl⟩ := r1
    obtain ⟨q, ws, rfl, sq, rp⟩ := b2.seq hl
    cases (show u = Value.ref q from r2)
    rcases sq with sq | sq
    · obtain ⟨us, r, pl, hz⟩ := I.lst sq
      obtain ⟨e1, e2⟩ := eqU_at (A := A.in1) (s := s) (n := n) (t := t) rp r hI
      refine notIn_listAt (eqU n) pl.isList (fun w hw => e1 w (by simpa using hw)) ?_
      have : us.toArray.any (eqU n) = l.any (eqI n) := by rw [← e2]; simp
      rw [this]
      exact .bl I (keeps_id _)
    · obtain ⟨us, r, pl, hz⟩ := I.tpl sq
      obtain ⟨e1, e2⟩ := eqU_at (A := A.in1) (s := s) (n := n) (t := t) rp r hI
      refine notIn_tupleAt (eqU n) (show s.heap.IsTuple q us.toArray from pl) (fun w hw => e1 w (by simpa using hw)) ?_
      have : us.toArray.any (eqU n) = l.any (eqI n) := by rw [← e2]; simp
      rw [this]
      exact .bl I (keeps_id _)
  · cases e1
/-! ### not, and, or, chains -/
end
end GL
namespace GL
open PySem PySem.Spec PyProof.Rows L2
/-! ### any, all over a range; sum of a generator expression -/
section
variable {X : Cx} {G : Wd} {pz : List Nat} {a b e iter : Expr} {m : Sl → Re} {ms : Sl → Rg (List D)} {mi : Sl → Rg (List D × Bool)} {p pos : Pos} {σ : L2.St} {H : Hp} {s : Shared} {F X0 Y : List Addr} {Γ : Sl}
end
section
variable {X : Cx} {G : Wd} {pz : List Nat} {scope : Scope} {x : Str} {mi : Sl → Rg (List D × Bool)} {m : Sl → Re} {elt iter : Expr} {p px pos gpos : Pos} {c P : Addr} {k0 : Nat} {pins : List (Addr × Obj)} {σ : L2.St} {H : Hp} {s : Shared} {K : PySem.W.Frag} {vs : List V} {ds : List D} {Y : List Addr} {M : List Str}
end
end GL
namespace GL
open PySem PySem.Spec PyProof.Rows L2
/-! ### list(d.items()); d == {} -/
section
variable {X : Cx} {K : PySem.W.Frag} {G : Wd} {pz : List Nat} {Y : List Addr} {H H' : Hp} {e : Expr} {m : Sl → Re} {p pos apos cpos : Pos} {v : V} {d : D}
end
end GL
namespace GL
open PySem PySem.Spec PyProof.Rows L2
/-! ### a text walked by a generator -/
section
variable {X : Cx} {G : Wd} {pz : List Nat} {e : Expr} {m : Sl → Re} {σ : L2.St} {H : Hp} {s : Shared}
end
end GL
namespace GL
open PySem PySem.Spec PyProof.Rows L2 PySem.W
/-! ### sorted(xs, key=lambda x: ..) -/
section
variable {X : Cx} {G : Wd} {pins : List (Addr × Obj)} {σ : L2.St} {H : Hp} {s : Shared} {Γ : Sl} {Y : List Addr} {E : Value → Shared → Prop} {scope : Scope} {x : Str} {f c' r : Addr} {m : Sl → Re} {params : Arguments} {body : Expr} {pm ctv : Value} {t u v : Tok} {Q : Value → Shared → Prop} {k0 : Nat} {xv : Value} {vs : List V} {ds kd : List D}
end
end GL
namespace GL
open PySem PySem.Spec PyProof.Rows L2 PySem.W
/-! ### sorted over a range, a list, a dict, by a key -/
section
variable {X : Cx} {G : Wd} {pz : List Nat} {scope : Scope} {x : Str} {mn m : Sl → Re} {params : Arguments} {body en : Expr} {p p2 p3 pos lpos kpos : Pos} {c P : Addr} {k0 : Nat} {pins : List (Addr × Obj)} {σ : L2.St} {H : Hp} {s : Shared} {vs : List V} {r q : Addr} {t u v : Tok}
end
end GL
namespace GL
open PySem PySem.Spec PyProof.Rows L2 PySem.W
/-! ### o[i] as a place, o an owned list -/
section
variable {X : Cx} {G : Wd} {pz : List Nat} {o i : Expr} {pl : Sl → Option Place} {mi : Sl → Re} {pos : Pos}
end
/-! ### list(range(a, b, c)) -/
section
variable {X : Cx} {G : Wd} {pz : List Nat} {a b c : Expr} {ms : Sl → Rg (List D)} {p p2 pos pos2 : Pos}
end
end GL
namespace GL
open PySem PySem.Spec PyProof.Rows L2 PySem.W
/-! ### sorted of a list, of a dict's keys (tuples too), reverse or not -/
section
variable {X : Cx} {G : Wd} {pins : List (Addr × Obj)} {σ : L2.St} {H : Hp} {s : Shared} {Y : List Addr} {Q : VK} {xv : Value} {vs : List V} {l : List D} {P : List V → Prop} {p : Addr} {rev : Bool}
variable {K : PySem.W.Frag} {v : V} {d d' : D}
section
variable {pz : List Nat} {e : Expr} {ms : Sl → Rg (List D)} {b : Bool} {p pos kpos cpos : Pos}
end
end
section
variable {X : Cx} {G : Wd} {pz : List Nat} {pos : Pos}
end
end GL
namespace GL
open PySem PySem.Spec PyProof.Rows L2 PySem.W
/-! ### dict(xs), xs a list of pairs whose keys may be tuples -/
section
variable {X : Cx} {G : Wd} {pins : List (Addr × Obj)} {σ : L2.St} {H : Hp} {s : Shared} {K : PySem.W.Frag} {Y : List Addr}
variable {v : V} {d : D}
end
end GL
namespace GL
open PySem PySem.Spec PyProof.Rows L2
/-! ### d == e, d != e of dicts -/
section
variable {X : Cx} {K : PySem.W.Frag} {G : Wd} {pins : List (Addr × Obj)} {σ : L2.St} {H : Hp} {s : Shared} {Y : List Addr}
end
end GL
namespace GL
open PySem PySem.Spec PyProof.Rows L2 PySem.W
/-! ### sum(d.values()), list(d.values()), any and all over d.values() -/
section
variable {X : Cx} {G : Wd} {pz : List Nat} {e : Expr} {m : Sl → Re} {apos cpos p pos : Pos} {σ : L2.St} {H : Hp} {s : Shared} {pins : List (Addr × Obj)} {X0 F : List Addr} {ppins : Nat → V} {Γ : Sl} {W : WX} {f : D → Option D} {Q : VK}
end
end GL
namespace GL
open PySem PySem.Spec PyProof.Rows L2 PySem.W
/-! ### tuple(d.items()), sorted(d.items()) -/
section
variable {prog : Program} {w : World} {A : Around} {E : Value → Shared → Prop} {s : Shared} {r : Addr} {n : Nat} {P : Heap → List Value → Prop} {Q : Value → Shared → Prop}
end
section
variable {X : Cx} {G : Wd} {pz : List Nat} {e : Expr} {m : Sl → Re} {apos cpos p pos : Pos} {σ : L2.St} {H : Hp} {s : Shared} {pins : List (Addr × Obj)} {X0 F : List Addr} {ppins : Nat → V} {Γ : Sl} {W : WX} {f : D → Option D} {Q : VK} {h' : Heap} {tk : Nat} {kvs : List (Key × V)} {ws : List (Key × Value)} {as : List Addr} {a lo : Addr} {ep : Nat}
end
end GL
namespace GL
open PySem PySem.Spec PyProof.Rows L2
/-! ### a generator expression of two names, in sum, any, all -/
structure GenP2 (sc scope : Scope) (x y : Str) : Prop where
  kind : scope.kind = .function
  co : scope.isCoroutine = false
  ne : x ≠ y
  loc : scope.names.lookup x = some .local
  loc2 : scope.names.lookup y = some .local
  dot : scope.names.lookup (".0" : Str) = some .local
  cell : ∀ z ∈ scope.names, z.2 ≠ .cell
  own : ∀ z ∈ scope.names, z.2 = .local → z.1 = x ∨ z.1 = y ∨ z.1 = ".0"
  free : ∀ z ∈ scope.names, z.2 = .free → sc.names.lookup z.1 = some .cell ∨ sc.names.lookup z.1 = some .free
  nil : scope.names.lookup ("" : Str) = none
structure Hid2 (N M : List Str) (x y : Str) : Prop where
  len : M.length = N.length
  at' : ∀ (i : Nat) z, M[i]? = some z → z = "" ∨ (N[i]? = some z ∧ z ≠ x ∧ z ≠ y ∧ z ≠ ".0")
/-- e reads to d, where not too many calls run -/
def GQB (C : QC) (Dp Un : Nat) (G : Wd) (e : Expr) (m : Sl → Re) : Prop := ∀ (A : Around) (E : Value → Shared → Prop) H s σ Γ Y d Γ' q, A.handled = none → A.depth ≤ Dp → A.units ≤ Un → QI C H s → QN C σ s.heap → QSl C G Y H σ Γ → Lv Y H → m Γ = .ok d Γ' q → wpAny (model C.prog C.w) A (eval e C.env) (QPost C G Y s H d) E s
theorem GQ.bd {C : QC} {G : Wd} {e : Expr} {m : Sl → Re} (h : GQ C G e m) (Dp Un : Nat) : GQB C Dp Un G e m := fun A E H s σ Γ Y d Γ' q hh _ _ I N S L e => (h A E H s σ Γ Y d Γ' q hh I N S L e).2
/-- a number, a truth value: what it is there -/
def AtR : D → Value → Prop
  | .int n, v => ∃ t, v = .int n t
  | .bl b, v => v = .bool b
  | _, _ => False
def isAt : D → Bool
  | .int _ => true
  | .bl _ => true
  | _ => false
section
variable {X : Cx} {pins : List (Addr × Obj)} {σ : L2.St} {H : Hp} {s : Shared} {T : List (Addr × Str)} {c P : Addr} {gpos : Pos} {scope : Scope} {E : Value → Shared → Prop} {q : Str} {h2 : Heap} {wr : List Addr}
theorem gen_code2 (I : Inv X pins σ H s) (k2 : ∀ b u, s.heap.get? b = some u → h2.get? b = some u) (hz : s.heap.objs.size ≤ h2.objs.size) (hw : ∀ b ∈ wr, s.heap.objs.size ≤ b ∧ b < h2.objs.size) (TB : LamX.TabB X.base X.mg c P) (hcode : X.env.code = .ref c) {q0 : Str} (hm : (P, q0) ∈ T) (hu : (∀ r ∈ T, r.1 = P → r.2 = q0) ∧ (q0 = q ∨ q0 = "")) (hT : GL.Tabs T H) :
    wpAny (model X.prog X.w) X.A (genexprCode X.env gpos q scope) (fun code s3 => ∃ h3 tk H2, s3 = { s with heap := h3, toks := tk } ∧ LamX.ExtN H H2 ∧ GL.Tabs T H2 ∧ Heap.ExtBut P h2 h3 ∧ h2.objs.size ≤ h3.objs.size ∧
      ∀ h' t', (∀ b u, b ∉ wr → h3.get? b = some u → h'.get? b = some u) → Inv X pins σ H2 { s with heap := h', toks := t' }) E { s with heap := h2 } := by
  obtain ⟨ps, hP, ht, ha⟩ := hT _ hm
  have pS : s.heap.get? P = some { cls := .none, data := .fields ps } := I.hok P _ hP
  have cd : PySem.W.CodeHd h2 c P := TB.code.keeps fun b u e => k2 _ _ (I.bk b u e)
  have pS2 : h2.get? P = some { cls := .none, data := .fields ps } := k2 _ _ pS
  have nI : ∀ b u, s.heap.get? b = some u → b ∉ wr := fun b u e z => absurd (Heap.lt_size e) (Nat.not_lt.mpr (hw b z).1)
  cases hf : codeAmong gpos ps.toList with
  | none =>
    refine wpAny_genexprCodeX hcode (cd.code pS2 ht) (cd.tab pS2) hf fun c' h3 tk hx hge hlt _ hrec htab _ => ?_
    have hge : h2.objs.size ≤ c' := hge
    have hlt : c' < h3.objs.size := hlt
    have cge : s.heap.objs.size ≤ c' := Nat.le_trans hz hge
    have cne : c' ∉ wr := fun z => absurd (hw c' z).2 (Nat.not_lt.mpr hge)
    obtain ⟨tx, tt⟩ := tabs_add (gpos := gpos) (c' := c') (q := q) hm hu hT hP (I.hok.fresh cge)
    refine ⟨h3, tk, _, rfl, tx, tt, hx, Nat.le_trans hge (Nat.le_of_lt hlt), fun h' t' k => ?_⟩
    obtain ⟨d, oc, vs, t, e2, hoc, hd, hv⟩ := hrec
    cases e2
    exact LamX.inv_table I hP (fun b u hb e => k b u (nI b u e) (hx b u hb (k2 _ _ e))) (k P _ (nI P _ pS) htab.2) cge ⟨oc, vs, t, k _ _ cne hoc, hd, hv⟩
  | some cv =>
    refine wpAny_genexprCode_hit hcode (cd.code pS2 ht) hf ?_
    exact ⟨h2, s.toks, H, rfl, LamX.ExtN.refl H, hT, Heap.ExtBut.refl _ _, Nat.le_refl _, fun h' t' k => I.kept fun b u e => k b u (nI b u e) (k2 _ _ e)⟩
end
/-- the generator is walked: its values are ys -/
def Rdy2 (X : Cx) (pins : List (Addr × Obj)) (σ : L2.St) (T : List (Addr × Str)) (H : Hp) (ys : List D) (g : Addr) (s5 : Shared) : Prop :=
  ∃ (fp wr : List Addr) (Gs : Array GenState → Array GenState → Prop) (F : Nat → Value → Prop) (Sx : Nat → Shared → Prop) (H2 : Hp),
    WalksS X.prog X.w X.A.in1 g fp wr Gs ys.length F Sx ∧ Sx 0 s5 ∧ (∀ b ∈ fp, b < s5.heap.objs.size) ∧ (∀ i v, F i v → ∃ y, ys[i]? = some y ∧ AtR y v) ∧ LamX.ExtN H H2 ∧ GL.Tabs T H2 ∧ ∀ s', Moved wr Gs s5 s' → Inv X pins σ H2 s'
section
variable {X : Cx} {G : Wd} {pins : List (Addr × Obj)} {σ : L2.St} {c P : Addr} {gpos pa pb pt : Pos} {kt : Nat} {scope : Scope} {E : Value → Shared → Prop} {s : Shared} {x y : Str} {elt iter : Expr} {k Dp Un : Nat} {m : Sl → Re} {Q : Value → Shared → Prop} {M : List Str}
end
end GL
namespace GL
open PySem PySem.Spec PyProof.Rows L2 PySem.W
/-! ### sum, any, all of a generator expression of two names: over d.items(), over a list of pairs -/
def sumF (l : List D) : Option D := (D.ints l).map fun ns => .int ns.sum
theorem ints_map : ∀ {l : List D} {ns : List Int}, D.ints l = some ns → l = ns.map D.int
  | [], _, h => by cases h; rfl
  | .int i :: l, _, h => by
    obtain ⟨ns, e1, rfl⟩ := Option.map_eq_some_iff.mp h
    rw [ints_map e1]; rfl
  | .any :: _, _, h | .non :: _, _, h | .bl _ :: _, _, h | .str _ :: _, _, h | .fn _ :: _, _, h | .nd _ _ _ :: _, _, h => by cases h
section
variable {X : Cx} {G : Wd} {pz : List Nat} {scope : Scope} {x y : Str} {mi : Sl → Rg (List (D × D))} {m : Sl → Re} {elt iter : Expr} {p pa pb pt pos gpos : Pos} {kt : Nat} {c P : Addr} {k0 Dp Un : Nat} {pins : List (Addr × Obj)} {σ : L2.St} {H : Hp} {s : Shared} {M : List Str}
variable {Dq : Nat}
end
/-! ### the sources -/
section
variable {X : Cx} {G : Wd} {pz : List Nat} {e : Expr} {m : Sl → Re} {apos cpos : Pos}
theorem push_le (h : Heap) (o : Obj) : h.objs.size ≤ (h.push o).objs.size := by rw [Heap.size_push]; exact Nat.le_succ _
theorem push_lt (h : Heap) (o : Obj) : h.objs.size < (h.push o).objs.size := by rw [Heap.size_push]; exact Nat.lt_succ_self _
end
end GL
namespace GL
open PySem PySem.Spec PyProof.Rows L2 PySem.W
/-! ### o[i], x = a, b -/
section
variable {K : PySem.W.Frag} {G : Wd} {pz : List Nat} {X0 F F' F1 F2 Fv Fw Y : List Addr} {pins : Nat → V} {Γ Γ1 : Sl} {σ : L2.St} {H H' H1 H2 : Hp} {X : Cx} {a b o i : Expr} {d da db dc : D} {v x y : V} {p pos : Pos} {W : WX} {pl : Sl → Option Place} {mi : Sl → Re} {ms : Sl → Rg (List D)}
end
end GL
namespace GL
open PySem PySem.Spec PyProof.Rows L2 PySem.W
/-! ### (a, b) != (c, d), where one of them is a dict -/
section
variable {prog : Program} {w : World} {A : Around} {s : Shared} {x y x1 x2 y1 y2 : Value} {r q : Bool}
variable {E : Value → Shared → Prop} {Q : Value → Shared → Prop} {l b : Addr}
end
end GL
namespace GL
open PySem PySem.Spec PyProof.Rows L2 PySem.W
section
variable {X : Cx} {K : PySem.W.Frag} {G : Wd} {pins : List (Addr × Obj)} {σ : L2.St} {H : Hp} {s : Shared} {Y : List Addr} {A : Around} {a b : D} {v w : V} {x y : Value} {r : Bool} {Q : VK}
end
end GL
namespace GL
open PySem PySem.Spec PyProof.Rows L2 PySem.W
/-! ### dict(T), T a tuple of pairs that the module holds -/
section
variable {X : Cx} {K : PySem.W.Frag} {G : Wd} {pz : List Nat} {H : Hp} {Y : List Addr}
end
end GL
namespace GL
open PySem PySem.Spec PyProof.Rows L2 PySem.W
/-! ### dicts in generator expressions: their keys walked, k in d, d[k]; list(d) -/
section
variable {C : QC} {K : PySem.W.Frag} {G : Wd} {H : Hp} {Y : List Addr} {x y : V} {da db d : D}
end
section
variable {X : Cx} {G : Wd} {pz : List Nat} {e : Expr} {m : Sl → Re}
end
end GL
namespace GL
open PySem PySem.Spec PyProof.Rows L2
/-! ### small defs that reckon with numbers only, called by a reader -/
/-- all but L stands as it stood -/
def KBut (L : Addr) (s s' : Shared) : Prop := ∃ h tk, s' = { s with heap := h, toks := tk } ∧ ∀ b o, b ≠ L → s.heap.get? b = some o → h.get? b = some o
theorem KBut.of {L : Addr} {s s' : Shared} (k : Keeps s s') : KBut L s s' := by
  obtain ⟨h, tk, e, kp⟩ := k
  exact ⟨h, tk, e, fun b o _ q => kp b o q⟩
theorem KBut.tr {L : Addr} {s s1 s2 : Shared} (a : KBut L s s1) (b : KBut L s1 s2) : KBut L s s2 := by
  obtain ⟨h, tk, rfl, k1⟩ := a
  obtain ⟨h', tk', rfl, k2⟩ := b
  exact ⟨h', tk', rfl, fun c o hc q => k2 c o hc (k1 c o hc q)⟩
/-- the names are the def's own -/
structure QLoc (C : QC) : Prop where
  loc : ∀ x ∈ C.N, C.env.scope.names.lookup x = some .local
  nd : C.N.Nodup
  new : C.base.get? C.env.locals = none
def QNL (C : QC) (σ : L2.St) (h : Heap) : Prop := ∃ m, h.Ns C.env.locals m ∧ σ.length = C.N.length ∧ ∀ (i : Nat) (x : Str) (v : V), C.N[i]? = some x → σ[i]? = some (some v) → ∃ u, RelV v u ∧ m x = some u
section
variable {C : QC} {G : Wd} {A : Around} {s s1 : Shared} {σ : L2.St} {Γ : Sl} {e c : Expr} {m mc : Sl → Re} {st rest body : List Stmt} {mb mr : Sl → Option D} {pos p1 : Pos} {Dp : Nat}
theorem QNL.qn {h : Heap} (q : QLoc C) (n : QNL C σ h) : QN C σ h := by
  obtain ⟨m, hn, _, l⟩ := n
  refine ⟨m, hn, fun i x v hx hv _ => ?_⟩
  obtain ⟨u, r, hm⟩ := l i x v hx hv
  exact ⟨u, r, .inl ⟨q.loc x (List.mem_of_getElem? hx), hm⟩⟩
theorem QNL.keeps {h h' : Heap} (n : QNL C σ h) (k : ∀ b o, h.get? b = some o → h'.get? b = some o) : QNL C σ h' := by
  obtain ⟨m, hn, hl, l⟩ := n
  exact ⟨m, hn.keeps k, hl, l⟩
end
end GL
namespace GL
open PySem PySem.Spec PyProof.Rows L2
/-! ### .. their calls -/
section
variable {C : QC} {G : Wd} {A : Around} {s s1 : Shared} {σ : L2.St} {Γ : Sl} {H : Hp} {Y : List Addr} {d : D} {e a b : Expr} {es : List Expr} {m ma mb : Sl → Re} {ms : Sl → Rg (List D)} {pos p : Pos} {Dp : Nat} {x : Str}
end
end GL
namespace GL
open PySem PySem.Spec PyProof.Rows L2
/-! ### del d[k] -/
def drpKl : List Key → List D → Key → List D
  | z :: ks, y :: l, k => if z = k then drpKl ks l k else y :: drpKl ks l k
  | _, _, _ => []
section
variable {K : PySem.W.Frag} {G : Wd} {pz : List Nat} {X0 F Fv Y : List Addr} {pins : Nat → V} {Γ : Sl} {σ : L2.St} {H : Hp} {X : Cx} {d di : D} {v : V} {p : Place} {o i : Expr} {pos tp : Pos} {mi : Sl → Re} {pl : Sl → Option Place}
theorem Owns.drop {k : Key} : ∀ {kvs : List (Key × V)} {l : List D} {F : List Addr}, Owns K G Y H (kvs.map (·.2)) l F → ∃ F1, Owns K G Y H ((L2.dropK kvs k).map (·.2)) (drpKl (kvs.map (·.1)) l k) F1 ∧ F1.Sublist F
  | [], [], _, .nil => ⟨[], .nil, .refl _⟩
  | (z, w) :: kvs, y :: l, _, .cons (F := Fa) (F' := Fb) o1 o2 => by
    obtain ⟨F1, h1, h2⟩ := Owns.drop (k := k) o2
    unfold L2.dropK at h1 ⊢
    simp only [List.map_cons]
    rw [drpKl, List.filter_cons]
    by_cases e : z = k
    · rw [if_pos e, if_neg (by simpa using e)]
      exact ⟨F1, h1, h2.trans (List.sublist_append_right _ _)⟩
    · rw [if_neg e, if_pos (by simpa using e)]
      exact ⟨Fa ++ F1, .cons o1 h1, h2.append_left Fa⟩
end
end GL
namespace GL
open PySem PySem.Spec PyProof.Rows L2
/-! ### min of four numbers -/
section
variable {prog : Program} {w : World} {A : Around} {E : Value → Shared → Prop} {s : Shared}
end
section
variable {K : PySem.W.Frag} {G : Wd} {Y : List Addr} {H : Hp} {X : Cx} {vs : List V}
theorem Bws.four {a b c d : D} (h : Bws K G H Y vs [a, b, c, d]) : ∃ x y z w, vs = [x, y, z, w] ∧ Bw K G H Y x a ∧ Bw K G H Y y b ∧ Bw K G H Y z c ∧ Bw K G H Y w d := by
  cases h with
  | cons r q =>
    obtain ⟨y, z, w, rfl, q1, q2, q3⟩ := q.three
    exact ⟨_, _, _, _, rfl, r, q1, q2, q3⟩
end
end GL
namespace GL
open PySem PySem.Spec PyProof.Rows L2
/-! ### max in a reader; small defs by name -/
section
variable {C : QC} {G : Wd} {e a b : Expr} {es : List Expr} {ms : Sl → Rg (List D)} {pos p : Pos} {x : Str} {A0 : Around} {k0 : Nat}
end
end GL
namespace GL
open PySem PySem.Spec PyProof.Rows L2
/-! ### what a slot owns stands still for a while -/
mutual
def D.kds : D → List Kd
  | .nd true k l => k :: D.kdsL l
  | .pr l => D.kdsL l
  | _ => []
def D.kdsL : List D → List Kd
  | [] => []
  | d :: l => d.kds ++ D.kdsL l
end
section
variable {K : PySem.W.Frag} {G : Wd} {pz : List Nat} {X Y Y' X0 F F' Fv Fi : List Addr} {pins : Nat → V} {Γ : Sl} {σ : L2.St} {H H' : Hp} {v : V} {d : D} {ks : List Kd}
mutual
theorem Own.kd : ∀ {v d F}, Own K G Y H v d F → ∀ b ∈ F, ∃ k vs, k ∈ d.kds ∧ NdO G H b k vs
  | _, _, _, .fz _, b, hb => nomatch hb
  | _, _, _, .nd (k := k) (vs := vs) h r, b, hb => by
    rcases List.mem_cons.mp hb with e | z
    · subst e
      exact ⟨k, vs, by rw [D.kds]; exact List.mem_cons_self, h⟩
    · obtain ⟨k', vs', hk, hn⟩ := Owns.kd r b z
      exact ⟨k', vs', by rw [D.kds]; exact List.mem_cons_of_mem _ hk, hn⟩
  | _, _, _, .pr h r, b, hb => by
    obtain ⟨k', vs', hk, hn⟩ := Owns.kd r b hb
    exact ⟨k', vs', by rw [D.kds]; exact hk, hn⟩
theorem Owns.kd : ∀ {vs l F}, Owns K G Y H vs l F → ∀ b ∈ F, ∃ k vs, k ∈ D.kdsL l ∧ NdO G H b k vs
  | _, _, _, .nil, b, hb => nomatch hb
  | _, _, _, .cons h r, b, hb => by
    rcases List.mem_append.mp hb with z | z
    · obtain ⟨k', vs', hk, hn⟩ := Own.kd h b z
      exact ⟨k', vs', by rw [D.kdsL]; exact List.mem_append_left _ hk, hn⟩
    · obtain ⟨k', vs', hk, hn⟩ := Owns.kd r b z
      exact ⟨k', vs', by rw [D.kdsL]; exact List.mem_append_right _ hk, hn⟩
end
end
end GL
namespace GL
open PySem PySem.Spec PyProof.Rows L2
/-! ### .. their rules -/
section
variable {K : PySem.W.Frag} {G : Wd} {pz : List Nat} {X0 F F' F2 Fv Fi : List Addr} {pins : Nat → V} {Γ Γ1 : Sl} {σ σ' : L2.St} {H H' : Hp} {v v0 : V} {d r : D} {i : Nat} {X : Cx} {e : Expr} {st : Stmt} {m : Sl → Re} {s : Sl → So}
end
end GL
namespace GL
open PySem PySem.Spec PyProof.Rows L2
/-! ### .. and name = [..] -/
section
variable {G : Wd} {pz : List Nat} {X : Cx} {tg it elt : Expr} {ifs : List Expr} {pos spos py : Pos} {me : Sl → Re} {mc : Sl → Rg Bool} {mi : Sl → Rg (List D × Bool)} {t : Tg} {y : Str} {X0 F : List Addr} {pins : Nat → V} {Γ : Sl} {σ : L2.St} {H : Hp} {W : WX} {Q : VK}
end
end GL
namespace GL
open PySem PySem.Spec PyProof.Rows L2 PySem.W
/-! ### min(d.values()), dict(d.items()) -/
section
variable {X : Cx} {G : Wd} {pz : List Nat} {e : Expr} {m : Sl → Re} {apos cpos p pos : Pos} {σ : L2.St} {H : Hp} {s : Shared} {pins : List (Addr × Obj)} {X0 F : List Addr} {ppins : Nat → V} {Γ : Sl} {W : WX} {f : D → Option D} {Q : VK}
end
end GL
namespace GL
open PySem PySem.Spec PyProof.Rows L2
/-! ### try: .. except x: .. (the handler lets no exception out) -/
section
variable {G : Wd} {pz : List Nat} {X : Cx} {body suite : List Stmt} {b₀ : Stmt} {s h : Sl → So} {x : Str} {ns : List Str} {np pos pos' : Pos}
end
end GL
namespace GL
open PySem PySem.Spec PyProof.Rows L2
/-! ### a generator expression of several names, with a test -/
inductive IsNames : List Expr → List Str → Prop
  | nil : IsNames [] []
  | cons {x : Str} {p : Pos} {es : List Expr} {xs : List Str} (r : IsNames es xs) : IsNames (.Name x p :: es) (x :: xs)
theorem IsNames.len {env : PySem.Env} : ∀ {es : List Expr} {xs : List Str}, IsNames es xs → (assignEach es env).length = xs.length
  | _, _, .nil => rfl
  | _, _, .cons r => by
    show (assignEach _ env).length + 1 = _
    rw [r.len]
    rfl
theorem IsNames.star {env : PySem.Env} : ∀ {es : List Expr} {xs : List Str}, IsNames es xs → (assignEach es env).findIdx? (·.1) = none
  | _, _, .nil => rfl
  | _, _, .cons r => by
    show (List.findIdx? (·.1) ((false, _) :: assignEach _ env)) = none
    rw [List.findIdx?_cons, r.star]
    rfl
section
variable {prog : Program} {w : World} {A : Around} {E : Value → Shared → Prop}
/-- the names are stored, one after the other -/
theorem store_names {cenv : PySem.Env} (hp : (cenv.scope.kind == .class || (cenv.scope.kind == .module && cenv.locals != cenv.globals)) = false) : ∀ {es : List Expr} {xs : List Str}, IsNames es xs → ∀ (vs : List Value) (s : Shared) (m : Str → Option Value) (Q : Unit → Shared → Prop), vs.length = xs.length → xs.Nodup →
    (∀ x ∈ xs, cenv.kindOf x = some .local) → s.heap.Ns cenv.locals m → (∀ h' m' tk, h'.Ns cenv.locals m' → (∀ b o, b ≠ cenv.locals → s.heap.get? b = some o → h'.get? b = some o) → (∀ (i : Nat) x v, xs[i]? = some x → vs[i]? = some v → m' x = some v) → (∀ y, y ∉ xs → m' y = m y) → Q () { s with heap := h', toks := tk }) →
    wpAny (model prog w) A (assignInOrder ((assignEach es cenv).map (·.2)) vs) Q E s
  | _, _, .nil, vs, s, m, Q, hv, _, _, hn, k => by
    cases vs with
    | nil => exact wpAny_pure (k s.heap m s.toks hn (fun _ _ _ e => e) (fun i x v h => by cases h) fun _ _ => rfl)
    | cons => cases hv
  | _, _, .cons (x := x) (xs := xs) r, vs, s, m, Q, hv, nd, hl, hn, k => by
    cases vs with
    | nil => cases hv
    | cons v vs =>
      have nd2 := List.nodup_cons.mp nd
      refine wpAny_bind (wpAny_holding (wpAny_assign_Name (wpAny_storeName_local (hl x List.mem_cons_self) hn (fun hA nA sA => ?_) hp)))
      have keepA : ∀ b o, b ≠ cenv.locals → s.heap.get? b = some o → hA.get? b = some o := fun b o hb e => sA.extBut b o hb e
      refine store_names hp r vs { s with heap := hA, toks := s.toks + 1 } _ Q (Nat.succ.inj hv) nd2.2 (fun y hy => hl y (List.mem_cons_of_mem _ hy)) nA fun h' m' tk n' k' a' b' => ?_
      refine k h' m' tk n' (fun b o hb e => k' b o hb (keepA b o hb e)) (fun i y u hy hu => ?_) fun y hy => ?_
      · cases i with
        | zero =>
          cases hy
          cases hu
          rw [b' x nd2.1, if_pos rfl]
        | succ i => exact a' i y u hy hu
      · rw [b' y fun z => hy (List.mem_cons_of_mem _ z), if_neg fun z => hy (by rw [z]; exact List.mem_cons_self)]
end
/-- the tests and the value of one turn do no harm -/
structure QuietN (prog : Program) (w : World) (cenv : PySem.Env) (xs : List Str) (ifs : List Expr) (elt : Expr) (fp wr : List Addr) (Pt : Nat → Array Value → Prop) (pz : Nat → Bool) (F : Nat → Value → Prop) (href : Heap) (D U : Nat) : Prop where
  tests : ∀ (B : Around) E' i (vals : Array Value) (t : Shared) n, B.handled = none → B.depth ≤ D → B.units ≤ U → Pt i vals → t.heap.Ns cenv.locals n → (∀ (j : Nat) x v, xs[j]? = some x → vals.toList[j]? = some v → n x = some v) → (∀ b ∈ fp, b ∉ wr → ∀ o, href.get? b = some o → t.heap.get? b = some o) →
    wpAny (model prog w) B (forIn ifs true fun c r => if r = true then do let ok ← isTrue c cenv (eval c cenv); pure (ForInStep.yield ok) else pure (ForInStep.yield r)) (fun ok t' => ok = pz i ∧ Keeps t t') E' t
  elt : ∀ (B : Around) E' i (vals : Array Value) (t : Shared) n, B.handled = none → B.depth ≤ D → B.units ≤ U → Pt i vals → pz i = true → t.heap.Ns cenv.locals n → (∀ (j : Nat) x v, xs[j]? = some x → vals.toList[j]? = some v → n x = some v) → (∀ b ∈ fp, b ∉ wr → ∀ o, href.get? b = some o → t.heap.get? b = some o) →
    wpAny (model prog w) B (eval elt cenv) (fun y t' => F i y ∧ Keeps t t') E' t
section
variable {prog : Program} {w : World} {A : Around} {elt iter : Expr} {es : List Expr} {xs : List Str} {pt pos : Pos} {kt : Nat} {ifs : List Expr} {scope : Scope} {I a : Addr} {g : Nat} {fp wr : List Addr} {n₀ : Nat} {Pt : Nat → Array Value → Prop} {Sq : Nat → Heap → Prop} {Mid : Nat → Addr → Heap → Prop} {cenv : PySem.Env}
theorem loopN (nm : IsNames es xs) (nd : xs.Nodup) (hh : A.handled = none) (W : ∀ B : Around, B.handled = none → WalksU prog w B I fp wr n₀ Pt Sq Mid) (hsz : ∀ i vals, Pt i vals → vals.size = xs.length) (pz : Nat → Bool) (F : Nat → Value → Prop) (href : Heap)
    (hl : ∀ x ∈ xs, cenv.kindOf x = some .local) (hp : (cenv.scope.kind == .class || (cenv.scope.kind == .module && cenv.locals != cenv.globals)) = false) (hco : cenv.scope.isCoroutine = false) (hCf : cenv.locals ∉ fp) (hq : QuietN prog w cenv xs ifs elt fp wr Pt pz F href (A.depth + 1) (A.units + 3)) :
    ∀ (k i : Nat) (t₀ t : Shared) (m : Str → Option Value), n₀ - i = k → i ≤ n₀ → Sq i t.heap → t.heap.Ns cenv.locals m → GenSince cenv.locals wr t₀ t → (∀ b ∈ fp, b ∉ wr → ∀ o, href.get? b = some o → t.heap.get? b = some o) →
      Seg (model prog w) A (fun n t₀ r t₁ => r = .ok .next ∧ (n = 0 ∧ GenSince cenv.locals wr t₀ t₁)) (genProto cenv.locals fp wr pz n₀ F) (passing pz n₀ i).length t₀ (.compLoop (.GeneratorExp elt [⟨.Tuple es kt pt, iter, ifs, 0⟩] scope pos) 0 (.ref I) .none cenv)
        ((model prog w).den (.compLoop (.GeneratorExp elt [⟨.Tuple es kt pt, iter, ifs, 0⟩] scope pos) 0 (.ref I) .none cenv)) [] t := by
  have hB : (A.over (.compLoop (.GeneratorExp elt [⟨.Tuple es kt pt, iter, ifs, 0⟩] scope pos) 0 (.ref I) .none cenv) []).handled = none := hh
  have dB : (A.over (.compLoop (.GeneratorExp elt [⟨.Tuple es kt pt, iter, ifs, 0⟩] scope pos) 0 (.ref I) .none cenv) []).depth ≤ A.depth + 1 := Nat.le_of_eq rfl
  have uB : (A.over (.compLoop (.GeneratorExp elt [⟨.Tuple es kt pt, iter, ifs, 0⟩] scope pos) 0 (.ref I) .none cenv) []).units ≤ A.units + 3 := Nat.le_of_eq rfl
  have cw : cenv.locals ∉ wr := fun z => hCf ((W A hh).sub _ z)
  intro k
  induction k with
  | zero =>
    intro i t₀ t m hk hi hst hn hsn hkp
    obtain rfl : i = n₀ := by omega
    show Seg _ A _ _ _ t₀ _ ((compTurn (.GeneratorExp elt [⟨.Tuple es kt pt, iter, ifs, 0⟩] scope pos) 0 (.ref I) .none cenv).onRaise (leaving cenv)) [] t
    rw [compTurn_gen, Sem.onRaise_eq_wrap]
    exact seg_bind_wrap (wpAny_standAt (seg_bind_wrap ((W _ hB).done t _ _ hst fun h' tk hk' => seg_end (.ok .next) ⟨rfl, by rw [passing_end]; rfl, hsn.step fun b o _ hw e => hk' b o hw e⟩)))
  | succ k ih =>
    intro i t₀ t m hk hi hst hn hsn hkp
    have hlt : i < n₀ := by omega
    show Seg _ A _ _ _ t₀ _ ((compTurn (.GeneratorExp elt [⟨.Tuple es kt pt, iter, ifs, 0⟩] scope pos) 0 (.ref I) .none cenv).onRaise (leaving cenv)) [] t
    rw [compTurn_gen, Sem.onRaise_eq_wrap]
    refine seg_bind_wrap (wpAny_standAt (seg_bind_wrap ((W _ hB).item i t _ _ hlt hst fun T vals hA tkA hPv tA midA kA => ?_)))
    have hvs : vals.toList.length = xs.length := by rw [Array.length_toList]; exact hsz i vals hPv
    refine seg_bind_wrap ((W _ hB).go _ _ _ i T _ _ _ midA fun hC stC kC => ?_)
    have tC : hC.IsTuple T vals := let ⟨o, e, r⟩ := tA; ⟨o, kC _ o ((W _ hB).apart i T _ midA) e, r⟩
    refine seg_bind_wrap (wpAny_assign_Tuple hB tC ((nm.len (env := cenv)).trans (hsz i vals hPv).symm) nm.star fun hD xD => ?_)
    have oldD : ∀ b o, hC.get? b = some o → hD.get? b = some o := fun b o e => xD b o (Nat.ne_of_lt (Heap.lt_size e)) e
    refine store_names hp nm vals.toList _ m _ hvs nd hl (hn.at' fun o e => oldD _ o (kC _ o cw (kA _ o cw e))) fun hE mE tkE nE kE vE _ => ?_
    have upE : ∀ b o, b ≠ cenv.locals → b ∉ wr → t.heap.get? b = some o → hE.get? b = some o := fun b o hbC hbw e => kE b o hbC (oldD b o (kC b o hbw (kA b o hbw e)))
    have stE : Sq (i + 1) hE := (W A hh).frame _ _ _ stC fun b hb o e => kE b o (fun z => hCf (z ▸ hb)) (oldD b o e)
    have kpE : ∀ b ∈ fp, b ∉ wr → ∀ o, href.get? b = some o → hE.get? b = some o := fun b hb hbw o e => upE b o (fun z => hCf (z ▸ hb)) hbw (hkp b hb hbw o e)
    refine seg_bind_wrap (wpAny_mono (hq.tests _ _ i vals _ _ hB dB uB hPv nE vE kpE) (fun ok tF hF => ?_) fun _ _ e => e)
    obtain ⟨rfl, hF, tkF, rfl, kF⟩ := hF
    have stF : Sq (i + 1) hF := (W A hh).frame _ _ _ stE fun b _ o e => kF b o e
    have nF := nE.keeps kF
    have snF : GenSince cenv.locals wr t₀ { t with heap := hF, toks := tkF } := hsn.step fun b o hbC hbw e => kF b o (upE b o hbC hbw e)
    cases hpz : pz i with
    | false =>
      rw [passing_false hlt hpz]
      simp only [Bool.false_eq_true, if_false]
      exact seg_again rfl (ih (i + 1) t₀ _ _ (by omega) hlt stF nF snF fun b hb hbw o e => kF b o (kpE b hb hbw o e))
    | true =>
      rw [passing_true hlt hpz, List.length_cons]
      simp only [if_true]
      have hy : ∀ v, yieldOut cenv v = yieldValue v := fun v => by simp only [yieldOut, hco, Bool.false_eq_true, if_false]
      simp only [hy]
      rw [Sem.bind_eq_wrap', Sem.bind_eq_wrap', Sem.wrap_wrap, Sem.wrap_wrap]
      refine seg_wrap (wpAny_mono (hq.elt _ _ i vals _ _ hB dB uB hPv hpz nF vE fun b hb hbw o e => kF b o (kpE b hb hbw o e)) (fun y tG hG => ?_) fun _ _ e => e)
      obtain ⟨fy, hG, tkG, rfl, kG⟩ := hG
      refine seg_at (seg_yield rfl rfl rfl ⟨⟨i, passing_here hlt hpz, fy⟩, snF.step fun b o _ _ e => kG b o e, fun t9 al => ?_⟩)
      exact seg_again rfl (ih (i + 1) t9 t9 _ (by omega) hlt ((W A hh).frame _ _ _ stF fun b hb o e => al b (List.mem_cons_of_mem _ hb) o (kG b o e)) ((nF.keeps kG).at' fun o e => al _ (List.mem_cons_self ..) o e) (GenSince.refl _ _ _)
        fun b hb hbw o e => al b (List.mem_cons_of_mem _ hb) o (kG b o (kF b o (kpE b hb hbw o e))))
theorem startN (nm : IsNames es xs) (nd : xs.Nodup) (hh : A.handled = none) (W : ∀ B : Around, B.handled = none → WalksU prog w B I fp wr n₀ Pt Sq Mid) (hsz : ∀ i vals, Pt i vals → vals.size = xs.length) (pz : Nat → Bool) (F : Nat → Value → Prop) (href : Heap)
    (hl : ∀ x ∈ xs, cenv.kindOf x = some .local) (hp : (cenv.scope.kind == .class || (cenv.scope.kind == .module && cenv.locals != cenv.globals)) = false) (hco : cenv.scope.isCoroutine = false) (hCf : cenv.locals ∉ fp) (hq : QuietN prog w cenv xs ifs elt fp wr Pt pz F href (A.depth + 1) (A.units + 3))
    (t₀ t : Shared) (m : Str → Option Value) (hst : Sq 0 t.heap) (hn : t.heap.Ns cenv.locals m) (hsn : GenSince cenv.locals wr t₀ t) (hkp : ∀ b ∈ fp, b ∉ wr → ∀ o, href.get? b = some o → t.heap.get? b = some o) :
    Seg (model prog w) A (fun n t₀ r t₁ => r = .ok .next ∧ (n = 0 ∧ GenSince cenv.locals wr t₀ t₁)) (genProto cenv.locals fp wr pz n₀ F) (passing pz n₀ 0).length t₀ (.compStart (.GeneratorExp elt [⟨.Tuple es kt pt, iter, ifs, 0⟩] scope pos) 0 (.ref I) .none cenv)
      ((model prog w).den (.compStart (.GeneratorExp elt [⟨.Tuple es kt pt, iter, ifs, 0⟩] scope pos) 0 (.ref I) .none cenv)) [] t := by
  have hB : (A.over (.compStart (.GeneratorExp elt [⟨.Tuple es kt pt, iter, ifs, 0⟩] scope pos) 0 (.ref I) .none cenv) []).handled = none := hh
  have lp := loopN (iter := iter) (pt := pt) (kt := kt) (scope := scope) (pos := pos) nm nd hh W hsz pz F href hl hp hco hCf hq n₀ 0 t₀ t m (Nat.sub_zero _) (Nat.zero_le _) hst hn hsn hkp
  show Seg _ A _ _ _ t₀ _ ((compStart (.GeneratorExp elt [⟨.Tuple es kt pt, iter, ifs, 0⟩] scope pos) 0 (.ref I) .none cenv).onRaise (leaving cenv)) [] t
  unfold compStart
  rw [Sem.onRaise_eq_wrap]
  show Seg _ A _ _ _ t₀ _ ((ask >>= _).wrap _ _ _ _) [] t
  refine seg_bind_wrap (wpAny_askSetting ?_)
  split
  · exact seg_again rfl lp
  · first
      | exact seg_bind_wrap (wpAny_rule (seg_bind_wrap (wpAny_standAt (seg_bind_wrap ((W _ hB).self 0 t _ _ hst (seg_again rfl lp))))))
      | (refine seg_bind_wrap (wpAny_rule ?_); show Seg _ A _ _ _ t₀ _ ((standAt iter.pos >>= _).wrap _ _ _ _) [] t; exact seg_bind_wrap (wpAny_standAt (seg_bind_wrap ((W _ hB).self 0 t _ _ hst (seg_again rfl lp)))))
theorem freshN (nm : IsNames es xs) (nd : xs.Nodup) (hh : A.handled = none) (W : ∀ B : Around, B.handled = none → WalksU prog w B I fp wr n₀ Pt Sq Mid) (hsz : ∀ i vals, Pt i vals → vals.size = xs.length) (pz : Nat → Bool) (F : Nat → Value → Prop)
    (hl : ∀ x ∈ xs, cenv.kindOf x = some .local) (hp : (cenv.scope.kind == .class || (cenv.scope.kind == .module && cenv.locals != cenv.globals)) = false) (hco : cenv.scope.isCoroutine = false) (hCf : cenv.locals ∉ fp) {t : Shared} {m : Str → Option Value}
    (hq : QuietN prog w cenv xs ifs elt fp wr Pt pz F t.heap (A.depth + 1) (A.units + 4)) (hg : t.heap.IsGen a g) (hgs : t.gens[g]? = some (.fresh (.compStart (.GeneratorExp elt [⟨.Tuple es kt pt, iter, ifs, 0⟩] scope pos) 0 (.ref I) .none cenv)))
    (hst : Sq 0 t.heap) (hn : t.heap.Ns cenv.locals m) (hlm : t.heap.NoLimit) : GenAt prog w A a g cenv.locals fp wr pz n₀ F 0 t :=
  ⟨hg, hlm, _, hgs, fun t9 al => ⟨rfl, startN (A := A.in1) nm nd hh W hsz pz F t.heap hl hp hco hCf hq t9 t9 m ((W A hh).frame _ _ _ hst fun b hb o e => al b (List.mem_cons_of_mem _ hb) o e) (hn.at' fun o e => al _ (List.mem_cons_self ..) o e) (GenSince.refl _ _ _)
    fun b hb _ o e => al b (List.mem_cons_of_mem _ hb) o e⟩⟩
end
section
variable {prog : Program} {w : World} {A : Around} {E : Value → Shared → Prop} {s : Shared}
theorem genexp_N {env : PySem.Env} {elt iter : Expr} {es : List Expr} {xs : List Str} {pt : Pos} {kt : Nat} {ifs : List Expr} {scope : Scope} {cl : List (Str × Addr)} {pos : Pos} {Q : Value → Shared → Prop} (nm : IsNames es xs) (nd : xs.Nodup)
    (hh : A.handled = none) (hco : scope.isCoroutine = false) (hclos : closureFor scope env = pure cl) (hcell : ∀ y ∈ scope.names, y.2 ≠ .cell) (h0 : scope.names.lookup (".0" : Str) = some NameKind.local) (hl : ∀ x ∈ xs, scope.names.lookup x = some .local) (hkind : scope.kind = .function) (hroom : A.depth < recursionLimit)
    (h : wpAny (model prog w) A (eval iter env) (fun xv s₁ => wpAny (model prog w) A (pyIter xv) (fun it s₂ => s₂.heap.NoLimit ∧ wpAny (model prog w) A (genexprCode env pos (env.qual ++ "<genexpr>") scope) (fun code s₃ => wpAny (model prog w) A (builtinsFor env.globals env.builtins) (fun bi s₄ =>
        ∃ I fp wr n₀ Pt Sq Mid pz F, it = .ref I ∧ (∀ B : Around, B.handled = none → WalksU prog w B I fp wr n₀ Pt Sq Mid) ∧ (∀ i vals, Pt i vals → vals.size = xs.length) ∧ Sq 0 s₄.heap ∧ (∀ b ∈ fp, b < s₄.heap.objs.size) ∧ s₄.heap.NoLimit ∧ cStatics ∉ wr ∧
          (∀ href : Heap, (∀ b o, s₄.heap.get? b = some o → href.get? b = some o) → QuietN prog w (genEnv scope cl s₄.heap.objs.size code bi env) xs ifs elt (List.range s₄.heap.objs.size) wr Pt pz F href (A.depth + 1) (A.units + 8)) ∧
          (∀ a h₅ tk gs, gs.bare = true → s₄.heap.objs.size < a → h₅.objs.size = a + 1 → (∀ b o, s₄.heap.get? b = some o → h₅.get? b = some o) →
            WalksS prog w A.in4 a (a :: s₄.heap.objs.size :: List.range s₄.heap.objs.size) (s₄.heap.objs.size :: wr) (GenOnlyQ s₄.gens.size) (passing pz n₀ 0).length (fun j y => ∃ i, (passing pz n₀ 0)[j]? = some i ∧ F i y) (GenAt prog w A.in4 a s₄.gens.size s₄.heap.objs.size (List.range s₄.heap.objs.size) wr pz n₀ F) →
            GenAt prog w A.in4 a s₄.gens.size s₄.heap.objs.size (List.range s₄.heap.objs.size) wr pz n₀ F 0 { s₄ with gens := s₄.gens.push gs, toks := tk, heap := h₅ } → Q (.ref a) { s₄ with gens := s₄.gens.push gs, toks := tk, heap := h₅ })) E s₃) E s₂) E s₁) E s)
    (hs : ∀ x, genFold iter env x = pure x) : wpAny (model prog w) A (eval (.GeneratorExp elt [⟨.Tuple es kt pt, iter, ifs, 0⟩] scope pos) env) Q E s := by
  refine wpAny_GeneratorExp_make hco hclos hcell h0 hkind hroom (wpAny_mono h (fun xv s₁ h₁ => wpAny_mono h₁ (fun it s₂ h₂ => ⟨h₂.1, wpAny_mono h₂.2 (fun code s₃ h₃ => wpAny_mono h₃ (fun bi t ht => ?_) fun _ _ e => e) fun _ _ e => e⟩) fun _ _ e => e) fun _ _ e => e) hs
  obtain ⟨I, fp, wr, n₀, Pt, Sq, Mid, pz, F, rfl, W, hsz, hst, hfp, hlm, hcw, hq, hQ⟩ := ht
  have clt : cStatics < t.heap.objs.size := let ⟨_, hn, _⟩ := hlm; hn.lt
  intro h' n' s'
  have sz' : h'.objs.size = t.heap.objs.size + 1 := by rw [s'.1, Heap.size_push]
  have k1 : ∀ b o, t.heap.get? b = some o → h'.get? b = some o := fun b o e => s'.extBut b o (Nat.ne_of_lt (Heap.lt_size e)) (Heap.get?_push_of_some _ e)
  have sub : ∀ b ∈ wr, b ∈ List.range t.heap.objs.size := fun b hb => List.mem_range.mpr (hfp b ((W A hh).sub b hb))
  have ne1 : h'.objs.size ≠ t.heap.objs.size := by rw [sz']; exact Nat.succ_ne_self _
  have nf : h'.objs.size ∉ List.range t.heap.objs.size := fun z => by have := List.mem_range.mp z; omega
  have k5 : ∀ b o, t.heap.get? b = some o → (h'.push { cls := .type "generator", data := .fields #[.int t.gens.size 0, .str "<genexpr>" (t.toks + 1), .str (env.qual ++ "<genexpr>") (t.toks + 1 + 1)] }).get? b = some o := fun b o e => Heap.get?_push_of_some _ (k1 b o e)
  refine hQ _ _ _ _ rfl (by omega) (by rw [Heap.size_push]) k5 (WalksS.genexpQ (A := A.in4) hh _ _ _ _ wr pz n₀ F ne1 nf sub hroom (List.mem_range.mpr clt) (Nat.ne_of_lt clt) hcw) ?_
  exact freshN (A := A.in4) (cenv := genEnv scope cl t.heap.objs.size code bi env) (m := fun y => if y = ".0" then some (.ref I) else none) nm nd hh (fun B hB => (W B hB).mono_fp fun b hb => List.mem_range.mpr (hfp b hb)) hsz pz F hl (by simp [genEnv, hkind]) hco
    (fun z => Nat.lt_irrefl _ (List.mem_range.mp z)) (hq _ k5) ⟨_, _, _, Heap.get?_push_size _ rfl, rfl, rfl, rfl⟩ (Array.getElem?_push_size ..) ((W A hh).frame _ _ _ hst fun b _ o e => k5 b o e) (n'.push _) (hlm.keeps k5)
end
end GL
namespace GL
open PySem PySem.Spec PyProof.Rows L2
/-! ### .. walked: the names' scope, the turn, the values -/
structure GenPN (sc scope : Scope) (xs : List Str) : Prop where
  kind : scope.kind = .function
  co : scope.isCoroutine = false
  nd : xs.Nodup
  loc : ∀ x ∈ xs, scope.names.lookup x = some .local
  dot : scope.names.lookup (".0" : Str) = some .local
  cell : ∀ z ∈ scope.names, z.2 ≠ .cell
  own : ∀ z ∈ scope.names, z.2 = .local → z.1 ∈ xs ∨ z.1 = ".0"
  free : ∀ z ∈ scope.names, z.2 = .free → sc.names.lookup z.1 = some .cell ∨ sc.names.lookup z.1 = some .free
  nil : scope.names.lookup ("" : Str) = none
def genPNB (sc scope : Scope) (xs : List Str) : Bool :=
  decide (scope.kind = .function) && (!scope.isCoroutine && (decide xs.Nodup && (xs.all (fun x => decide (scope.names.lookup x = some .local)) && (decide (scope.names.lookup ("" : Str) = none) && (decide (scope.names.lookup (".0" : Str) = some .local) &&
    scope.names.all fun z => !decide (z.2 = .cell) && ((!decide (z.2 = .local) || (xs.any (fun x => decide (z.1 = x)) || decide (z.1 = ".0"))) && (!decide (z.2 = .free) || (decide (sc.names.lookup z.1 = some .cell) || decide (sc.names.lookup z.1 = some .free)))))))))
theorem genPN_by {sc scope : Scope} {xs : List Str} (h : genPNB sc scope xs = true) : GenPN sc scope xs := by
  unfold genPNB at h
  simp only [Bool.and_eq_true, Bool.or_eq_true, Bool.not_eq_true', decide_eq_true_eq, decide_eq_false_iff_not, List.all_eq_true, List.any_eq_true] at h
  obtain ⟨h1, h2, h3, h4, h5, h6, h7⟩ := h
  refine ⟨h1, h2, h3, h4, h6, fun z hz => (h7 z hz).1, fun z hz e => ?_, fun z hz e => ?_, h5⟩
  · rcases (h7 z hz).2.1 with q | ⟨x, hx, e⟩ | q
    · exact absurd e q
    · exact .inl (by rw [e]; exact hx)
    · exact .inr q
  · rcases (h7 z hz).2.2 with q | q
    · exact absurd e q
    · exact q
abbrev QGenN (X : Cx) (scope : Scope) (M : List Str) (xs : List Str) (L : Addr) (code : Value) : QC := ⟨X.prog, X.w, X.K, X.mg, X.base, genEnv scope (cloFrom X.env.cells scope.names []) L code builtinsNs X.env, M ++ xs⟩
structure HidN (N M xs : List Str) : Prop where
  len : M.length = N.length
  at' : ∀ (i : Nat) z, M[i]? = some z → z = "" ∨ (N[i]? = some z ∧ z ∉ xs ∧ z ≠ ".0")
def hidNB (xs : List Str) : List Str → List Str → Bool
  | [], [] => true
  | a :: N, b :: M => (decide (b = "") || (decide (a = b) && (xs.all (fun x => !decide (b = x)) && !decide (b = ".0")))) && hidNB xs N M
  | _, _ => false
theorem hidN_by {xs : List Str} : ∀ {N M : List Str}, hidNB xs N M = true → HidN N M xs
  | [], [], _ => ⟨rfl, fun i y h => by cases h⟩
  | [], _ :: _, h | _ :: _, [], h => by cases h
  | a :: N, b :: M, h => by
    unfold hidNB at h
    simp only [Bool.and_eq_true, Bool.or_eq_true, Bool.not_eq_true', decide_eq_true_eq, decide_eq_false_iff_not, List.all_eq_true] at h
    obtain ⟨h1, h2⟩ := h
    have ih := hidN_by h2
    refine ⟨by rw [List.length_cons, List.length_cons, ih.len], fun i z hz => ?_⟩
    cases i with
    | zero =>
      cases hz
      rcases h1 with q | ⟨q1, q2, q3⟩
      · exact .inl q
      · exact .inr ⟨by rw [q1]; rfl, fun z => q2 _ z rfl, q3⟩
    | succ i => exact ih.at' i z hz
/-- a test that is read, where not too many calls run -/
def IfsB (C : QC) (Dp Un : Nat) (G : Wd) (ifs : List Expr) (m : Sl → Re) : Prop := ∀ (A : Around) (E : Value → Shared → Prop) H s σ Γ Y b Γ' q, A.handled = none → A.depth ≤ Dp → A.units ≤ Un → QI C H s → QN C σ s.heap → QSl C G Y H σ Γ → Lv Y H → m Γ = .ok (.bl b) Γ' q →
  wpAny (model C.prog C.w) A (forIn ifs true fun c r => if r = true then do let ok ← isTrue c C.env (eval c C.env); pure (ForInStep.yield ok) else pure (ForInStep.yield r)) (fun ok s' => ok = b ∧ Keeps s s') E s
def mYes : Sl → Re := fun Γ => .ok (.bl true) Γ true
section
variable {C : QC} {G : Wd} {Dp Un : Nat}
theorem ifs_nil : IfsB C Dp Un G [] mYes := fun A E H s σ Γ Y b Γ' q _ _ _ _ _ _ _ h => by
  cases h
  simp only [List.forIn_nil]
  exact wpAny_pure ⟨rfl, keeps_id _⟩
end
section
variable {X : Cx} {G : Wd} {pins : List (Addr × Obj)} {σ : L2.St} {H2 : Hp} {s2 : Shared} {scope : Scope} {xs M : List Str} {L0 : Addr} {cv : Value} {Γ : Sl} {Y : List Addr}
/-- what the turn's reader finds -/
theorem turn_ok (ok : X.Ok) (L : GenPN X.env.scope scope xs) (hx : HidN X.N M xs) (J : Inv X pins σ H2 s2) {m2 : Str → Option Value} {vals : List Value} {ws : List V} (hn : s2.heap.Ns L0 m2) (hm : ∀ (j : Nat) x v, xs[j]? = some x → vals[j]? = some v → m2 x = some v) (hw : Vals ws vals) (hl : vals.length = xs.length) :
    QI (QGenN X scope M xs L0 cv) H2 s2 ∧ QN (QGenN X scope M xs L0 cv) (σ ++ ws.map some) s2.heap := by
  refine ⟨⟨⟨ok.mod, L.kind, ok.glob, rfl⟩, J.bk, J.hok⟩, m2, hn, fun j n u e1 e2 e3 => ?_⟩
  have hlen := J.len
  have hM := hx.len
  by_cases hj : j < X.N.length
  · have e1 : (M ++ xs)[j]? = some n := e1
    rw [List.getElem?_append_left (by omega)] at e1
    rw [List.getElem?_append_left (by omega)] at e2
    rcases hx.at' j n e1 with z0 | ⟨e1, y1, y0⟩
    · subst z0
      exfalso
      have n0 := L.nil
      rcases e3 with z | z | z <;> (rw [show (genEnv scope (cloFrom X.env.cells scope.names []) L0 cv builtinsNs X.env).scope = scope from rfl, n0] at z; cases z)
    have hfree : scope.names.lookup n = some .free := by
      rcases e3 with z | z | z
      · rcases L.own _ (PySem.mem_of_lookup z) rfl with q | q
        · exact absurd q y1
        · exact absurd q y0
      · exact absurd rfl (L.cell _ (PySem.mem_of_lookup z))
      · exact z
    have hsc := L.free _ (PySem.mem_of_lookup hfree) rfl
    obtain ⟨m0, _, hl0⟩ := J.loc
    obtain ⟨u', r', l'⟩ := hl0 j n u e1 e2 (.inr hsc)
    refine ⟨u', r', .inr ⟨.inr hfree, ?_⟩⟩
    rcases l' with ⟨hk1, _⟩ | ⟨_, c1, hc, hic⟩
    · have hk1 : X.env.scope.names.lookup n = some .local := hk1
      rcases hsc with z | z <;> (rw [hk1] at z; cases z)
    · obtain ⟨c2, hc2⟩ := mem_lookup (cloFrom_has (cells := X.env.cells) (acc := []) (PySem.mem_of_lookup hfree))
      have : c2 = c1 := by
        rcases cloFrom_mem (PySem.mem_of_lookup hc2) with hm' | ⟨_, h2⟩
        · cases hm'
        · rw [h2, hc] <;> rfl
      subst this
      exact ⟨c2, hc2, hic⟩
  · have e1 : (M ++ xs)[j]? = some n := e1
    rw [List.getElem?_append_right (by omega), hM] at e1
    rw [List.getElem?_append_right (by omega), hlen, List.getElem?_map] at e2
    cases hv : ws[j - X.N.length]? with
    | none => rw [hv] at e2; cases e2
    | some u2 =>
      rw [hv] at e2
      cases e2
      obtain ⟨v, hv2, rv⟩ := Vals.get hw hv
      exact ⟨v, rv, .inl ⟨L.loc n (List.mem_of_getElem? e1), hm _ n v e1 hv2⟩⟩
theorem turn_sl {C : QC} {ds : List D} {ws : List V} (hl : Γ.length = σ.length) (h : ∀ (i : Nat) d, Γ[i]? = some (some d) → ∃ v, σ[i]? = some (some v) ∧ Bw C.K G H2 Y v d) (hb : Bws C.K G H2 Y ws ds) : QSl C G Y H2 (σ ++ ws.map some) (Γ ++ ds.map some) := by
  intro j dd hdd
  by_cases hj : j < Γ.length
  · rw [List.getElem?_append_left hj] at hdd
    obtain ⟨v', h1, h2⟩ := h j dd hdd
    exact ⟨v', by rw [List.getElem?_append_left (by omega)]; exact h1, h2⟩
  · rw [List.getElem?_append_right (by omega), List.getElem?_map] at hdd
    rw [List.getElem?_append_right (by omega), ← hl, List.getElem?_map]
    have : ∀ {vs : List V} {l : List D}, Bws C.K G H2 Y vs l → ∀ (i : Nat) d, l[i]? = some d → ∃ v, vs[i]? = some v ∧ Bw C.K G H2 Y v d := by
      intro vs l b
      induction b with
      | nil => intro i d h; cases h
      | cons b0 bs ih =>
        intro i d h
        cases i with
        | zero => cases h; exact ⟨_, rfl, b0⟩
        | succ i => exact ih i d h
    cases hd : ds[j - Γ.length]? with
    | none => rw [hd] at hdd; cases hdd
    | some d =>
      rw [hd] at hdd
      cases hdd
      obtain ⟨v, h1, h2⟩ := this hb _ _ hd
      exact ⟨v, by rw [h1]; rfl, h2⟩
end
/-! the values of the turns that pass -/
def keysN (mt m : Sl → Re) (Γ : Sl) : List (List D) → Option (List (Option D))
  | [] => some []
  | ds :: l => match mt (Γ ++ ds.map some) with
    | .ok (.bl true) _ _ => match m (Γ ++ ds.map some) with
      | .ok z _ _ => if isAt z = true then (keysN mt m Γ l).map (some z :: ·) else none
      | _ => none
    | .ok (.bl false) _ _ => (keysN mt m Γ l).map (none :: ·)
    | _ => none
def GotN (mt m : Sl → Re) (Γ : Sl) (ds : List D) (z : Option D) : Prop := ∃ b Γ1 q1, mt (Γ ++ ds.map some) = .ok (.bl b) Γ1 q1 ∧ (b = false → z = none) ∧ (b = true → ∃ Γ' q y, m (Γ ++ ds.map some) = .ok y Γ' q ∧ z = some y ∧ isAt y = true)
theorem keysN_get {mt m : Sl → Re} {Γ : Sl} : ∀ {l : List (List D)} {zs : List (Option D)}, keysN mt m Γ l = some zs → zs.length = l.length ∧ ∀ (i : Nat) ds, l[i]? = some ds → ∃ z, zs[i]? = some z ∧ GotN mt m Γ ds z
  | [], ys, h => by cases h; exact ⟨rfl, fun i ds h => by cases h⟩
  | ds :: l, ys, h => by
    unfold keysN at h
    split at h
    · rename_i Γ1 q1 ht
      split at h
      · rename_i z Γ2 q2 hm
        split at h
        · rename_i hz
          obtain ⟨cs, hl, rfl⟩ := Option.map_eq_some_iff.mp h
          obtain ⟨h1, h2⟩ := keysN_get hl
          refine ⟨by rw [List.length_cons, List.length_cons, h1], fun i dd hd => ?_⟩
          cases i with
          | zero => cases hd; exact ⟨_, rfl, true, Γ1, q1, ht, (fun z => by cases z), fun _ => ⟨Γ2, q2, z, hm, rfl, hz⟩⟩
          | succ i => exact h2 i dd hd
        · cases h
      · cases h
    · rename_i Γ1 q1 ht
      obtain ⟨cs, hl, rfl⟩ := Option.map_eq_some_iff.mp h
      obtain ⟨h1, h2⟩ := keysN_get hl
      refine ⟨by rw [List.length_cons, List.length_cons, h1], fun i dd hd => ?_⟩
      cases i with
      | zero => cases hd; exact ⟨_, rfl, false, Γ1, q1, ht, (fun _ => rfl), fun z => by cases z⟩
      | succ i => exact h2 i dd hd
    · cases h
def pzN (zs : List (Option D)) (i : Nat) : Bool := (zs.getD i none).isSome
theorem filt_some : ∀ zs : List (Option D), zs.filter Option.isSome = (zs.filterMap id).map some
  | [] => rfl
  | none :: zs => by
    rw [List.filter_cons, List.filterMap_cons, filt_some zs]
    rfl
  | some z :: zs => by
    rw [List.filter_cons, List.filterMap_cons, filt_some zs]
    rfl
theorem pass_map (zs : List (Option D)) : (passing (pzN zs) zs.length 0).map (fun i => zs.getD i none) = (zs.filterMap id).map some := by
  have e : (List.range zs.length).map (fun i => zs.getD i none) = zs := by
    refine List.ext_getElem? fun i => ?_
    rw [List.getElem?_map]
    by_cases h : i < zs.length
    · rw [List.getElem?_range h, List.getElem?_eq_getElem h]
      show some (zs.getD i none) = _
      rw [List.getD_eq_getElem?_getD, List.getElem?_eq_getElem h]
      rfl
    · rw [List.getElem?_eq_none (by rw [List.length_range]; omega), List.getElem?_eq_none (by omega)]
      rfl
  rw [← filt_some]
  exact pass_map.comm e
where
  comm {zs : List (Option D)} (e : (List.range zs.length).map (fun i => zs.getD i none) = zs) : (passing (pzN zs) zs.length 0).map (fun i => zs.getD i none) = zs.filter Option.isSome := by
    conv => rhs; rw [← e]
    rw [List.filter_map]
    rfl
theorem pass_len (zs : List (Option D)) : (passing (pzN zs) zs.length 0).length = (zs.filterMap id).length := by
  have := congrArg List.length (pass_map zs)
  rwa [List.length_map, List.length_map] at this
theorem pass_at {zs : List (Option D)} {j i : Nat} {z : D} (h : (passing (pzN zs) zs.length 0)[j]? = some i) (hz : zs[i]? = some (some z)) : (zs.filterMap id)[j]? = some z := by
  have := congrArg (fun l => l[j]?) (pass_map zs)
  simp only [List.getElem?_map, h] at this
  have this : some (zs.getD i none) = Option.map some (zs.filterMap id)[j]? := this
  rw [List.getD_eq_getElem?_getD, hz] at this
  cases hk : (zs.filterMap id)[j]? with
  | none => rw [hk] at this; cases this
  | some y =>
    rw [hk] at this
    have : some (some z) = some (some y) := this
    cases this
    rfl
end GL
namespace GL
open PySem PySem.Spec PyProof.Rows L2 PySem.W
/-! ### .. in sum, any, all -/
/-- how what is walked goes, by rows; Inv holds ahead of what was made for it -/
def GIterN (X : Cx) (pins : List (Addr × Obj)) (σ : L2.St) (s : Shared) (H : Hp) (xv : Value) (ps : List (List V)) : Prop :=
  ∀ P tb, H P = some (.tbl tb) → ∃ (h0 h2 : Heap) (It : Addr) (fp wr : List Addr) (Pt : Nat → Array Value → Prop) (Sq : Nat → Heap → Prop) (Mid : Nat → Addr → Heap → Prop), Inv X pins σ H { s with heap := h0 } ∧ (∀ b u, h0.get? b = some u → h2.get? b = some u) ∧ h0.objs.size ≤ h2.objs.size ∧ (∀ b ∈ wr, h0.objs.size ≤ b ∧ b < h2.objs.size) ∧
    (∀ (E : Value → Shared → Prop) (Q' : Value → Shared → Prop), Q' (.ref It) { s with heap := h2 } → wpAny (model X.prog X.w) X.A (pyIter xv) Q' E s) ∧ (∀ A' : Around, A'.handled = none → WalksU X.prog X.w A' It fp wr ps.length Pt Sq Mid) ∧
    (∀ h' : Heap, (∀ b u, b ≠ P → h2.get? b = some u → h'.get? b = some u) → Sq 0 h') ∧ (∀ b ∈ fp, b < h2.objs.size) ∧ (∀ i vals, Pt i vals → ∃ ws, ps[i]? = some ws ∧ Vals ws vals.toList)
section
variable {X : Cx} {G : Wd} {pins : List (Addr × Obj)} {σ : L2.St} {c P : Addr} {gpos pt : Pos} {kt : Nat} {scope : Scope} {E : Value → Shared → Prop} {s : Shared} {es : List Expr} {xs : List Str} {ifs : List Expr} {elt iter : Expr} {k Dp Un : Nat} {m mt : Sl → Re} {Q : Value → Shared → Prop} {M : List Str}
theorem gen_runN (nm : IsNames es xs) (ok : X.Ok) (hr : Room k X.A) (TB : LamX.TabB X.base X.mg c P) (hcode : X.env.code = .ref c) {q0 : Str} (hm : (P, q0) ∈ G.T) (hu : (∀ r ∈ G.T, r.1 = P → r.2 = q0) ∧ (q0 = X.env.qual ++ "<genexpr>" ∨ q0 = ""))
    (L : GenPN X.env.scope scope xs) (hx : HidN X.N M xs) (hb : ∀ L0 cv, GQB (QGenN X scope M xs L0 cv) Dp Un G elt m) (hi : ∀ L0 cv, IfsB (QGenN X scope M xs L0 cv) Dp Un G ifs mt) (hD : X.A.depth + 1 ≤ Dp) (hU : X.A.units + 8 ≤ Un)
    (hs : ∀ v, genFold iter X.env v = pure v) (he : wpAny (model X.prog X.w) X.A (eval iter X.env) (fun xv s1 => ∃ (H : Hp) (Γ : Sl) (Y : List Addr) (ds : List (List D)) (zs : List (Option D)) (ps : List (List V)), Inv X pins σ H s1 ∧ GL.Tabs G.T H ∧ GIterN X pins σ s1 H xv ps ∧ ps.length = zs.length ∧ ds.length = zs.length ∧
      (∀ H2, LamX.ExtN H H2 → GL.Tabs G.T H2 → (∀ (i : Nat) d, Γ[i]? = some (some d) → ∃ v, σ[i]? = some (some v) ∧ Bw X.K G H2 Y v d) ∧ Lv Y H2 ∧ (∀ (i : Nat) ws dd, ps[i]? = some ws → ds[i]? = some dd → Bws X.K G H2 Y ws dd ∧ ws.length = xs.length)) ∧ Γ.length = σ.length ∧
      (∀ (i : Nat) dd, ds[i]? = some dd → ∃ z, zs[i]? = some z ∧ GotN mt m Γ dd z) ∧
      ∀ g s5, Rdy2 X pins σ G.T H (zs.filterMap id) g s5 → Q (.ref g) s5) E s) : wpAny (model X.prog X.w) X.A (eval (.GeneratorExp elt [⟨.Tuple es kt pt, iter, ifs, 0⟩] scope gpos) X.env) Q E s := by
  refine genexp_N nm L.nd hr.hd L.co (closure_ok fun y hy e => ok.has y.1 (L.free y hy e)) L.cell L.dot L.loc L.kind (by have := hr.dp; omega) ?_ hs
  refine wpAny_mono he (fun v s1 h1 => ?_) fun _ _ e => e
  obtain ⟨H, Γ, Y, ds, zs, ps, I, hT, hG, hpl, hdl, hS, hlen, hys, hQ⟩ := h1
  obtain ⟨tb, hP, _⟩ := hT _ hm
  obtain ⟨h0, h2, It, fp, wr, Pt, Sq, Mid, I0, k2, hz, hw, hit, Wk, st0, hfp, hPt⟩ := hG P tb hP
  refine hit _ _ ⟨I0.nolimit.keeps k2, ?_⟩
  refine wpAny_mono (gen_code2 (s := { s1 with heap := h0 }) (gpos := gpos) (scope := scope) I0 k2 hz hw TB hcode hm hu hT) (fun code s3 h3 => ?_) fun _ _ e => e
  obtain ⟨h3, tk, H2, rfl, tx, tt, hx3, hsz, mk⟩ := h3
  have J3 := mk h3 tk fun _ _ _ e => e
  obtain ⟨bm, ob, b1, b2, b3, b4, b5, b6, b7, b8⟩ := TB.bm
  have bg : ({ s1 with heap := h3, toks := tk } : Shared).heap.Ns X.env.globals X.mg := by
    rw [I.ok.glob]
    exact I.mod.glob.keeps J3.bk
  refine wpAny_builtinsFor (m := X.mg) bg b1 b2 (J3.bk _ _ b5) b6 b7 b8 ?_
  obtain ⟨sS, sL, sV⟩ := hS H2 tx tt
  have hcl : cStatics ∉ wr := fun z => by
    obtain ⟨_, hn, _⟩ := I0.nolimit
    exact absurd hn.lt (Nat.not_lt.mpr (hw _ z).1)
  have row : ∀ i vals, Pt i vals → ∃ ws dd z, Vals ws vals.toList ∧ Bws X.K G H2 Y ws dd ∧ ws.length = xs.length ∧ zs[i]? = some z ∧ GotN mt m Γ dd z := fun i vals hp => by
    obtain ⟨ws, e, r⟩ := hPt i vals hp
    have il : i < ps.length := (List.getElem?_eq_some_iff.mp e).1
    obtain ⟨dd, hd⟩ : ∃ d, ds[i]? = some d := ⟨_, List.getElem?_eq_getElem (by omega)⟩
    obtain ⟨b, l⟩ := sV i ws dd e hd
    obtain ⟨z, hz, g⟩ := hys i dd hd
    exact ⟨ws, dd, z, r, b, l, hz, g⟩
  have size : ∀ i vals, Pt i vals → vals.size = xs.length := fun i vals hp => by
    obtain ⟨ws, dd, z, r, b, l, _⟩ := row i vals hp
    rw [← Array.length_toList, ← r.length, l]
  have there : ∀ {href : Heap} {t : Shared}, (∀ b o, h3.get? b = some o → href.get? b = some o) → (∀ b ∈ List.range h3.objs.size, b ∉ wr → ∀ o, href.get? b = some o → t.heap.get? b = some o) → Inv X pins σ H2 { s1 with heap := t.heap, toks := t.toks } := fun {href t} hk hkp =>
    mk t.heap t.toks fun b u hb e => hkp b (List.mem_range.mpr (Heap.lt_size e)) hb u (hk b u e)
  refine ⟨It, fp, wr, ps.length, Pt, Sq, Mid, pzN zs, fun i v => ∃ z, zs[i]? = some (some z) ∧ AtR z v, rfl, Wk, size, st0 h3 fun b u hb e => hx3 b u hb e, fun b hb => Nat.lt_of_lt_of_le (hfp b hb) hsz, J3.nolimit, hcl, ?_, ?_⟩
  · intro href hk
    refine ⟨fun B E' i vals t n hB hBd hBu hp hn hv hkp => ?_, fun B E' i vals t n hB hBd hBu hp hpz hn hv hkp => ?_⟩
    · obtain ⟨ws, dd, z, r, b, l, hzi, bb, Γ1, q1, ht, hf, htr⟩ := row i vals hp
      have J := there (t := t) hk hkp
      obtain ⟨Iq, N0⟩ := turn_ok (cv := code) (s2 := { s1 with heap := t.heap, toks := t.toks }) I.ok L hx J hn hv r (by rw [Array.length_toList]; exact size i vals hp)
      have S0 := turn_sl (C := QGenN X scope M xs h3.objs.size code) hlen sS b
      have Iq' : QI (QGenN X scope M xs h3.objs.size code) H2 t := ⟨Iq.ok, Iq.bk, Iq.hok⟩
      have eb : bb = pzN zs i := by
        unfold pzN
        rw [List.getD_eq_getElem?_getD, hzi]
        cases bb with
        | false => rw [hf rfl]; rfl
        | true =>
          obtain ⟨_, _, y, _, e, _⟩ := htr rfl
          rw [e]
          rfl
      rw [← eb]
      exact hi h3.objs.size code B E' H2 t _ _ Y bb Γ1 q1 hB (by omega) (by omega) Iq' N0 S0 sL ht
    · obtain ⟨ws, dd, z, r, b, l, hzi, bb, Γ1, q1, ht, hf, htr⟩ := row i vals hp
      have J := there (t := t) hk hkp
      obtain ⟨Iq, N0⟩ := turn_ok (cv := code) (s2 := { s1 with heap := t.heap, toks := t.toks }) I.ok L hx J hn hv r (by rw [Array.length_toList]; exact size i vals hp)
      have S0 := turn_sl (C := QGenN X scope M xs h3.objs.size code) hlen sS b
      have Iq' : QI (QGenN X scope M xs h3.objs.size code) H2 t := ⟨Iq.ok, Iq.bk, Iq.hok⟩
      have eb : bb = true := by
        cases bb with
        | true => rfl
        | false =>
          unfold pzN at hpz
          rw [List.getD_eq_getElem?_getD, hzi, hf rfl] at hpz
          cases hpz
      obtain ⟨Γ', q, y, hmq, ey, hat⟩ := htr eb
      subst ey
      refine wpAny_mono (hb h3.objs.size code B E' H2 t _ _ Y y Γ' q hB (by omega) (by omega) Iq' N0 S0 sL hmq) (fun v s9 hp => ?_) fun _ _ e => e
      obtain ⟨v9, _, r9, _, k9, _, b9⟩ := hp
      refine ⟨⟨y, hzi, ?_⟩, k9⟩
      cases y with
      | int n =>
        have := b9.int
        subst this
        exact r9
      | bl b =>
        have := b9.bl
        subst this
        exact r9
      | _ => cases hat
  · intro g h5 tk5 gs hgb hag hsz5 hk5 W5 hat
    rw [hpl] at W5 hat
    rw [pass_len zs] at W5
    refine hQ g _ ⟨_, _, _, _, _, H2, W5.in4_1, hat, ?_, ?_, tx, tt, fun s' hmv => ?_⟩
    · intro b hb
      show b < h5.objs.size
      have hag : h3.objs.size < g := hag
      rw [hsz5]
      rcases List.mem_cons.mp hb with z | hb
      · rw [z]; exact Nat.lt_succ_self _
      · rcases List.mem_cons.mp hb with z | hb
        · have z : b = h3.objs.size := z
          rw [z]; exact Nat.lt_succ_of_lt hag
        · have hb : b < h3.objs.size := List.mem_range.mp hb
          exact Nat.lt_succ_of_lt (Nat.lt_trans hb hag)
    · intro j v ⟨i, hij, z, hyi, hav⟩
      exact ⟨z, pass_at hij hyi, hav⟩
    · have kp : ∀ b u, b ∉ wr → h3.get? b = some u → s'.heap.get? b = some u := fun b u hb e => by
        refine hmv.heap b u (fun z => ?_) (hk5 b u e)
        rcases List.mem_cons.mp z with z | z
        · have z : b = h3.objs.size := z
          rw [z] at e
          exact Nat.lt_irrefl _ (Heap.lt_size e)
        · exact hb z
      have J := mk s'.heap s'.toks kp
      obtain ⟨ps2, hP2, _⟩ := tt _ hm
      have J2 := inv_gens (g' := s'.gens) (d' := s'.drawn) J hP2 (AllBare.movedS (I.bare.push hgb) hmv)
      have e : ({ s1 with heap := s'.heap, gens := s'.gens, drawn := s'.drawn, toks := s'.toks } : Shared) = s' := GxR.sh_eta s1 s' hmv.os
      rw [← e]
      exact J2
end
/-! the rule -/
def mGsN (f : List D → Option D) (mi : Sl → Rg (List (List D))) (mt m : Sl → Re) : Sl → Re := fun Γ => (mi Γ).bind fun l Γ1 => .of ((keysN mt m Γ1 l).bind fun zs => f (zs.filterMap id)) Γ1
def GSrN (G : Wd) (pz : List Nat) (X : Cx) (n : Nat) (it : Expr) (mi : Sl → Rg (List (List D))) : Prop :=
  ∀ pn xe W σ H X0 ppins F Γ (pins : List (Addr × Obj)) s (T : List (List D) → Sl → Hp → List Addr → Prop), Takes (X.tr pn xe) W → Hold X.K G pz X0 ppins Γ σ H F → Inv (X.tr pn xe) pins σ H s →
    RgPost X.K G pz X0 ppins F H σ W (fun ds Γ1 q1 => ∀ H' F', Step G F H F' H' → Hold X.K G pz X0 ppins Γ1 σ H' F' → Qt G F H q1 H' F' → T ds Γ1 H' F') (mi Γ) →
    wpAny (model (X.tr pn xe).prog (X.tr pn xe).w) (X.tr pn xe).A (eval it (X.tr pn xe).env) (fun xv s1 => ∃ H1 Γ1 F1 l ps, Inv (X.tr pn xe) pins σ H1 s1 ∧ Hold X.K G pz X0 ppins Γ1 σ H1 F1 ∧ T l Γ1 H1 F1 ∧ ps.length = l.length ∧ (∀ (i : Nat) ws dd, ps[i]? = some ws → l[i]? = some dd → Rps X.K G (X0 ++ F1) H1 ws dd ∧ ws.length = n) ∧ GIterN (X.tr pn xe) pins σ s1 H1 xv ps) (X.tr pn xe).xe s
section
variable {X : Cx} {G : Wd} {pz : List Nat} {scope : Scope} {es : List Expr} {xs : List Str} {ifs : List Expr} {mi : Sl → Rg (List (List D))} {m mt : Sl → Re} {elt iter : Expr} {p pt pos gpos : Pos} {kt : Nat} {c P : Addr} {k0 Dp Un : Nat} {pins : List (Addr × Obj)} {σ : L2.St} {H : Hp} {s : Shared} {M : List Str}
theorem rps_bws {K : PySem.W.Frag} {Y : List Addr} {H H2 : Hp} (g : Grow G H H2) : ∀ {ws : List V} {dd : List D}, Rps K G Y H ws dd → Bws K G H2 Y ws dd
  | _, _, .nil => .nil
  | _, _, .cons r t => .cons ((show Bw K G H Y _ _ from ⟨[], .fz r⟩).grow g) (rps_bws g t)
theorem gyN_run {f : List D → Option D} {X0 : List Addr} {ppins : Nat → V} {F : List Addr} {W : WX} {Γ : Sl} {Q : VK} {Q' : Value → Shared → Prop} (nm : IsNames es xs) (hi : GSrN G pz X xs.length iter mi) (TB : LamX.TabB X.base X.mg c P) (hcode : X.env.code = .ref c) {q0 : Str} (hmT : (P, q0) ∈ G.T) (hu : (∀ r ∈ G.T, r.1 = P → r.2 = q0) ∧ (q0 = X.env.qual ++ "<genexpr>" ∨ q0 = "")) (hr : Room k0 X.A)
    (hb : ∀ L0 cv, GQB (QGenN X scope M xs L0 cv) Dp Un G elt m) (hif : ∀ L0 cv, IfsB (QGenN X scope M xs L0 cv) Dp Un G ifs mt) (hD : X.A.depth + 1 ≤ Dp) (hU : X.A.units + 8 ≤ Un) (L : GenPN X.env.scope scope xs) (hx : HidN X.N M xs) (hs : ∀ pn xe v, genFold iter (X.tr pn xe).env v = pure v) (pn xe) (tk : Takes (X.tr pn xe) W) (ho : Hold X.K G pz X0 ppins Γ σ H F)
    (q : RgPost X.K G pz X0 ppins F H σ W (VPost X.K G pz X0 ppins F H σ Q) (mGsN f mi mt m Γ)) (I : Inv (X.tr pn xe) pins σ H s)
    (fin : ∀ ys d H1 g s5, f ys = some d → Rdy2 (X.tr pn xe) pins σ G.T H1 ys g s5 → (∀ H2, LamX.ExtN H1 H2 → GL.Tabs G.T H2 → ∀ v, (∀ Y, Rp X.K G Y H2 v d) → Q v H2) → Q' (.ref g) s5) :
    wpAny (model (X.tr pn xe).prog (X.tr pn xe).w) (X.tr pn xe).A (eval (.GeneratorExp elt [⟨.Tuple es kt pt, iter, ifs, 0⟩] scope gpos) (X.tr pn xe).env) Q' (X.tr pn xe).xe s := by
  have run := hi pn xe W σ H X0 ppins F Γ pins s (fun l Γ1 H1 F1 => ∃ zs d, keysN mt m Γ1 l = some zs ∧ f (zs.filterMap id) = some d ∧ FrQ X.K G H1 (X0 ++ F1) d Q) tk ho I (q.bind fun l Γ1 q1 e0 p1 H1 F1 s1 ho1 qt1 => by
    clear e0
    obtain ⟨d', e, fr⟩ := fr_of ho1 (p1.vaft s1 qt1)
    obtain ⟨ys, e1, e2⟩ := Option.bind_eq_some_iff.mp e
    exact ⟨ys, d', e1, e2, fr⟩)
  refine gen_runN (X := X.tr pn xe) (k := k0) (pins := pins) (σ := σ) (Q := Q') nm I.ok hr TB hcode hmT hu L hx hb hif hD hU (hs pn xe) (wpAny_mono run (fun u s1 ⟨H1, Γ1, F1, l, ps, I1, ho1, ⟨zs, d, hy, hd, fr⟩, hl1, rp, hit⟩ => ?_) fun _ _ z => z)
  obtain ⟨b1, b2⟩ := keysN_get hy
  refine ⟨H1, Γ1, X0 ++ F1, l, zs, ps, I1, ho1.tb, hit, by omega, b1.symm, fun H2 ex tb => ?_, ?_, b2, fun g s5 hR => fin _ d H1 g s5 hd hR fun H2 ex tb v rv => fr v H2 [] ⟨ex, fun _ => tb⟩ (fun a z => by cases z) .nil (by rw [List.append_nil]; exact .fz (rv _))⟩
  · have g2 : Grow G H1 H2 := ⟨ex, fun _ => tb⟩
    have ho2 := ho1.grow g2
    refine ⟨fun i d hd => ?_, ho2.liveX, fun i ws dd hw hd => ?_⟩
    · obtain ⟨v, Fv, h1, h2⟩ := ho2.var hd
      exact ⟨v, h1, Fv, h2⟩
    · obtain ⟨r, l⟩ := rp i ws dd hw hd
      exact ⟨rps_bws g2 r, l⟩
  · obtain ⟨F0, sl, _⟩ := ho1.sl
    exact sl.len.symm
theorem ge_sumN (nm : IsNames es xs) (hi : GSrN G pz X xs.length iter mi) (TB : LamX.TabB X.base X.mg c P) (hcode : X.env.code = .ref c) {q0 : Str} (hmT : (P, q0) ∈ G.T) (hu : (∀ r ∈ G.T, r.1 = P → r.2 = q0) ∧ (q0 = X.env.qual ++ "<genexpr>" ∨ q0 = "")) (hr : Room k0 X.A) (hm : X.mg "sum" = none)
    (hb : ∀ L0 cv, GQB (QGenN X scope M xs L0 cv) (X.A.depth + 1) (X.A.units + 9) G elt m) (hif : ∀ L0 cv, IfsB (QGenN X scope M xs L0 cv) (X.A.depth + 1) (X.A.units + 9) G ifs mt) (L : GenPN X.env.scope scope xs := by exact genPN_by (by decide +kernel)) (hx : HidN X.N M xs) (hs : ∀ pn xe v, genFold iter (X.tr pn xe).env v = pure v := by intro _ _ _; rfl) (hg : Gl X "sum" := by rfl)
    (he : ∀ pn xe, starEach [.GeneratorExp elt [⟨.Tuple es kt pt, iter, ifs, 0⟩] scope gpos] (X.tr pn xe).env = (false, eval (.GeneratorExp elt [⟨.Tuple es kt pt, iter, ifs, 0⟩] scope gpos) (X.tr pn xe).env) :: starEach [] (X.tr pn xe).env := by intro _ _; rfl) :
    GE G pz X (.Call (.Name "sum" p) [.GeneratorExp elt [⟨.Tuple es kt pt, iter, ifs, 0⟩] scope gpos] [] pos) (mGsN sumF mi mt m) := fun pn xe W σ H X0 pins F Q Γ tk ho q => by
  intro pins' s I
  refine wpAny_Call_Name_kw (ld_blt I hg hm (show bootBuiltins "sum" = some (.builtin "sum") by rfl) ?_)
  refine PyProof.Rows.callWith_builtin1 ?_ (he pn xe) (by rfl)
  rw [he pn xe]
  refine Calls.spliced_cons (gyN_run (f := sumF) nm hi TB hcode hmT hu hr hb hif (Nat.le_refl _) (Nat.le_succ _) L hx hs pn xe tk ho q I fun ys d H1 g s5 e hR fin => Calls.spliced_nil ?_)
  obtain ⟨ns, e1, rfl⟩ := Option.map_eq_some_iff.mp e
  have := ints_map e1
  subst this
  obtain ⟨fp, wr, Gs, F5, Sx, H2, w1, w2, wf, w3, w4, w5, w6⟩ := hR
  refine call_sum_walkAnyS (w1.self 0 _ _ _ w2 ⟨g, fp, wr, Gs, _, F5, Sx, fun i => ns.getD i 0, rfl, w1, w2, wf, fun i v hv => ?_, fun s' t' hv => ⟨.int ns.sum, H2, w6 s' hv, ⟨t', ?_⟩, fin H2 w4 w5 _ fun Y => .int⟩⟩)
  · obtain ⟨z, hz, hat⟩ := w3 i v hv
    rw [List.getElem?_map] at hz
    obtain ⟨n, hn, rfl⟩ := Option.map_eq_some_iff.mp hz
    obtain ⟨t, rfl⟩ := hat
    exact ⟨t, by show Value.int n t = Value.int (ns.getD i 0) t; rw [List.getD_eq_getElem?_getD, hn]; rfl⟩
  · rw [preSum_getD, List.length_map, List.take_length]
end
end GL
namespace GL
open PySem PySem.Spec PyProof.Rows L2 PySem.W
/-! ### .. its sources: rows in a list, in a tuple, rows that are a dict's values -/
section
variable {prog : Program} {w : World} {A : Around} {E : Value → Shared → Prop} {s : Shared}
variable {K : Type} [DecidableEq K] {knd : PySem.KeyKind prog w K}
end
/-- rows of n -/
def rowsN (n : Nat) : List D → Option (List (List D))
  | [] => some []
  | .nd _ .tup l :: ds => if l.length = n then (rowsN n ds).map (l :: ·) else none
  | _ => none
def mSqN (n : Nat) (m : Sl → Re) : Sl → Rg (List (List D)) := fun Γ => (m Γ).bind fun d Γ => .of (d.sql.bind (rowsN n)) Γ
theorem rows_rps {K : PySem.W.Frag} {G : Wd} {Y : List Addr} {H : Hp} {n : Nat} : ∀ {vs : List V} {l : List D} {l2 : List (List D)}, Rps K G Y H vs l → rowsN n l = some l2 → ∃ (as : List Addr) (ps : List (List V)), vs = as.map V.ref ∧ Paired (fun (a : Addr) (z : List V) => SqT K H a z) as ps ∧ ps.length = l2.length ∧ ∀ (i : Nat) ws dd, ps[i]? = some ws → l2[i]? = some dd → Rps K G Y H ws dd ∧ ws.length = n
  | _, _, _, .nil, h => by cases h; exact ⟨[], [], rfl, .nil, rfl, fun i ws dd h => by cases h⟩
  | _, d :: l, l2, .cons r t, h => by
    unfold rowsN at h
    split at h
    · rename_i e; cases e
    · rename_i o l' ds e
      cases e
      split at h
      · rename_i hl
        obtain ⟨r2, e1, rfl⟩ := Option.map_eq_some_iff.mp h
        obtain ⟨as, ps, g1, g2, g3, g4⟩ := rows_rps t e1
        obtain ⟨p, us, rfl, h1, h2⟩ := r.bw.tup
        refine ⟨p :: as, us :: ps, by rw [g1]; rfl, .cons h1 g2, by rw [List.length_cons, List.length_cons, g3], fun i ws dd hw hd => ?_⟩
        cases i with
        | zero =>
          cases hw
          cases hd
          exact ⟨h2, by rw [h2.length, hl]⟩
        | succ i => exact g4 i ws dd hw hd
      · cases h
    · cases h
section
variable {X : Cx} {G : Wd} {pz : List Nat} {e : Expr} {m : Sl → Re} {apos cpos : Pos} {n : Nat}
theorem refs_of : ∀ {as : List Addr} {its : List Value}, Vals (as.map V.ref) its → its = as.map Value.ref
  | [], _, h => by cases h; rfl
  | a :: as, _, h => by
    cases h with
    | cons r t => rw [refs_of t]; cases r; rfl
theorem gsrN_seq (h : GO G pz X e m) : GSrN G pz X n e (mSqN n m) := fun pn xe W σ H X0 ppins F Γ pins s T tk ho I q => by
  have run := h pn xe W σ H X0 ppins F (fun v H1 => ∃ Γ1 F1 d l l2, d.sql = some l ∧ rowsN n l = some l2 ∧ T l2 Γ1 H1 F1 ∧ Bw X.K G H1 (X0 ++ F1) v d ∧ Hold X.K G pz X0 ppins Γ1 σ H1 F1) Γ tk ho (q.bind fun d Γ1 q1 e0 p1 v H1 F1 s1 ho1 o1 qt1 => by
    clear e0
    cases hs : d.sql.bind (rowsN n) with
    | none => rw [hs] at p1; exact p1.elim
    | some l2 =>
      rw [hs] at p1
      obtain ⟨l, e1, e2⟩ := Option.bind_eq_some_iff.mp hs
      have p1 : ∀ H' F', Step G F H F' H' → Hold X.K G pz X0 ppins Γ1 σ H' F' → Qt G F H (q1 && true) H' F' → T l2 Γ1 H' F' := p1
      rw [Bool.and_true] at p1
      exact ⟨Γ1, F1, d, l, l2, e1, e2, p1 H1 F1 s1 ho1 qt1, o1, ho1⟩)
  refine wpAny_mono (run pins s I) (fun u s1 ⟨v, H1, I1, r1, Γ1, F1, d, l, l2, hl, hl2, hT, o1, ho1⟩ => ?_) fun _ _ z => z
  obtain ⟨p, vs, rfl, sq, rp⟩ := o1.sqs hl
  cases (show u = Value.ref p from r1)
  obtain ⟨as, ps, rfl, hp, hlen, hrow⟩ := rows_rps rp hl2
  refine ⟨H1, Γ1, F1, l2, ps, I1, ho1, hT, hlen, hrow, fun P tb hP => ?_⟩
  obtain ⟨its, rv, pl, hzz⟩ := I1.list sq
  have il := pl.isList
  have lap : as.length = ps.length := Paired.length hp
  have pS : s1.heap.get? P = some { cls := .none, data := .fields tb } := I1.hok P _ hP
  have plt : P < s1.heap.objs.size := Heap.lt_size pS
  have qlt : p < s1.heap.objs.size := by
    obtain ⟨_, e, _⟩ := il
    exact Heap.lt_size e
  have neP : p ≠ P := fun z => by
    obtain ⟨_, e, _, _, e2⟩ := il
    rw [z, pS] at e
    cases e
    cases e2
  have ev := refs_of rv
  subst ev
  have sza : (as.map Value.ref).toArray.size = ps.length := by rw [List.size_toArray, List.length_map]; exact lap
  let Ts : Nat → Addr := fun i => as.getD i 0
  have hTs : ∀ i, i < ps.length → as[i]? = some (Ts i) := fun i hi => by
    have : i < as.length := by omega
    show as[i]? = some (as.getD i 0)
    rw [List.getD_eq_getElem?_getD, List.getElem?_eq_getElem this]; rfl
  have hex : ∀ i, ∃ vals : Array Value, i < ps.length → s1.heap.IsTuple (Ts i) vals ∧ ∃ ws, ps[i]? = some ws ∧ Vals ws vals.toList := fun i => by
    by_cases hi : i < ps.length
    · obtain ⟨ws, hz⟩ : ∃ z, ps[i]? = some z := ⟨_, List.getElem?_eq_getElem hi⟩
      obtain ⟨z', e3, sqt⟩ := LiI.paired_get hp (hTs i hi)
      rw [hz] at e3
      cases e3
      obtain ⟨its, r', pl, _⟩ := I1.tuple sqt
      exact ⟨its.toArray, fun _ => ⟨pl, ws, hz, by rw [List.toList_toArray]; exact r'⟩⟩
    · exact ⟨#[], fun z => absurd z hi⟩
  obtain ⟨vals, hvals⟩ := Classical.axiomOfChoice hex
  have Tlt : ∀ j, j < ps.length → Ts j < s1.heap.objs.size := fun j hj => by
    obtain ⟨⟨_, e, _⟩, _⟩ := hvals j hj
    exact Heap.lt_size e
  have TP : ∀ j, j < ps.length → Ts j ≠ P := fun j hj z => by
    obtain ⟨⟨_, e, _, _, e2⟩, _⟩ := hvals j hj
    rw [z, pS] at e
    cases e
    cases e2
  have Wk : ∀ A' : Around, A'.handled = none → _ := fun A' hA => WalksU.listOfTuples (prog := X.prog) (w := X.w) hA s1.heap.objs.size p (Nat.ne_of_lt qlt) (as.map Value.ref).toArray Ts vals (fun j hj => by
    rw [sza] at hj
    rw [List.getElem?_toArray, List.getElem?_map, hTs j hj]; rfl) fun j hj => by
    rw [sza] at hj
    exact Nat.ne_of_lt (Tlt j hj)
  refine ⟨s1.heap, _, s1.heap.objs.size, (s1.heap.objs.size :: p :: (List.range (as.map Value.ref).toArray.size).map Ts), [s1.heap.objs.size], fun j v => j < ps.length ∧ v = vals j, (fun j h => h.IsListIter s1.heap.objs.size p j ∧ h.IsList p (as.map Value.ref).toArray ∧ ∀ k, k < (as.map Value.ref).toArray.size → h.IsTuple (Ts k) (vals k)), (fun j T h => (j < (as.map Value.ref).toArray.size ∧ T = Ts j) ∧ h.IsListIter s1.heap.objs.size p (j + 1) ∧ h.IsList p (as.map Value.ref).toArray ∧ ∀ k, k < (as.map Value.ref).toArray.size → h.IsTuple (Ts k) (vals k)), I1, (fun b u e => Heap.get?_push_of_some _ e), push_le _ _, (fun b hb => ?_),
    fun E Q2 hq => wpAny_pyIter_list il hq, fun A' hA => ?_, fun h' hk => ?_, fun b hb => ?_, fun i v hv => ?_⟩
  · rw [List.mem_singleton.mp hb]
    exact ⟨Nat.le_refl _, push_lt _ _⟩
  · have W0 := Wk A' hA
    rw [sza] at W0 ⊢
    exact { sub := W0.sub, frame := W0.frame, item := fun i s Q E hi st hQ => W0.item i s Q E hi st fun T vs h' tk e ht hm hk => hQ T vs h' tk ⟨hi, e⟩ ht hm hk, go := W0.go, apart := W0.apart, done := W0.done, self := W0.self }
  · refine ⟨⟨_, hk _ _ (Nat.ne_of_gt plt) (Heap.get?_push_size _ rfl), rfl, rfl⟩, ?_, fun k hk2 => ?_⟩
    · obtain ⟨ob, e, r⟩ := il
      exact ⟨ob, hk _ _ neP (Heap.get?_push_of_some _ e), r⟩
    · rw [sza] at hk2
      obtain ⟨⟨ob, e, r⟩, _⟩ := hvals k hk2
      exact ⟨ob, hk _ _ (TP k hk2) (Heap.get?_push_of_some _ e), r⟩
  · rcases List.mem_cons.mp hb with z | hb
    · rw [z]; exact push_lt _ _
    · rcases List.mem_cons.mp hb with z | hb
      · rw [z]; exact Nat.lt_trans qlt (push_lt _ _)
      · obtain ⟨j, hj, rfl⟩ := List.mem_map.mp hb
        rw [List.mem_range, sza] at hj
        exact Nat.lt_trans (Tlt j hj) (push_lt _ _)
  · obtain ⟨hi, rfl⟩ := hv
    obtain ⟨_, ws, h1, h2⟩ := hvals i hi
    exact ⟨ws, h1, h2⟩
end
end GL
namespace GL
open PySem PySem.Spec PyProof.Rows L2 PySem.W
/-! ### a generator expression of one name, with a test, calls in it -/
section
variable {X : Cx} {G : Wd} {pins : List (Addr × Obj)} {σ : L2.St} {c P : Addr} {gpos px : Pos} {scope : Scope} {E : Value → Shared → Prop} {s : Shared} {x : Str} {ifs : List Expr} {elt iter : Expr} {k Dp Un : Nat} {m mt : Sl → Re} {Q : Value → Shared → Prop} {M : List Str}
end
section
variable {X : Cx} {G : Wd} {pz : List Nat} {scope : Scope} {x : Str} {ifs : List Expr} {mi : Sl → Rg (List D × Bool)} {m mt : Sl → Re} {elt iter : Expr} {p px pos gpos : Pos} {c P : Addr} {k0 Dp Un : Nat} {pins : List (Addr × Obj)} {σ : L2.St} {H : Hp} {s : Shared} {M : List Str}
end
end GL
namespace GL
open PySem PySem.Spec PyProof.Rows L2
/-! ### or, and as a test in a small def -/
section
variable {C : QC} {G : Wd} {a b : Expr} {es : List Expr} {pos : Pos} {ma mb : Sl → Re}
end
end GL
namespace GL
open PySem PySem.Spec PyProof.Rows L2 PySem.W
/-! ### min, max of a tuple too -/
section
variable {X : Cx} {G : Wd}
end
end GL
namespace GL
open PySem PySem.Spec PyProof.Rows L2 PySem.W
/-! ### list(d.items()) of any dict -/
section
variable {X : Cx} {G : Wd} {pz : List Nat} {e : Expr} {m : Sl → Re} {apos cpos p pos : Pos}
end
end GL
namespace GL
open PySem PySem.Spec PyProof.Rows L2 PySem.W
/-! ### a generator over zip of two tuples -/
section
variable {prog : Program} {w : World} {A : Around}
end
section
variable {X : Cx} {G : Wd} {pz : List Nat} {e e2 : Expr} {ms : Sl → Rg (List D)} {p pos : Pos}
end
end GL
namespace GL
open PySem PySem.Spec PyProof.Rows L2 PySem.W
/-! ### sorted over a list, a tuple, a dict, by a key -/
section
variable {K : PySem.W.Frag} {G : Wd} {H : Hp} {Y : List Addr} {v : V} {d : D} {l : List D}
end
section
variable {X : Cx} {G : Wd} {pz : List Nat} {scope : Scope} {x : Str} {md m : Sl → Re} {params : Arguments} {body en : Expr} {p pos lpos kpos : Pos} {c P : Addr} {k0 : Nat}
end
end GL
namespace GL
open PySem PySem.Spec PyProof.Rows L2 PySem.W
/-! ### d.pop(k), the key there, what it keeps standing still -/
section
variable {K : PySem.W.Frag} {G : Wd} {pz : List Nat} {X0 F Fv Y : List Addr} {pins : Nat → V} {Γ : Sl} {σ : L2.St} {H : Hp} {X : Cx} {d di : D} {v : V} {p : Place} {o i : Expr} {pos apos tp : Pos} {mi : Sl → Re} {pl : Sl → Option Place}
end
end GL
namespace GL
open PySem PySem.Spec PyProof.Rows L2 PySem.W
/-! ### sorted(d.values()) -/
section
variable {X : Cx} {G : Wd} {pz : List Nat} {e : Expr} {m : Sl → Re} {apos cpos p pos : Pos}
end
end GL
namespace GL
open PySem PySem.Spec PyProof.Rows L2 PySem.W
/-! ### a = b = e, e a number -/
section
variable {X : Cx} {G : Wd} {pz : List Nat} {e tg1 tg2 : Expr} {t1 t2 : Tg} {m : Sl → Re} {pos : Pos}
end
end GL
namespace GL
open PySem PySem.Spec PyProof.Rows L2 PySem.W
/-! ### list(range(n)) -/
section
variable {X : Cx} {G : Wd} {pz : List Nat} {mn : Sl → Re} {en : Expr} {p p2 p3 pos : Pos}
end
end GL
namespace GL
open PySem PySem.Spec PyProof.Rows L2 PySem.W
/-! ### t1, t2 = a, b: names and subscripts, what is stored stands still -/
section
variable {K : PySem.W.Frag} {G : Wd} {pz : List Nat} {X0 F F' F1 F2 Fv Fw Y : List Addr} {pins : Nat → V} {Γ Γ1 : Sl} {σ : L2.St} {H H' H1 H2 : Hp} {X : Cx} {a b o i tg1 tg2 : Expr} {d da db dc : D} {v x y : V} {p pos : Pos} {W : WX} {pl : Sl → Option Place} {mi : Sl → Re} {ms : Sl → Rg (List D)} {t1 t2 : Tg}
end
end GL
namespace GL
open PySem PySem.Spec PyProof.Rows L2 PySem.W
/-! ### what a slot owns is handed on; the slot is read no more -/
section
variable {K : PySem.W.Frag} {G : Wd} {pz : List Nat} {X0 F : List Addr} {pins : Nat → V} {Γ : Sl} {σ : L2.St} {H : Hp} {X : Cx} {d : D} {pos : Pos}
theorem Hold.out (ho : Hold K G pz X0 pins Γ σ H F) {i : Nat} (e : Γ[i]? = some (some d)) : ∃ v Fi F2, σ[i]? = some (some v) ∧ Own K G ((X0 ++ Fi) ++ F2) H v d Fi ∧ Hold K G pz (X0 ++ Fi) pins (Γ.set i none) σ H F2 ∧ Step G F H (Fi ++ F2) H := by
  obtain ⟨F0, sl, pf⟩ := ho.sl
  obtain ⟨v, Fi, F2, hv, o, s2, p2⟩ := sl.out e
  have pm : (Fi ++ F2).Perm F := p2.trans pf
  have sub : ∀ a, a ∈ (X0 ++ Fi) ++ F2 → a ∈ X0 ++ F := fun a ha => by
    rw [List.append_assoc] at ha
    exact (List.mem_append.mp ha).elim (List.mem_append_left _) fun z => List.mem_append_right _ (pm.mem_iff.mp z)
  refine ⟨v, Fi, F2, hv, o.sub sub, ⟨⟨F2, s2.sub sub, .refl _⟩, ?_, fun a ha => ho.liveX a (sub a (List.mem_append_left _ ha)), ho.tb, ho.pn⟩, (Step.refl G F H).shrink fun a ha => pm.mem_iff.mp ha⟩
  rw [List.append_assoc]
  exact ((pm.append_left X0).nodup_iff).mpr ho.nd
end
end GL
namespace GL
open PySem PySem.Spec PyProof.Rows L2 PySem.W
/-! ### d.get(k, x) in a reader -/
section
variable {C : QC} {G : Wd} {o e f : Expr} {mo mk mx : Sl → Re} {pos apos : Pos}
end
end GL
namespace GL
open PySem PySem.Spec PyProof.Rows L2 PySem.W
/-! ### sum(d.values()) in a reader -/
section
variable {C : QC} {G : Wd} {e : Expr} {m : Sl → Re} {apos cpos p pos : Pos}
/-! ### o.m() in a reader: m hands back what its one statement reads -/
end
end GL
namespace GL
open PySem PySem.Spec PyProof.Rows L2
/-! ### slots forgotten behind a statement -/
section
variable {G : Wd} {pz : List Nat} {X : Cx} {st : Stmt} {s : Sl → So}
end
end GL
namespace GL
open PySem PySem.Spec PyProof.Rows L2 PySem.W
/-! ### d.setdefault(k, []).append(e) -/
section
variable {X : Cx} {A : Around} {E : Value → Shared → Prop} {pins : List (Addr × Obj)} {σ : L2.St} {H : Hp} {s : Shared} {a : Addr} {kvs : List (Key × V)} {k : Key} {u : Value}
end
section
variable {K : PySem.W.Frag} {G : Wd} {pz : List Nat} {X0 F F' F1 F2 Fv Fw Fl Y Y' : List Addr} {pins : Nat → V} {Γ Γ1 : Sl} {σ : L2.St} {H H' H1 H2 : Hp} {X : Cx} {d d1 : D} {v w y : V} {W : WX} {Q : VK} {p : Place} {k : Kd} {l : List D}
end
section
variable {K : PySem.W.Frag} {G : Wd} {pz : List Nat} {X0 F : List Addr} {pins : Nat → V} {Γ : Sl} {σ : L2.St} {H : Hp} {X : Cx} {o i e : Expr} {pos apos lp : Pos} {mi m : Sl → Re} {pl : Sl → Option Place} {pm : Sl → Option (Sl × Place)}
end
end GL
namespace GL
open PySem PySem.Spec PyProof.Rows L2 PySem.W PySem.SeqAt
/-! ### a tuple of owned things: made of names, parted again, compared with a text -/
section
variable {K : PySem.W.Frag} {G : Wd} {pz : List Nat} {X0 F Fv Y : List Addr} {pins : Nat → V} {Γ : Sl} {σ : L2.St} {H H' : Hp} {X : Cx} {d d1 : D} {v w : V} {pos p1 p2 : Pos} {l : List D} {i j : Nat}
/-! ### such a tuple compared with a text -/
end
end GL
namespace GL
open PySem PySem.Spec PyProof.Rows L2 PySem.W
/-! ### zip of a list and a tuple, in either order -/
def IsSq : Bool → Heap → Addr → Array Value → Prop
  | true, h, l, its => h.IsTuple l its
  | false, h, l, its => h.IsList l its
def IsIr : Bool → Heap → Addr → Addr → Nat → Prop
  | true, h, it, l, i => h.IsTupleIter it l i
  | false, h, it, l, i => h.IsListIter it l i
theorem IsIr.at {t : Bool} {h h' : Heap} {it l : Addr} {i : Nat} (x : IsIr t h it l i) (k : ∀ o, h.get? it = some o → h'.get? it = some o) : IsIr t h' it l i := by
  cases t
  · exact Heap.IsListIter.at x k
  · exact Heap.IsTupleIter.at x k
theorem IsSq.at {t : Bool} {h h' : Heap} {l : Addr} {its : Array Value} (x : IsSq t h l its) (k : ∀ o, h.get? l = some o → h'.get? l = some o) : IsSq t h' l its := by
  cases t
  · exact Heap.IsList.at x k
  · exact Heap.IsTuple.at x k
theorem IsSq.lt {t : Bool} {h : Heap} {l : Addr} {its : Array Value} (x : IsSq t h l its) : l < h.objs.size := by
  cases t
  · obtain ⟨o, e, _⟩ := x; exact Heap.lt_size e
  · obtain ⟨o, e, _⟩ := x; exact Heap.lt_size e
section
variable {X : Cx} {pins : List (Addr × Obj)} {σ : L2.St} {H : Hp} {s : Shared} {a : Addr} {xs ys : List V}
end
section
variable {K : PySem.W.Frag} {G : Wd} {pz : List Nat} {Y : List Addr} {σ : L2.St} {H H' : Hp} {X : Cx} {d : D} {v : V} {e e2 : Expr} {p pos tpos : Pos} {ms : Sl → Rg (List D)} {l : List D} {ow : Bool}
end
end GL
namespace GL
open PySem PySem.Spec PyProof.Rows L2 PySem.W
/-! ### sum of a tuple too -/
def sumSD : List D → Option D
  | [.nd _ .tup l] => (D.ints l).map fun ns => .int ns.sum
  | ds => sumD ds
def rSumT (K : PySem.W.Frag) : List V → Hp → VK → Prop := fun vs H Q => ∃ (a : Addr) (ns : List Int), vs = [V.ref a] ∧ SqT K H a (ns.map V.int) ∧ Q (.int ns.sum) H
section
variable {X : Cx} {G : Wd}
theorem cr_sumT (hc : X.calm = true) : CallR X (.builtin "sum") (rSumT X.K) := by
  intro pins s σ H vs us Q I r h
  obtain ⟨a, ns, rfl, hs, q⟩ := h
  obtain ⟨its, rv, hl, _⟩ := I.tuple hs
  have hi := rv.ints
  have hl : s.heap.IsTuple a its.toArray := hl
  rw [Vals.ref1 r]
  obtain ⟨xs, e⟩ := hi.allInts.items
  have hn : numsOf (intItems xs).toList = ns := by rw [← e]; exact hi.numsOf
  rw [nums_intItems] at hn
  rw [e] at hl
  refine ktm_sumG (I.ok.hd hc) hl fun h' tk t' hk => ?_
  rw [preSum_eq, List.take_of_length_le (by simp), hn]
  exact ⟨.int _, H, I.kept hk, ⟨_, rfl⟩, q⟩
def cSumS (hc : X.calm = true) : CallF X G (.builtin "sum") sumSD := ⟨fun vs H Q => rSumT X.K vs H Q ∨ (cSum (X := X) (G := G) hc).1 vs H Q, fun pn xe => CallR.or (cr_sumT (X := X.tr pn xe) hc) ((cSum (X := X) (G := G) hc).h pn xe), fun ds d e Y H vs Q lv os q => by
  unfold sumSD at e
  split at e
  · rename_i o l
    obtain ⟨v, rfl, ov⟩ := os.one
    obtain ⟨ns, e1, e2⟩ := Option.map_eq_some_iff.mp e
    subst e2
    obtain ⟨p, us, rfl, h1, h2⟩ := ov.tup
    have := h2.ints e1
    subst this
    exact .inl ⟨p, ns, rfl, h1, q.val .int⟩
  · exact .inr ((cSum (X := X) (G := G) hc).s ds d e Y H vs Q lv os q)⟩
end
end GL
namespace GL
open PySem PySem.Spec PyProof.Rows L2 PySem.W
/-! ### tuples of constants, to any depth -/
section
variable {X : Cx} {G : Wd} {pz : List Nat}
end
end GL
namespace GL
open PySem PySem.Spec PyProof.Rows L2 PySem.W
/-! ### a generator over zip of lists and tuples -/
section
variable {X : Cx} {G : Wd} {pz : List Nat} {e e2 : Expr} {ms : Sl → Rg (List D)} {p pos : Pos}
end
end GL
namespace GL
open PySem PySem.Spec PyProof.Rows L2 PySem.W
/-! ### tuple(reversed(t)), t a tuple -/
section
variable {prog : Program} {w : World} {A : Around} {E : Value → Shared → Prop} {s : Shared}
end
theorem Rps.rev {K : PySem.W.Frag} {G : Wd} {Y : List Addr} {H : Hp} : ∀ {vs : List V} {l : List D}, Rps K G Y H vs l → Rps K G Y H vs.reverse l.reverse
  | _, _, .nil => .nil
  | _, _, .cons r t => by
    rw [List.reverse_cons, List.reverse_cons]
    exact Rps.append t.rev (.cons r .nil)
section
variable {X : Cx} {G : Wd} {pz : List Nat} {e : Expr} {m : Sl → Re} {p p2 pos pos2 : Pos}
end
end GL
namespace GL
open PySem PySem.Spec PyProof.Rows L2 PySem.W
/-! ### {k: v}, k a tuple -/
section
variable {X : Cx} {G : Wd} {pz : List Nat} {k v : Expr} {mk mv : Sl → Re} {pos : Pos}
end
end GL
namespace GL
open PySem PySem.Spec PyProof.Rows L2 PySem.W
/-! ### two dicts, or two things of another kind, compared -/
section
variable {X : Cx} {G : Wd}
end
end GL
namespace GL
open PySem PySem.Spec PyProof.Rows L2
/-! ### a generator expression with two for's: how it runs -/
def KeepX (N : Nat) (wr : List Addr) (a : Addr) (h h' : Heap) : Prop := ∀ b o, ((b < N ∧ b ∉ wr) ∨ b = a) → h.get? b = some o → h'.get? b = some o
theorem KeepX.refl {N : Nat} {wr : List Addr} {a : Addr} {h : Heap} : KeepX N wr a h h := fun _ _ _ e => e
theorem KeepX.trans {N : Nat} {wr : List Addr} {a : Addr} {h h1 h2 : Heap} (x : KeepX N wr a h h1) (y : KeepX N wr a h1 h2) : KeepX N wr a h h2 := fun b o c e => y b o c (x b o c e)
def SinceX (N : Nat) (wr : List Addr) (a : Addr) (s₀ s : Shared) : Prop := ∃ h tk, s = { s₀ with heap := h, toks := tk } ∧ KeepX N wr a s₀.heap h
theorem SinceX.refl {N : Nat} {wr : List Addr} {a : Addr} (s : Shared) : SinceX N wr a s s := ⟨s.heap, s.toks, rfl, .refl⟩
theorem SinceX.step {N : Nat} {wr : List Addr} {a : Addr} {s₀ s : Shared} (x : SinceX N wr a s₀ s) {h' : Heap} {tk : Nat} (k : KeepX N wr a s.heap h') : SinceX N wr a s₀ { s with heap := h', toks := tk } := by
  obtain ⟨h₁, tk₁, rfl, k₁⟩ := x
  exact ⟨h', tk, rfl, k₁.trans k⟩
section
variable (elt : Expr) (x y : Str) (px py pn : Pos) (iter : Expr) (ifs : List Expr) (scope : Scope) (pos : Pos)
end
/-- how an inner thing is gone through, whoever asks -/
def GoesIn (prog : Program) (w : World) (N : Nat) (v : Value) (n : Nat) (U : Nat → Value → Prop) (t : Shared) : Prop :=
  ∃ (o : Obj) (fx : List Addr) (St : Nat → Heap → Prop), (∀ (B : Around) (E : Value → Shared → Prop) (Q' : Value → Shared → Prop), B.handled = none → Q' (.ref t.heap.objs.size) { t with heap := t.heap.push o } → wpAny (model prog w) B (pyIter v) Q' E t) ∧
    (∀ B : Around, B.handled = none → Walks prog w B t.heap.objs.size (t.heap.objs.size :: fx) [t.heap.objs.size] n U St) ∧ (∀ b ∈ fx, b < N) ∧ St 0 (t.heap.push o)
structure QuietX (prog : Program) (w : World) (cenv : PySem.Env) (x y : Str) (elt : Expr) (N : Nat) (wr : List Addr) (P : Nat → Value → Prop) (row : Nat → Nat) (U : Nat → Nat → Value → Prop) (F : Nat → Nat → Value → Prop) (href : Heap) : Prop where
  inner : ∀ i v (t : Shared), P i v → (∀ b, b < N → b ∉ wr → ∀ o, href.get? b = some o → t.heap.get? b = some o) → GoesIn prog w N v (row i) (U i) t
  elt : ∀ (B : Around) E' i j v u (t : Shared) n, B.handled = none → P i v → U i j u → t.heap.Ns cenv.locals n → n x = some v → n y = some u → (∀ b, b < N → b ∉ wr → ∀ o, href.get? b = some o → t.heap.get? b = some o) →
    wpAny (model prog w) B (eval elt cenv) (fun z t' => F i j z ∧ Keeps t t') E' t
section
variable {prog : Program} {w : World} {A : Around} {elt iter : Expr} {x y : Str} {px py pn pos : Pos} {scope : Scope} {I a J : Addr} {N n₀ : Nat} {wr fx : List Addr} {P : Nat → Value → Prop} {row : Nat → Nat} {U : Nat → Nat → Value → Prop} {F : Nat → Nat → Value → Prop} {cenv : PySem.Env} {href t1 : Heap} {St : Nat → Heap → Prop} {v : Value} {i : Nat}
  {fk : Result → Sem PySem.Fin} {fl : List Value} {fc : Code} {fp : Pos}
end
end GL
namespace GL
open PySem PySem.Spec PyProof.Rows L2
/-! ### .. walked by any, all -/
structure WalkX (prog : Program) (w : World) (A : Around) (I : Addr) (n : Nat) (P : Nat → Value → Prop) (St : Nat → Shared → Prop) (Mv : Shared → Shared → Prop) : Prop where
  tr : ∀ {a b c}, Mv a b → Mv b c → Mv a c
  item : ∀ i (s : Shared) (Q : Option Value → Shared → Prop) (E : Value → Shared → Prop), i < n → St i s → (∀ v t, P i v → St (i + 1) t → Mv s t → Q (some v) t) → wpAny (model prog w) A (pyNext (.ref I)) Q E s
  fin : ∀ (s : Shared) (Q : Option Value → Shared → Prop) (E : Value → Shared → Prop), St n s → (∀ t, Mv s t → Q none t) → wpAny (model prog w) A (pyNext (.ref I)) Q E s
section
variable {prog : Program} {w : World} {A : Around} {R : Result → Shared → Prop} {I : Addr} {n : Nat} {P : Nat → Value → Prop} {St : Nat → Shared → Prop} {Mv : Shared → Shared → Prop}
end
structure MvX (N : Nat) (wr : List Addr) (g : Nat) (s t : Shared) : Prop where
  heap : ∀ b o, b < N → b ∉ wr → s.heap.get? b = some o → t.heap.get? b = some o
  gens : GenOnlyQ g s.gens t.gens
  os : t.os = s.os
section
variable {prog : Program} {w : World} {A : Around} {a : Addr} {g N tot : Nat} {wr : List Addr} {F : Nat → Value → Prop}
end
end GL
namespace GL
open PySem PySem.Spec PyProof.Rows L2
/-! ### .. made -/
section
variable {prog : Program} {w : World} {A : Around} {elt iter : Expr} {x y : Str} {px py pn pos : Pos} {scope : Scope} {I a : Addr} {g N n₀ : Nat} {wr fp0 : List Addr} {P : Nat → Value → Prop} {row : Nat → Nat} {U : Nat → Nat → Value → Prop} {F : Nat → Nat → Value → Prop} {cenv : PySem.Env} {St0 : Nat → Heap → Prop} {E : Value → Shared → Prop} {s : Shared}
end
end GL
namespace GL
open PySem PySem.Spec PyProof.Rows L2 PySem.W
/-! ### .. told by data -/
section
variable {X : Cx} {G : Wd} {pins : List (Addr × Obj)} {σ : L2.St} {H : Hp} {s : Shared} {Y : List Addr} {w : V} {v : Value} {d : D} {l : List D}
end
end GL
namespace GL
open PySem PySem.Spec PyProof.Rows L2 PySem.W
/-! ### .. the rule -/
section
variable {X : Cx} {G : Wd} {pins : List (Addr × Obj)} {σ : L2.St} {c P : Addr} {px py pn pos : Pos} {scope : Scope} {E : Value → Shared → Prop} {s : Shared} {x y : Str} {elt iter : Expr} {k : Nat} {m : Sl → Re} {Q : Value → Shared → Prop} {M : List Str}
end
end GL
namespace GL
open PySem PySem.Spec PyProof.Rows L2 PySem.W
/-! ### any, all of it -/
section
variable {X : Cx} {G : Wd} {pz : List Nat} {scope : Scope} {x y : Str} {mi : Sl → Rg (List D × Bool)} {m : Sl → Re} {elt iter : Expr} {p px py pn pos gpos : Pos} {c P : Addr} {k0 : Nat} {pins : List (Addr × Obj)} {σ : L2.St} {H : Hp} {s : Shared} {M : List Str}
end
end GL
namespace GL
open PySem PySem.Spec PyProof.Rows L2 PySem.W
/-! ### len, read -/
section
variable {C : QC} {G : Wd} {e : Expr} {ms : Sl → Rg (List D)} {pos p : Pos}
end
end GL
namespace GL
open PySem PySem.Spec PyProof.Rows L2 PySem.W
/-! ### sep.join(..) -/
def strsD : List D → Option (List Str)
  | [] => some []
  | .str z :: l => (strsD l).map (z :: ·)
  | _ => none
theorem strsD_eq : ∀ {l : List D} {zs : List Str}, strsD l = some zs → l = zs.map D.str
  | [], zs, h => by cases h; rfl
  | .str z :: l, zs, h => by
    obtain ⟨ys, e, rfl⟩ := Option.map_eq_some_iff.mp h
    rw [strsD_eq e]; rfl
  | .int _ :: _, _, h | .any :: _, _, h | .non :: _, _, h | .bl _ :: _, _, h | .fn _ :: _, _, h | .nd _ _ _ :: _, _, h | .pr _ :: _, _, h => by cases h
def joinD (a : Str) (d : D) : Option D := (d.seq.bind strsD).bind fun ys => if (ys.map (·.length)).sum + ys.length * a.length ≤ 16777216 then some (.str (Txt.join a ys)) else none
def mJoin (mo me : Sl → Re) : Sl → Re := fun Γ => (mo Γ).bind fun da Γ1 => match da with
  | .str a => (me Γ1).bind fun db Γ2 => .of (joinD a db) Γ2
  | _ => .st
section
variable {K : PySem.W.Frag} {G : Wd} {pz : List Nat} {Y : List Addr} {H : Hp} {X : Cx} {o e : Expr} {mo me : Sl → Re} {pos apos : Pos}
theorem rps_strsJ : ∀ {zs : List Str} {vs : List V}, Rps K G Y H vs (zs.map D.str) → vs = zs.map V.str
  | [], _, h => by cases h; rfl
  | z :: zs, _, h => by
    cases h with
    | cons r q =>
      cases r
      rw [rps_strsJ q]
      rfl
theorem ge_join (ho' : GO G pz X o mo) (he : GO G pz X e me) (hbase : ∀ pn xe, attributeBase o "join" (X.tr pn xe).env (eval o (X.tr pn xe).env) = eval o (X.tr pn xe).env := by intro _ _; rfl)
    (hline : (apos.endLine == pos.line) = true := by rfl) (hs : ∀ pn xe, starEach [e] (X.tr pn xe).env = [(false, eval e (X.tr pn xe).env)] := by intro _ _; rfl) : GE G pz X (.Call (.Attribute o "join" apos) [e] [] pos) (mJoin mo me) := fun pn xe W σ H X0 pins F Q Γ tk ho q =>
  wE.of (pe_join (X := X.tr pn xe) pe_w pe_w (hs pn xe) (hbase pn xe) hline)
    (ho' pn xe W σ H X0 pins F _ Γ tk ho (q.bind fun da Γ1 q1 e0 p1 v H1 F1 s1 ho1 o1 qt1 => by
      clear e0
      split at p1
      case h_2 => exact p1.elim
      rename_i a
      refine ⟨⟨a, o1.str⟩, ?_⟩
      refine he pn xe W σ H1 X0 pins F1 _ Γ1 tk ho1 ((p1.vaft s1 qt1).bind fun db Γ2 q2 _ p2 y H2 F2 s2 ho2 o2 qt2 => ?_)
      obtain ⟨d, e1, fr⟩ := fr_of ho2 (p2.vaft s2 qt2)
      obtain ⟨ys, e2, e3⟩ := Option.bind_eq_some_iff.mp e1
      obtain ⟨l, e4, e5⟩ := Option.bind_eq_some_iff.mp e2
      obtain ⟨q, vs, rfl, sq, rp⟩ := o2.seq e4
      rw [strsD_eq e5] at rp
      rw [rps_strsJ rp] at sq
      split at e3
      · rename_i hz
        cases e3
        exact ⟨a, q, ys, o1.str, rfl, sq, hz, fr.val .str⟩
      · cases e3))
end
end GL
namespace GL
open PySem PySem.Spec PyProof.Rows L2 PySem.W
/-! ### len(d) -/
section
variable {X : Cx} {G : Wd}
end
end GL
namespace GL
open PySem PySem.Spec PyProof.Rows L2 PySem.W
/-! ### readers with a bound on the units; d[k] by a tuple; (a, b) -/
section
variable {C : QC} {G : Wd} {H : Hp} {s : Shared} {σ : L2.St} {Γ Γ' : Sl} {Y : List Addr} {d : D} {A : Around} {E : Value → Shared → Prop} {a b : Expr} {ma mb : Sl → Re} {Un : Nat} {pos : Pos} {q : Bool}
end
/-! ### a key of tuples read: nothing but what stands behind p and q may change -/
section
variable {C : QC} {G : Wd} {H : Hp} {s : Shared} {Y : List Addr} {p q : Addr} {φ ψ : Heap → Prop} {h' : Heap}
end
end GL
namespace GL
open PySem PySem.Spec PyProof.Rows L2 PySem.W
/-! ### min(d, key=lambda x: ..), d's keys tuples, the keys tuples of tuples -/
section
variable {X : Cx} {G : Wd} {pins : List (Addr × Obj)} {σ : L2.St} {H Hq : Hp} {s s2 : Shared} {Γ Γ' : Sl} {Y : List Addr} {d dv : D} {A : Around} {E : Value → Shared → Prop} {v : V} {u : Value} {scope : Scope} {x q1 : Str} {f c' : Addr} {q : Bool} {m : Sl → Re} {params : Arguments} {body : Expr} {pm ctv : Value}
end
section
variable {X : Cx} {G : Wd} {pins : List (Addr × Obj)} {σ : L2.St} {H : Hp} {s : Shared} {Γ : Sl} {Y : List Addr} {E : Value → Shared → Prop} {scope : Scope} {x : Str} {f c' a : Addr} {m : Sl → Re} {params : Arguments} {body : Expr} {pm ctv : Value} {Q : Value → Shared → Prop} {k0 : Nat} {kvs : List (List Key × V)}
end
section
variable {X : Cx} {G : Wd} {pz : List Nat} {scope : Scope} {x : Str} {md m : Sl → Re} {params : Arguments} {body en : Expr} {p pos lpos kpos : Pos} {c P : Addr} {k0 : Nat}
end
end GL
namespace GL
open PySem PySem.Spec PyProof.Rows L2 PySem.W
/-! ### xs.pop(0) -/
section
variable {K : PySem.W.Frag} {G : Wd} {pz : List Nat} {X : Cx} {o i : Expr} {pos apos : Pos} {mi : Sl → Re} {pl : Sl → Option Place}
end
end GL
namespace GL
open PySem PySem.Spec PyProof.Rows L2 PySem.W
/-! ### d != {} of a dict with tuple keys -/
section
variable {prog : Program} {w : World} {A : Around} {E : Value → Shared → Prop} {s : Shared} {a b : Addr} {es es' : Array DictEntry} {ep ep' : Nat}
end
section
variable {X : Cx} {G : Wd}
end
end GL
namespace GL
open PySem PySem.Spec PyProof.Rows L2 PySem.W
/-! ### del d[k] of a dict with tuple keys -/
section
variable {X : Cx} {pins : List (Addr × Obj)} {σ : L2.St} {H : Hp} {s : Shared} {a b : Addr} {kvs : List (List Key × V)} {k : List Key} {A : Around} {E : Value → Shared → Prop}
end
section
variable {K : PySem.W.Frag} {G : Wd} {pz : List Nat} {X0 F Fv Y : List Addr} {pins : Nat → V} {Γ : Sl} {σ : L2.St} {H : Hp} {X : Cx} {d di : D} {v : V} {p : Place} {o i : Expr} {pos tp : Pos} {mi : Sl → Re} {pl : Sl → Option Place}
end
end GL
namespace GL
open PySem PySem.Spec PyProof.Rows L2 PySem.W
/-! ### xs += ys, xs owned by a name -/
section
variable {G : Wd} {pz : List Nat} {X : Cx} {e : Expr} {m : Sl → Re} {pos : Pos}
end
end GL
namespace GL
open PySem PySem.Spec PyProof.Rows L2 PySem.W
/-! ### min(xs, key=lambda x: ..), xs a list or a tuple -/
section
variable {X : Cx} {G : Wd} {pins : List (Addr × Obj)} {σ : L2.St} {H : Hp} {s : Shared} {Γ : Sl} {Y : List Addr} {E : Value → Shared → Prop} {scope : Scope} {x : Str} {f c' : Addr} {m : Sl → Re} {params : Arguments} {body : Expr} {pm ctv : Value} {Q : Value → Shared → Prop} {k0 : Nat} {w0 : V} {v0 : Value} {d0 : D} {l : List D}
end
section
variable {X : Cx} {G : Wd} {pz : List Nat} {scope : Scope} {x : Str} {md m : Sl → Re} {params : Arguments} {body en : Expr} {p pos lpos kpos : Pos} {c P : Addr} {k0 : Nat}
end
end GL
namespace GL
open PySem PySem.Spec PyProof.Rows L2 PySem.W
/-! ### defs that call themselves: nothing is promised at depth nought -/
end GL
namespace GL
open PySem PySem.Spec PyProof.Rows L2
/-! ### f(a, .., {}) : the last argument is new and owned; it is forgotten behind the call -/
section
variable {K : PySem.W.Frag} {G : Wd} {pz : List Nat} {X0 F F' F1 F2 Fv Fw Y Y' : List Addr} {pins : Nat → V} {Γ Γ1 : Sl} {σ : L2.St} {H H' H1 H2 : Hp} {X : Cx} {a b c e eo : Expr} {es : List Expr} {d d1 : D} {v w x y : V} {p pos apos : Pos} {W : WX} {Q : VK} {as : List Ag} {vs : List V} {ds bs : List D} {i : Nat} {m : Sl → Re} {ms : Sl → Rg (List Ag × D)} {pl : Sl → Option Place} {q q1 : Bool}
def AgPostO (K : PySem.W.Frag) (G : Wd) (pz : List Nat) (X0 : List Addr) (pins : Nat → V) (F : List Addr) (H : Hp) (σ : L2.St) (Q : List V → Hp → Prop) (r : List Ag × D) (Γ' : Sl) (q : Bool) : Prop :=
  ∀ vs v H' F' Fv, Step G F H (Fv ++ F') H' → Hold K G pz (X0 ++ Fv) pins Γ' σ H' F' → PtOk K G ((X0 ++ Fv) ++ F') H' σ r.1 vs → Own K G ((X0 ++ Fv) ++ F') H' v r.2 Fv → Qt G F H q H' F' → Q (vs ++ [v]) H'
theorem AgPostO.after {Q : List V → Hp → Prop} {r : List Ag × D} (p : AgPostO K G pz X0 pins F H σ Q r Γ (q1 && q)) (s : Step G F H F1 H1) (qt : Qt G F H q1 H1 F1) : AgPostO K G pz X0 pins F1 H1 σ Q r Γ q := fun vs v H' F' Fv s2 ho pt ov q2 => p vs v H' F' Fv (s.trans s2) ho pt ov (qt.trans q2)
/-! one slot more, one slot less -/
theorem Slots.snoc (o : Own K G Y H v d Fv) : ∀ {σ : L2.St} {Γ : Sl} {F : List Addr}, Slots K G Y H σ Γ F → Slots K G Y H (σ ++ [some v]) (Γ ++ [some d]) (F ++ Fv)
  | _, _, _, .nil => by
    have := Slots.yes o .nil
    rw [List.append_nil] at this
    exact this
  | _, _, _, .no h => .no (Slots.snoc o h)
  | _, _, _, .yes (F := F1) (F' := F2) ow h => by
    rw [List.append_assoc]
    exact .yes ow (Slots.snoc o h)
theorem Slots.cut : ∀ {σ : L2.St} {Γ : Sl} {F : List Addr} {z : Option V}, Slots K G Y H (σ ++ [z]) Γ F → ∃ F', Slots K G Y H σ Γ.dropLast F' ∧ F'.Sublist F
  | [], Γ, F, z, h => by
    cases h with
    | no h => cases h; exact ⟨[], .nil, List.nil_sublist _⟩
    | yes o h => cases h; exact ⟨[], .nil, List.nil_sublist _⟩
  | s :: σ, Γ, F, z, h => by
    have h : Slots K G Y H (s :: (σ ++ [z])) Γ F := h
    cases h with
    | no h2 =>
      obtain ⟨F', g1, g2⟩ := Slots.cut h2
      have hl := h2.len
      rename_i Γ'
      cases Γ' with
      | nil => rw [List.length_append] at hl; cases hl
      | cons g Γ' => exact ⟨F', .no g1, g2⟩
    | yes o h2 =>
      obtain ⟨F', g1, g2⟩ := Slots.cut h2
      have hl := h2.len
      rename_i dd Γ' Fa Fb
      cases Γ' with
      | nil => rw [List.length_append] at hl; cases hl
      | cons g Γ' => exact ⟨_ ++ F', .yes o g1, g2.append_left _⟩
theorem PtOk.snoc (e : σ[i]? = some (some v)) : ∀ {as : List Ag} {vs : List V}, PtOk K G Y H σ as vs → PtOk K G Y H σ (as ++ [.own i []]) (vs ++ [v])
  | _, _, .nil => .own e .nil .nil
  | _, _, .val f r q => .val f r (PtOk.snoc e q)
  | _, _, .own e' va q => .own e' va (PtOk.snoc e q)
theorem PtOk.more {z : Option V} : ∀ {as : List Ag} {vs : List V}, PtOk K G Y H σ as vs → PtOk K G Y H (σ ++ [z]) as vs
  | _, _, .nil => .nil
  | _, _, .val f r q => .val f r q.more
  | _, _, .own e' va q => .own (by rw [List.getElem?_append_left (List.getElem?_eq_some_iff.mp e').1]; exact e') va q.more
theorem Hold.snoc (ho : Hold K G pz (X0 ++ Fv) pins Γ σ H F) (o : Own K G ((X0 ++ Fv) ++ F) H v d Fv) : Hold K G pz X0 pins (Γ ++ [some d]) (σ ++ [some v]) H (Fv ++ F) := by
  obtain ⟨F0, s, p0⟩ := ho.sl
  refine ⟨⟨F0 ++ Fv, ?_, (p0.append_right Fv).trans List.perm_append_comm⟩, ?_, fun a ha => ho.in0 a (List.mem_append_left _ ha), ho.tb, fun i hi => ?_⟩
  · rw [← List.append_assoc]
    exact Slots.snoc o s
  · rw [← List.append_assoc]
    exact ho.nd
  · have := ho.pn i hi
    rw [List.getElem?_append_left (List.getElem?_eq_some_iff.mp this).1]
    exact this
theorem Hold.cut {z : Option V} {Xs : List Addr} (ho : Hold K G pz Xs pins Γ (σ ++ [z]) H F) (hz : ∀ i ∈ pz, i < σ.length) : ∃ F', Hold K G pz Xs pins Γ.dropLast σ H F' ∧ ∀ a ∈ F', a ∈ F := by
  obtain ⟨F0, s, p0⟩ := ho.sl
  obtain ⟨F1, s1, sb⟩ := s.cut
  have hs : ∀ a ∈ F1, a ∈ F := fun a ha => p0.mem_iff.mp (sb.subset ha)
  refine ⟨F1, ⟨⟨F1, s1.sub (sub_app hs), .refl _⟩, ?_, ho.in0, ho.tb, fun i hi => ?_⟩, hs⟩
  · have n0 : (Xs ++ F0).Nodup := (List.Perm.nodup_iff (p0.append_left Xs)).mpr ho.nd
    exact n0.sublist (sb.append_left Xs)
  · have := ho.pn i hi
    rw [List.getElem?_append_left (hz i hi)] at this
    exact this
end
end GL
namespace GL
open PySem PySem.Spec PyProof.Rows L2
/-! ### x[i] = e where the subscript may change other things -/
section
variable {K : PySem.W.Frag} {G : Wd} {pz : List Nat} {X0 F F' F1 F2 Fv Fw Fl Y Y' : List Addr} {pins : Nat → V} {Γ Γ1 : Sl} {σ : L2.St} {H H' H1 H2 : Hp} {X : Cx} {d d1 di : D} {v w y : V} {W : WX} {Q : VK} {p : Place} {k : Kd} {l : List D} {e o ix : Expr} {pos apos : Pos} {m mi : Sl → Re} {i : Nat} {q : Bool} {pt : List Nat}
end
end GL
namespace GL
open PySem PySem.Spec PyProof.Rows L2 PySem.W
/-! ### tuple(list) told whole; dict(of such a tuple of pairs) -/
section
variable {X : Cx} {G : Wd} {K : PySem.W.Frag} {Y : List Addr} {H : Hp} {v : V} {d : D} {Q : VK}
theorem Bw.ptu {l : List D} (h : Bw K G H Y v (.nd false .ptu l)) : ∃ p vs, v = .ref p ∧ PTup H p vs ∧ Rps K G Y H vs l := by
  obtain ⟨F, h⟩ := h
  cases h with
  | fz r => cases r with | nd h r => exact ⟨_, _, rfl, h.2, r⟩
end
end GL
namespace GL
open PySem PySem.Spec PyProof.Rows L2 PySem.W
/-! ### an own exception over ValueError whose __init__ says super().__init__(text); self.row = row -/
def supBody (txt : Str) (p0 p1 p2 p3 p4 pc p5 p6 p7 p8 : Pos) : List Stmt := [.Expr (.Call (.Attribute (.Call (.Name "super" p0) [] [] p1) "__init__" p2) [.Constant (.str txt) 0 pc] [] p3) p4, .Assign [.Attribute (.Name "self" p5) "row" p6] (.Name "row" p7) p8]
/-- the frame of such an __init__ -/
def cxS (CX : CXT) (P : Program) (w : World) (K : PySem.W.Frag) (mg : Str → Option Value) (base : Heap) (qual : Str) (scope : Scope) (f : Addr) (cd : Value) (cc : Addr) (A : Around) (outer : List PySem.Env) (s : Shared) (H : Hp) (E : XK) : Cx where
  prog := P
  w := w
  K := K
  mg := mg
  base := base
  A := A.deeper (ksEnv qual scope s.heap.objs.size f cd cc)
  N := ["self", "row"]
  s_0 := s
  H_0 := H
  env := ksEnv qual scope s.heap.objs.size f cd cc
  outer := outer
  stack := ksEnv qual scope s.heap.objs.size f cd cc :: outer
  ex := []
  calm := true
  fn := fun _ => false
  pn := []
  xe := fun e s' => wpAny (model P w) (A.deeper (ksEnv qual scope s.heap.objs.size f cd cc)) (leaving (ksEnv qual scope s.heap.objs.size f cd cc) e) (fun _ s'' => CX outer H s E e s'') (fun e' s'' => CX outer H s E e' s'') s'
structure SupSc (scope : Scope) : Prop where
  kind : scope.kind = .function
  co : scope.isCoroutine = false
  gen : scope.isGenerator = false
  self : scope.names.lookup ("self" : Str) = some .local
  row : scope.names.lookup ("row" : Str) = some .local
  sup : scope.names.lookup ("super" : Str) = some .globalImplicit
  cls : scope.names.lookup ("__class__" : Str) = some .free
  cell : ∀ x ∈ scope.names, x.2 ≠ .cell
  free : ∀ x ∈ scope.names, x.2 = .free → x.1 = "__class__"
section
variable {CX : CXT} {P : Program} {w : World} {K : PySem.W.Frag} {mg : Str → Option Value} {base : Heap} {qual : Str} {scope : Scope} {f cc D : Addr} {cd : Value} {A : Around} {outer : List PySem.Env} {s : Shared} {H : Hp} {E : XK} {us : List Value} {vs : List V} {h1 : Heap} {tk : Nat} {a : Addr} {i : Int} {ti : Tok}
theorem look_mem {l : List (Str × NameKind)} {x : Str} {k : NameKind} (h : l.lookup x = some k) : (x, k) ∈ l := PySem.mem_of_lookup h
theorem inv_startS (S : SupSc scope) (hd : A.handled = none) (e0 : Env0 P w K mg base A outer s H) {cl : Value} {cld : Option Addr} {csl : Array (Option Value)} (hcc : K.lookup cc = some ⟨cl, cld, .cell (some (.ref D)), csl⟩)
    (hns : h1.Ns s.heap.objs.size (fun x => ([(("self" : Str), Value.ref a), (("row" : Str), Value.int i ti)]).reverse.lookup x)) (hk : ∀ b o, s.heap.get? b = some o → h1.get? b = some o) :
    Inv (cxS CX P w K mg base qual scope f cd cc A outer s H E) [] [some (.ref a), some (.int i)] H { s with heap := h1, toks := tk } := by
  have KX : K.In base := e0.mod.kin
  have cb : base.get? cc = some ⟨cl, cld, .cell (some (.ref D)), csl⟩ := KX _ _ hcc
  have cl1 : ∀ x c, ([(("__class__" : Str), cc)] : List (Str × Addr)).lookup x = some c → x = "__class__" ∧ c = cc := fun x c h => by
    unfold List.lookup at h
    split at h
    · rename_i e
      cases h
      exact ⟨beq_iff_eq.mp e, rfl⟩
    · cases h
  refine ⟨⟨e0.mod, S.kind, rfl, rfl, Nat.le_refl _, fun y z c g1 g2 => ?_, fun y hy => ?_, (fun y c z _ => absurd (show (false : Bool) = true from z) (by decide)), fun _ => hd, Around.frames_deeper e0.frames, .inr ⟨rfl, rfl⟩, (fun b z => absurd (show b ∈ ([] : List Addr) from z) (by simp)), e0.bs, e0.bsz, (fun b _ _ => (show b ∉ ([] : List Addr) by simp)), (fun b z => absurd (show b ∈ ([] : List Addr) from z) (by simp)), e0.funs, e0.frf⟩,
    rfl, e0.bare, Un.kept hk, ⟨_, hns, fun j y v g1 g2 g3 => ?_⟩, fun y c h => ?_, e0.hok.fresh (Nat.le_refl _), fun y c h => ?_, fun p hp => absurd (show p ∈ ([] : List (Addr × Obj)) from hp) (by simp), e0.hok.kept hk, rfl⟩
  · rw [(cl1 y c g1).1, (cl1 z c g2).1]
  · have hy : scope.names.lookup y = some .cell ∨ scope.names.lookup y = some .free := hy
    rcases hy with hy | hy
    · exact absurd rfl (S.cell _ (look_mem hy))
    · have e : y = "__class__" := S.free _ (look_mem hy) rfl
      subst e
      exact ⟨cc, rfl⟩
  · have g1 : (["self", "row"] : List Str)[j]? = some y := g1
    rcases j with _ | _ | j
    · cases g1
      cases g2
      exact ⟨.ref a, rfl, .inl ⟨S.self, rfl⟩⟩
    · cases g1
      cases g2
      exact ⟨.int i ti, ⟨ti, rfl⟩, .inl ⟨S.row, rfl⟩⟩
    · cases g1
  · obtain ⟨_, rfl⟩ := cl1 y c h
    exact ⟨some (.ref D), _, hk _ _ (e0.bs _ _ cb).1, rfl⟩
  · obtain ⟨_, rfl⟩ := cl1 y c h
    exact (e0.bs _ _ cb).2
/-- what the written part says of such a class: C the class, f its __init__, cc the cell __class__, cda its code object -/
structure SupC (K : PySem.W.Frag) (mg : Str → Option Value) (P : Program) (C f cc cda : Addr) (fd : FuncData) : Prop where
  oex : OexC K C
  lf : ∃ oc od osl, K.lookup f = some ⟨oc, od, .func fd, osl⟩
  ps : ∃ ar, (fd.params.posonlyargs ++ fd.params.args).head? = some ar ∧ ar.arg = ("self" : Str)
  lcc : ∃ cl cld csl, K.lookup cc = some ⟨cl, cld, .cell (some (.ref C)), csl⟩
  lcd : ∃ ccl cdd vs ccs file tf, K.lookup cda = some ⟨ccl, cdd, .fields vs, ccs⟩ ∧ vs[2]? = some (.str file tf) ∧ (P.main.file == file) = true
  top : (P.main.scope.names.lookup ("super" : Str)).isSome = false
  sup : mg "super" = none
  mro : PySem.W.mroIn K C (.ref C) = some true
  along : ks_superIn K C C "__init__" = some (some (.builtin "ValueError.__init__"))
  isV : PySem.W.subIn K (.ref C) (.type "ValueError") = some true
  nop : PySem.W.nsIn K cStatics "thirdparty.any" = some none
  norow : PySem.W.findIn K (.ref C) "row" = some none
theorem sup_mw {u a C t1 : Addr} {rest : List Value} {A : Around} {E : Value → Shared → Prop} {Q : Value → Shared → Prop} {hp : Heap} {g : Array GenState} {d : Drawn} {t : Nat} {os : OsState} {prog : Program} {w : World} {nm q : Str} {N : Addr} {bs bm : List Value} {hdct : Bool} {sn : List Str} {sub : List Value} {ab : Bool} {col : Option Bool} {dd : Option Addr} {k0 k1 k2 k3 k5 : Option Value}
    (hC : hp.get? C = some (excClassObj nm q C N bs bm hdct sn sub ab col dd k0 k1 k2 k3 k5 "ValueError.__new__")) (he : hp.get? a = some (excObj C t1 none .none)) (hu : hp.get? u = some (kxs_mw "ValueError.__init__" a)) (hrest : rest.length ≤ sizeLine)
    (hq : ∀ h' t2, (∀ b o, b ≠ a → hp.get? b = some o → h'.get? b = some o) → h'.get? a = some (excObj C t2 none .none) → Q .none ⟨h', g, d, t, os⟩) :
    wpAny (model prog w) A (call (.ref u) rest) Q E ⟨hp, g, d, t, os⟩ := by
  refine wpAny_call (codeAny_of_tree ?_)
  show wpAny _ A.in1 (callAny (.ref u) ⟨rest, []⟩) _ _ _
  simp only [callAny]
  refine wpAny_bind (wpAny_load hu ?_)
  simp only [kxs_mw, show (Value.type "method-wrapper" == Value.type "method" || Value.type "method-wrapper" == Value.type "builtin_function_or_method" || Value.type "method-wrapper" == Value.type "method-wrapper") = true by decide, if_true]
  refine KFB.if_so (by decide) ?_
  refine wpAny_bind (check_bound_init PySem.F.excBase_ValueError.toExcCallFacts hC he rfl ?_)
  refine wpAny_bind (wpAny_pure (wpAny_pure ?_))
  refine ⟨plainId_quiet PySem.F.excBase_ValueError.init.plain _, codeAny_builtin PySem.F.excBase_ValueError.initEntry ?_⟩
  exact exc_init_tree (cls := .ref C) (t0 := t1) (dv := none) (c2 := .none) (c3 := .none) (b4 := .bool false) he hrest fun h' k e' _ => hq h' _ k e'
theorem sup_eval {fd : FuncData} {C cda : Addr} {txt : Str} {p0 p1 p2 p3 pc : Pos} {σ : L2.St} {s1 : Shared} {Q : Value → Shared → Prop} {body : List Stmt} (S : SupSc scope) (T : SupC K mg P C f cc cda fd)
    {pl : Sem Bool} (hev : ∀ env, eval (.Call (.Attribute (.Call (.Name "super" p0) [] [] p1) "__init__" p2) [.Constant (.str txt) 0 pc] [] p3) env = (do
      let ov ← attributeBase (.Call (.Name "super" p0) [] [] p1) "__init__" env (eval (.Call (.Name "super" p0) [] [] p1) env)
      standAt p2.atName
      let (f, first) ← holding [ov] (getMethod ov "__init__" pl)
      callWith p3 f first (backTo p3 (starEach [.Constant (.str txt) 0 pc] env)) []))
    (I : Inv (cxS CX P w K mg base qual scope f (.ref cda) cc A outer s H E) [] σ H s1) (hσ : σ[0]? = some (some (.ref a))) (ea : H a = some (exo a C none))
    (h : ∀ s2, Inv (cxS CX P w K mg base qual scope f (.ref cda) cc A outer s H E) [] σ H s2 → Q .none s2) :
    _root_.PySem.wpAt (model P w) (A.deeper (ksEnv qual scope s.heap.objs.size f (.ref cda) cc)) (.func body (ksEnv qual scope s.heap.objs.size f (.ref cda) cc))
      (eval (.Call (.Attribute (.Call (.Name "super" p0) [] [] p1) "__init__" p2) [.Constant (.str txt) 0 pc] [] p3) (ksEnv qual scope s.heap.objs.size f (.ref cda) cc)) Q
      (cxS CX P w K mg base qual scope f (.ref cda) cc A outer s H E).xe s1 := by
  obtain ⟨oc, od, osl, lf⟩ := T.lf
  obtain ⟨ar, har, hself⟩ := T.ps
  obtain ⟨cl, cld, csl, lcc⟩ := T.lcc
  obtain ⟨ccl, cdd, vs, ccs, file, tf, lcd, hvs, hfile⟩ := T.lcd
  obtain ⟨nm, q, N, bs, bm, sn, sub, ab, col, dd, k0, k1, k2, k3, k5, hC, hbm⟩ := T.oex.cls
  have KI : K.In s1.heap := I.kIn
  have KC := KI _ _ hC
  obtain ⟨t1, ho⟩ := exo_at I.hok ea
  refine ks_wpAt_MethodCall (pl := pl) ?_ (hev _)
  refine ks_wpAt_super_base (env := ksEnv qual scope s.heap.objs.size f (.ref cda) cc) S.sup S.cls rfl rfl (KI _ _ lf) rfl har rfl (KI _ _ lcd) rfl hvs hfile T.top ?_
  obtain ⟨mb, b1, b2⟩ := I.mod.blt
  refine ks_loadName_global S.kind S.sup (Calls.loadGlobal_builtin (env := ksEnv qual scope s.heap.objs.size f (.ref cda) cc) (I.mod.glob.keeps I.bk) T.sup (b1.keeps I.bk) ((b2 "super" (by decide)).trans (show bootBuiltins "super" = some (.type "super") by rfl)) ⟨rfl, ?_⟩)
  refine wpAny_loadName_free S.kind S.cls rfl ⟨_, KI _ _ lcc, rfl⟩ ?_
  rw [hself]
  obtain ⟨m, hns, hv⟩ := I.loc
  obtain ⟨u, ru, lk⟩ := hv 0 "self" (.ref a) rfl hσ (Or.inl S.self)
  cases (show u = Value.ref a from ru)
  have ms : m "self" = some (.ref a) := by
    rcases lk with lk | ⟨lk | lk, _⟩
    · exact lk.2
    · rw [show (cxS CX P w K mg base qual scope f (.ref cda) cc A outer s H E).env.kindOf "self" = some .local from S.self] at lk
      cases lk
    · rw [show (cxS CX P w K mg base qual scope f (.ref cda) cc A outer s H E).env.kindOf "self" = some .local from S.self] at lk
      cases lk
  refine wpAny_loadName_local S.kind S.self hns ms ?_
  have hcl : PySem.W.clsIn K C = some { name := nm, bases := bs, mro := .ref C :: bm, ns := N, qualname := q, hasDict := true, slotNames := sn, subclasses := sub, abstract := ab, collection := col, hasDel := false } := by unfold PySem.W.clsIn; rw [hC] <;> rfl
  refine ks_wpAny_isType_cls KC rfl ⟨rfl, ?_⟩
  obtain ⟨hp, g, d, t, os⟩ := s1
  have aC : a ≠ C := fun z => by
    have e1 := KC
    rw [← z] at e1
    have e2 : hp.get? a = _ := ho
    have e1 : hp.get? a = _ := e1
    rw [e2] at e1
    cases e1
  refine ks_wpAny_call_super (g := g) (d := d) (t := t) (os := os) KC rfl ho rfl (fun c e => by cases e) (looks_mroIn KI T.mro) (fun h1 e1 k1 => ?_)
  have al := T.along
  unfold ks_superIn at al
  rw [hcl] at al
  have K1 : K.In h1 := KI.keeps k1
  have ho1 := k1 _ _ ho
  have I1 : InstAt h1 a _ C none := ⟨ho1, rfl, rfl, trivial⟩
  refine kxs_getMethod kxs_ValueError (g := g) (d := d) (t := t) (os := os) e1 (looks_opaque K1 T.nop) (l₀ := .ref C :: bm) (fun A Q E s k q => wpAny_bind ((looks_clsIn K1 hcl) A _ E s k (wpAny_pure q))) rfl K1 al (I1.type.andThen (looks_subIn K1 T.isV)) aC rfl ?_
  refine kxs_callWith (i := "ValueError.__init__") (x := a) rfl ?_
  have k2 : ∀ b o, hp.get? b = some o → (h1.push (kxs_mw "ValueError.__init__" a)).get? b = some o := fun b o e => Heap.get?_push_of_some _ (k1 b o e)
  have J : Inv (cxS CX P w K mg base qual scope f (.ref cda) cc A outer s H E) [] σ H ⟨h1.push (kxs_mw "ValueError.__init__" a), g, d, t + 1, os⟩ := I.kept (t' := t + 1) k2
  have hs : starEach [Expr.Constant (.str txt) 0 pc] (ksEnv qual scope s.heap.objs.size f (.ref cda) cc) = (false, eval (.Constant (.str txt) 0 pc) (ksEnv qual scope s.heap.objs.size f (.ref cda) cc)) :: starEach [] (ksEnv qual scope s.heap.objs.size f (.ref cda) cc) := rfl
  rw [hs]
  show wpAny _ _ (evalArgs _ true ((false, eval (.Constant (.str txt) 0 pc) (ksEnv qual scope s.heap.objs.size f (.ref cda) cc)) :: []) []) _ _ _
  refine Calls.evalArgs_plain (Calls.spliced_cons (Calls.Constant_str (Calls.spliced_nil ⟨?_, ?_⟩)))
  · exact Heap.get?_push_size _ rfl
  · show wpAny _ _ (call (.ref h1.objs.size) [Value.str txt _]) _ _ _
    refine sup_mw (hp := h1.push (kxs_mw "ValueError.__init__" a)) (k2 _ _ KC) (k2 _ _ ho) (Heap.get?_push_size _ rfl) (by show 1 ≤ _; rw [sizeLine_eq]; decide) fun h' t2 k hx => ?_
    have J2 := (J.tok (t + 1 + 1)).write (t' := t + 1 + 1) (x := a) (e := a) (o := exo a C none) (by rw [ea]; exact True.intro) (.inl rfl) k ⟨_, hx⟩ (exo_ok hx)
    have eu : upd H a (exo a C none) = H := by
      funext b
      by_cases hb : b = a
      · rw [hb, upd_same, ea]
      · rw [upd_ne hb]
    rw [eu] at J2
    exact h _ J2
end
end GL
namespace GL
open PySem PySem.Spec PyProof.Rows L2 PySem.W
/-- what such an __init__ promises -/
def spBad (C : Addr) : Sp := fun vs H Q _ => ∃ (a : Addr) (i : Int), vs = [.ref a, .int i] ∧ H a = some (exo a C none) ∧ ∀ dx, H dx = none → dx ≠ a → Q .non (upd (upd H dx (exd dx [("row", .int i)])) a (exo a C (some dx)))
theorem bad_fn {CX : CXT} {P : Program} {w : World} {K : PySem.W.Frag} {mg : Str → Option Value} {base : Heap} {k : Nat} {f C cc cda : Addr} {name qual : Str} {params : Arguments} {scope : Scope} {dV kV doc pm ct : Value} {an : Option Addr}
    {txt : Str} {p0 p1 p2 p3 p4 pc p5 p6 p7 p8 : Pos} {pl : Sem Bool} (S : SupSc scope) (T : SupC K mg P C f cc cda (ksFn name qual params (supBody txt p0 p1 p2 p3 p4 pc p5 p6 p7 p8) scope dV kV doc pm an (.ref cda) ct cc)) (hcd : PySem.W.codeIn K (.ref cda) qual = true)
    (hev : ∀ env, eval (.Call (.Attribute (.Call (.Name "super" p0) [] [] p1) "__init__" p2) [.Constant (.str txt) 0 pc] [] p3) env = (do
      let ov ← attributeBase (.Call (.Name "super" p0) [] [] p1) "__init__" env (eval (.Call (.Name "super" p0) [] [] p1) env)
      standAt p2.atName
      let (f, first) ← holding [ov] (getMethod ov "__init__" pl)
      callWith p3 f first (backTo p3 (starEach [.Constant (.str txt) 0 pc] env)) [])) :
    FnOk P w K mg base CX (k + 1) f (ksFn name qual params (supBody txt p0 p1 p2 p3 p4 pc p5 p6 p7 p8) scope dV kV doc pm an (.ref cda) ct cc) ["self", "row"] (spBad C) := by
  refine ⟨fun vs H Q E h => by obtain ⟨a, i, rfl, _⟩ := h; rfl, fun A outer s H args us vs Q E hr e0 hb r hsp => ?_⟩
  obtain ⟨a, i, rfl, ea, hq⟩ := hsp
  obtain ⟨oc, od, osl, lk⟩ := T.lf
  obtain ⟨cl, cld, csl, lcc⟩ := T.lcc
  have KX : K.In s.heap := e0.mod.kin.keeps fun b o e => (e0.bs b o e).1
  have lim : s.heap.NoLimit := e0.mod.nolimit.keeps fun b o e => (e0.bs b o e).1
  cases r with
  | @cons _ u0 _ ur ra r' =>
    cases r' with
    | @cons _ u1 _ ur' ri r'' =>
      cases r''
      obtain rfl : u0 = Value.ref a := ra
      obtain ⟨ti, rfl⟩ : ∃ ti, u1 = Value.int i ti := ri
      refine ks_codeAny_call_defAt (binds := [("self", .ref a), ("row", .int i ti)]) hr.depth (KX _ _ lk) rfl lim (PySem.W.codeRec_of KX hcd) rfl hb S.cell (fun x hx => ?_) (fun h0 hns hk => ?_) S.co S.gen S.kind
      · rcases List.mem_cons.mp hx with rfl | hx
        · exact S.self
        · rcases List.mem_cons.mp hx with rfl | hx
          · exact S.row
          · cases hx
      have I := inv_startS (CX := CX) (qual := qual) (f := f) (cd := .ref cda) (E := E) (tk := s.toks + 2) S hr.hd e0 lcc hns hk
      show _root_.PySem.wpAt _ (A.deeper (ksEnv qual scope s.heap.objs.size f (.ref cda) cc)) (.func (supBody txt p0 p1 p2 p3 p4 pc p5 p6 p7 p8) (ksEnv qual scope s.heap.objs.size f (.ref cda) cc)) (execs (supBody txt p0 p1 p2 p3 p4 pc p5 p6 p7 p8) (ksEnv qual scope s.heap.objs.size f (.ref cda) cc)) _ _ _
      refine ks_wpAt_execs_cons (ks_wpAt_Expr_any (hi := by unfold PySem.interactive; show (scope.kind == .module && _) = false; rw [S.kind]; rfl) (sup_eval S T hev I rfl ea fun s2 J => ?_))
      have run := (pss_one (ps_ost (X := cxS CX P w K mg base qual scope f (.ref cda) cc A outer s H E) (f := "row") (p' := p6) (pos := p8) (pe_var (i := 0) (x := "self") (pos := p5) rfl (by left; exact S.self)) (pe_var (i := 1) (x := "row") (pos := p7) rfl (by left; exact S.row)))).run [] s2 _ H
        { nx := fun _ H' => Q .non H', rt := Q } J ⟨.int i, rfl, .ref a, rfl, a, C, rfl, T.oex, T.norow, .inl ⟨ea, fun dx n ne => hq dx n ne⟩⟩
      refine wpAt_of_wpAny (wpAny_mono run (fun fl s' hs => ?_) fun e s' hs => hs)
      cases fl with
      | ret u =>
        obtain ⟨v, σ', H', J', rv, q⟩ := hs
        exact ⟨v, H', J'.os, J'.bare, J'.base, J'.hok, rv, q⟩
      | next =>
        obtain ⟨σ', H', J', q⟩ := hs
        exact ⟨.non, H', J'.os, J'.bare, J'.base, J'.hok, rfl, q⟩
      | brk =>
        obtain ⟨_, _, _, q⟩ := hs
        exact False.elim q
      | cont =>
        obtain ⟨_, _, _, q⟩ := hs
        exact False.elim q
end GL
namespace GL
open PySem PySem.Spec PyProof.Rows L2 PySem.W
/-! ### what the top must show of such a class -/
abbrev FnZ : Type := Option (Str × Str × Arguments × FuncBody × Scope × Addr × List Str × Addr)
def fnZ (K : PySem.W.Frag) (p : Str × Option Str) : FnZ := match K.lookup (He.fAd K p) with
  | some ⟨_, _, .func fd, _⟩ => some (fd.name, fd.qualname, fd.params, fd.body, fd.scope, fd.globals, fd.closure.map (·.1), fd.builtins)
  | _ => none
def valZ (d : He.DefD) : FnZ := some (d.name, d.qual, d.params, .stmts d.body, d.scope, mainGlobals, ["__class__"], builtinsNs)
def oexB (K : PySem.W.Frag) (C : Addr) : Bool := match K.lookup C with
  | some ⟨.type "type", _, .cls cd, sl⟩ => (match cd.mro, sl.toList with
    | .ref C' :: bm, [_, _, _, _, some (.builtin n), _] => C' == C && n == "ValueError.__new__" && !cd.hasDel && cd.hasDict && PySem.HandSPX.refsVE bm
    | _, _ => false)
  | _ => false
theorem oexB_ok {K : PySem.W.Frag} {C : Addr} (q : oexB K C = true) : ∃ nm q N bs bm sn sub ab col dd k0 k1 k2 k3 k5, K.lookup C = some (excClassObj nm q C N bs bm true sn sub ab col dd k0 k1 k2 k3 k5 "ValueError.__new__") ∧ PySem.HandSPX.refsVE bm = true := by
  unfold oexB at q
  split at q
  · rename_i dd cd sl ho
    split at q
    · rename_i C' bm k0 k1 k2 k3 n k5 hm hs
      simp only [Bool.and_eq_true, beq_iff_eq, Bool.not_eq_true'] at q
      obtain ⟨⟨⟨⟨rfl, rfl⟩, hdel⟩, hhd⟩, ht⟩ := q
      obtain ⟨nm, bs, mro, ns, qn, hd, sn, sub, ab, col, del⟩ := cd
      dsimp only at hm hdel hhd
      subst hm hdel hhd
      have hsl : sl = #[k0, k1, k2, k3, some (.builtin "ValueError.__new__"), k5] := by
        obtain ⟨l⟩ := sl
        simp only at hs
        rw [hs]
      subst hsl
      exact ⟨nm, qn, ns, bs, bm, sn, sub, ab, col, dd, k0, k1, k2, k3, k5, ho, ht⟩
    · cases q
  · cases q
/-- the class x, its __init__, its cell -/
def clsZ (K : PySem.W.Frag) (C f : Addr) : Bool :=
  oexB K C && (He.eqO (PySem.W.findIn K (.ref C) "__setattr__") (some (some (.builtin "object.__setattr__"))) && (decide (PySem.W.subIn K (.ref C) (.type "BaseException") = some true) && (decide (PySem.W.typeIn K (.ref C) = some (.type "type")) && (PySem.W.keepIn K (.ref C) &&
  (He.eqO (PySem.W.findIn K (.ref C) "__init__") (some (some (.ref f))) && (decide (PySem.W.typeIn K (.ref f) = some (.type "function")) && (decide (PySem.W.mroIn K C (.ref C) = some true) && (He.eqO (ks_superIn K C C "__init__") (some (some (.builtin "ValueError.__init__"))) &&
  (decide (PySem.W.subIn K (.ref C) (.type "ValueError") = some true) && (He.eqO (PySem.W.nsIn K cStatics "thirdparty.any") (some none) && He.eqO (PySem.W.findIn K (.ref C) "row") (some none)))))))))))
def cellZ (K : PySem.W.Frag) (C cc : Addr) : Bool := match K.lookup cc with
  | some ⟨_, _, .cell (some (.ref c)), _⟩ => c == C
  | _ => false
def codeZ (K : PySem.W.Frag) (file : Str) (cd : Value) : Bool := match cd with
  | .ref cda => (match K.lookup cda with
    | some ⟨_, _, .fields vs, _⟩ => (match (vs[2]? : Option Value) with
      | some (.str f _) => file == f
      | _ => false)
    | _ => false)
  | _ => false
def closZ (K : PySem.W.Frag) (C : Addr) : List (Str × Addr) → Bool
  | [(_, cc)] => cellZ K C cc
  | _ => false
def noDf : Value → Bool
  | .none => true
  | _ => false
theorem noDf_ok {v : Value} (h : noDf v = true) : v = .none := by
  cases v with
  | none => rfl
  | _ => cases h
def badB (file : Str) (d : He.DefD) (K : PySem.W.Frag) : Bool := clsZ K (He.ga K d.at_.1) (He.fAd K d.at_) && (match K.lookup (He.fAd K d.at_) with
  | some ⟨_, _, .func fd, _⟩ => ((PySem.W.codeIn K fd.code d.qual && codeZ K file fd.code) && noDf fd.defaults) && closZ K (He.ga K d.at_.1) fd.closure
  | _ => false)
theorem cellZ_ok {K : PySem.W.Frag} {C cc : Addr} (h : cellZ K C cc = true) : ∃ cl cld csl, K.lookup cc = some ⟨cl, cld, .cell (some (.ref C)), csl⟩ := by
  unfold cellZ at h
  split at h
  · rename_i cl cld c csl hcc
    obtain rfl : c = C := beq_iff_eq.mp h
    exact ⟨_, _, _, hcc⟩
  · cases h
theorem codeZ_ok {K : PySem.W.Frag} {file : Str} {cd : Value} (h : codeZ K file cd = true) : ∃ cda, cd = .ref cda ∧ ∃ ccl cdd vs ccs fl tf, K.lookup cda = some ⟨ccl, cdd, .fields vs, ccs⟩ ∧ vs[2]? = some (.str fl tf) ∧ (file == fl) = true := by
  unfold codeZ at h
  split at h
  · rename_i cda
    refine ⟨cda, rfl, ?_⟩
    split at h
    · rename_i ccl cdd vs ccs hcd
      split at h
      · rename_i fl tf hvs
        exact ⟨_, _, _, _, _, _, hcd, hvs, h⟩
      · cases h
    · cases h
  · cases h
/-- all that is told of it -/
structure BadC (K : PySem.W.Frag) (mg : Str → Option Value) (P : Program) (C f : Addr) (d : He.DefD) : Prop where
  ex : ∃ cc cda kV doc pm an ct, SupC K mg P C f cc cda (ksFn d.name d.qual d.params d.body d.scope .none kV doc pm an (.ref cda) ct cc) ∧ PySem.W.codeIn K (.ref cda) d.qual = true
  ini : PySem.W.findIn K (.ref C) "__init__" = some (some (.ref f))
  fn : PySem.W.typeIn K (.ref f) = some (.type "function")
theorem badC_of {K : PySem.W.Frag} {mg : Str → Option Value} {P : Program} {d : He.DefD} {file : Str} (hz : fnZ K d.at_ = valZ d) (hb : badB file d K = true) (hfile : P.main.file = file) (hm : mg "super" = none) (top : (P.main.scope.names.lookup ("super" : Str)).isSome = false)
    (ps : ∃ ar, (d.params.posonlyargs ++ d.params.args).head? = some ar ∧ ar.arg = ("self" : Str)) : BadC K mg P (He.ga K d.at_.1) (He.fAd K d.at_) d := by
  obtain ⟨h1, h2⟩ := He.ba hb
  unfold clsZ at h1
  obtain ⟨c1, h1⟩ := He.ba h1
  obtain ⟨c2, h1⟩ := He.ba h1
  obtain ⟨c3, h1⟩ := He.ba h1
  obtain ⟨c4, h1⟩ := He.ba h1
  obtain ⟨c5, h1⟩ := He.ba h1
  obtain ⟨c6, h1⟩ := He.ba h1
  obtain ⟨c7, h1⟩ := He.ba h1
  obtain ⟨c8, h1⟩ := He.ba h1
  obtain ⟨c9, h1⟩ := He.ba h1
  obtain ⟨c10, h1⟩ := He.ba h1
  obtain ⟨c11, c12⟩ := He.ba h1
  refine ⟨?_, He.eqO_ok c6, of_decide_eq_true c7⟩
  unfold fnZ at hz
  cases q : K.lookup (He.fAd K d.at_) with
  | none => rw [q] at h2; cases h2
  | some o =>
    obtain ⟨oc, od, dt, osl⟩ := o
    rw [q] at h2 hz
    cases dt with
    | func fd =>
      obtain ⟨n1, n2, n3, n4, n5, n6, n7, n8, n9, n10, n11, n12, n13, n14, n15⟩ := fd
      have e2 : (some (n1, n2, n3, n4, n5, n6, n7.map (fun p => p.1), n15) : FnZ) = valZ d := hz
      unfold valZ at e2
      simp only [Option.some.injEq, Prod.mk.injEq] at e2
      obtain ⟨e1, e2, e3, e4, e5, e6, e7, e8⟩ := e2
      subst e1 e2 e3 e4 e5 e6 e8
      have h2 : (((PySem.W.codeIn K n13 d.qual && codeZ K file n13) && noDf n8) && closZ K (He.ga K d.at_.1) n7) = true := h2
      obtain ⟨g1, h4⟩ := He.ba h2
      obtain ⟨g2, g3⟩ := He.ba g1
      obtain ⟨h3, h5⟩ := He.ba g2
      obtain rfl := noDf_ok g3
      match n7, e7, h4 with
      | [(nm, cc)], e7, h4 =>
        have e7 : nm = "__class__" := by
          have e7 : ([nm] : List Str) = [("__class__" : Str)] := e7
          exact (List.cons.inj e7).1
        subst e7
        obtain ⟨cl, cld, csl, hcc⟩ := cellZ_ok (show cellZ K (He.ga K d.at_.1) cc = true from h4)
        obtain ⟨cda, rfl, ccl, cdd, vs, ccs, fl, tf, hcd, hvs, hf⟩ := codeZ_ok h5
        exact ⟨cc, cda, n9, n10, n11, n12, n14, ⟨⟨oexB_ok c1, He.eqO_ok c2, of_decide_eq_true c3, of_decide_eq_true c4, c5⟩, ⟨_, _, _, q⟩, ps, ⟨_, _, _, hcc⟩, ⟨_, _, vs, _, fl, tf, hcd, hvs, by rw [hfile]; exact hf⟩, top, hm,
          of_decide_eq_true c8, He.eqO_ok c9, of_decide_eq_true c10, He.eqO_ok c11, He.eqO_ok c12⟩, h3⟩
    | _ => cases h2
end GL
namespace GL
open PySem PySem.Spec PyProof.Rows L2 PySem.W
/-- raise x(e), x such a class: the number is told -/
def raiI (c : Str) (d : D) (Γ : Sl) : So := match d with
  | .int n => .er ⟨c, some n⟩ Γ
  | _ => .st
def sRaiseI (c : Str) (m : Sl → Re) : Sl → So := fun Γ => (m Γ).so (raiI c)
section
variable {X : Cx} {G : Wd} {pz : List Nat} {e : Expr} {m : Sl → Re} {x : Str} {p apos pos : Pos} {f : Addr} {d : He.DefD} {k : Nat}
theorem exo_gone {H : Hp} {a dx C : Addr} {fs : List (Str × V)} (ha : H a = none) (hd : H dx = none) (hne : dx ≠ a) :
    upd (del (upd (upd (upd H a (exo a C none)) dx (exd dx fs)) a (exo a C (some dx))) a) dx (.xd fs) = upd H dx (.xd fs) := by
  funext b
  by_cases hb : b = dx
  · rw [hb, upd_same, upd_same]
  · rw [upd_ne hb, upd_ne hb]
    by_cases hba : b = a
    · rw [hba, del_same, ha]
    · rw [del_ne hba, upd_ne hba, upd_ne hb, upd_ne hba]
theorem gs_raiseI {fd : FuncData} (T : OexC X.K (G.cls x)) (hi : PySem.W.findIn X.K (.ref (G.cls x)) "__init__" = some (some (.ref f))) (tf : PySem.W.typeIn X.K (.ref f) = some (.type "function"))
    (Fk : FnOk X.prog X.w X.K X.mg X.base (L2.CX X.prog X.w) k f fd ["self", "row"] (spBad (G.cls x))) (hr : Room (k + 1) X.A) (hb : Binds X.K fd ["self", "row"] []) (hm : X.mg x = some (.ref (G.cls x))) (he : GE G pz X e m)
    (hc : X.calm = true := by rfl) (hg : Gl X x := by rfl) (hs : ∀ pn xe, starEach [e] (X.tr pn xe).env = (false, eval e (X.tr pn xe).env) :: starEach [] (X.tr pn xe).env := by intro _ _; rfl) (hdb : (x == ("__debug__" : Str)) = false := by decide) :
    GS G pz X (.Raise (some (.Call (.Name x p) [e] [] apos)) none pos) (sRaiseI x m) := fun pn xe W σ H X0 pins F D Γ tk hp ho q =>
  wS.of (ps_raise (X := X.tr pn xe) hc tk (pmk_oex (X := X.tr pn xe) (CX := L2.CX X.prog X.w) (ds := []) (dvs := []) T hi tf Fk hr hb .nil (L2.passes_call tk fun _ _ _ _ z => z.elim) hg hm (pa_cons (X := X.tr pn xe) pe_w pa_nil (hs pn xe)) hdb (hs pn xe)))
    (he pn xe W σ H X0 pins F _ Γ tk ho (So.bind (P := .st) q fun d Γ1 q1 _ p v H' F' Fv s0 ho' o qt => by
      cases d with
      | int n =>
        obtain rfl : v = .int n := by
          obtain ⟨rv, _⟩ := o.rp rfl
          cases rv
          rfl
        refine ⟨by simp, fun a ha => ⟨a, n, rfl, upd_same, fun dx hdx hne => ⟨rfl, dx, [("row", .int n)], upd_same, by rw [upd_ne hne, upd_same], ?_, ?_⟩⟩⟩
        · rw [upd_ne hne] at hdx
          exact hdx
        · rw [upd_ne hne] at hdx
          rw [exo_gone ha hdx hne]
          have g : Grow G H' (upd H' dx (.xd [("row", .int n)])) := .of fun z u hu => by
            rw [upd_ne (ne_of_none hu hdx)]
            exact hu
          exact p _ (some dx) σ _ F' ((s0.shrink fun a ha => List.mem_append_right _ ha).trans (g.step F')) (ho'.drop.grow g) ⟨rfl, dx, rfl, upd_same⟩
      | any => exact p.elim
      | bl => exact p.elim
      | non => exact p.elim
      | str => exact p.elim
      | fn => exact p.elim
      | nd => exact p.elim
      | pr => exact p.elim))
end
end GL
namespace GL
open PySem PySem.Spec PyProof.Rows L2 PySem.W
/-! ### text.split(sep) -/
def splD (a b : Str) : Option D := if ((!(b.length == 0)) && decide (a.length + 2 ≤ 16777216)) = true then some (.nd true .lst ((Txt.split a b).map D.str)) else none
def mSplit (mo me : Sl → Re) : Sl → Re := fun Γ => (mo Γ).bind fun da Γ1 => match da with
  | .str a => (me Γ1).bind fun db Γ2 => match db with
    | .str b => .of (splD a b) Γ2
    | _ => .st
  | _ => .st
section
variable {K : PySem.W.Frag} {G : Wd} {pz : List Nat} {Y : List Addr} {H : Hp} {X : Cx} {o e : Expr} {mo me : Sl → Re} {pos apos : Pos}
theorem ge_split (ho' : GO G pz X o mo) (he : GO G pz X e me) (hbase : ∀ pn xe, attributeBase o "split" (X.tr pn xe).env (eval o (X.tr pn xe).env) = eval o (X.tr pn xe).env := by intro _ _; rfl)
    (hline : (apos.endLine == pos.line) = true := by rfl) (hs : ∀ pn xe, starEach [e] (X.tr pn xe).env = [(false, eval e (X.tr pn xe).env)] := by intro _ _; rfl) : GE G pz X (.Call (.Attribute o "split" apos) [e] [] pos) (mSplit mo me) := fun pn xe W σ H X0 pins F Q Γ tk ho q =>
  wE.of (pe_split (X := X.tr pn xe) pe_w pe_w (hs pn xe) (hbase pn xe) hline)
    (ho' pn xe W σ H X0 pins F _ Γ tk ho (q.bind fun da Γ1 q1 e0 p1 v H1 F1 s1 ho1 o1 qt1 => by
      clear e0
      split at p1
      case h_2 => exact p1.elim
      rename_i a
      refine ⟨⟨a, o1.str⟩, ?_⟩
      refine he pn xe W σ H1 X0 pins F1 _ Γ1 tk ho1 ((p1.vaft s1 qt1).bind fun db Γ2 q2 e3 p2 y H2 F2 s2 ho2 o2 qt2 => ?_)
      clear e3
      split at p2
      case h_2 => exact p2.elim
      rename_i b
      obtain ⟨d, e1, fr⟩ := fr_of ho2 (p2.vaft s2 qt2)
      unfold splD at e1
      split at e1
      · rename_i hz
        cases e1
        simp only [Bool.and_eq_true, decide_eq_true_eq, Bool.not_eq_true'] at hz
        refine ⟨a, b, o1.str, by rw [o2.str], hz.1, by rw [sizeLine_eq]; exact hz.2, fun p hp => ?_⟩
        exact fr_new fr hp rfl (rps_strs _)
      · cases e1))
end
end GL
namespace GL
open PySem PySem.Spec PyProof.Rows L2 PySem.W
/-! ### isinstance of a caught exception, with a dict of its own or without -/
section
variable {prog : Program} {w : World} {A : Around} {E : Value → Shared → Prop} {s : Shared} {K : Frag} {x D : Addr} {ox : Obj} {od : Option Obj}
theorem find_data {C : Addr} {name : Str} {a g : Value} (hc : (clsIn K C).isSome = true) (ha : findIn K (.ref C) name = some (some a)) (hg : specialIn K a "__get__" = some (some g)) (ht : takesIn K a = some true) : findObj K C od name = some (.bind g a) := by
  obtain ⟨cd, hc⟩ := Option.isSome_iff_exists.mp hc
  unfold findObj
  rw [hc, Option.bind_some, ha, Option.bind_some]
  simp [hg, ht]
theorem class_of_exc {Q : Option Value → Shared → Prop} (T : ExcC K D) (X : K.In s.heap) (I : InstAt s.heap x ox D od) (h : Q (some (.ref D)) { s with toks := s.toks + 1 }) : wpAny (model prog w) A (getAttr? (.ref x) "__class__") Q E s := by
  have fnd : findObj K D od "__class__" = some (.bind (.builtin "getset_descriptor.__get__") (.builtin "object.__class__")) := by
    obtain ⟨cd, hc, _⟩ := any_some T.hd
    exact find_data (by rw [hc]; rfl) T.ha T.hn T.ht
  obtain ⟨hp, g, d, t, os⟩ := s
  have lt := I.type (M := model prog w)
  have lg := looks_findIn (M := model prog w) X T.hg
  have lk := looks_findIn (M := model prog w) X T.hk
  have lf := looks_find (M := model prog w) X I fnd
  have lb : Looks (model prog w) hp (isInstance (.ref x) (.type "BaseException")) true := Looks.andThen lt (looks_subIn X T.hs)
  have ne : (onTheHeap (Value.ref D) && Value.builtin "BaseException.__getattribute__" == Value.builtin "object.__getattribute__") = false := by
    rw [Bool.and_eq_false_iff]
    exact .inr (by decide +kernel)
  have nh : (false && onTheHeap (Value.builtin "BaseException.__getattribute__")) = false := rfl
  have bd := PySem.F.excAttr_ValueError.ga.bind (.ref x)
  simp only [getAttr?, getAttrBy?, getAttrBy]
  repeat (with_reducible first | refine wpAny_bind ?_ | refine wpAny_mkText ?_ | refine wpAny_attempt ?_ | refine wpAny_holding ?_ | refine wpAny_pure ?_ | refine Looks.at lt ?_ | refine Looks.at lg ?_ | dsimp only)
  rw [ne]
  simp only [Bool.false_eq_true, if_false, getAttrByItsOwn, hookBefore, show onTheHeap (Value.ref D) = true from rfl, if_true]
  repeat (with_reducible first | refine wpAny_bind ?_ | refine wpAny_mkText ?_ | refine wpAny_attempt ?_ | refine wpAny_holding ?_ | refine wpAny_pure ?_ | refine Looks.at lk ?_ | refine Looks.at lk ?_ | dsimp only)
  simp only [callGetattribute, nh, Bool.false_eq_true, if_false, boundAndCalled, bd]
  repeat (with_reducible first | refine wpAny_bind ?_ | refine wpAny_mkText ?_ | refine wpAny_attempt ?_ | refine wpAny_holding ?_ | refine wpAny_pure ?_ | refine Looks.at lk ?_ | refine Looks.at lk ?_ | dsimp only)
  refine wpAny_call (codeAny_call_builtin PySem.F.excAttr_ValueError.ga.plain PySem.F.entry_bexc_ga (@check_slot (model prog w) _ _ ⟨hp, g, d, t + 1, os⟩ _ "BaseException" "__getattribute__" _ [.str "__class__" t] [] _ (by decide +kernel) (by decide +kernel) lb (PySem.F.args_bexc_ga _ (.str "__class__" t)) ?_))
  simp only [Builtin.«object.__getattribute__»]
  refine wpAny_bind (wpAny_of_eq (a := ((Value.ref x : Value), [Value.str "__class__" t])) rfl ?_)
  repeat (with_reducible first | refine wpAny_bind ?_ | refine wpAny_mkText ?_ | refine wpAny_attempt ?_ | refine wpAny_holding ?_ | refine wpAny_pure ?_ | refine Looks.at lt ?_ | refine Looks.at lf ?_ | dsimp only)
  refine wpAny_pure ?_
  repeat (with_reducible first | refine wpAny_bind ?_ | refine wpAny_mkText ?_ | refine wpAny_attempt ?_ | refine wpAny_holding ?_ | refine wpAny_pure ?_ | refine Looks.at lt ?_ | refine Looks.at lf ?_ | dsimp only)
  simp only [Builtin.ObjectAttr.bindTo]
  repeat (with_reducible first | refine wpAny_bind ?_ | refine wpAny_holding ?_)
  refine wpAny_call (class_get (ox := ox) (od := od) X I T.hm (wpAny_pure ?_))
  have ho : handedOut (Value.ref D) = pure (Value.ref D) := handedOut_of rfl
  dsimp only
  rw [ho]
  exact wpAny_pure (wpAny_pure h)
theorem kitx_exc (T : ExcC K D) : KitX K (.ref x) (.ref D) (fun h => InstAt h x ox D od) where
  ty := fun _ _ _ I => I.type
  it := fun _ _ X _ => by
    obtain ⟨cd, hc, _⟩ := any_some T.hd
    unfold clsIn at hc
    split at hc
    · rename_i ho
      intro A' Q' E' s' k q
      unfold isType loadHead
      exact wpAny_bind (wpAny_loadPart (k _ _ (X _ _ ho)) (wpAny_pure q))
    · cases hc
  ne := fun h tp dd its n sl X htp => (handS_kitx_exc (x := x) (ox := ox) T.hg T.hk T.hs T.hd T.ha T.hn T.ht T.hm).ne h tp dd its n sl X htp
  ca := fun X I k => class_of_exc T X I k
end
def excCB (K : Frag) (D : Addr) : Bool :=
  He.eqO (findIn K (.ref D) "__getattribute__") (some (some (.builtin "BaseException.__getattribute__"))) && (He.eqO (findIn K (.ref D) "__getattr__") (some none) && (decide (subIn K (.ref D) (.type "BaseException") = some true) && (hasDictIn K D &&
  (He.eqO (findIn K (.ref D) "__class__") (some (some (.builtin "object.__class__"))) && (He.eqO (specialIn K (.builtin "object.__class__") "__get__") (some (some (.builtin "getset_descriptor.__get__"))) && (decide (takesIn K (.builtin "object.__class__") = some true) && decide (mroIn K D (.type "object") = some true)))))))
theorem excCB_ok {K : Frag} {D : Addr} (h : excCB K D = true) : ExcC K D := by
  obtain ⟨h1, h⟩ := He.ba h
  obtain ⟨h2, h⟩ := He.ba h
  obtain ⟨h3, h⟩ := He.ba h
  obtain ⟨h4, h⟩ := He.ba h
  obtain ⟨h5, h⟩ := He.ba h
  obtain ⟨h6, h⟩ := He.ba h
  obtain ⟨h7, h8⟩ := He.ba h
  exact ⟨He.eqO_ok h1, He.eqO_ok h2, of_decide_eq_true h3, h4, He.eqO_ok h5, He.eqO_ok h6, of_decide_eq_true h7, of_decide_eq_true h8⟩
/-- the dict of a caught exception, if it has one, stands -/
def DicOk (d : Option Addr) (H : Hp) : Prop := d = none ∨ ∃ dd fs, d = some dd ∧ H dd = some (.xd fs)
theorem DicOk.ext {d : Option Addr} {H H' : Hp} (h : DicOk d H) (x : ∀ b o, H b = some o → H' b = some o) : DicOk d H' := by
  rcases h with h | ⟨dd, fs, h1, h2⟩
  · exact .inl h
  · exact .inr ⟨dd, fs, h1, x _ _ h2⟩
/-- isinstance(e, c), e the exception that the suite holds -/
def rIsX (K : Frag) (D a : Addr) (d : Option Addr) : List V → Hp → VK → Prop := fun xs H Q => ∃ (c : V) (cv : Value) (b : Bool), xs = [.ref a, c] ∧ DicOk d H ∧ (∀ u, RelV c u → u = cv) ∧ kitOne K (.ref D) cv = some b ∧ Q (.bl b) H
theorem call_isX {X : Cx} {a D : Addr} {oe : Obj} {d : Option Addr} {pn : List (Addr × Obj)} (C : ExcC X.K D) (hz : Zc (.ref D) d oe) (hf : ∃ vs, oe.data = .fields vs) : CallR (X.suite a ((a, oe) :: pn)) (.builtin "isinstance") (rIsX X.K D a d) := by
  intro pins s σ H xs us Q I r h
  obtain ⟨c, cv, b, rfl, hd, hcv, e, q⟩ := h
  cases r with
  | cons rx rr =>
    cases rr with
    | cons rt rr =>
      cases rr
      cases rx
      have ec := hcv _ rt
      subst ec
      obtain ⟨hget, _⟩ := I.pin (a, oe) (List.mem_append.mpr (.inl List.mem_cons_self))
      obtain ⟨vs, hv⟩ := hf
      have no : notCls oe = true := by unfold notCls; rw [hv] <;> rfl
      have J : ∃ od, InstAt s.heap a oe D od := by
        rcases hd with hd | ⟨dd, fs, h1, h2⟩
        · exact ⟨none, hget, hz.1, no, by rw [hz.2, hd]; exact True.intro⟩
        · obtain ⟨mA, hns, _⟩ := (show ObjOk X.prog X.w H s.heap dd (.xd fs) from I.hok dd _ h2)
          obtain ⟨o, _, _, ho, _⟩ := hns
          exact ⟨some o, hget, hz.1, no, by rw [hz.2, h1]; exact ho⟩
      obtain ⟨od, J⟩ := J
      exact kia_one (kitx_exc C) I.kIn J e (fun z => nomatch z) fun tk => ⟨.bl b, H, I.kept (t' := tk) fun _ _ z => z, rfl, q⟩
end GL
namespace GL
open PySem PySem.Spec PyProof.Rows L2 PySem.W
/-! ### the def that calls what it got and tells the caught exception's classes -/
abbrev IsP : Type := Str × Pos × Pos × Pos × Pos
def isE (z : IsP) : Expr := .Call (.Name "isinstance" z.2.1) [.Name "e" z.2.2.1, .Name z.1 z.2.2.2.1] [] z.2.2.2.2
structure UndP where
  a1 : Pos
  a2 : Pos
  a3 : Pos
  a4 : Pos
  a5 : Pos
  a6 : Pos
  b1 : Pos
  b2 : Pos
  b3 : Pos
  b4 : Pos
  b5 : Pos
  b6 : Pos
  b7 : Pos
  b8 : Pos
  c1 : Pos
  c2 : Pos
  c3 : Pos
  c4 : Pos
  d1 : Pos
  d2 : Pos
def undSuite (p : UndP) (e1 e2 e3 : List IsP) : List Stmt := [
  .Assign [.Name "some" p.b1] (.List (e1.map isE) p.b2) p.b3,
  .Assign [.Name "some" p.b4] (.BinOp (.Name "some" p.b5) .Add (.List (e2.map isE) p.b6) p.b7) p.b8,
  .Return (some (.BinOp (.Name "some" p.c1) .Add (.List (e3.map isE) p.c2) p.c3)) p.c4]
def undBody (x : Str) (p : UndP) (e1 e2 e3 : List IsP) : List Stmt := [
  .Try [.Expr (.Call (.Name "what" p.a1) [] [] p.a2) p.a3] [.ExceptHandler (some (.Name x p.a4)) (some "e") (undSuite p e1 e2 e3) p.a5] [] [] p.a6,
  .Return (some (.List [] p.d1)) p.d2]
/-- what is known of a class named in such a test: b is the answer for an exception of the class at D -/
structure YF (K : Frag) (mg : Str → Option Value) (sg : Scope) (D : Addr) (y : Str) (b : Bool) : Prop where
  gl : sg.names.lookup y = some .globalImplicit
  db : (y == ("__debug__" : Str)) = false
  ex : (∃ c, mg y = some (.ref c) ∧ kitOne K (.ref D) (.ref c) = some b) ∨ (∃ n, mg y = none ∧ bootBuiltins y = some (.type n) ∧ y ≠ "__name__" ∧ kitOne K (.ref D) (.type n) = some b)
section
variable {X : Cx} {a D : Addr} {oe : Obj} {d : Option Addr} {pn : List (Addr × Obj)} {sg : Scope} {ans : Str → Bool}
def tIs (a : Addr) (d : Option Addr) (ans : Str → Bool) (es : List IsP) : TA := fun σ H Q => σ[1]? = some (some (.ref a)) ∧ DicOk d H ∧ Q (es.map fun z => V.bl (ans z.1)) H
theorem PA.imp {X : Cx} {es : List Expr} {t t' : TA} (h : PA X es t) (k : ∀ σ H Q, t' σ H Q → t σ H Q) : PA X es t' := ⟨fun p pins s σ H Q I q => h.run p pins s σ H Q I (k _ _ _ q)⟩
theorem PE.imp {X : Cx} {e : Expr} {t t' : TE} (h : PE X e t) (k : ∀ σ H Q, t' σ H Q → t σ H Q) : PE X e t' := ⟨fun pins s σ H Q I q => h.run pins s σ H Q I (k _ _ _ q)⟩
theorem pa_is (C : ExcC X.K D) (hz : Zc (.ref D) d oe) (hf : ∃ vs, oe.data = .fields vs) (hN : X.N[1]? = some ("e" : Str)) (hv : Vis X.env.scope "e") (hgi : Gl X "isinstance") (hmi : X.mg "isinstance" = none) :
    ∀ es : List IsP, (∀ z ∈ es, YF X.K X.mg X.env.scope D z.1 (ans z.1)) → PA (X.suite a ((a, oe) :: pn)) (es.map isE) (tIs a d ans es)
  | [], _ => PA.imp pa_nil fun σ H Q h => h.2.2
  | z :: es, h => by
    have ih := pa_is C hz hf hN hv hgi hmi es fun y hy => h y (List.mem_cons_of_mem _ hy)
    obtain ⟨gl, db, ex⟩ := h z List.mem_cons_self
    obtain ⟨c, cv, hc, hr, hk⟩ : ∃ (c : V) (cv : Value), PE (X.suite a ((a, oe) :: pn)) (.Name z.1 z.2.2.2.1) (tC c) ∧ (∀ u, RelV c u → u = cv) ∧ kitOne X.K (.ref D) cv = some (ans z.1) := by
      rcases ex with ⟨c, h1, h2⟩ | ⟨n, h1, h2, h3, h4⟩
      · exact ⟨.ref c, .ref c, pe_glob (X := X.suite a ((a, oe) :: pn)) gl h1 rfl db, fun u r => r, h2⟩
      · exact ⟨.ty n, .type n, pe_bltn (X := X.suite a ((a, oe) :: pn)) gl h1 h2 rfl h3 db, fun u r => r, h4⟩
    have one : PE (X.suite a ((a, oe) :: pn)) (isE z) (tCB (rIsX X.K D a d) (tCons (tVar 1) (tCons (tC c) tNil))) :=
      pe_callB (X := X.suite a ((a, oe) :: pn)) (call_isX C hz hf) hgi hmi (show bootBuiltins "isinstance" = some (.builtin "isinstance") by rfl) (pa_cons (pe_var hN hv) (pa_cons hc pa_nil))
    refine PA.imp (pa_cons one ih) fun σ H Q ⟨h1, h2, h3⟩ => ?_
    exact ⟨.ref a, h1, c, cv, ans z.1, rfl, h2, hr, hk, h1, h2, h3⟩
/-- what such a def makes of what it got -/
def TTund (l : List Str) (ad : Str → Addr) (out : Str → List V) : (XK → Hp → VK → Prop) → Hp → VK → Prop := fun tl H Q =>
  tl (fun cls d H' => ∃ c ∈ l, cls = .ref (ad c) ∧ DicOk d H' ∧ ∀ p H'', (∀ b o, H' b = some o → H'' b = some o) → H' p = none → H'' p = some (.lst (out c)) → Q (.ref p) H'') H (fun _ _ => False)
theorem set_at {α : Type} {l : List α} {i : Nat} {v : α} (h : i < l.length) : (l.set i v)[i]? = some v := by simp [h]
theorem set_off {α : Type} {l : List α} {i j : Nat} {v : α} (h : i ≠ j) : (l.set i v)[j]? = l[j]? := by simp [h]
theorem und_gives {X : Cx} {x xf q : Str} {p : UndP} {e1 e2 e3 : List IsP} {sg : Scope} {g CG : Addr} {cdg : Value} {l : List Str} {ad : Str → Addr} {ans : Str → Str → Bool}
    (vw : Vis sg "what") (ve : sg.names.lookup ("e" : Str) = some .local) (vs : sg.names.lookup ("some" : Str) = some .local) (gi : sg.names.lookup ("isinstance" : Str) = some .globalImplicit) (gx : sg.names.lookup x = some .globalImplicit) (dx : (x == ("__debug__" : Str)) = false)
    (mi : X.mg "isinstance" = none) (mx : X.mg x = some (.ref CG)) (hC : ∀ c ∈ l, ExcC X.K (ad c)) (hG : ∀ c ∈ l, exmOne X.K (.ref (ad c)) (.ref CG) = some true) (hY : ∀ c ∈ l, ∀ z ∈ (e1 ++ e2) ++ e3, YF X.K X.mg sg (ad c) z.1 (ans c z.1)) (hz : ((e1 ++ e2) ++ e3).length ≤ 1000) :
    LamX.GivesTo X ["what", "e", "some"] xf sg g cdg (undBody x p e1 e2 e3) "what" q (TTund l ad fun c => ((e1 ++ e2) ++ e3).map fun z => V.bl (ans c z.1)) := by
  intro f c' s H Q tl act hc h
  simp only [List.length_append] at hz
  refine ⟨_, pss_cons (ps_try_as (X := (cxOf C8.CX0 X.prog X.w X.K X.mg X.base ["what", "e", "some"] xf sg g cdg X.A X.stack s H C8.E0).nox) (i := 1) (n := "e") (c := .ref CG) (Wout := fun _ _ _ _ => False)
    (tb := fun W D σ H => ∃ Ech : XK, (∀ cls d σ' H', Ech cls d H' → W cls d σ' H') ∧ σ[0]? = some (some (.ref f)) ∧ H c' = some (LamX.CodeO c' q) ∧ tl Ech H (fun _ H' => D.nx σ H'))
    (ts := fun a cls d D σ H => ∃ c ∈ l, cls = .ref (ad c) ∧ DicOk d H ∧ (σ.length = 3 → σ[1]? = some (some (.ref a))) ∧ ∀ p H'', (∀ b o, H b = some o → H'' b = some o) → H p = none → H'' p = some (.lst (((e1 ++ e2) ++ e3).map fun z => V.bl (ans c z.1))) → D.rt (.ref p) H'')
    rfl rfl (show (["what", "e", "some"] : List Str).Nodup by decide) rfl ve ⟨gx, dx, .inl mx⟩ LamX.takes0 (fun W pn xe tk _ => ?_) (fun a oe cls d pn zc hf => ?_)) pss_never, ?_⟩
  · refine ⟨fun pins s' σ H D I h' => ?_⟩
    obtain ⟨Ech, hW, h1, h2, h3⟩ := h'
    exact (pss_one (ps_expr (pos := p.a3) (act W pn xe Ech p.a1 p.a2 tk hW))).run pins s' σ H D I ⟨h1, h2, h3⟩
  · refine ⟨fun pins s' σ H2 D I h' => ?_⟩
    obtain ⟨c, hcl, rfl, hd, h1, hq⟩ := h'
    have hl : σ.length = 3 := I.len
    have h1 := h1 hl
    have pa : ∀ es : List IsP, (∀ z ∈ es, z ∈ (e1 ++ e2) ++ e3) → PA ((cxOf C8.CX0 X.prog X.w X.K X.mg X.base ["what", "e", "some"] xf sg g cdg X.A X.stack s H C8.E0).nox.suite a ((a, oe) :: pn)) (es.map isE) (tIs a d (ans c) es) := fun es hes =>
      pa_is (X := (cxOf C8.CX0 X.prog X.w X.K X.mg X.base ["what", "e", "some"] xf sg g cdg X.A X.stack s H C8.E0).nox) (hC c hcl) zc hf rfl (.inl ve) gi mi es fun z hz => hY c hcl z (hes z hz)
    have N : (["what", "e", "some"] : List Str).Nodup := by decide
    have s1 := ps_set (X := (cxOf C8.CX0 X.prog X.w X.K X.mg X.base ["what", "e", "some"] xf sg g cdg X.A X.stack s H C8.E0).nox.suite a ((a, oe) :: pn)) (i := 2) (pos' := p.b1) (pos := p.b3) N rfl (.inl vs) (pe_lst (pos := p.b2) (pa e1 fun z hz => List.mem_append_left _ (List.mem_append_left _ hz))) rfl (.inr vs)
    have s2 := ps_set (X := (cxOf C8.CX0 X.prog X.w X.K X.mg X.base ["what", "e", "some"] xf sg g cdg X.A X.stack s H C8.E0).nox.suite a ((a, oe) :: pn)) (i := 2) (pos' := p.b4) (pos := p.b8) N rfl (.inl vs)
      (pe_op (pos := p.b7) op_cat (pe_var (i := 2) (x := "some") (pos := p.b5) rfl (.inl vs)) (pe_lst (pos := p.b6) (pa e2 fun z hz => List.mem_append_left _ (List.mem_append_right _ hz)))) rfl (.inr vs)
    have s3 := ps_ret (X := (cxOf C8.CX0 X.prog X.w X.K X.mg X.base ["what", "e", "some"] xf sg g cdg X.A X.stack s H C8.E0).nox.suite a ((a, oe) :: pn)) (pos := p.c4)
      (pe_op (pos := p.c3) op_cat (pe_var (i := 2) (x := "some") (pos := p.c1) rfl (.inl vs)) (pe_lst (pos := p.c2) (pa e3 fun z hz => List.mem_append_right _ hz)))
    refine (pss_cons s1 (pss_cons s2 (pss_one s3))).run pins s' σ H2 D I ?_
    have z1 : (e1.map fun z => V.bl (ans c z.1)).length ≤ sizeLine := by rw [sizeLine_eq, List.length_map]; omega
    have z2 : (e2.map fun z => V.bl (ans c z.1)).length ≤ sizeLine := by rw [sizeLine_eq, List.length_map]; omega
    have z3 : (e3.map fun z => V.bl (ans c z.1)).length ≤ sizeLine := by rw [sizeLine_eq, List.length_map]; omega
    have up : ∀ {H : Hp} {p : Addr} {o : HO}, H p = none → ∀ b u, H b = some u → upd H p o b = some u := fun n b u e => by rw [upd_ne (ne_of_none e n), e]
    refine ⟨h1, hd, z1, fun p1 n1 => ?_⟩
    refine ⟨.ref p1, set_at (by omega), (set_off (by decide)).trans h1, hd.ext (up n1), z2, fun p2 n2 => ?_⟩
    refine ⟨p1, p2, _, _, rfl, rfl, up n2 _ _ upd_same, upd_same, by rw [sizeLine_eq, List.length_map, List.length_map]; omega, fun p3 n3 => ?_⟩
    have e3' : ∀ b u, H2 b = some u → upd (upd (upd H2 p1 (.lst (e1.map fun z => V.bl (ans c z.1)))) p2 (.lst (e2.map fun z => V.bl (ans c z.1)))) p3 (.lst ((e1.map fun z => V.bl (ans c z.1)) ++ (e2.map fun z => V.bl (ans c z.1)))) b = some u := fun b u e => up n3 _ _ (up n2 _ _ (up n1 _ _ e))
    refine ⟨.ref p3, set_at (by rw [List.length_set]; omega), (set_off (by decide)).trans ((set_off (by decide)).trans h1), hd.ext e3', z3, fun p4 n4 => ?_⟩
    refine ⟨p3, p4, _, _, rfl, rfl, up n4 _ _ upd_same, upd_same, by rw [sizeLine_eq, List.length_append, List.length_map, List.length_map, List.length_map]; omega, fun p5 n5 => ?_⟩
    refine hq p5 _ (fun b u e => up n5 _ _ (up n4 _ _ (e3' b u e))) ?_ (by rw [List.map_append, List.map_append]; exact upd_same)
    cases e : H2 p5 with
    | none => rfl
    | some u => rw [up n4 _ _ (e3' p5 u e)] at n5; cases n5
  · refine ⟨_, fun cls d σ' H' ⟨c, hcl, ec, hd, hq⟩ => ?_, rfl, hc, h⟩
    subst ec
    refine ⟨true, hG c hcl, fun _ a na => ⟨c, hcl, rfl, hd, fun z => set_at (by rw [List.length_set] at z; omega), hq⟩, fun z => nomatch z⟩
end
end GL
namespace GL
open PySem PySem.Spec PyProof.Rows L2 PySem.W
/-! ### a list of lambdas, one of which is called by such a def -/
structure LamI where
  params : Arguments
  body : Expr
  scope : Scope
  pos : Pos
abbrev LamI.e (l : LamI) : Expr := .Lambda l.params l.body l.scope l.pos
abbrev lamOb (X : Cx) (l : LamI) (pm : Value) (c' : Addr) (ctv : Value) : Obj := PySem.W.kla_obj "<lambda>" (X.env.qual ++ "<lambda>") l.params l.body l.scope (cloFrom X.env.cells l.scope.names []) pm c' ctv
/-- l's function stands at f: pinned, its code object known -/
def LamAt (X : Cx) (ps : List (Addr × Obj)) (H : Hp) (l : LamI) (f : Addr) : Prop := ∃ c' pm ctv, (f, lamOb X l pm c' ctv) ∈ ps ∧ H c' = some (LamX.CodeO c' (X.env.qual ++ "<lambda>"))
/-- the lambda's text, read by m -/
structure LamOk (X : Cx) (G : Wd) (pz : List Nat) (k : Nat) (l : LamI) (m : Sl → Re) : Prop where
  L : LamX.LamS X.env.scope l.scope
  hdef : defaultsOf l.params X.env = ([], [])
  hbind : ∀ (q : Str) (cl : List (Str × Addr)) (pm cv ctv : Value), bindArgs (PySem.W.kla_fn "<lambda>" q l.params l.body l.scope cl pm cv ctv) ⟨[], []⟩ = pure []
  hb : ∀ (A : Around) (outer : List PySem.Env) (s : Shared) (H : Hp) (E : XK) (f c' : Addr), Room k (A.deeper (LamX.lamEnv X l.scope s.heap.objs.size f c')) → GE G pz (LamX.lamCx X A outer s H E l.scope f c') l.body m
/-- the def, as the top has left it; us: the classes that it tells -/
def ansU (c y : Str) : Bool := y == "ValueError" || decide (c = y)
structure UndOk (K : Frag) (mg : Str → Option Value) (G : Wd) (xf x : Str) (st : Stmt) (g : Addr) (us : List Str) : Prop where
  hm : mg xf = some (.ref g)
  fn : ∃ fd, FunD K xf xf (defArgs st) (defBody st) (defScope st) [] [] g fd ∧ L2.Binds K fd ["what"] []
  sc : FnScope ["what", "e", "some"] ["what"] (defScope st)
  vw : Vis (defScope st) "what"
  ve : (defScope st).names.lookup ("e" : Str) = some .local
  vs : (defScope st).names.lookup ("some" : Str) = some .local
  gi : (defScope st).names.lookup ("isinstance" : Str) = some .globalImplicit
  gx : (defScope st).names.lookup x = some .globalImplicit
  dx : (x == ("__debug__" : Str)) = false
  mi : mg "isinstance" = none
  mx : mg x = some (.ref (G.cls x))
  body : ∃ p e1 e2 e3, defBody st = undBody x p e1 e2 e3 ∧ ((e1 ++ e2) ++ e3).map (·.1) = us ++ [("ValueError" : Str)]
  hC : ∀ c ∈ us, ExcC K (G.cls c)
  hG : ∀ c ∈ us, exmOne K (.ref (G.cls c)) (.ref (G.cls x)) = some true
  hY : ∀ c ∈ us, ∀ y ∈ us ++ [("ValueError" : Str)], YF K mg (defScope st) (G.cls c) y (ansU c y)
  len : us.length ≤ 900
def undD (us : List Str) (c : Str) : D := .nd true .lst ((us ++ [("ValueError" : Str)]).map fun y => .bl (ansU c y))
theorem rps_bls {K : Frag} {G : Wd} {Y : List Addr} {H : Hp} (f : Str → Bool) : ∀ l : List Str, Rps K G Y H (l.map fun y => V.bl (f y)) (l.map fun y => D.bl (f y))
  | [] => .nil
  | _ :: l => .cons .bl (rps_bls f l)
section
variable {X : Cx} {G : Wd} {pz : List Nat} {X0 F : List Addr} {pinv : Nat → V} {Γ Γ' : Sl} {σ : L2.St} {H : Hp} {Q : VK} {xf x w kx : Str} {st : Stmt} {g : Addr} {us : List Str} {k : Nat} {l : LamI} {m : Sl → Re} {iw ik : Nat} {Lr f : Addr} {fs : List V} {n : Int} {e : Ex} {p p1 p2 p3 pos : Pos}
theorem frs_ne (I : Inv X ps σ H s) (h1 : f ≠ X.env.locals) (h2 : f ∉ X.fs) : f ∉ frs X.stack := fun z => by
  rcases List.mem_cons.mp (I.stkSub _ z) with h | h
  · exact h1 h
  · exact h2 h
theorem wE_und (U : UndOk X.K X.mg G xf x st g us) (hr : Room (k + 2) X.A) (LO : LamOk X G pz k l m) (hg : Gl X xf) (hw : X.N[iw]? = some w) (vw : Vis X.env.scope w) (hk : X.N[ik]? = some kx) (vk : Vis X.env.scope kx)
    (dw : (w == ("__debug__" : Str)) = false) (cw : (w == ("__classdict__" : Str)) = false) (dk : (kx == ("__debug__" : Str)) = false) (ck : (kx == ("__classdict__" : Str)) = false) (df : (xf == ("__debug__" : Str)) = false) (hpi : PlainIx (.Name kx p2))
    (he : starEach [.Subscript (.Name w p1) (.Name kx p2) p3] X.env = [(false, eval (.Subscript (.Name w p1) (.Name kx p2) p3) X.env)])
    (hL : H Lr = some (.lst fs)) (sw : σ[iw]? = some (some (.ref Lr))) (sk : σ[ik]? = some (some (.int n))) (hat : atI fs n = some (.ref f)) (la : LamAt X X.pn H l f)
    (ho : Hold X.K G pz X0 pinv Γ σ H F) (hm : m Γ = .er e Γ') (hc : e.c ∈ us) (q : VPost X.K G pz X0 pinv F H σ Q (undD us e.c) Γ' false) :
    wE X (.Call (.Name xf p) [.Subscript (.Name w p1) (.Name kx p2) p3] [] pos) σ H Q := fun pins s I => by
  obtain ⟨fd, FT, hbi⟩ := U.fn
  obtain ⟨oc, od, dV, kV, doc, pm', an, cdv, ct, osl, rfl, lk, hcg, _, _⟩ := FT.ex
  obtain ⟨pp, e1, e2, e3, eb, ey⟩ := U.body
  obtain ⟨c', pm, ctv, hp, hco⟩ := la
  rw [eb] at lk hbi
  refine wpAny_Call_Name_kw (ld_glob I hg U.hm (callWith_K (h₀ := X.base) I.ok.mod.kin FT.kp ?_ (by rw [he]; rfl) (by rfl)) df)
  rw [he]
  show wpAny _ _ (spliced ((false, eval (.Subscript (.Name w p1) (.Name kx p2) p3) X.env) :: backTo pos (starEach [] X.env))) _ _ s
  refine Calls.spliced_cons (thn ((pe_ix ix_list (pe_var (pos := p1) hw vw dw cw) (pe_var (pos := p2) hk vk dk ck) hpi).run pins s σ H (fun v H1 => v = .ref f ∧ H1 = H) I ⟨_, sw, _, sk, Lr, fs, n, .ref f, rfl, rfl, .inl (.inl hL), hat, rfl, rfl⟩) fun u s1 ⟨v, H1, I1, r1, ev, eH⟩ => Calls.spliced_nil ⟨I1.kIn, ?_⟩)
  subst ev
  rw [eH] at I1
  obtain rfl : u = Value.ref f := r1
  obtain ⟨hf1, hfn, hnl, hnf, _⟩ : s1.heap.get? f = some (lamOb X l pm c' ctv) ∧ H f = none ∧ f ≠ X.env.locals ∧ f ∉ X.fs ∧ ∀ v, (lamOb X l pm c' ctv).data ≠ .cell v := I1.pin (f, lamOb X l pm c' ctv) (List.mem_append_left _ hp)
  have hfr := frs_ne I1 hnl hnf
  have ez : (fun c => ((e1 ++ e2) ++ e3).map fun z => V.bl (ansU c z.1)) = fun c => (us ++ [("ValueError" : Str)]).map fun y => V.bl (ansU c y) := by
    funext c
    rw [← ey, List.map_map]
    rfl
  have run : codeAny (model X.prog X.w) X.A (.call (.ref g) ⟨[.ref f], []⟩) (CR C8.CX0 X.stack X.prog X.w H s1 Q C8.E0) s1 := by
    refine LamX.run_ofS (N := ["what", "e", "some"]) (ps := ["what"]) (us := [.ref f]) (vs := [.ref f]) lk hcg U.sc hr I1.env0 (hbi s1 [.ref f] I1.kIn rfl) (.cons rfl .nil) rfl fun hr' => ?_
    have hlen : ((e1 ++ e2) ++ e3).length ≤ 1000 := by
      have := congrArg List.length ey
      rw [List.length_map, List.length_append (as := us)] at this
      have := U.len
      simp only [List.length_cons, List.length_nil] at *
      omega
    have gv := und_gives (X := X) (xf := xf) (q := X.env.qual ++ "<lambda>") (p := pp) (e1 := e1) (e2 := e2) (e3 := e3) (g := g) (cdg := cdv) (l := us) (ad := G.cls) (ans := ansU) U.vw U.ve U.vs U.gi U.gx U.dx U.mi U.mx U.hC U.hG (fun c hc z hz => U.hY c hc z.1 (by rw [← ey]; exact List.mem_map.mpr ⟨z, hz, rfl⟩)) hlen
    rw [ez] at gv
    have act := fun (W : WX) (pn : List (Addr × Obj)) (xe : Value → Shared → Prop) (E : XK) (q1 q2 : Pos) tk hW => LamX.pe_act (CXg := C8.CX0) (Eg := C8.E0) (Ng := ["what", "e", "some"]) (qg := xf) (sg := defScope st) (g := g) (cdg := cdv) (p1 := q1) (p2 := q2) (W := W) (pn := pn) (xe := xe) (E := E) (a := "what") (i := 0) (tb := fun σ H Q => ∃ Γ X0 pinv F, Hold X.K G pz X0 pinv Γ σ H F ∧ RgPost X.K G pz X0 pinv F H σ (fun c d _ H' => E c d H') (VPost X.K G pz X0 pinv F H σ Q) (m Γ)) I1 LO.L hf1 hfn hfr (LO.hbind _ _ _ _ _) tk hW hr' (fun A outer s H5 hr2 => ⟨fun pi s' σ H Q I ⟨Γ, X0, pinv, F, ho, hq⟩ => by
      have tk' : Takes ((LamX.lamCx X A outer s H5 E l.scope f c').tr [] (LamX.lamCx X A outer s H5 E l.scope f c').xe) (fun c d _ H' => E c d H') := takes_of (X := LamX.lamCx X A outer s H5 E l.scope f c') rfl rfl rfl rfl
      exact LO.hb A outer s H5 E f c' hr2 [] _ _ σ H X0 pinv F Q Γ tk' ho hq pi s' I⟩) rfl U.vw (by decide) (by decide)
    obtain ⟨t', ht', hq'⟩ := gv f c' s1 H Q (fun E H' Q' => ∃ Γ X0 pinv F, Hold X.K G pz X0 pinv Γ σ H' F ∧ RgPost X.K G pz X0 pinv F H' σ (fun c d _ H' => E c d H') (VPost X.K G pz X0 pinv F H' σ Q') (m Γ)) act hco (by
      refine ⟨Γ, X0, pinv, F, ho, ?_⟩
      rw [hm]
      intro cl dd H' F' st' ho' ⟨hcl, xr⟩
      refine ⟨e.c, hc, hcl, ?_, fun p H'' ex nn hp => ?_⟩
      · cases er : e.row with
        | none => rw [er] at xr; exact .inl xr
        | some i => rw [er] at xr; obtain ⟨a, h1, h2⟩ := xr; exact .inr ⟨a, _, h1, h2⟩
      · have gr : Grow G H' H'' := .of ex
        refine fr_v ho' (q.after (q1 := false) st' fun z => nomatch z) (.ref p) H'' [p] gr (fun z hz u hu => ?_) (by simp) (.nd ⟨_, hp, rfl⟩ (Rps.owns (rps_bls _ _)))
        rw [List.mem_singleton.mp hz, nn] at hu
        cases hu)
    exact ⟨t', ht'.nox, hq'⟩
  refine wpAny_call (codeAny_mono run fun r s2 hq => ?_)
  match r, hq with
  | .ok (.ret u), hq => exact I1.after hq
  | .ok .next, hq => exact False.elim hq
  | .ok .brk, hq => exact False.elim hq
  | .ok .cont, hq => exact False.elim hq
  | .error e, hq => exact (show False from hq).elim
end
end GL
namespace GL
open PySem PySem.Spec PyProof.Rows L2 PySem.W
theorem Paired.get {α β : Type} {R : α → β → Prop} : ∀ {xs : List α} {ys : List β} {i : Nat}, Paired R xs ys → (∀ x, xs[i]? = some x → ∃ y, ys[i]? = some y ∧ R x y) ∧ (∀ y, ys[i]? = some y → ∃ x, xs[i]? = some x ∧ R x y)
  | _, _, _, .nil => ⟨fun x h => (by simp at h), fun y h => (by simp at h)⟩
  | _, _, 0, .cons h r => ⟨fun x e => (by cases e; exact ⟨_, rfl, h⟩), fun y e => (by cases e; exact ⟨_, rfl, h⟩)⟩
  | _, _, i + 1, .cons h r => Paired.get (i := i) r
theorem atI_pair {α β : Type} {R : α → β → Prop} {xs : List α} {ys : List β} {n : Int} (p : Paired R xs ys) : (∀ x, atI xs n = some x → ∃ y, atI ys n = some y ∧ R x y) ∧ (∀ y, atI ys n = some y → ∃ x, atI xs n = some x ∧ R x y) := by
  unfold atI
  rw [Paired.length p]
  cases h : ixN ys.length n with
  | none => exact ⟨fun x e => (by cases e), fun y e => (by cases e)⟩
  | some j => exact Paired.get (i := j) p
theorem Paired.mono2 {α β : Type} {R R' : α → β → Prop} (h : ∀ x y, R x y → R' x y) : ∀ {xs : List α} {ys : List β}, Paired R xs ys → Paired R' xs ys
  | _, _, .nil => .nil
  | _, _, .cons a r => .cons (h _ _ a) (Paired.mono2 h r)
theorem vals_refs : ∀ fs : List Addr, Vals (fs.map V.ref) (fs.map Value.ref)
  | [] => .nil
  | _ :: fs => .cons rfl (vals_refs fs)
theorem atI_map {α β : Type} (g : α → β) {xs : List α} {n : Int} {x : α} (h : atI xs n = some x) : atI (xs.map g) n = some (g x) := by
  unfold atI at h ⊢
  rw [List.length_map]
  obtain ⟨j, h1, h2⟩ := Option.bind_eq_some_iff.mp h
  exact Option.bind_eq_some_iff.mpr ⟨j, h1, by rw [List.getElem?_map, h2]; rfl⟩
mutual
theorem Own.noco {K : Frag} {G : Wd} {X : List Addr} {H : Hp} : ∀ {v d F}, Own K G X H v d F → ∀ a ∈ F, ∃ o, H a = some o ∧ ∀ c q, o ≠ LamX.CodeO c q
  | _, _, _, .fz _, _, h => nomatch h
  | _, _, _, .nd h r, a, z => by
    rcases List.mem_cons.mp z with e | z
    · obtain ⟨o, e1, q⟩ := h
      rw [e]
      exact ⟨o, e1, q.co⟩
    · exact Owns.noco r a z
  | _, _, _, .pr h r, a, z => Owns.noco r a z
theorem Owns.noco {K : Frag} {G : Wd} {X : List Addr} {H : Hp} : ∀ {vs l F}, Owns K G X H vs l F → ∀ a ∈ F, ∃ o, H a = some o ∧ ∀ c q, o ≠ LamX.CodeO c q
  | _, _, _, .nil, _, h => nomatch h
  | _, _, _, .cons h r, a, z => (List.mem_append.mp z).elim (Own.noco h a) (Owns.noco r a)
end
theorem Slots.noco {K : Frag} {G : Wd} {X : List Addr} {H : Hp} {σ : L2.St} {Γ : List (Option D)} {F : List Addr} (h : Slots K G X H σ Γ F) : ∀ a ∈ F, ∃ o, H a = some o ∧ ∀ c q, o ≠ LamX.CodeO c q := by
  induction h with
  | nil => intro a ha; cases ha
  | no _ ih => exact ih
  | yes o _ ih => intro a ha; exact (List.mem_append.mp ha).elim (Own.noco o a) (ih a)
theorem Hold.noco {K : Frag} {G : Wd} {pz : List Nat} {X0 F : List Addr} {pins : Nat → V} {Γ : Sl} {σ : L2.St} {H : Hp} (h : Hold K G pz X0 pins Γ σ H F) : ∀ a ∈ F, ∃ o, H a = some o ∧ ∀ c q, o ≠ LamX.CodeO c q := fun a ha =>
  let ⟨_, s, p⟩ := h.sl
  Slots.noco s a (p.mem_iff.mpr ha)
theorem pinned {X : Cx} {pins : List (Addr × Obj)} {σ : L2.St} {H : Hp} {s : Shared} {f : Addr} {o : Obj} (I : Inv X pins σ H s) (hf : s.heap.get? f = some o) (hn : H f = none) (hl : f ≠ X.env.locals) (hfs : f ∉ X.fs) (hd : ∀ v, o.data ≠ .cell v) : Inv X ((f, o) :: pins) σ H s :=
  I.pins_of fun p hp => by
    rcases List.mem_cons.mp hp with e | h
    · rw [e]; exact ⟨hf, hn, hl, hfs, hd⟩
    · exact I.pin p (List.mem_append_right _ h)
section
variable {X : Cx} {σ : L2.St} {T : List (Addr × Str)} {c P : Addr} {E : Value → Shared → Prop} {pos : Pos}
theorem lams_run (TB : LamX.TabB X.base X.mg c P) (hcode : X.env.code = .ref c) (hmT : (P, X.env.qual ++ "<lambda>") ∈ T) (hu : ∀ r ∈ T, r.1 = P → r.2 = X.env.qual ++ "<lambda>") (hs : X.stack = X.env :: X.outer) (hfm : X.env.frame = some X.env.locals) :
    ∀ (ls : List LamI), (∀ l ∈ ls, LamX.LamS X.env.scope l.scope ∧ defaultsOf l.params X.env = ([], [])) → ∀ (pins : List (Addr × Obj)) (s : Shared) (H : Hp) (Q : List Value → Shared → Prop), Inv X pins σ H s → GL.Tabs T H →
      (∀ (fs : List Addr) H1 s1 ps, Inv X (ps ++ pins) σ H1 s1 → LamX.ExtN H H1 → GL.Tabs T H1 → Paired (LamAt X ps H1) ls fs → Q (fs.map Value.ref) s1) → wpAny (model X.prog X.w) X.A (spliced (backTo pos (starEach (ls.map LamI.e) X.env))) Q E s
  | [], _, pins, s, H, Q, I, hT, h => Calls.spliced_nil (h [] H s [] I (LamX.ExtN.refl H) hT .nil)
  | l :: ls, hl, pins, s, H, Q, I, hT, h => by
    obtain ⟨L, hdef⟩ := hl l List.mem_cons_self
    show wpAny _ _ (spliced ((false, eval l.e X.env) :: backTo pos (starEach (ls.map LamI.e) X.env))) _ _ s
    refine Calls.spliced_cons (lam_make3 I TB hcode hmT ⟨hu, .inl rfl⟩ hT hdef (L.has I.ok) fun f c' q1 pm ctv H1 s1 I1 eN T1 hf1 hfn hfr hco hq => ?_)
    have hq : q1 = X.env.qual ++ "<lambda>" := hq.elim Eq.symm fun z => absurd z (lam_ne _)
    subst hq
    have hn : f ≠ X.env.locals ∧ f ∉ X.fs := by
      rw [hs] at hfr
      refine ⟨fun z => hfr (List.mem_filterMap.mpr ⟨X.env, List.mem_cons_self, by rw [hfm, z]⟩), fun z => hfr ?_⟩
      obtain ⟨e, he, q⟩ := List.mem_filterMap.mp z
      exact List.mem_filterMap.mpr ⟨e, List.mem_cons_of_mem _ he, q⟩
    have I2 := pinned I1 hf1 hfn hn.1 hn.2 (fun v z => by cases z)
    refine lams_run TB hcode hmT hu hs hfm ls (fun l hl' => hl l (List.mem_cons_of_mem _ hl')) _ s1 H1 _ I2 T1 fun fs H2 s2 ps I3 eN2 T2 pr => ?_
    refine h (f :: fs) H2 s2 (ps ++ [(f, lamOb X l pm c' ctv)]) (by rw [List.append_assoc]; exact I3) (eN.trans eN2) T2 (.cons ⟨c', pm, ctv, List.mem_append_right _ (List.mem_singleton.mpr rfl), eN2 _ _ hco LamX.codeO_ne⟩ (Paired.mono2 (fun x y ⟨c2, p2, t2, h1, h2⟩ => ⟨c2, p2, t2, List.mem_append_left _ h1, h2⟩) pr))
end
end GL
namespace GL
open PySem PySem.Spec PyProof.Rows L2 PySem.W
def noNx : So → So
  | .nx _ => .st
  | o => o
theorem noNx_post {K : Frag} {G : Wd} {pz : List Nat} {X0 F : List Addr} {pins : Nat → V} {H : Hp} {D : Ends} {W : WX} {o : So} {R : L2.St → Hp → Prop} (q : SoPost K G pz X0 pins F H D W (noNx o)) : SoPost K G pz X0 pins F H { D with nx := R } W o := by
  cases o with
  | nx => exact q.elim
  | _ => exact q
/-! ### w = [lambda: .., ..]; a statement; if x(w[k]) != e: .. -/
def undGo (us : List Str) (ms : List (Sl → Re)) (ik : Nat) (mr : Sl → Re) (sr m : Sl → So) : Sl → So := fun Γ => match Γ[ik]? with
  | some (some (.int n)) => (match atI ms n with
    | some mi => (match mi Γ with
      | .er e Γ1 => if e.c ∈ us then (mr Γ1).so fun d Γ2 => match neG (undD us e.c).cold d with
        | some (.bl true) => noNx (sr Γ2)
        | some (.bl false) => m Γ2
        | _ => .st
        else .st
      | _ => .st)
    | none => .st)
  | _ => .st
def sUnd (iw : Nat) (m2 go : Sl → So) : Sl → So := fun Γ => match m2 (Γ.set iw (some .any)) with
  | .nx Γ1 => go Γ1
  | _ => .st
section
variable {X : Cx} {G : Wd} {pz : List Nat} {xf x w kx : Str} {st : Stmt} {g : Addr} {us : List Str} {k : Nat} {ls : List LamI} {ms : List (Sl → Re)} {iw ik : Nat} {c P : Addr} {S2 : Stmt} {A rest : List Stmt} {rhs : Expr} {m2 sr m : Sl → So} {mr : Sl → Re} {pw pl pa p p1 p2 p3 p4 p5 p8 : Pos}
theorem gb_und (U : UndOk X.K X.mg G xf x st g us) (hr : Room (k + 2) X.A) (LO : Paired (LamOk X G pz k) ls ms) (hln : ls.length ≤ 1000) (TB : LamX.TabB X.base X.mg c P) (hcode : X.env.code = .ref c) (hmT : (P, X.env.qual ++ "<lambda>") ∈ G.T) (hu : ∀ r ∈ G.T, r.1 = P → r.2 = X.env.qual ++ "<lambda>")
    (hs : X.stack = X.env :: X.outer) (hfm : X.env.frame = some X.env.locals) (hN : X.N.Nodup) (hw : X.N[iw]? = some w) (lw : X.env.scope.names.lookup w = some .local) (hk : X.N[ik]? = some kx) (lk : Vis X.env.scope kx) (hz : iw ∉ pz)
    (h2 : GS G (iw :: pz) X S2 m2) (h3 : GO G pz X rhs mr) (hret : GB G pz X A sr) (hrest : GB G pz X rest m)
    (hg : Gl X xf) (dw : (w == ("__debug__" : Str)) = false) (cw : (w == ("__classdict__" : Str)) = false) (dk : (kx == ("__debug__" : Str)) = false) (ck : (kx == ("__classdict__" : Str)) = false) (df : (xf == ("__debug__" : Str)) = false) (hpi : PlainIx (.Name kx p2) := by intro _ _; rfl)
    (hm : behindInMarks .NotEq rhs = false := by first | exact nomark _ | rfl) (hsw : ∀ pn xe, swapsWith (.List (ls.map LamI.e) pl) (some (.Name w pw)) pa.line (X.tr pn xe).env = pure false := by intro _ _; rfl)
    (he : starEach [.Subscript (.Name w p1) (.Name kx p2) p3] X.env = [(false, eval (.Subscript (.Name w p1) (.Name kx p2) p3) X.env)] := by rfl) :
    GB G pz X (.Assign [.Name w pw] (.List (ls.map LamI.e) pl) pa :: S2 :: .If (.Compare (.Call (.Name xf p) [.Subscript (.Name w p1) (.Name kx p2) p3] [] p4) [.NotEq] [rhs] p5) A [] p8 :: rest) (sUnd iw m2 (undGo us ms ik mr sr m)) := fun pn xe W σ H X0 pins F D Γ tk hp ho q => fun ps0 s I => by
  have hls : ∀ l ∈ ls, LamX.LamS X.env.scope l.scope ∧ defaultsOf l.params X.env = ([], []) := fun l hl => by
    obtain ⟨i, hi, e⟩ := List.mem_iff_getElem.mp hl
    obtain ⟨mm, _, h⟩ := (Paired.get (i := i) LO).1 l (by rw [List.getElem?_eq_getElem hi, e])
    exact ⟨h.L, h.hdef⟩
  have ok := I.ok
  refine wpAny_execs_cons (wpAny_Assign_Name (wpAny_List_spliced (lams_run (X := X.tr pn xe) TB hcode hmT hu hs hfm ls hls ps0 s H _ I ho.tb fun fs H1 s1 ps I1 eN T1 pr => ⟨by rw [List.length_map, ← Paired.length pr, sizeLine_eq]; omega, ?_⟩)) (hsw pn xe))
  generalize hL : s1.heap.objs.size = Lr
  have nL : H1 Lr = none := I1.hok.fresh (by rw [hL]; exact Nat.le_refl _)
  have I2 : Inv (X.tr pn xe) (ps ++ ps0) σ (upd H1 Lr (.lst (fs.map V.ref))) { s1 with heap := s1.heap.push { cls := .type "list", data := .seq (fs.map Value.ref).toArray } } := by
    rw [← hL]
    exact I1.laid (t' := s1.toks) (fun b u e => Heap.get?_push_of_some _ e) (Nat.le_refl _) ⟨by rw [List.length_map, ← Paired.length pr, sizeLine_eq]; omega, _, 0, vals_refs fs, Heap.get?_push_size _ rfl⟩
  refine store_ok I2 hN hw (.inl lw) (show RelV (V.ref Lr) (Value.ref Lr) from rfl) (fun s2 I3 => ?_) (.inr lw)
  -- the context with the functions pinned
  have I4 : Inv (X.tr ((X.tr pn xe).pn ++ (ps ++ ps0)) xe) [] (σ.set iw (some (.ref Lr))) (upd H1 Lr (.lst (fs.map V.ref))) s2 := I3.toTry xe
  have tk4 : Takes (X.tr ((X.tr pn xe).pn ++ (ps ++ ps0)) xe) W := fun u s' ⟨a, B, sI, pn2, σ2, H2, cls, d, e, I5, nb, up, sky, na, os, ag, w⟩ => tk u s' ⟨a, B, sI, ps ++ ps0, σ2, H2, cls, d, e, I5.ofTry (X := X.tr pn xe) ok, nb, up, sky, na, os, ag, w⟩
  have back : ∀ {σ' : L2.St} {H' : Hp} {s' : Shared} {pn2 : List (Addr × Obj)}, Inv (X.tr ((X.tr pn xe).pn ++ (ps ++ ps0)) xe) pn2 σ' H' s' → Inv (X.tr pn xe) ps0 σ' H' s' := fun {σ' H' s' pn2} J => by
    have J2 : Inv (X.tr pn xe) (ps ++ ps0) σ' H' s' := J.ofTry (X := X.tr pn xe) ok
    exact J2.pins_of fun p hp => J2.pin p (List.mem_append_right _ (List.mem_append_right _ hp))
  have eN2 : LamX.ExtN H (upd H1 Lr (.lst (fs.map V.ref))) := fun b o e n => by rw [upd_ne (ne_of_none (eN b o e n) nL), eN b o e n]
  have gr : Grow G H (upd H1 Lr (.lst (fs.map V.ref))) := ⟨eN2, fun _ => T1.ext fun b o e => by rw [upd_ne (ne_of_none e nL), e]⟩
  have hlt : iw < Γ.length := ho.lt I.len hw
  obtain ⟨F2, ho2, sub2⟩ := (ho.grow gr).nil.put (v := .ref Lr) (d := .any) (Own.fz .any).nil hlt hz
  have hsl : iw < σ.length := by rw [I.len]; exact (List.getElem?_eq_some_iff.mp hw).1
  have ho3 : Hold X.K G (iw :: pz) X0 (fun i => if i = iw then .ref Lr else pins i) (Γ.set iw (some .any)) (σ.set iw (some (.ref Lr))) (upd H1 Lr (.lst (fs.map V.ref))) F2 := ⟨ho2.sl, ho2.nd, ho2.in0, ho2.tb, fun i hi => by
    rcases List.mem_cons.mp hi with e | h
    · subst e
      rw [set_at hsl, if_pos rfl]
    · rw [ho2.pn i h, if_neg (fun e : i = iw => hz (e ▸ h))]⟩
  have st2 : Step G F H F2 (upd H1 Lr (.lst (fs.map V.ref))) := (gr.step F).shrink sub2
  have hLF : Lr ∉ F2 := fun z => by
    obtain ⟨o, e, n⟩ := ho.live Lr (by simpa using sub2 Lr z)
    have := eN Lr o e n.1
    rw [nL] at this
    cases this
  refine wpAny_mono (wB.of (X := X.tr ((X.tr pn xe).pn ++ (ps ++ ps0)) xe) (pss_cons ps_w (pss_cons ps_w pss_w)) (D := D) (σ := σ.set iw (some (.ref Lr))) (H := upd H1 Lr (.lst (fs.map V.ref))) ?main [] s2 I4) (fun f s3 hsp => ?_) fun _ _ z => z
  case main =>
    unfold sUnd at q
    cases e2 : m2 (Γ.set iw (some .any)) with
    | rt => rw [e2] at q; exact q.elim
    | bk => rw [e2] at q; exact q.elim
    | ct => rw [e2] at q; exact q.elim
    | er => rw [e2] at q; exact q.elim
    | st => rw [e2] at q; exact q.elim
    | nx Γ2 =>
      rw [e2] at q
      have q : SoPost X.K G pz X0 pins F H D W (undGo us ms ik mr sr m Γ2) := q
      refine h2 _ xe W _ _ X0 _ F2 _ _ tk4 hp ho3 ?_
      rw [e2]
      intro σ2 H3 F3 s0 ho4
      have sL : σ2[iw]? = some (some (.ref Lr)) := by
        have z := ho4.pn iw List.mem_cons_self
        rw [if_pos rfl] at z
        exact z
      have hL3 : H3 Lr = some (.lst (fs.map V.ref)) := s0.mv.kp Lr _ upd_same hLF nt_lst
      have pr3 : Paired (LamAt (X.tr ((X.tr pn xe).pn ++ (ps ++ ps0)) xe) ((X.tr pn xe).pn ++ (ps ++ ps0)) H3) ls fs := Paired.mono2 (fun l f ⟨c2, pm, ctv, a1, a2⟩ => ⟨c2, pm, ctv, List.mem_append_right _ (List.mem_append_left _ a1), s0.mv.kp c2 _ (by rw [upd_ne (ne_of_none a2 nL), a2]) (fun z => by
        obtain ⟨o, h, n⟩ := ho2.noco c2 z
        rw [upd_ne (ne_of_none a2 nL), a2] at h
        exact n _ _ (Option.some.inj h).symm) LamX.codeO_ne⟩) pr
      have ho5 : Hold X.K G pz X0 pins Γ2 σ2 H3 F3 := ⟨ho4.sl, ho4.nd, ho4.in0, ho4.tb, fun i hi => by
        have z := ho4.pn i (List.mem_cons_of_mem _ hi)
        rw [if_neg (fun e : i = iw => hz (e ▸ hi))] at z
        exact z⟩
      have q3 := q.after (st2.trans s0)
      unfold undGo at q3
      split at q3
      case h_2 => exact q3.elim
      rename_i n en
      split at q3
      case h_2 => exact q3.elim
      rename_i mi emi
      split at q3
      case h_2 => exact q3.elim
      rename_i e Γ3 eer
      split at q3
      case isFalse => exact q3.elim
      rename_i hus
      obtain ⟨l, el, lo⟩ := (atI_pair LO).2 mi emi
      obtain ⟨f, ef, la⟩ := (atI_pair pr3).1 l el
      obtain ⟨vn, Fn, sn, on⟩ := ho5.var en
      have on := on.rp rfl
      obtain ⟨on, _⟩ := on
      cases on
      refine wS.of (ps_if pt_w pss_w pss_w) (wT.of (pt_cmpR (op_neX (X := X.tr ((X.tr pn xe).pn ++ (ps ++ ps0)) xe) hr.units) pe_w pe_w hm) (wE_und (X := X.tr ((X.tr pn xe).pn ++ (ps ++ ps0)) xe) U hr ⟨lo.L, lo.hdef, lo.hbind, lo.hb⟩ hg hw (.inl lw) hk lk dw cw dk ck df hpi he hL3 sL sn (atI_map V.ref ef) la ho5 eer hus fun v H4 F4 Fv s4 ho6 own qt => ?_))
      have rv := ho6.thaw own
      have ho7 := ho6.drop
      have q4 := q3.after (s4.shrink fun a ha => List.mem_append_right _ ha)
      refine h3 _ xe W σ2 H4 X0 pins F4 _ Γ3 tk4 ho7 (So.bind (P := .st) q4 fun d Γ4 q1 _ p y H5 F5 s5 ho8 o5 qt5 => ?_)
      have p := p.after s5
      cases ec : neG (undD us e.c).cold d with
      | none => rw [ec] at p; exact p.elim
      | some z =>
        rw [ec] at p
        refine sr_ne _ _ z ec (X0 ++ F5) H5 v y _ (rv.move s5.mv.left).bw o5 fun u H6 Fv6 g fr nd ou => ?_
        cases z with
        | bl b =>
          have eu : u = .bl b := by cases (ou.rp rfl).1; rfl
          refine ⟨b, eu, ?_⟩
          cases b with
          | true => exact hret _ xe W σ2 H6 X0 pins F5 _ Γ4 tk4 hp (ho8.grow g) (noNx_post (p.after (g.step F5)))
          | false => exact wB.of pss_nil (hrest _ xe W σ2 H6 X0 pins F5 D Γ4 tk4 hp (ho8.grow g) (p.after (g.step F5)))
        | any => exact p.elim
        | non => exact p.elim
        | int => exact p.elim
        | str => exact p.elim
        | fn => exact p.elim
        | pr => exact p.elim
        | nd => exact p.elim
  · cases f with
    | next => obtain ⟨σ', H', J, r⟩ := hsp; exact ⟨σ', H', back J, r⟩
    | brk => obtain ⟨σ', H', J, r⟩ := hsp; exact ⟨σ', H', back J, r⟩
    | cont => obtain ⟨σ', H', J, r⟩ := hsp; exact ⟨σ', H', back J, r⟩
    | ret u => obtain ⟨v, σ', H', J, rv, r⟩ := hsp; exact ⟨v, σ', H', back J, rv, r⟩
end
end GL
namespace GL
open PySem PySem.Spec PyProof.Rows L2 PySem.W
/-! ### the Hook of a law with such a class (d its __init__), the statics' table with it -/
def asZ (g : Addr → Option Obj) (n : Nat) : List Addr := He.asD g n ++ [cStatics]
abbrev AlZ : Type := He.AlX × FnZ
def obsZ (n : Nat) (fa : List He.Fa) (fn : List He.DefD) (ts : List He.Tab) (tf : List He.Defn) (ex : PySem.W.Frag → Bool) (d : He.DefD) (g : Addr → Option Obj) : AlZ :=
  ((He.obsT fa fn ts (He.frT g (asZ g n)), ex (He.frT g (asZ g n)) && He.tabsB g tf (He.frT g (asZ g n))), fnZ (He.frT g (asZ g n)) d.at_)
def valZZ (fn : List He.DefD) (ts : List He.Tab) (d : He.DefD) (w : World) : AlZ := (He.valX fn ts w, valZ d)
structure SaysZ (fa : List He.Fa) (fn : List He.DefD) (ts : List He.Tab) (tf : List He.Defn) (ex : PySem.W.Frag → Bool) (d : He.DefD) (w : World) (h : Heap) (K : PySem.W.Frag) : Prop where
  x : He.SaysX fa fn ts tf ex w h K
  z : fnZ K d.at_ = valZ d
theorem saysX_as {fa : List He.Fa} {fn : List He.DefD} {ts : List He.Tab} {tf : List He.Defn} {ex : PySem.W.Frag → Bool} {w : World} {h : Heap} {as : List Addr}
    (e : ((He.obsT fa fn ts (He.frT h.get? as), ex (He.frT h.get? as) && He.tabsB h.get? tf (He.frT h.get? as)) : He.AlX) = He.valX fn ts w) : He.SaysX fa fn ts tf ex w h (He.frT h.get? as) := by
  have e1 : He.obsT fa fn ts (He.frT h.get? as) = He.valT fn ts w := congrArg (fun z : He.AlX => z.1) e
  have e2 : (ex (He.frT h.get? as) && He.tabsB h.get? tf (He.frT h.get? as)) = true := congrArg (fun z : He.AlX => z.2) e
  obtain ⟨h1, h2⟩ := He.ba e2
  have key : ∀ p ∈ tf, PySem.W.codeHdIn (He.frT h.get? as) (He.cT (He.frT h.get? as) p).1 (He.cT (He.frT h.get? as) p).2 = true ∧ ∃ o, h.get? (He.cT (He.frT h.get? as) p).2 = some o ∧ He.emptyTab o = true := fun p hp => by
    obtain ⟨h3, h4⟩ := He.ba (List.all_eq_true.mp h2 p hp)
    refine ⟨h3, ?_⟩
    cases q : h.get? (He.cT (He.frT h.get? as) p).2 with
    | none => rw [q] at h4; cases h4
    | some o => rw [q] at h4; exact ⟨o, rfl, h4⟩
  exact ⟨e1, h1, fun p hp => (key p hp).1, fun p hp => (by obtain ⟨_, o, q, z⟩ := key p hp; exact He.frT_none q z), fun p hp => (by obtain ⟨_, o, q, z⟩ := key p hp; rw [q, He.emptyTab_eq z])⟩
def hookZ (n : Nat) (fa : List He.Fa) (fn : List He.DefD) (ts : List He.Tab) (tf : List He.Defn) (ex : PySem.W.Frag → Bool) (d : He.DefD) : PySem.W.Hook where
  α := AlZ
  obs := fun s => obsZ n fa fn ts tf ex d s.heap.get?
  val := fun w => valZZ fn ts d w
  says := fun w h => ∃ K : PySem.W.Frag, K.In h ∧ SaysZ fa fn ts tf ex d w h K
  of := fun _ _ e => ⟨_, He.frT_in, saysX_as (congrArg (fun z : AlZ => z.1) e), congrArg (fun z : AlZ => z.2) e⟩
  keeps := fun _ _ _ ⟨K, hK, c⟩ k => ⟨K, PySem.W.Frag.In.keeps hK k, ⟨c.x.t, c.x.more, c.x.hd, c.x.out, fun p hp => k _ _ (c.x.empty p hp)⟩, c.z⟩
theorem obsZ_eq {n : Nat} {fa : List He.Fa} {fn : List He.DefD} {ts : List He.Tab} {tf : List He.Defn} {ex : PySem.W.Frag → Bool} {d : He.DefD} {g : Addr → Option Obj} {s : Shared} (h : ∀ a, g a = s.heap.get? a) : obsZ n fa fn ts tf ex d g = (hookZ n fa fn ts tf ex d).obs s := by
  have e : g = s.heap.get? := funext h
  rw [e] <;> rfl
/-! ### what is known behind such a top -/
/-- the classes us under the class x -/
def undB (us : List Str) (x : Str) (K : Frag) : Bool := us.all fun c => excCB K (He.ga K c) && (decide (exmOne K (.ref (He.ga K c)) (.ref (He.ga K x)) = some true) && (decide (kitOne K (.ref (He.ga K c)) (.type "ValueError") = some (ansU c "ValueError")) && us.all fun y => decide (kitOne K (.ref (He.ga K c)) (.ref (He.ga K y)) = some (ansU c y))))
def moreZ (cs : Cst) (tf : Tq) (file : Str) (d : He.DefD) (us : List Str) (x : Str) (K : Frag) : Bool := moreB cs tf K && (badB file d K && undB us x K)
structure EnvZ (fa : List He.Fa) (fn : List He.DefD) (tf : Tq) (cs : Cst) (file : Str) (d : He.DefD) (us : List Str) (x : Str) (w : World) (K : Frag) (mg : Str → Option Value) (base : Heap) : Prop extends Env fa fn tf cs w K mg base where
  z : fnZ K d.at_ = valZ d
  bad : badB file d K = true
  und : undB us x K = true
theorem SaysZ.env {fa : List He.Fa} {fn : List He.DefD} {tf : Tq} {cs : Cst} {file : Str} {d : He.DefD} {us : List Str} {x : Str} {w : World} {K : Frag} {mg : Str → Option Value} {base h : Heap} (C : SaysZ fa fn [] (tf.map (·.1)) (moreZ cs tf file d us x) d w h K) (KX : K.In h) (NS : h.Ns mainGlobals mg)
    (tb : ∀ p ∈ tf, LamX.TabB base mg (He.cT K p.1).1 (He.cT K p.1).2) : EnvZ fa fn tf cs file d us x w K mg base :=
  have m := He.ba C.x.more
  have m2 := He.ba m.2
  { h := ⟨h, ⟨C.x.t, m.1, C.x.hd, C.x.out, C.x.empty⟩, KX, NS⟩, tb := tb, z := C.z, bad := m2.1, und := m2.2 }
theorem SaysZ.old {fa : List He.Fa} {fn : List He.DefD} {tf : Tq} {cs : Cst} {file : Str} {d : He.DefD} {us : List Str} {x : Str} {w : World} {K : Frag} {h : Heap} (C : SaysZ fa fn [] (tf.map (·.1)) (moreZ cs tf file d us x) d w h K) : He.SaysX fa fn [] (tf.map (·.1)) (moreB cs tf) w h K :=
  ⟨C.x.t, (He.ba C.x.more).1, C.x.hd, C.x.out, C.x.empty⟩
section
variable {K : Frag} {us : List Str} {x : Str}
theorem und_at (h : undB us x K = true) {c : Str} (hc : c ∈ us) : ExcC K (He.ga K c) ∧ exmOne K (.ref (He.ga K c)) (.ref (He.ga K x)) = some true ∧ kitOne K (.ref (He.ga K c)) (.type "ValueError") = some (ansU c "ValueError") ∧ ∀ y ∈ us, kitOne K (.ref (He.ga K c)) (.ref (He.ga K y)) = some (ansU c y) := by
  have h1 := List.all_eq_true.mp h c hc
  obtain ⟨h1, h2⟩ := He.ba h1
  obtain ⟨h2, h3⟩ := He.ba h2
  obtain ⟨h3, h4⟩ := He.ba h3
  exact ⟨excCB_ok h1, of_decide_eq_true h2, of_decide_eq_true h3, fun y hy => of_decide_eq_true (List.all_eq_true.mp h4 y hy)⟩
theorem und_yf {mg : Str → Option Value} {sg : Scope} (h : undB us x K = true) (hg : ∀ y ∈ us, sg.names.lookup y = some .globalImplicit ∧ (y == ("__debug__" : Str)) = false) (hm : ∀ y ∈ us, mg y = some (.ref (He.ga K y)))
    (gv : sg.names.lookup ("ValueError" : Str) = some .globalImplicit) (mv : mg "ValueError" = none) : ∀ c ∈ us, ∀ y ∈ us ++ [("ValueError" : Str)], YF K mg sg (He.ga K c) y (ansU c y) := fun c hc y hy => by
  obtain ⟨_, _, h3, h4⟩ := und_at h hc
  rcases List.mem_append.mp hy with hy | hy
  · exact ⟨(hg y hy).1, (hg y hy).2, .inl ⟨_, hm y hy, h4 y hy⟩⟩
  · rw [List.mem_singleton.mp hy]
    exact ⟨gv, by decide, .inr ⟨"ValueError", mv, PyProof.Rows.Boot.«ValueError», by decide, h3⟩⟩
end
end GL
namespace GL
open PySem PySem.Spec PyProof.Rows L2 PySem.W
/-! ### parts of a text -/
def isPs : List Expr → List IsP := List.filterMap fun
  | .Call (.Name _ p) [.Name _ q1, .Name y q2] [] q3 => some (y, p, q1, q2, q3)
  | _ => none
def eltsOf : Expr → List Expr
  | .List es _ => es
  | .BinOp _ _ (.List es _) _ => es
  | _ => []
def undE (body : List Stmt) (i : Nat) : List IsP := match body with
  | .Try _ [.ExceptHandler _ _ suite _] _ _ _ :: _ => (match suite[i]? with
    | some (.Assign _ e _) => isPs (eltsOf e)
    | some (.Return (some e) _) => isPs (eltsOf e)
    | _ => [])
  | _ => []
def forBody : Stmt → List Stmt
  | .For _ _ b _ _ => b
  | _ => []
def lamsIn : Stmt → List LamI
  | .Assign _ (.List es _) _ => es.filterMap fun
    | .Lambda a b c d => some ⟨a, b, c, d⟩
    | _ => none
  | _ => []
def nth (l : List Stmt) (i : Nat) : Stmt := l.getD i (.Pass ⟨0, 0, 0, 0⟩)
end GL
namespace GL
open PySem PySem.Spec PyProof.Rows L2 PySem.W
/-! ### x(), x a class of the program -/
section
variable {G : Wd} {pz : List Nat} {X : Cx} {p pos : Pos} {fm : List D → RF} {k : Nat} {f : Addr} {fd : FuncData} {ps : List Str} {x cn : Str}
theorem ge_make0 (M : Mk X.K (G.cls cn) f) (Fk : FnOk X.prog X.w X.K X.mg X.base (L2.CX X.prog X.w) k f fd ps (Pr X.K G fm)) (hr : Room (k + 1) X.A) (hx : X.mg x = some (.ref (G.cls cn))) (hb : Binds X.K fd ps [])
    (hg : Gl X x := by rfl) (hdb : (x == ("__debug__" : Str)) = false := by decide) : GE G pz X (.Call (.Name x p) [] [] pos) (mMk cn fm agNil) := fun pn xe W σ H X0 pins F Q Γ tk ho q => fun pins' s I => by
  refine wpAny_Call_Name_kw (ld_glob (X := X.tr pn xe) I hg hx ?_ hdb)
  have q : RgPost X.K G pz X0 pins F H σ W (VPost X.K G pz X0 pins F H σ Q) ((runMk cn fm [] Γ).andq true) := q
  rw [Rg.andq_true] at q
  refine PySem.W.callWith_K0 I.kIn M.kp (run_makeS (X := X.tr pn xe) (E := fun σ c d H => W c d σ H) (sp := Pr X.K G fm) (CX := L2.CX X.prog X.w) (us := []) (vs := []) M Fk hr hb (L2.passAt tk σ) I .nil fun nx ndx n1 n2 n3 => ?_)
  unfold runMk at q
  rw [if_pos (show ([] : List Ag).all Ag.isV = true from rfl)] at q
  simp only [lendA] at q
  have g2 : Grow G H (upd (upd H ndx (.own nx)) nx (.ins (G.cls cn) ndx [])) := .of fun z u hu => by
    rw [upd_ne (ne_of_none hu n1), upd_ne (ne_of_none hu n2)]
    exact hu
  have ho2 := ho.grow g2
  have nxX : nx ∉ X0 ++ F := fun z => by
    obtain ⟨u, hu, _⟩ := ho.liveX nx z
    rw [n1] at hu
    cases hu
  have nod2 : ((X0 ++ F) ++ [nx]).Nodup := by
    rw [List.nodup_append]
    refine ⟨ho.nd, by simp, fun z hz w hw e => ?_⟩
    rw [List.mem_singleton.mp hw] at e
    exact nxX (e ▸ hz)
  have mvn : Mv (X0 ++ F) H ((X0 ++ F) ++ [nx]) (upd (upd H ndx (.own nx)) nx (.ins (G.cls cn) ndx [])) := ⟨fun z u hu _ n => g2.kp z u hu n, fun z u hz hu n => (List.mem_append.mp hz).elim id fun w => by
    rw [List.mem_singleton.mp w, n1] at hu
    cases hu⟩
  have kp2 : ∀ {Fx H'}, Step G [nx] (upd (upd H ndx (.own nx)) nx (.ins (G.cls cn) ndx [])) Fx H' → Grow G H H' := fun {Fx H'} st => ⟨fun z u hu n => st.mv.kp z u (g2.kp z u hu n) (fun y => by
    rw [List.mem_singleton.mp y, n1] at hu
    cases hu) n, fun t => st.tb (g2.tb t)⟩
  refine ⟨.nd true (.ins cn []) [] :: [], X0 ++ F, [nx], ?_, nod2, ho2.liveX, ho2.tb, ?_⟩
  · exact Owns.cons (F := [nx]) (F' := []) (.nd ⟨_, upd_same, ndx, [], rfl, rfl, rfl⟩ .nil) .nil
  · cases ef : fm (.nd true (.ins cn []) [] :: []) with
    | st => rw [ef] at q; exact q.elim
    | er x bs =>
      rw [ef] at q
      intro c dd H' F' st os nod xr tb
      exact q c dd H' F ((kp2 st).step F) (ho.grow (kp2 st)) xr
    | rt d bs =>
      rw [ef] at q
      cases d with
      | non =>
        cases bs with
        | nil => exact q.elim
        | cons b bs =>
          intro v H' F' Fv st os nod ov tb
          obtain ⟨rv, ev⟩ := ov.rp rfl
          subst ev
          cases rv
          refine ⟨rfl, ?_⟩
          cases os with
          | @cons _ _ _ _ Fa Fb o1 o2 =>
            refine fr_v ho q (.ref nx) H' Fa (kp2 st) (fun z hz u hu n => ?_) ?_ ?_
            · have := st.mv.fr z u (List.mem_append_right _ (List.mem_append_left _ hz)) (g2.kp z u hu n) n
              rw [List.mem_singleton.mp this, n1] at hu
              cases hu
            · have := nod
              rw [List.nodup_append] at this
              have := this.2.1
              rw [List.nodup_append] at this
              exact this.1
            · exact o1.sub fun z hz => by
                simp only [List.mem_append] at hz ⊢
                rcases hz with (h | h) | h <;> simp [h]
      | any => exact q.elim
      | bl => exact q.elim
      | int => exact q.elim
      | str => exact q.elim
      | fn => exact q.elim
      | pr => exact q.elim
      | nd => exact q.elim
theorem ge_make0D (D : DOk X.prog X.w X.K X.mg X.base G k f ps fm) (M : Mk X.K (G.cls cn) f) (hr : Room (k + 1) X.A) (hx : X.mg x = some (.ref (G.cls cn))) (hg : Gl X x := by rfl) (hdb : (x == ("__debug__" : Str)) = false := by decide) :
    GE G pz X (.Call (.Name x p) [] [] pos) (mMk cn fm agNil) := by
  obtain ⟨fd, h1, h2, h3⟩ := D
  exact ge_make0 M h1 hr hx h2 hg hdb
end
end GL
namespace GL
open PySem PySem.Spec PyProof.Rows L2 PySem.W
/-! ### text * number -/
theorem mulOk_small {x : Str} {n : Int} (h : x.length ≤ 1000) (h0 : 0 ≤ n) (h1 : n ≤ 1000) : PySem.MulOk x n := by
  refine ⟨by simp; omega, fun hn _ => ?_, fun hn _ => ?_⟩
  · have a : (x.length : Int) * n ≤ 1000 * 1000 := Int.mul_le_mul (by omega) h1 h0 (by omega)
    have b : (x.length : Int) ≤ (2 ^ 63 - 1) / n := Int.le_ediv_of_mul_le (by omega) (by omega)
    omega
  · have a : x.length * n.toNat ≤ 1000 * 1000 := Nat.mul_le_mul h (by omega)
    generalize x.length * n.toNat = k at a
    unfold Builtin.Str.tooLong
    simp [sizeLine_eq]
    omega
def mulS : D → D → Option D
  | .str x, .int k => if (decide (x.length ≤ 1000) && (decide (0 ≤ k) && decide (k ≤ 1000))) = true then some (.str (Txt.mul x k)) else none
  | _, _ => none
theorem op_mulS {X : Cx} : OpR X (binaryOp .Mult) (fun x y H Q => ∃ a k, x = .str a ∧ y = .int k ∧ a.length ≤ 1000 ∧ 0 ≤ k ∧ k ≤ 1000 ∧ Q (.str (Txt.mul a k)) H) := by
  intro pins s σ H x y v u Q I rx ry ⟨a, k, ex, ey, h1, h2, h3, q⟩
  subst ex ey
  obtain ⟨t, rfl⟩ := rx
  obtain ⟨t', rfl⟩ := ry
  exact SB.mul (mulOk_small h1 h2 h3) fun t2 k2 => ⟨.str (Txt.mul a k), H, I.tok _, ⟨_, rfl⟩, q⟩
theorem ge_mulS {X : Cx} {G : Wd} {pz : List Nat} {a b : Expr} {ma mb : Sl → Re} {pos : Pos} (ha : GO G pz X a ma) (hb : GO G pz X b mb) : GE G pz X (.BinOp a .Mult b pos) (m2 mulS ma mb) := ge_op2 (fun pn xe => op_mulS (X := X.tr pn xe)) (fun da db d e Y H x y Q o1 o2 q => by
  unfold mulS at e
  split at e
  · split at e
    · rename_i h
      cases e
      simp only [Bool.and_eq_true, decide_eq_true_eq] at h
      exact ⟨_, _, o1.str, o2.int, h.1, h.2.1, h.2.2, q.val .str⟩
    · cases e
  · cases e) ha hb
end GL
namespace GP
open PySem PySem.Spec PyProof.Rows L2
def top (i : Nat) : Stmt := PySem.Challenge.pw_glasshall_k21_refusals_apart.main.body.getD i (.Pass ⟨0, 0, 0, 0⟩)
abbrev s0 : Stmt := (top 0)
def d0 : He.DefD := ⟨("_wall", none), "_wall", "_wall", defArgs s0, defBody s0, defScope s0, [], []⟩
abbrev s1 : Stmt := (inClass (top 9) 0)
def d1 : He.DefD := ⟨("BadText", some "__init__"), "__init__", "BadText.__init__", defArgs s1, defBody s1, defScope s1, [], []⟩
abbrev s2 : Stmt := (inClass (top 12) 0)
def d2 : He.DefD := ⟨("Scope", some "__init__"), "__init__", "Scope.__init__", defArgs s2, defBody s2, defScope s2, [], []⟩
abbrev s3 : Stmt := (inClass (top 12) 1)
def d3 : He.DefD := ⟨("Scope", some "power"), "power", "Scope.power", defArgs s3, defBody s3, defScope s3, [], []⟩
abbrev s4 : Stmt := (inClass (top 12) 2)
def d4 : He.DefD := ⟨("Scope", some "tube"), "tube", "Scope.tube", defArgs s4, defBody s4, defScope s4, [], []⟩
abbrev s5 : Stmt := (inClass (top 12) 3)
def d5 : He.DefD := ⟨("Scope", some "upright"), "upright", "Scope.upright", defArgs s5, defBody s5, defScope s5, [], []⟩
abbrev s6 : Stmt := (inClass (top 12) 4)
def d6 : He.DefD := ⟨("Scope", some "pupil"), "pupil", "Scope.pupil", defArgs s6, defBody s6, defScope s6, [], []⟩
abbrev s7 : Stmt := (inClass (top 12) 5)
def d7 : He.DefD := ⟨("Scope", some "bright"), "bright", "Scope.bright", defArgs s7, defBody s7, defScope s7, [], []⟩
abbrev s8 : Stmt := (inClass (top 12) 6)
def d8 : He.DefD := ⟨("Scope", some "field"), "field", "Scope.field", defArgs s8, defBody s8, defScope s8, [], []⟩
abbrev s9 : Stmt := (inClass (top 12) 7)
def d9 : He.DefD := ⟨("Scope", some "drawn_for"), "drawn_for", "Scope.drawn_for", defArgs s9, defBody s9, defScope s9, [], []⟩
abbrev s10 : Stmt := (inClass (top 12) 8)
def d10 : He.DefD := ⟨("Scope", some "splits"), "splits", "Scope.splits", defArgs s10, defBody s10, defScope s10, [], []⟩
abbrev s11 : Stmt := (inClass (top 12) 9)
def d11 : He.DefD := ⟨("Scope", some "key"), "key", "Scope.key", defArgs s11, defBody s11, defScope s11, [], []⟩
abbrev s12 : Stmt := (inClass (top 14) 0)
def d12 : He.DefD := ⟨("Bottle", some "__init__"), "__init__", "Bottle.__init__", defArgs s12, defBody s12, defScope s12, [], []⟩
abbrev s13 : Stmt := (inClass (top 14) 1)
def d13 : He.DefD := ⟨("Bottle", some "all_room"), "all_room", "Bottle.all_room", defArgs s13, defBody s13, defScope s13, [], []⟩
abbrev s14 : Stmt := (inClass (top 14) 2)
def d14 : He.DefD := ⟨("Bottle", some "level"), "level", "Bottle.level", defArgs s14, defBody s14, defScope s14, [], []⟩
abbrev s15 : Stmt := (inClass (top 14) 3)
def d15 : He.DefD := ⟨("Bottle", some "turned"), "turned", "Bottle.turned", defArgs s15, defBody s15, defScope s15, [], []⟩
abbrev s16 : Stmt := (inClass (top 14) 4)
def d16 : He.DefD := ⟨("Bottle", some "air"), "air", "Bottle.air", defArgs s16, defBody s16, defScope s16, [], []⟩
abbrev s17 : Stmt := (inClass (top 14) 5)
def d17 : He.DefD := ⟨("Bottle", some "heated"), "heated", "Bottle.heated", defArgs s17, defBody s17, defScope s17, [], []⟩
abbrev s18 : Stmt := (inClass (top 14) 6)
def d18 : He.DefD := ⟨("Bottle", some "mark_heights"), "mark_heights", "Bottle.mark_heights", defArgs s18, defBody s18, defScope s18, [], []⟩
abbrev s19 : Stmt := (inClass (top 14) 7)
def d19 : He.DefD := ⟨("Bottle", some "key"), "key", "Bottle.key", defArgs s19, defBody s19, defScope s19, [], []⟩
abbrev s20 : Stmt := (inClass (top 17) 0)
def d20 : He.DefD := ⟨("Line", some "__init__"), "__init__", "Line.__init__", defArgs s20, defBody s20, defScope s20, [], []⟩
abbrev s21 : Stmt := (inClass (top 17) 1)
def d21 : He.DefD := ⟨("Line", some "said"), "said", "Line.said", defArgs s21, defBody s21, defScope s21, [], []⟩
abbrev s22 : Stmt := (inClass (top 17) 2)
def d22 : He.DefD := ⟨("Line", some "key"), "key", "Line.key", defArgs s22, defBody s22, defScope s22, [], []⟩
abbrev s23 : Stmt := (top 18)
def d23 : He.DefD := ⟨("read_line", none), "read_line", "read_line", defArgs s23, defBody s23, defScope s23, [], []⟩
abbrev s24 : Stmt := (inClass (top 19) 0)
def d24 : He.DefD := ⟨("Book", some "__init__"), "__init__", "Book.__init__", defArgs s24, defBody s24, defScope s24, [], []⟩
abbrev s25 : Stmt := (inClass (top 19) 1)
def d25 : He.DefD := ⟨("Book", some "state"), "state", "Book.state", defArgs s25, defBody s25, defScope s25, [], []⟩
abbrev s26 : Stmt := (inClass (top 19) 2)
def d26 : He.DefD := ⟨("Book", some "add"), "add", "Book.add", defArgs s26, defBody s26, defScope s26, [], []⟩
abbrev s27 : Stmt := (inClass (top 19) 3)
def d27 : He.DefD := ⟨("Book", some "said"), "said", "Book.said", defArgs s27, defBody s27, defScope s27, [], []⟩
abbrev s28 : Stmt := (inClass (top 19) 4)
def d28 : He.DefD := ⟨("Book", some "with_line"), "with_line", "Book.with_line", defArgs s28, defBody s28, defScope s28, [], []⟩
abbrev s29 : Stmt := (inClass (top 19) 5)
def d29 : He.DefD := ⟨("Book", some "without_last"), "without_last", "Book.without_last", defArgs s29, defBody s29, defScope s29, [], []⟩
abbrev s30 : Stmt := (inClass (top 19) 6)
def d30 : He.DefD := ⟨("Book", some "told_kinds"), "told_kinds", "Book.told_kinds", defArgs s30, defBody s30, defScope s30, [], []⟩
abbrev s31 : Stmt := (inClass (top 19) 7)
def d31 : He.DefD := ⟨("Book", some "sum_of"), "sum_of", "Book.sum_of", defArgs s31, defBody s31, defScope s31, [], []⟩
abbrev s32 : Stmt := (inClass (top 19) 8)
def d32 : He.DefD := ⟨("Book", some "best_seller"), "best_seller", "Book.best_seller", defArgs s32, defBody s32, defScope s32, [], []⟩
abbrev s33 : Stmt := (inClass (top 19) 9)
def d33 : He.DefD := ⟨("Book", some "worst_day"), "worst_day", "Book.worst_day", defArgs s33, defBody s33, defScope s33, [], []⟩
abbrev s34 : Stmt := (inClass (top 21) 0)
def d34 : He.DefD := ⟨("Desk", some "__init__"), "__init__", "Desk.__init__", defArgs s34, defBody s34, defScope s34, [], []⟩
abbrev s35 : Stmt := (inClass (top 21) 1)
def d35 : He.DefD := ⟨("Desk", some "note"), "note", "Desk.note", defArgs s35, defBody s35, defScope s35, [], []⟩
abbrev s36 : Stmt := (inClass (top 21) 2)
def d36 : He.DefD := ⟨("Desk", some "tell"), "tell", "Desk.tell", defArgs s36, defBody s36, defScope s36, [], []⟩
abbrev s37 : Stmt := (inClass (top 21) 3)
def d37 : He.DefD := ⟨("Desk", some "strike"), "strike", "Desk.strike", defArgs s37, defBody s37, defScope s37, [], []⟩
abbrev s38 : Stmt := (inClass (top 21) 4)
def d38 : He.DefD := ⟨("Desk", some "judged"), "judged", "Desk.judged", defArgs s38, defBody s38, defScope s38, [], []⟩
abbrev s39 : Stmt := (inClass (top 21) 5)
def d39 : He.DefD := ⟨("Desk", some "undo"), "undo", "Desk.undo", defArgs s39, defBody s39, defScope s39, [], []⟩
abbrev s40 : Stmt := (inClass (top 21) 6)
def d40 : He.DefD := ⟨("Desk", some "redo"), "redo", "Desk.redo", defArgs s40, defBody s40, defScope s40, [], []⟩
abbrev s41 : Stmt := (top 24)
def d41 : He.DefD := ⟨("step_of", none), "step_of", "step_of", defArgs s41, defBody s41, defScope s41, [], []⟩
abbrev s42 : Stmt := (top 26)
def d42 : He.DefD := ⟨("check_pane", none), "check_pane", "check_pane", defArgs s42, defBody s42, defScope s42, [], []⟩
abbrev s43 : Stmt := (top 27)
def d43 : He.DefD := ⟨("putty_for", none), "putty_for", "putty_for", defArgs s43, defBody s43, defScope s43, [], []⟩
abbrev s44 : Stmt := (inClass (top 29) 0)
def d44 : He.DefD := ⟨("Glass", some "__init__"), "__init__", "Glass.__init__", defArgs s44, defBody s44, defScope s44, [], []⟩
abbrev s45 : Stmt := (inClass (top 29) 1)
def d45 : He.DefD := ⟨("Glass", some "run"), "run", "Glass.run", defArgs s45, defBody s45, defScope s45, [], []⟩
abbrev s46 : Stmt := (inClass (top 29) 2)
def d46 : He.DefD := ⟨("Glass", some "turned"), "turned", "Glass.turned", defArgs s46, defBody s46, defScope s46, [], []⟩
abbrev s47 : Stmt := (inClass (top 29) 3)
def d47 : He.DefD := ⟨("Glass", some "rests"), "rests", "Glass.rests", defArgs s47, defBody s47, defScope s47, [], []⟩
abbrev s48 : Stmt := (inClass (top 29) 4)
def d48 : He.DefD := ⟨("Glass", some "key"), "key", "Glass.key", defArgs s48, defBody s48, defScope s48, [], []⟩
abbrev s49 : Stmt := (inClass (top 30) 0)
def d49 : He.DefD := ⟨("Pair", some "__init__"), "__init__", "Pair.__init__", defArgs s49, defBody s49, defScope s49, [], []⟩
abbrev s50 : Stmt := (inClass (top 30) 1)
def d50 : He.DefD := ⟨("Pair", some "wait"), "wait", "Pair.wait", defArgs s50, defBody s50, defScope s50, [], []⟩
abbrev s51 : Stmt := (inClass (top 30) 2)
def d51 : He.DefD := ⟨("Pair", some "turn"), "turn", "Pair.turn", defArgs s51, defBody s51, defScope s51, [], []⟩
abbrev s52 : Stmt := (inClass (top 30) 3)
def d52 : He.DefD := ⟨("Pair", some "shown"), "shown", "Pair.shown", defArgs s52, defBody s52, defScope s52, [], []⟩
abbrev s53 : Stmt := (top 32)
def d53 : He.DefD := ⟨("_law_dice", none), "_law_dice", "_law_dice", defArgs s53, defBody s53, defScope s53, [], []⟩
abbrev s54 : Stmt := (top 33)
def d54 : He.DefD := ⟨("_law_roll", none), "_law_roll", "_law_roll", defArgs s54, defBody s54, defScope s54, [], []⟩
abbrev s55 : Stmt := (top 34)
def d55 : He.DefD := ⟨("_law_rounds", none), "_law_rounds", "_law_rounds", defArgs s55, defBody s55, defScope s55, [], []⟩
abbrev s56 : Stmt := (top 35)
def d56 : He.DefD := ⟨("_law_under", none), "_law_under", "_law_under", defArgs s56, defBody s56, defScope s56, [], []⟩
abbrev s57 : Stmt := (top 36)
def d57 : He.DefD := ⟨("law", none), "law", "law", defArgs s57, defBody s57, defScope s57, [], []⟩
def fn : List He.DefD := [d0, d2, d3, d4, d5, d6, d7, d8, d9, d10, d11, d12, d13, d14, d15, d16, d17, d18, d19, d20, d21, d22, d23, d24, d25, d26, d27, d28, d29, d30, d31, d32, d33, d34, d35, d36, d37, d38, d39, d40, d41, d42, d43, d44, d45, d46, d47, d48, d49, d50, d51, d52, d53, d54, d55, d56, d57]
def fa : List He.Fa := [.glo "DEEDS", .glo "WAYS", .glo "_wall", .glo "read_line", .glo "step_of", .glo "check_pane", .glo "putty_for", .glo "_law_dice", .glo "_law_roll", .glo "_law_rounds", .glo "_law_under", .glo "law", .glo "GlassFault", .exc "GlassFault", .keep "GlassFault", .glo "BadSize", .exc "BadSize", .keep "BadSize", .glo "BadPlan", .exc "BadPlan", .keep "BadPlan", .glo "NoSuch", .exc "NoSuch", .keep "NoSuch", .glo "NoRoom", .exc "NoRoom", .keep "NoRoom", .glo "NoWay", .exc "NoWay", .keep "NoWay", .glo "Breaks", .exc "Breaks", .keep "Breaks", .glo "BadText", .keep "BadText", .glo "BadDeed", .exc "BadDeed", .keep "BadDeed", .glo "Scope", .cls "Scope", .mkr "Scope", .glo "Bottle", .cls "Bottle", .mkr "Bottle", .glo "Line", .cls "Line", .mkr "Line", .glo "Book", .cls "Book", .mkr "Book", .glo "Desk", .cls "Desk", .mkr "Desk", .glo "Glass", .cls "Glass", .mkr "Glass", .glo "Pair", .cls "Pair", .mkr "Pair", .meth "Scope" "power", .meth "Scope" "tube", .meth "Scope" "upright", .meth "Scope" "pupil", .meth "Scope" "bright", .meth "Scope" "field", .meth "Scope" "drawn_for", .meth "Scope" "splits", .meth "Scope" "key", .meth "Bottle" "all_room", .meth "Bottle" "level", .meth "Bottle" "turned", .meth "Bottle" "air", .meth "Bottle" "heated", .meth "Bottle" "mark_heights", .meth "Bottle" "key", .meth "Line" "said", .meth "Line" "key", .meth "Book" "state", .meth "Book" "add", .meth "Book" "said", .meth "Book" "with_line", .meth "Book" "without_last", .meth "Book" "told_kinds", .meth "Book" "sum_of", .meth "Book" "best_seller", .meth "Book" "worst_day", .meth "Desk" "note", .meth "Desk" "tell", .meth "Desk" "strike", .meth "Desk" "judged", .meth "Desk" "undo", .meth "Desk" "redo", .meth "Glass" "run", .meth "Glass" "turned", .meth "Glass" "rests", .meth "Glass" "key", .meth "Pair" "wait", .meth "Pair" "turn", .meth "Pair" "shown", .free "len", .free "min", .free "max", .free "abs", .free "int", .free "list", .free "tuple", .free "dict", .free "sorted", .free "sum", .free "range", .free "zip", .free "enumerate", .free "any", .free "all", .free "str", .free "reversed", .free "isinstance", .free "super", .free "ValueError", .exm "BadSize" "BadSize" true, .exm "BadSize" "BadPlan" false, .exm "BadSize" "NoSuch" false, .exm "BadSize" "NoRoom" false, .exm "BadSize" "NoWay" false, .exm "BadSize" "Breaks" false, .exm "BadSize" "BadText" false, .exm "BadSize" "BadDeed" false, .exm "BadPlan" "BadSize" false, .exm "BadPlan" "BadPlan" true, .exm "BadPlan" "NoSuch" false, .exm "BadPlan" "NoRoom" false, .exm "BadPlan" "NoWay" false, .exm "BadPlan" "Breaks" false, .exm "BadPlan" "BadText" false, .exm "BadPlan" "BadDeed" false, .exm "NoSuch" "BadSize" false, .exm "NoSuch" "BadPlan" false, .exm "NoSuch" "NoSuch" true, .exm "NoSuch" "NoRoom" false, .exm "NoSuch" "NoWay" false, .exm "NoSuch" "Breaks" false, .exm "NoSuch" "BadText" false, .exm "NoSuch" "BadDeed" false, .exm "NoRoom" "BadSize" false, .exm "NoRoom" "BadPlan" false, .exm "NoRoom" "NoSuch" false, .exm "NoRoom" "NoRoom" true, .exm "NoRoom" "NoWay" false, .exm "NoRoom" "Breaks" false, .exm "NoRoom" "BadText" false, .exm "NoRoom" "BadDeed" false, .exm "NoWay" "BadSize" false, .exm "NoWay" "BadPlan" false, .exm "NoWay" "NoSuch" false, .exm "NoWay" "NoRoom" false, .exm "NoWay" "NoWay" true, .exm "NoWay" "Breaks" false, .exm "NoWay" "BadText" false, .exm "NoWay" "BadDeed" false, .exm "Breaks" "BadSize" false, .exm "Breaks" "BadPlan" false, .exm "Breaks" "NoSuch" false, .exm "Breaks" "NoRoom" false, .exm "Breaks" "NoWay" false, .exm "Breaks" "Breaks" true, .exm "Breaks" "BadText" false, .exm "Breaks" "BadDeed" false, .exm "BadText" "BadSize" false, .exm "BadText" "BadPlan" false, .exm "BadText" "NoSuch" false, .exm "BadText" "NoRoom" false, .exm "BadText" "NoWay" false, .exm "BadText" "Breaks" false, .exm "BadText" "BadText" true, .exm "BadText" "BadDeed" false, .exm "BadDeed" "BadSize" false, .exm "BadDeed" "BadPlan" false, .exm "BadDeed" "NoSuch" false, .exm "BadDeed" "NoRoom" false, .exm "BadDeed" "NoWay" false, .exm "BadDeed" "Breaks" false, .exm "BadDeed" "BadText" false, .exm "BadDeed" "BadDeed" true, .noat "Scope" "front", .noat "Scope" "wide", .noat "Scope" "eye", .noat "Bottle" "rooms", .noat "Line" "day", .noat "Line" "kind", .noat "Line" "deed", .noat "Line" "many", .noat "Book" "lines", .noat "Desk" "text", .noat "Desk" "deeds", .noat "Desk" "undone", .noat "Glass" "whole", .noat "Glass" "above", .noat "Pair" "glasses", .noat "Pair" "time"]
def tf : GL.Tq := [(("read_line", none), GL.genQ ("read_line", none)), (("putty_for", none), GL.genQ ("putty_for", none)), (("law", none), GL.lamQ ("law", none))]
def cs : GL.Cst := [("DEEDS", .nd false .ktp [.str "blown", .str "cooled", .str "broken", .str "sold"]), ("WAYS", .nd false .ktp [(.nd false .ktp [.str "n", .int (-1), .int 0]), (.nd false .ktp [.str "e", .int 0, .int 1]), (.nd false .ktp [.str "s", .int 1, .int 0]), (.nd false .ktp [.str "w", .int 0, .int (-1)])])]
abbrev R : PySem.W.OpenRow := PySem.W.OpenLaw.row PySem.Challenge.rw_glasshall_k21_refusals_apart
abbrev dB : He.DefD := d1
def zf : Str := PySem.Challenge.pw_glasshall_k21_refusals_apart.main.file
def us : List Str := ["BadDeed", "BadPlan", "BadSize", "BadText", "Breaks", "NoRoom", "NoSuch", "NoWay"]
abbrev hk : PySem.W.Hook := GL.hookZ 5 fa fn [] (tf.map (·.1)) (GL.moreZ cs tf zf dB us "GlassFault") dB
def ob (s : PySem.W.SharedT) : GL.AlZ := GL.obsZ 5 fa fn [] (tf.map (·.1)) (GL.moreZ cs tf zf dB us "GlassFault") dB (HandSHeadRun.getT s)
theorem ob_eq (s : PySem.W.SharedT) : ob s = hk.obs s.abs := GL.obsZ_eq (HandSHeadRun.getT_eq s)
def loose0 : List Str := ["_wall", "GlassFault", "BadSize", "BadPlan", "NoSuch", "NoRoom", "NoWay", "Breaks", "BadText", "BadDeed", "Scope", "Bottle", "DEEDS", "Line", "read_line", "Book", "Desk", "WAYS", "step_of", "check_pane", "putty_for", "Glass", "Pair", "_law_dice", "_law_roll", "_law_rounds", "_law_under"]
abbrev loose : List Str := loose0
section
variable {w : World} {K : PySem.W.Frag} {mg : Str → Option Value} {base : Heap}
abbrev En (w : World) (K : PySem.W.Frag) (mg : Str → Option Value) (base : Heap) : Prop := GL.EnvZ fa fn tf cs zf dB us "GlassFault" w K mg base
abbrev GK (K : PySem.W.Frag) : GL.Wd := GL.gOf tf K
abbrev PW : Program := PySem.Challenge.pw_glasshall_k21_refusals_apart
abbrev Ok (w : World) (K : PySem.W.Frag) (mg : Str → Option Value) (base : Heap) (k : Nat) (f : Addr) (ps : List Str) (fm : List GL.D → GL.RF) : Prop := GL.DOk PW w K mg base (GK K) k f ps fm
theorem fld_front (E : En w K mg base) : ∀ c ∈ (["Scope"] : List Str), Cls K ((GK K).cls c) ∧ NoAttr K ((GK K).cls c) "front" := (List.forall_mem_cons.mpr ⟨⟨He.cls_ok (E.fact 39 rfl), He.noat_ok (E.fact 183 rfl)⟩, (fun _ h => nomatch h)⟩)
theorem fld_wide (E : En w K mg base) : ∀ c ∈ (["Scope"] : List Str), Cls K ((GK K).cls c) ∧ NoAttr K ((GK K).cls c) "wide" := (List.forall_mem_cons.mpr ⟨⟨He.cls_ok (E.fact 39 rfl), He.noat_ok (E.fact 184 rfl)⟩, (fun _ h => nomatch h)⟩)
theorem fld_eye (E : En w K mg base) : ∀ c ∈ (["Scope"] : List Str), Cls K ((GK K).cls c) ∧ NoAttr K ((GK K).cls c) "eye" := (List.forall_mem_cons.mpr ⟨⟨He.cls_ok (E.fact 39 rfl), He.noat_ok (E.fact 185 rfl)⟩, (fun _ h => nomatch h)⟩)
theorem fld_rooms (E : En w K mg base) : ∀ c ∈ (["Bottle"] : List Str), Cls K ((GK K).cls c) ∧ NoAttr K ((GK K).cls c) "rooms" := (List.forall_mem_cons.mpr ⟨⟨He.cls_ok (E.fact 42 rfl), He.noat_ok (E.fact 186 rfl)⟩, (fun _ h => nomatch h)⟩)
theorem fld_day (E : En w K mg base) : ∀ c ∈ (["Line"] : List Str), Cls K ((GK K).cls c) ∧ NoAttr K ((GK K).cls c) "day" := (List.forall_mem_cons.mpr ⟨⟨He.cls_ok (E.fact 45 rfl), He.noat_ok (E.fact 187 rfl)⟩, (fun _ h => nomatch h)⟩)
theorem fld_kind (E : En w K mg base) : ∀ c ∈ (["Line"] : List Str), Cls K ((GK K).cls c) ∧ NoAttr K ((GK K).cls c) "kind" := (List.forall_mem_cons.mpr ⟨⟨He.cls_ok (E.fact 45 rfl), He.noat_ok (E.fact 188 rfl)⟩, (fun _ h => nomatch h)⟩)
theorem fld_deed (E : En w K mg base) : ∀ c ∈ (["Line"] : List Str), Cls K ((GK K).cls c) ∧ NoAttr K ((GK K).cls c) "deed" := (List.forall_mem_cons.mpr ⟨⟨He.cls_ok (E.fact 45 rfl), He.noat_ok (E.fact 189 rfl)⟩, (fun _ h => nomatch h)⟩)
theorem fld_many (E : En w K mg base) : ∀ c ∈ (["Line"] : List Str), Cls K ((GK K).cls c) ∧ NoAttr K ((GK K).cls c) "many" := (List.forall_mem_cons.mpr ⟨⟨He.cls_ok (E.fact 45 rfl), He.noat_ok (E.fact 190 rfl)⟩, (fun _ h => nomatch h)⟩)
theorem fld_text (E : En w K mg base) : ∀ c ∈ (["Desk"] : List Str), Cls K ((GK K).cls c) ∧ NoAttr K ((GK K).cls c) "text" := (List.forall_mem_cons.mpr ⟨⟨He.cls_ok (E.fact 51 rfl), He.noat_ok (E.fact 192 rfl)⟩, (fun _ h => nomatch h)⟩)
theorem fld_deeds (E : En w K mg base) : ∀ c ∈ (["Desk"] : List Str), Cls K ((GK K).cls c) ∧ NoAttr K ((GK K).cls c) "deeds" := (List.forall_mem_cons.mpr ⟨⟨He.cls_ok (E.fact 51 rfl), He.noat_ok (E.fact 193 rfl)⟩, (fun _ h => nomatch h)⟩)
theorem fld_undone (E : En w K mg base) : ∀ c ∈ (["Desk"] : List Str), Cls K ((GK K).cls c) ∧ NoAttr K ((GK K).cls c) "undone" := (List.forall_mem_cons.mpr ⟨⟨He.cls_ok (E.fact 51 rfl), He.noat_ok (E.fact 194 rfl)⟩, (fun _ h => nomatch h)⟩)
theorem fld_whole (E : En w K mg base) : ∀ c ∈ (["Glass"] : List Str), Cls K ((GK K).cls c) ∧ NoAttr K ((GK K).cls c) "whole" := (List.forall_mem_cons.mpr ⟨⟨He.cls_ok (E.fact 54 rfl), He.noat_ok (E.fact 195 rfl)⟩, (fun _ h => nomatch h)⟩)
theorem fld_above (E : En w K mg base) : ∀ c ∈ (["Glass"] : List Str), Cls K ((GK K).cls c) ∧ NoAttr K ((GK K).cls c) "above" := (List.forall_mem_cons.mpr ⟨⟨He.cls_ok (E.fact 54 rfl), He.noat_ok (E.fact 196 rfl)⟩, (fun _ h => nomatch h)⟩)
theorem fld_glasses (E : En w K mg base) : ∀ c ∈ (["Pair"] : List Str), Cls K ((GK K).cls c) ∧ NoAttr K ((GK K).cls c) "glasses" := (List.forall_mem_cons.mpr ⟨⟨He.cls_ok (E.fact 57 rfl), He.noat_ok (E.fact 197 rfl)⟩, (fun _ h => nomatch h)⟩)
theorem fld_time (E : En w K mg base) : ∀ c ∈ (["Pair"] : List Str), Cls K ((GK K).cls c) ∧ NoAttr K ((GK K).cls c) "time" := (List.forall_mem_cons.mpr ⟨⟨He.cls_ok (E.fact 57 rfl), He.noat_ok (E.fact 198 rfl)⟩, (fun _ h => nomatch h)⟩)
theorem g_read_line (E : En w K mg base) : mg "read_line" = some (.ref (He.ga K "read_line")) := E.glo 3 rfl
theorem g_step_of (E : En w K mg base) : mg "step_of" = some (.ref (He.ga K "step_of")) := E.glo 4 rfl
theorem g_check_pane (E : En w K mg base) : mg "check_pane" = some (.ref (He.ga K "check_pane")) := E.glo 5 rfl
theorem g_putty_for (E : En w K mg base) : mg "putty_for" = some (.ref (He.ga K "putty_for")) := E.glo 6 rfl
theorem g_law_dice (E : En w K mg base) : mg "_law_dice" = some (.ref (He.ga K "_law_dice")) := E.glo 7 rfl
theorem g_law_roll (E : En w K mg base) : mg "_law_roll" = some (.ref (He.ga K "_law_roll")) := E.glo 8 rfl
theorem g_law_rounds (E : En w K mg base) : mg "_law_rounds" = some (.ref (He.ga K "_law_rounds")) := E.glo 9 rfl
theorem g_law_under (E : En w K mg base) : mg "_law_under" = some (.ref (He.ga K "_law_under")) := E.glo 10 rfl
theorem g_GlassFault (E : En w K mg base) : mg "GlassFault" = some (.ref (He.ga K "GlassFault")) := E.glo 12 rfl
theorem g_BadSize (E : En w K mg base) : mg "BadSize" = some (.ref (He.ga K "BadSize")) := E.glo 15 rfl
theorem g_BadPlan (E : En w K mg base) : mg "BadPlan" = some (.ref (He.ga K "BadPlan")) := E.glo 18 rfl
theorem g_NoSuch (E : En w K mg base) : mg "NoSuch" = some (.ref (He.ga K "NoSuch")) := E.glo 21 rfl
theorem g_NoRoom (E : En w K mg base) : mg "NoRoom" = some (.ref (He.ga K "NoRoom")) := E.glo 24 rfl
theorem g_NoWay (E : En w K mg base) : mg "NoWay" = some (.ref (He.ga K "NoWay")) := E.glo 27 rfl
theorem g_Breaks (E : En w K mg base) : mg "Breaks" = some (.ref (He.ga K "Breaks")) := E.glo 30 rfl
theorem g_BadText (E : En w K mg base) : mg "BadText" = some (.ref (He.ga K "BadText")) := E.glo 33 rfl
theorem g_BadDeed (E : En w K mg base) : mg "BadDeed" = some (.ref (He.ga K "BadDeed")) := E.glo 35 rfl
theorem g_Scope (E : En w K mg base) : mg "Scope" = some (.ref (He.ga K "Scope")) := E.glo 38 rfl
theorem g_Bottle (E : En w K mg base) : mg "Bottle" = some (.ref (He.ga K "Bottle")) := E.glo 41 rfl
theorem g_Line (E : En w K mg base) : mg "Line" = some (.ref (He.ga K "Line")) := E.glo 44 rfl
theorem g_Desk (E : En w K mg base) : mg "Desk" = some (.ref (He.ga K "Desk")) := E.glo 50 rfl
theorem g_Glass (E : En w K mg base) : mg "Glass" = some (.ref (He.ga K "Glass")) := E.glo 53 rfl
theorem g_Pair (E : En w K mg base) : mg "Pair" = some (.ref (He.ga K "Pair")) := E.glo 56 rfl
theorem g_DEEDS (E : En w K mg base) : mg "DEEDS" = some (.ref (He.ga K "DEEDS")) := E.glo 0 rfl
theorem c_DEEDS (E : En w K mg base) : GL.ktV K (.ref (He.ga K "DEEDS")) (.nd false .ktp [.str "blown", .str "cooled", .str "broken", .str "sold"]) = true := E.cst (.head _)
theorem g_WAYS (E : En w K mg base) : mg "WAYS" = some (.ref (He.ga K "WAYS")) := E.glo 1 rfl
theorem c_WAYS (E : En w K mg base) : GL.ktV K (.ref (He.ga K "WAYS")) (.nd false .ktp [(.nd false .ktp [.str "n", .int (-1), .int 0]), (.nd false .ktp [.str "e", .int 0, .int 1]), (.nd false .ktp [.str "s", .int 1, .int 0]), (.nd false .ktp [.str "w", .int 0, .int (-1)])]) = true := E.cst (.tail _ (.head _))
theorem b_len (E : En w K mg base) : mg "len" = none := E.free 99 rfl
theorem b_min (E : En w K mg base) : mg "min" = none := E.free 100 rfl
theorem b_max (E : En w K mg base) : mg "max" = none := E.free 101 rfl
theorem b_abs (E : En w K mg base) : mg "abs" = none := E.free 102 rfl
theorem b_int (E : En w K mg base) : mg "int" = none := E.free 103 rfl
theorem b_tuple (E : En w K mg base) : mg "tuple" = none := E.free 105 rfl
theorem b_sum (E : En w K mg base) : mg "sum" = none := E.free 108 rfl
theorem b_range (E : En w K mg base) : mg "range" = none := E.free 109 rfl
theorem b_any (E : En w K mg base) : mg "any" = none := E.free 112 rfl
theorem b_str (E : En w K mg base) : mg "str" = none := E.free 114 rfl
theorem b_isinstance (E : En w K mg base) : mg "isinstance" = none := E.free 116 rfl
theorem b_super (E : En w K mg base) : mg "super" = none := E.free 117 rfl
theorem b_ValueError (E : En w K mg base) : mg "ValueError" = none := E.free 118 rfl
theorem bad_c (E : En w K mg base) : GL.BadC K mg PW (He.ga K "BadText") (He.fAd K ("BadText", some "__init__")) dB := GL.badC_of E.z E.bad rfl (b_super E) (by decide +kernel) ⟨_, rfl, rfl⟩
theorem bad_o (E : En w K mg base) : L2.OexC K (He.ga K "BadText") := by
  obtain ⟨_, _, _, _, _, _, _, T, _⟩ := (bad_c E).ex
  exact T.oex
theorem bad_ok (E : En w K mg base) : ∃ fd, FnOk PW w K mg base (L2.CX PW w) 1 (He.fAd K ("BadText", some "__init__")) fd ["self", "row"] (GL.spBad (He.ga K "BadText")) ∧ L2.Binds K fd ["self", "row"] [] := by
  obtain ⟨cc, cda, kV, doc, pm, an, ct, T, hcd⟩ := (bad_c E).ex
  exact ⟨_, GL.bad_fn (k := 0) ⟨rfl, rfl, rfl, rfl, rfl, rfl, rfl, by decide +kernel, by decide +kernel⟩ T hcd (fun _ => rfl), .all fun us hl => match us, hl with | [_, _], _ => rfl⟩
theorem und_ok (E : En w K mg base) : GL.UndOk K mg (GK K) "_law_under" "GlassFault" s56 (He.ga K "_law_under") us := by
  obtain ⟨fd, F⟩ := E.def_ 55 (d := d56) rfl
  have F : FunD K "_law_under" "_law_under" (defArgs s56) (defBody s56) (defScope s56) [] [] (He.ga K "_law_under") fd := F
  have hm : ∀ y ∈ us, mg y = some (.ref (He.ga K y)) := (List.forall_mem_cons.mpr ⟨g_BadDeed E, (List.forall_mem_cons.mpr ⟨g_BadPlan E, (List.forall_mem_cons.mpr ⟨g_BadSize E, (List.forall_mem_cons.mpr ⟨g_BadText E, (List.forall_mem_cons.mpr ⟨g_Breaks E, (List.forall_mem_cons.mpr ⟨g_NoRoom E, (List.forall_mem_cons.mpr ⟨g_NoSuch E, (List.forall_mem_cons.mpr ⟨g_NoWay E, (fun _ h => nomatch h)⟩)⟩)⟩)⟩)⟩)⟩)⟩)⟩)
  have hg : ∀ y ∈ us, (defScope s56).names.lookup y = some .globalImplicit ∧ (y == ("__debug__" : Str)) = false := (List.forall_mem_cons.mpr ⟨⟨rfl, by decide⟩, (List.forall_mem_cons.mpr ⟨⟨rfl, by decide⟩, (List.forall_mem_cons.mpr ⟨⟨rfl, by decide⟩, (List.forall_mem_cons.mpr ⟨⟨rfl, by decide⟩, (List.forall_mem_cons.mpr ⟨⟨rfl, by decide⟩, (List.forall_mem_cons.mpr ⟨⟨rfl, by decide⟩, (List.forall_mem_cons.mpr ⟨⟨rfl, by decide⟩, (List.forall_mem_cons.mpr ⟨⟨rfl, by decide⟩, (fun _ h => nomatch h)⟩)⟩)⟩)⟩)⟩)⟩)⟩)⟩)
  exact ⟨g_law_under E, ⟨fd, F, FunD.bindsN F fun _ _ _ _ _ _ us hl => match us, hl with | [_], _ => rfl⟩, ⟨rfl, rfl, rfl, by decide +kernel, rfl, by decide +kernel, by decide +kernel⟩, .inl rfl, rfl, rfl, rfl, rfl, by decide, b_isinstance E, g_GlassFault E, ⟨⟨_, _, _, _, _, _, _, _, _, _, _, _, _, _, _, _, _, _, _, _⟩, GL.undE (defBody s56) 0, GL.undE (defBody s56) 1, GL.undE (defBody s56) 2, rfl, rfl⟩, fun c hc => (GL.und_at E.und hc).1, fun c hc => (GL.und_at E.und hc).2.1, GL.und_yf E.und hg hm rfl (b_ValueError E), by decide⟩
/-! ### Scope.__init__ -/
def Scope_init_N : List Str := ["self", "front", "wide", "eye"]
noncomputable def Scope_init_b : GL.Sl → GL.So :=
  (GL.sSeq (GL.sIf (GL.mOr (GL.mBl (GL.m2 GL.ltD (GL.mCold (GL.mCall GL.min2D (GL.mCons (GL.mVar 1) (GL.mCons (GL.mVar 2) GL.mNil)))) (GL.mCold (GL.mVal (.int 1))))) (GL.mBl (GL.m2 GL.eqG (GL.mVar 3) (GL.mCold (GL.mVal (.int 0)))))) (GL.sSeq (GL.sRaise "BadPlan" (GL.mVal (.str "no scope")))
  GL.sNil) GL.sNil)
  (GL.sSeq (GL.sFld ["Scope"] "front" (GL.plVar 0) false (GL.mFz (GL.mVar 1)))
  (GL.sSeq (GL.sFld ["Scope"] "wide" (GL.plVar 0) false (GL.mFz (GL.mVar 2)))
  (GL.sSeq (GL.sFld ["Scope"] "eye" (GL.plVar 0) false (GL.mFz (GL.mVar 3)))
  GL.sNil))))
noncomputable def Scope_init : List GL.D → GL.RF := GL.mDef 4 [true, true, true, true] Scope_init_b
theorem Scope_init_sc : FnScope Scope_init_N ["self", "front", "wide", "eye"] (defScope s2) := ⟨rfl, rfl, rfl, by decide +kernel, rfl, by decide +kernel, by decide +kernel⟩
theorem Scope_init_core (E : En w K mg base) {fd : FuncData} (F : FunD K "__init__" "Scope.__init__" (defArgs s2) (defBody s2) (defScope s2) [] [] (He.fAd K ("Scope", some "__init__")) fd) : FnOk PW w K mg base (L2.CX PW w) 1 (He.fAd K ("Scope", some "__init__")) fd ["self", "front", "wide", "eye"] (GL.Pr K (GK K) Scope_init) := by
  have hcd := GL.code_of F
  exact GL.fn_okC (N := Scope_init_N) (ms := [true, true, true, true]) (s := Scope_init_b) (pz := [0, 1, 2, 3]) F Scope_init_sc (GL.pz_ok (ms := [true, true, true, true]) (pz := [0, 1, 2, 3]) rfl).1 (GL.pz_ok (ms := [true, true, true, true]) (pz := [0, 1, 2, 3]) rfl).2 rfl (fun A outer s0 H Ex hr => (GL.gb_cons (GL.gs_if (GL.GW.t (GL.gw_or (GL.gt_cmp GL.cLt (GL.go_of (GL.ge_bltn (GL.cMin2 rfl) (GL.ga_cons (GL.go_var 1) (GL.ga_cons (GL.go_var 2) GL.ga_nil)) (b_min E))) (GL.go_of GL.ge_int)) (GL.gw_or1 (GL.gt_cmp (GL.cEq hr.units) (GL.go_var 3) (GL.go_of GL.ge_int))))) (GL.gb_cons (GL.gs_raise (E.xc rfl rfl rfl 18 19 rfl rfl) GL.ge_str)
  GL.gb_nil) GL.gb_nil)
  (GL.gb_cons (GL.gs_fld false (GL.ge_of (GL.go_var 1)) (GL.gpl_var 0) (fld_front E))
  (GL.gb_cons (GL.gs_fld false (GL.ge_of (GL.go_var 2)) (GL.gpl_var 0) (fld_wide E))
  (GL.gb_cons (GL.gs_fld false (GL.ge_of (GL.go_var 3)) (GL.gpl_var 0) (fld_eye E))
  GL.gb_nil)))))
theorem Scope_init_ok (E : En w K mg base) : Ok w K mg base 1 (He.fAd K ("Scope", some "__init__")) ["self", "front", "wide", "eye"] Scope_init := by
  obtain ⟨fd, F⟩ := E.def_ 1 (d := d2) rfl
  have F : FunD K "__init__" "Scope.__init__" (defArgs s2) (defBody s2) (defScope s2) [] [] (He.fAd K ("Scope", some "__init__")) fd := F
  exact ⟨fd, Scope_init_core E F, FunD.bindsN F fun _ _ _ _ _ _ us hl => match us, hl with | [_, _, _, _], _ => rfl, F.kp⟩
/-! ### Scope.tube -/
def Scope_tube_N : List Str := ["self", "way"]
noncomputable def Scope_tube_b : GL.Sl → GL.So :=
  (GL.sSeq (GL.sSet 1 false (GL.m2 GL.addD (GL.mFld ["Scope"] "front" (GL.mVar 0)) (GL.mFld ["Scope"] "eye" (GL.mVar 0))))
  (GL.sSeq (GL.sIf (GL.mBl (GL.m2 GL.ltD (GL.mVar 1) (GL.mCold (GL.mVal (.int 1))))) (GL.sSeq (GL.sRaise "NoWay" (GL.mVal (.str "no scope")))
  GL.sNil) GL.sNil)
  (GL.sSeq (GL.sRet (GL.mFz (GL.mVar 1)))
  GL.sNil)))
noncomputable def Scope_tube : List GL.D → GL.RF := GL.mDef 2 [true] Scope_tube_b
theorem Scope_tube_sc : FnScope Scope_tube_N ["self"] (defScope s4) := ⟨rfl, rfl, rfl, by decide +kernel, rfl, by decide +kernel, by decide +kernel⟩
theorem Scope_tube_core (E : En w K mg base) {fd : FuncData} (F : FunD K "tube" "Scope.tube" (defArgs s4) (defBody s4) (defScope s4) [] [] (He.fAd K ("Scope", some "tube")) fd) : FnOk PW w K mg base (L2.CX PW w) 1 (He.fAd K ("Scope", some "tube")) fd ["self"] (GL.Pr K (GK K) Scope_tube) := by
  have hcd := GL.code_of F
  exact GL.fn_okC (N := Scope_tube_N) (ms := [true]) (s := Scope_tube_b) (pz := [0]) F Scope_tube_sc (GL.pz_ok (ms := [true]) (pz := [0]) rfl).1 (GL.pz_ok (ms := [true]) (pz := [0]) rfl).2 rfl (fun A outer s0 H Ex hr => (GL.gb_cons (GL.gs_set 1 false (GL.ge_add (GL.go_fld (GL.go_var 0) (fld_front E)) (GL.go_fld (GL.go_var 0) (fld_eye E))) (hN := Scope_tube_sc.nd))
  (GL.gb_cons (GL.gs_if (GL.gt_cmp GL.cLt (GL.go_var 1) (GL.go_of GL.ge_int)) (GL.gb_cons (GL.gs_raise (E.xc rfl rfl rfl 27 28 rfl rfl) GL.ge_str)
  GL.gb_nil) GL.gb_nil)
  (GL.gb_cons (GL.gs_ret (GL.ge_of (GL.go_var 1)))
  GL.gb_nil))))
theorem Scope_tube_ok (E : En w K mg base) : Ok w K mg base 1 (He.fAd K ("Scope", some "tube")) ["self"] Scope_tube := by
  obtain ⟨fd, F⟩ := E.def_ 3 (d := d4) rfl
  have F : FunD K "tube" "Scope.tube" (defArgs s4) (defBody s4) (defScope s4) [] [] (He.fAd K ("Scope", some "tube")) fd := F
  exact ⟨fd, Scope_tube_core E F, FunD.bindsN F fun _ _ _ _ _ _ us hl => match us, hl with | [_], _ => rfl, F.kp⟩
/-! ### Bottle.__init__ -/
def Bottle_init_N : List Str := ["self", "rooms"]
noncomputable def Bottle_init_b : GL.Sl → GL.So :=
  (GL.sSeq (GL.sIf (GL.mOr (GL.mBl (GL.m2 GL.eqG (GL.mCold (GL.mCall GL.lenD (GL.mCons (GL.mVar 1) GL.mNil))) (GL.mCold (GL.mVal (.int 0))))) (GL.mBl (GL.m2 GL.ltD (GL.mCold (GL.mCall GL.minLD (GL.mCons (GL.mVar 1) GL.mNil))) (GL.mCold (GL.mVal (.int 1)))))) (GL.sSeq (GL.sRaise "BadPlan" (GL.mVal (.str "no bottle")))
  GL.sNil) GL.sNil)
  (GL.sSeq (GL.sFld ["Bottle"] "rooms" (GL.plVar 0) false (GL.mCall GL.tupL (GL.mCons (GL.mVar 1) GL.mNil)))
  GL.sNil))
noncomputable def Bottle_init : List GL.D → GL.RF := GL.mDef 2 [true, true] Bottle_init_b
theorem Bottle_init_sc : FnScope Bottle_init_N ["self", "rooms"] (defScope s12) := ⟨rfl, rfl, rfl, by decide +kernel, rfl, by decide +kernel, by decide +kernel⟩
theorem Bottle_init_core (E : En w K mg base) {fd : FuncData} (F : FunD K "__init__" "Bottle.__init__" (defArgs s12) (defBody s12) (defScope s12) [] [] (He.fAd K ("Bottle", some "__init__")) fd) : FnOk PW w K mg base (L2.CX PW w) 1 (He.fAd K ("Bottle", some "__init__")) fd ["self", "rooms"] (GL.Pr K (GK K) Bottle_init) := by
  have hcd := GL.code_of F
  exact GL.fn_okC (N := Bottle_init_N) (ms := [true, true]) (s := Bottle_init_b) (pz := [0, 1]) F Bottle_init_sc (GL.pz_ok (ms := [true, true]) (pz := [0, 1]) rfl).1 (GL.pz_ok (ms := [true, true]) (pz := [0, 1]) rfl).2 rfl (fun A outer s0 H Ex hr => (GL.gb_cons (GL.gs_if (GL.GW.t (GL.gw_or (GL.gt_cmp (GL.cEq hr.units) (GL.go_of (GL.ge_bltn GL.cLen (GL.ga_cons (GL.go_var 1) GL.ga_nil) (b_len E))) (GL.go_of GL.ge_int)) (GL.gw_or1 (GL.gt_cmp GL.cLt (GL.go_of (GL.ge_bltn (GL.cMinL rfl hr.units) (GL.ga_cons (GL.go_var 1) GL.ga_nil) (b_min E))) (GL.go_of GL.ge_int))))) (GL.gb_cons (GL.gs_raise (E.xc rfl rfl rfl 18 19 rfl rfl) GL.ge_str)
  GL.gb_nil) GL.gb_nil)
  (GL.gb_cons (GL.gs_fld false (GL.ge_type GL.cTuple (GL.ga_cons (GL.go_var 1) GL.ga_nil) (b_tuple E)) (GL.gpl_var 0) (fld_rooms E))
  GL.gb_nil)))
theorem Bottle_init_ok (E : En w K mg base) : Ok w K mg base 1 (He.fAd K ("Bottle", some "__init__")) ["self", "rooms"] Bottle_init := by
  obtain ⟨fd, F⟩ := E.def_ 11 (d := d12) rfl
  have F : FunD K "__init__" "Bottle.__init__" (defArgs s12) (defBody s12) (defScope s12) [] [] (He.fAd K ("Bottle", some "__init__")) fd := F
  exact ⟨fd, Bottle_init_core E F, FunD.bindsN F fun _ _ _ _ _ _ us hl => match us, hl with | [_, _], _ => rfl, F.kp⟩
/-! ### Bottle.all_room -/
def Bottle_all_room_N : List Str := ["self"]
noncomputable def Bottle_all_room_b : GL.Sl → GL.So :=
  (GL.sSeq (GL.sRet (GL.mCall GL.sumSD (GL.mCons (GL.mFld ["Bottle"] "rooms" (GL.mVar 0)) GL.mNil)))
  GL.sNil)
noncomputable def Bottle_all_room : List GL.D → GL.RF := GL.mDef 1 [true] Bottle_all_room_b
theorem Bottle_all_room_sc : FnScope Bottle_all_room_N ["self"] (defScope s13) := ⟨rfl, rfl, rfl, by decide +kernel, rfl, by decide +kernel, by decide +kernel⟩
theorem Bottle_all_room_core (E : En w K mg base) {fd : FuncData} (F : FunD K "all_room" "Bottle.all_room" (defArgs s13) (defBody s13) (defScope s13) [] [] (He.fAd K ("Bottle", some "all_room")) fd) : FnOk PW w K mg base (L2.CX PW w) 1 (He.fAd K ("Bottle", some "all_room")) fd ["self"] (GL.Pr K (GK K) Bottle_all_room) := by
  have hcd := GL.code_of F
  exact GL.fn_okC (N := Bottle_all_room_N) (ms := [true]) (s := Bottle_all_room_b) (pz := [0]) F Bottle_all_room_sc (GL.pz_ok (ms := [true]) (pz := [0]) rfl).1 (GL.pz_ok (ms := [true]) (pz := [0]) rfl).2 rfl (fun A outer s0 H Ex hr => (GL.gb_cons (GL.gs_ret (GL.ge_bltn (GL.cSumS rfl) (GL.ga_cons (GL.go_fld (GL.go_var 0) (fld_rooms E)) GL.ga_nil) (b_sum E)))
  GL.gb_nil))
theorem Bottle_all_room_ok (E : En w K mg base) : Ok w K mg base 1 (He.fAd K ("Bottle", some "all_room")) ["self"] Bottle_all_room := by
  obtain ⟨fd, F⟩ := E.def_ 12 (d := d13) rfl
  have F : FunD K "all_room" "Bottle.all_room" (defArgs s13) (defBody s13) (defScope s13) [] [] (He.fAd K ("Bottle", some "all_room")) fd := F
  exact ⟨fd, Bottle_all_room_core E F, FunD.bindsN F fun _ _ _ _ _ _ us hl => match us, hl with | [_], _ => rfl, F.kp⟩
/-! ### Bottle.level -/
def Bottle_level_N : List Str := ["self", "much", "high"]
noncomputable def Bottle_level_b : GL.Sl → GL.So :=
  (GL.sSeq (GL.sIf (GL.mBl (GL.m2 GL.ltD (GL.mVar 1) (GL.mCold (GL.mVal (.int 0))))) (GL.sSeq (GL.sRaise "BadSize" (GL.mVal (.str "below nought")))
  GL.sNil) GL.sNil)
  (GL.sSeq (GL.sIf (GL.mBl (GL.m2 GL.gtD (GL.mVar 1) (GL.mCold (GL.mMt [("Bottle", Bottle_all_room)] "all_room" (GL.rPl (GL.plVar 0)) GL.agNil)))) (GL.sSeq (GL.sRaise "NoRoom" (GL.mVal (.str "over the neck")))
  GL.sNil) GL.sNil)
  (GL.sSeq (GL.sSet 2 false (GL.mVal (.int 0)))
  (GL.sSeq (GL.sWhile (GL.mAnd (GL.mBl (GL.m2 GL.ltD (GL.mVar 2) (GL.mCold (GL.mCall GL.lenD (GL.mCons (GL.mFld ["Bottle"] "rooms" (GL.mVar 0)) GL.mNil))))) (GL.mBl (GL.m2 GL.geD (GL.mVar 1) (GL.m2 GL.ixD (GL.mFld ["Bottle"] "rooms" (GL.mVar 0)) (GL.mVar 2))))) (GL.sSeq (GL.sAug 1 GL.subD (GL.m2 GL.ixD (GL.mFld ["Bottle"] "rooms" (GL.mVar 0)) (GL.mVar 2)))
  (GL.sSeq (GL.sAug 2 GL.addI (GL.mCold (GL.mVal (.int 1))))
  GL.sNil)))
  (GL.sSeq (GL.sRet (GL.mCall GL.tupD (GL.mCons (GL.mVar 2) (GL.mCons (GL.mVar 1) GL.mNil))))
  GL.sNil)))))
noncomputable def Bottle_level : List GL.D → GL.RF := GL.mDef 3 [true, false] Bottle_level_b
theorem Bottle_level_sc : FnScope Bottle_level_N ["self", "much"] (defScope s14) := ⟨rfl, rfl, rfl, by decide +kernel, rfl, by decide +kernel, by decide +kernel⟩
theorem Bottle_level_core (E : En w K mg base) {fd : FuncData} (F : FunD K "level" "Bottle.level" (defArgs s14) (defBody s14) (defScope s14) [] [] (He.fAd K ("Bottle", some "level")) fd) : FnOk PW w K mg base (L2.CX PW w) 2 (He.fAd K ("Bottle", some "level")) fd ["self", "much"] (GL.Pr K (GK K) Bottle_level) := by
  have hcd := GL.code_of F
  exact GL.fn_okC (N := Bottle_level_N) (ms := [true, false]) (s := Bottle_level_b) (pz := [0]) F Bottle_level_sc (GL.pz_ok (ms := [true, false]) (pz := [0]) rfl).1 (GL.pz_ok (ms := [true, false]) (pz := [0]) rfl).2 rfl (fun A outer s0 H Ex hr => (GL.gb_cons (GL.gs_if (GL.gt_cmp GL.cLt (GL.go_var 1) (GL.go_of GL.ge_int)) (GL.gb_cons (GL.gs_raise (E.xc rfl rfl rfl 15 16 rfl rfl) GL.ge_str)
  GL.gb_nil) GL.gb_nil)
  (GL.gb_cons (GL.gs_if (GL.gt_cmp GL.cGt (GL.go_var 1) (GL.go_of (GL.ge_meth0D (GL.gr_pl (GL.gpl_var 0)) (GL.mtok_cons (Bottle_all_room_ok E) (hr.mono (by decide)) (He.cls_ok (E.fact 42 rfl)) (He.meth_ok (E.fact 68 rfl)) GL.mtok_nil)))) (GL.gb_cons (GL.gs_raise (E.xc rfl rfl rfl 24 25 rfl rfl) GL.ge_str)
  GL.gb_nil) GL.gb_nil)
  (GL.gb_cons (GL.gs_set 2 false GL.ge_int (hN := Bottle_level_sc.nd))
  (GL.gb_cons (GL.gs_while (GL.GW.t (GL.gw_and (GL.gt_cmp GL.cLt (GL.go_var 2) (GL.go_of (GL.ge_bltn GL.cLen (GL.ga_cons (GL.go_fld (GL.go_var 0) (fld_rooms E)) GL.ga_nil) (b_len E)))) (GL.gw_and1 (GL.gt_cmp GL.cGe (GL.go_var 1) (GL.go_ix (hu_of hr) (GL.go_fld (GL.go_var 0) (fld_rooms E)) (GL.go_var 2)))))) (GL.gb_cons (GL.gs_aug 1 GL.iSub (GL.go_ix (hu_of hr) (GL.go_fld (GL.go_var 0) (fld_rooms E)) (GL.go_var 2)) (hN := Bottle_level_sc.nd))
  (GL.gb_cons (GL.gs_aug 2 GL.iAdd (GL.go_of GL.ge_int) (hN := Bottle_level_sc.nd))
  GL.gb_nil)))
  (GL.gb_cons (GL.gs_ret (GL.ge_tup (GL.ga_cons (GL.go_var 2) (GL.ga_cons (GL.go_var 1) GL.ga_nil))))
  GL.gb_nil))))))
theorem Bottle_level_ok (E : En w K mg base) : Ok w K mg base 2 (He.fAd K ("Bottle", some "level")) ["self", "much"] Bottle_level := by
  obtain ⟨fd, F⟩ := E.def_ 13 (d := d14) rfl
  have F : FunD K "level" "Bottle.level" (defArgs s14) (defBody s14) (defScope s14) [] [] (He.fAd K ("Bottle", some "level")) fd := F
  exact ⟨fd, Bottle_level_core E F, FunD.bindsN F fun _ _ _ _ _ _ us hl => match us, hl with | [_, _], _ => rfl, F.kp⟩
/-! ### Line.__init__ -/
def Line_init_N : List Str := ["self", "day", "kind", "deed", "many"]
noncomputable def Line_init_b : GL.Sl → GL.So :=
  (GL.sSeq (GL.sIf (GL.mOr (GL.mBl (GL.m2 GL.ltD (GL.mVar 1) (GL.mCold (GL.mVal (.int 0))))) (GL.mOr (GL.mBl (GL.m2 GL.ninA (GL.mVar 3) (GL.mCold (GL.mVal (.nd false .ktp [.str "blown", .str "cooled", .str "broken", .str "sold"]))))) (GL.mOr (GL.mBl (GL.m2 GL.eqG (GL.mVar 2) (GL.mCold (GL.mVal (.str ""))))) (GL.mOr (GL.mBl (GL.m2 GL.inA (GL.mCold (GL.mVal (.str " "))) (GL.mVar 2))) (GL.mOr (GL.mBl (GL.m2 GL.inA (GL.mCold (GL.mVal (.str "\n"))) (GL.mVar 2))) (GL.mBl (GL.m2 GL.ltD (GL.mVar 4) (GL.mCold (GL.mVal (.int 1)))))))))) (GL.sSeq (GL.sRaiseI "BadText" (GL.mVal (.int 0)))
  GL.sNil) GL.sNil)
  (GL.sSeq (GL.sFld ["Line"] "day" (GL.plVar 0) false (GL.mFz (GL.mVar 1)))
  (GL.sSeq (GL.sFld ["Line"] "kind" (GL.plVar 0) false (GL.mFz (GL.mVar 2)))
  (GL.sSeq (GL.sFld ["Line"] "deed" (GL.plVar 0) false (GL.mFz (GL.mVar 3)))
  (GL.sSeq (GL.sFld ["Line"] "many" (GL.plVar 0) false (GL.mFz (GL.mVar 4)))
  GL.sNil)))))
noncomputable def Line_init : List GL.D → GL.RF := GL.mDef 5 [true, true, true, true, true] Line_init_b
theorem Line_init_sc : FnScope Line_init_N ["self", "day", "kind", "deed", "many"] (defScope s20) := ⟨rfl, rfl, rfl, by decide +kernel, rfl, by decide +kernel, by decide +kernel⟩
theorem Line_init_core (E : En w K mg base) {fd : FuncData} (F : FunD K "__init__" "Line.__init__" (defArgs s20) (defBody s20) (defScope s20) [] [] (He.fAd K ("Line", some "__init__")) fd) : FnOk PW w K mg base (L2.CX PW w) 3 (He.fAd K ("Line", some "__init__")) fd ["self", "day", "kind", "deed", "many"] (GL.Pr K (GK K) Line_init) := by
  have hcd := GL.code_of F
  exact GL.fn_okC (N := Line_init_N) (ms := [true, true, true, true, true]) (s := Line_init_b) (pz := [0, 1, 2, 3, 4]) F Line_init_sc (GL.pz_ok (ms := [true, true, true, true, true]) (pz := [0, 1, 2, 3, 4]) rfl).1 (GL.pz_ok (ms := [true, true, true, true, true]) (pz := [0, 1, 2, 3, 4]) rfl).2 rfl (fun A outer s0 H Ex hr => (GL.gb_cons (GL.gs_if (GL.GW.t (GL.gw_or (GL.gt_cmp GL.cLt (GL.go_var 1) (GL.go_of GL.ge_int)) (GL.gw_or (GL.gt_cmp (GL.cNinA hr.units) (GL.go_var 3) (GL.go_of (GL.ge_cst (c_DEEDS E) (g_DEEDS E)))) (GL.gw_or (GL.gt_cmp (GL.cEq hr.units) (GL.go_var 2) (GL.go_of GL.ge_str)) (GL.gw_or (GL.gt_cmp (GL.cInA hr.units) (GL.go_of GL.ge_str) (GL.go_var 2)) (GL.gw_or (GL.gt_cmp (GL.cInA hr.units) (GL.go_of GL.ge_str) (GL.go_var 2)) (GL.gw_or1 (GL.gt_cmp GL.cLt (GL.go_var 4) (GL.go_of GL.ge_int))))))))) (GL.gb_cons (GL.gs_raiseI (bad_o E) (bad_c E).ini (bad_c E).fn (bad_ok E).choose_spec.1 (hr.mono (by decide)) (bad_ok E).choose_spec.2 (g_BadText E) GL.ge_int)
  GL.gb_nil) GL.gb_nil)
  (GL.gb_cons (GL.gs_fld false (GL.ge_of (GL.go_var 1)) (GL.gpl_var 0) (fld_day E))
  (GL.gb_cons (GL.gs_fld false (GL.ge_of (GL.go_var 2)) (GL.gpl_var 0) (fld_kind E))
  (GL.gb_cons (GL.gs_fld false (GL.ge_of (GL.go_var 3)) (GL.gpl_var 0) (fld_deed E))
  (GL.gb_cons (GL.gs_fld false (GL.ge_of (GL.go_var 4)) (GL.gpl_var 0) (fld_many E))
  GL.gb_nil))))))
theorem Line_init_ok (E : En w K mg base) : Ok w K mg base 3 (He.fAd K ("Line", some "__init__")) ["self", "day", "kind", "deed", "many"] Line_init := by
  obtain ⟨fd, F⟩ := E.def_ 19 (d := d20) rfl
  have F : FunD K "__init__" "Line.__init__" (defArgs s20) (defBody s20) (defScope s20) [] [] (He.fAd K ("Line", some "__init__")) fd := F
  exact ⟨fd, Line_init_core E F, FunD.bindsN F fun _ _ _ _ _ _ us hl => match us, hl with | [_, _, _, _, _], _ => rfl, F.kp⟩
/-! ### Line.said -/
def Line_said_N : List Str := ["self"]
noncomputable def Line_said_b : GL.Sl → GL.So :=
  (GL.sSeq (GL.sRet (GL.mJoin (GL.mCold (GL.mVal (.str " "))) (GL.mCold (GL.mCall GL.lstD (GL.mCons (GL.mCold (GL.mCall GL.strD (GL.mCons (GL.mFld ["Line"] "day" (GL.mVar 0)) GL.mNil))) (GL.mCons (GL.mFld ["Line"] "kind" (GL.mVar 0)) (GL.mCons (GL.mFld ["Line"] "deed" (GL.mVar 0)) (GL.mCons (GL.mCold (GL.mCall GL.strD (GL.mCons (GL.mFld ["Line"] "many" (GL.mVar 0)) GL.mNil))) GL.mNil))))))))
  GL.sNil)
noncomputable def Line_said : List GL.D → GL.RF := GL.mDef 1 [true] Line_said_b
theorem Line_said_sc : FnScope Line_said_N ["self"] (defScope s21) := ⟨rfl, rfl, rfl, by decide +kernel, rfl, by decide +kernel, by decide +kernel⟩
theorem Line_said_core (E : En w K mg base) {fd : FuncData} (F : FunD K "said" "Line.said" (defArgs s21) (defBody s21) (defScope s21) [] [] (He.fAd K ("Line", some "said")) fd) : FnOk PW w K mg base (L2.CX PW w) 1 (He.fAd K ("Line", some "said")) fd ["self"] (GL.Pr K (GK K) Line_said) := by
  have hcd := GL.code_of F
  exact GL.fn_okC (N := Line_said_N) (ms := [true]) (s := Line_said_b) (pz := [0]) F Line_said_sc (GL.pz_ok (ms := [true]) (pz := [0]) rfl).1 (GL.pz_ok (ms := [true]) (pz := [0]) rfl).2 rfl (fun A outer s0 H Ex hr => (GL.gb_cons (GL.gs_ret (GL.ge_join (GL.go_of GL.ge_str) (GL.go_of (GL.ge_lst (GL.ga_cons (GL.go_of (GL.ge_type GL.cStr (GL.ga_cons (GL.go_fld (GL.go_var 0) (fld_day E)) GL.ga_nil) (b_str E))) (GL.ga_cons (GL.go_fld (GL.go_var 0) (fld_kind E)) (GL.ga_cons (GL.go_fld (GL.go_var 0) (fld_deed E)) (GL.ga_cons (GL.go_of (GL.ge_type GL.cStr (GL.ga_cons (GL.go_fld (GL.go_var 0) (fld_many E)) GL.ga_nil) (b_str E))) GL.ga_nil))))))))
  GL.gb_nil))
theorem Line_said_ok (E : En w K mg base) : Ok w K mg base 1 (He.fAd K ("Line", some "said")) ["self"] Line_said := by
  obtain ⟨fd, F⟩ := E.def_ 20 (d := d21) rfl
  have F : FunD K "said" "Line.said" (defArgs s21) (defBody s21) (defScope s21) [] [] (He.fAd K ("Line", some "said")) fd := F
  exact ⟨fd, Line_said_core E F, FunD.bindsN F fun _ _ _ _ _ _ us hl => match us, hl with | [_], _ => rfl, F.kp⟩
/-! ### read_line -/
def read_line_N : List Str := ["text", "words", "one", "found", "sign"]
noncomputable def read_line_b : GL.Sl → GL.So :=
  (GL.sSeq (GL.sSet 1 false (GL.mSplit (GL.mVar 0) (GL.mCold (GL.mVal (.str " ")))))
  (GL.sSeq (GL.sIf (GL.mBl (GL.m2 GL.neG (GL.mCold (GL.mCall GL.lenD (GL.mCons (GL.mVar 1) GL.mNil))) (GL.mCold (GL.mVal (.int 4))))) (GL.sSeq (GL.sRaiseI "BadText" (GL.mVal (.int 0)))
  GL.sNil) GL.sNil)
  (GL.sSeq (GL.sFor (GL.mSrc (GL.mCold (GL.mCall GL.tupD (GL.mCons (GL.m2 GL.ixD (GL.mVar 1) (GL.mCold (GL.mVal (.int 0)))) (GL.mCons (GL.m2 GL.ixD (GL.mVar 1) (GL.mCold (GL.mVal (.int 3)))) GL.mNil))))) (GL.tgName 2 false) (GL.sSeq (GL.sIf (GL.mOr (GL.mNot (GL.mBl (GL.mChain GL.leD GL.leD (GL.mCold (GL.mVal (.int 1))) (GL.mCold (GL.mCall GL.lenD (GL.mCons (GL.mVar 2) GL.mNil))) (GL.mCold (GL.mVal (.int 4)))))) (GL.mTru (GL.mCold (GL.mGx GL.anyB (GL.mVar 2) (GL.m2 GL.ninQ (GL.mVar 5) (GL.mVal (.str "0123456789"))))))) (GL.sSeq (GL.sRaiseI "BadText" (GL.mVal (.int 0)))
  GL.sNil) GL.sNil)
  GL.sNil))
  (GL.sSeq (GL.sSet 3 false (GL.mMk "Line" Line_init (GL.agVal (GL.mCold (GL.mCall GL.intD (GL.mCons (GL.m2 GL.ixD (GL.mVar 1) (GL.mCold (GL.mVal (.int 0)))) GL.mNil))) (GL.agVal (GL.m2 GL.ixD (GL.mVar 1) (GL.mCold (GL.mVal (.int 1)))) (GL.agVal (GL.m2 GL.ixD (GL.mVar 1) (GL.mCold (GL.mVal (.int 2)))) (GL.agVal (GL.mCold (GL.mCall GL.intD (GL.mCons (GL.m2 GL.ixD (GL.mVar 1) (GL.mCold (GL.mVal (.int 3)))) GL.mNil))) GL.agNil))))))
  (GL.sSeq (GL.sIf (GL.mBl (GL.m2 GL.neG (GL.mCold (GL.mMt [("Line", Line_said)] "said" (GL.rPl (GL.plVar 3)) GL.agNil)) (GL.mVar 0))) (GL.sSeq (GL.sRaiseI "BadText" (GL.mVal (.int 0)))
  GL.sNil) GL.sNil)
  (GL.sSeq (GL.sRet (GL.mFz (GL.mVar 3)))
  GL.sNil))))))
noncomputable def read_line : List GL.D → GL.RF := GL.mDef 5 [true] read_line_b
theorem read_line_sc : FnScope read_line_N ["text"] (defScope s23) := ⟨rfl, rfl, rfl, by decide +kernel, rfl, by decide +kernel, by decide +kernel⟩
theorem read_line_core (E : En w K mg base) {fd : FuncData} (F : FunD K "read_line" "read_line" (defArgs s23) (defBody s23) (defScope s23) [] [] (He.fAd K ("read_line", none)) fd) : FnOk PW w K mg base (L2.CX PW w) 5 (He.fAd K ("read_line", none)) fd ["text"] (GL.Pr K (GK K) read_line) := by
  have hcd := GL.code_of F
  exact GL.fn_okC (N := read_line_N) (ms := [true]) (s := read_line_b) (pz := [0]) F read_line_sc (GL.pz_ok (ms := [true]) (pz := [0]) rfl).1 (GL.pz_ok (ms := [true]) (pz := [0]) rfl).2 rfl (fun A outer s0 H Ex hr => (GL.gb_cons (GL.gs_set 1 false (GL.ge_split (GL.go_var 0) (GL.go_of GL.ge_str)) (hN := read_line_sc.nd))
  (GL.gb_cons (GL.gs_if (GL.gt_cmp (GL.cNe hr.units) (GL.go_of (GL.ge_bltn GL.cLen (GL.ga_cons (GL.go_var 1) GL.ga_nil) (b_len E))) (GL.go_of GL.ge_int)) (GL.gb_cons (GL.gs_raiseI (bad_o E) (bad_c E).ini (bad_c E).fn (bad_ok E).choose_spec.1 (hr.mono (by decide)) (bad_ok E).choose_spec.2 (g_BadText E) GL.ge_int)
  GL.gb_nil) GL.gb_nil)
  (GL.gb_cons (GL.gs_forL (GL.git_any (GL.go_of (GL.ge_tup (GL.ga_cons (GL.go_ix (hu_of hr) (GL.go_var 1) (GL.go_of GL.ge_int)) (GL.ga_cons (GL.go_ix (hu_of hr) (GL.go_var 1) (GL.go_of GL.ge_int)) GL.ga_nil))))) (GL.gtg_name 2 false (hN := read_line_sc.nd)) (GL.gb_cons (GL.gs_if (GL.GW.t (GL.gw_or (GL.gt_not (GL.gt_chain GL.cLe GL.cLe (GL.go_of GL.ge_int) (GL.go_of (GL.ge_bltn GL.cLen (GL.ga_cons (GL.go_var 2) GL.ga_nil) (b_len E))) (GL.go_of GL.ge_int))) (GL.gw_or1 (GL.gt_tru (GL.go_of (GL.ge_any (k0 := 0) (GL.go_var 2) (E.tb _ (.head _)) hcd (GL.gOf_mem (.head _)) ⟨GL.gOf_one (.head _) E.nd, .inl rfl⟩ (hr.mono (by decide)) (b_any E) (M := ["text", "words", "one", "found", ""]) (fun L0 cv => (GL.gq_cmp GL.q_nin (GL.gq_var 5) GL.gq_str)) (L := GL.genP_by (by kernel_rfl)) (hx := GL.hid_by (N := read_line_N) (by kernel_rfl)))))))) (GL.gb_cons (GL.gs_raiseI (bad_o E) (bad_c E).ini (bad_c E).fn (bad_ok E).choose_spec.1 (hr.mono (by decide)) (bad_ok E).choose_spec.2 (g_BadText E) GL.ge_int)
  GL.gb_nil) GL.gb_nil)
  GL.gb_nil))
  (GL.gb_cons (GL.gs_set 3 false (GL.ge_makeD (Line_init_ok E) (He.mkr_ok (E.fact 46 rfl)) (hr.mono (by decide)) (g_Line E) (GL.gag_val (GL.go_of (GL.ge_type GL.cInt (GL.ga_cons (GL.go_ix (hu_of hr) (GL.go_var 1) (GL.go_of GL.ge_int)) GL.ga_nil) (b_int E))) (GL.gag_val (GL.go_ix (hu_of hr) (GL.go_var 1) (GL.go_of GL.ge_int)) (GL.gag_val (GL.go_ix (hu_of hr) (GL.go_var 1) (GL.go_of GL.ge_int)) (GL.gag_val (GL.go_of (GL.ge_type GL.cInt (GL.ga_cons (GL.go_ix (hu_of hr) (GL.go_var 1) (GL.go_of GL.ge_int)) GL.ga_nil) (b_int E))) GL.gag_nil))))) (hN := read_line_sc.nd))
  (GL.gb_cons (GL.gs_if (GL.gt_cmp (GL.cNe hr.units) (GL.go_of (GL.ge_meth0D (GL.gr_pl (GL.gpl_var 3)) (GL.mtok_cons (Line_said_ok E) (hr.mono (by decide)) (He.cls_ok (E.fact 45 rfl)) (He.meth_ok (E.fact 75 rfl)) GL.mtok_nil))) (GL.go_var 0)) (GL.gb_cons (GL.gs_raiseI (bad_o E) (bad_c E).ini (bad_c E).fn (bad_ok E).choose_spec.1 (hr.mono (by decide)) (bad_ok E).choose_spec.2 (g_BadText E) GL.ge_int)
  GL.gb_nil) GL.gb_nil)
  (GL.gb_cons (GL.gs_ret (GL.ge_of (GL.go_var 3)))
  GL.gb_nil)))))))
theorem read_line_ok (E : En w K mg base) : Ok w K mg base 5 (He.fAd K ("read_line", none)) ["text"] read_line := by
  obtain ⟨fd, F⟩ := E.def_ 22 (d := d23) rfl
  have F : FunD K "read_line" "read_line" (defArgs s23) (defBody s23) (defScope s23) [] [] (He.fAd K ("read_line", none)) fd := F
  exact ⟨fd, read_line_core E F, FunD.bindsN F fun _ _ _ _ _ _ us hl => match us, hl with | [_], _ => rfl, F.kp⟩
/-! ### Desk.__init__ -/
def Desk_init_N : List Str := ["self"]
noncomputable def Desk_init_b : GL.Sl → GL.So :=
  (GL.sSeq (GL.sFld ["Desk"] "text" (GL.plVar 0) false (GL.mVal (.str "1 jug blown 9\n2 jug cooled 6\n2 jar blown 4\n3 jug sold 1")))
  (GL.sSeq (GL.sFld ["Desk"] "deeds" (GL.plVar 0) true (GL.mCall GL.lstD GL.mNil))
  (GL.sSeq (GL.sFld ["Desk"] "undone" (GL.plVar 0) true (GL.mCall GL.lstD GL.mNil))
  GL.sNil)))
noncomputable def Desk_init : List GL.D → GL.RF := GL.mDef 1 [true] Desk_init_b
theorem Desk_init_sc : FnScope Desk_init_N ["self"] (defScope s34) := ⟨rfl, rfl, rfl, by decide +kernel, rfl, by decide +kernel, by decide +kernel⟩
theorem Desk_init_core (E : En w K mg base) {fd : FuncData} (F : FunD K "__init__" "Desk.__init__" (defArgs s34) (defBody s34) (defScope s34) [] [] (He.fAd K ("Desk", some "__init__")) fd) : FnOk PW w K mg base (L2.CX PW w) 1 (He.fAd K ("Desk", some "__init__")) fd ["self"] (GL.Pr K (GK K) Desk_init) := by
  have hcd := GL.code_of F
  exact GL.fn_okC (N := Desk_init_N) (ms := [true]) (s := Desk_init_b) (pz := [0]) F Desk_init_sc (GL.pz_ok (ms := [true]) (pz := [0]) rfl).1 (GL.pz_ok (ms := [true]) (pz := [0]) rfl).2 rfl (fun A outer s0 H Ex hr => (GL.gb_cons (GL.gs_fld false GL.ge_str (GL.gpl_var 0) (fld_text E))
  (GL.gb_cons (GL.gs_fld true (GL.ge_lst GL.ga_nil) (GL.gpl_var 0) (fld_deeds E))
  (GL.gb_cons (GL.gs_fld true (GL.ge_lst GL.ga_nil) (GL.gpl_var 0) (fld_undone E))
  GL.gb_nil))))
theorem Desk_init_ok (E : En w K mg base) : Ok w K mg base 1 (He.fAd K ("Desk", some "__init__")) ["self"] Desk_init := by
  obtain ⟨fd, F⟩ := E.def_ 33 (d := d34) rfl
  have F : FunD K "__init__" "Desk.__init__" (defArgs s34) (defBody s34) (defScope s34) [] [] (He.fAd K ("Desk", some "__init__")) fd := F
  exact ⟨fd, Desk_init_core E F, FunD.bindsN F fun _ _ _ _ _ _ us hl => match us, hl with | [_], _ => rfl, F.kp⟩
/-! ### Desk.undo -/
def Desk_undo_N : List Str := ["self", "deed"]
noncomputable def Desk_undo_b : GL.Sl → GL.So :=
  (GL.sSeq (GL.sIf (GL.mBl (GL.m2 GL.eqG (GL.mFld ["Desk"] "deeds" (GL.mVar 0)) (GL.mCold (GL.mCall GL.lstD GL.mNil)))) (GL.sSeq (GL.sRaise "BadDeed" (GL.mVal (.str "nothing to undo")))
  GL.sNil) GL.sNil)
  (GL.sSeq (GL.sSet 1 false (GL.mPop (GL.plFld ["Desk"] "deeds" (GL.plVar 0))))
  (GL.sSeq (GL.sExpr (GL.mApp (GL.plFld ["Desk"] "undone" (GL.plVar 0)) false (GL.mFz (GL.mVar 1))))
  (GL.sSeq (GL.sFld ["Desk"] "text" (GL.plVar 0) false (GL.mFz (GL.m2 GL.ixD (GL.mVar 1) (GL.mCold (GL.mVal (.int 0))))))
  GL.sNil))))
noncomputable def Desk_undo : List GL.D → GL.RF := GL.mDef 2 [true] Desk_undo_b
theorem Desk_undo_sc : FnScope Desk_undo_N ["self"] (defScope s39) := ⟨rfl, rfl, rfl, by decide +kernel, rfl, by decide +kernel, by decide +kernel⟩
theorem Desk_undo_core (E : En w K mg base) {fd : FuncData} (F : FunD K "undo" "Desk.undo" (defArgs s39) (defBody s39) (defScope s39) [] [] (He.fAd K ("Desk", some "undo")) fd) : FnOk PW w K mg base (L2.CX PW w) 1 (He.fAd K ("Desk", some "undo")) fd ["self"] (GL.Pr K (GK K) Desk_undo) := by
  have hcd := GL.code_of F
  exact GL.fn_okC (N := Desk_undo_N) (ms := [true]) (s := Desk_undo_b) (pz := [0]) F Desk_undo_sc (GL.pz_ok (ms := [true]) (pz := [0]) rfl).1 (GL.pz_ok (ms := [true]) (pz := [0]) rfl).2 rfl (fun A outer s0 H Ex hr => (GL.gb_cons (GL.gs_if (GL.gt_cmp (GL.cEq hr.units) (GL.go_fld (GL.go_var 0) (fld_deeds E)) (GL.go_of (GL.ge_lst GL.ga_nil))) (GL.gb_cons (GL.gs_raise (E.xc rfl rfl rfl 35 36 rfl rfl) GL.ge_str)
  GL.gb_nil) GL.gb_nil)
  (GL.gb_cons (GL.gs_set 1 false (GL.ge_pop (GL.gpl_fld (GL.gpl_var 0) (fld_deeds E))) (hN := Desk_undo_sc.nd))
  (GL.gb_cons (GL.gs_expr (GL.ge_app false (GL.gpl_fld (GL.gpl_var 0) (fld_undone E)) (GL.ge_of (GL.go_var 1))))
  (GL.gb_cons (GL.gs_fld false (GL.ge_of (GL.go_ix (hu_of hr) (GL.go_var 1) (GL.go_of GL.ge_int))) (GL.gpl_var 0) (fld_text E))
  GL.gb_nil)))))
theorem Desk_undo_ok (E : En w K mg base) : Ok w K mg base 1 (He.fAd K ("Desk", some "undo")) ["self"] Desk_undo := by
  obtain ⟨fd, F⟩ := E.def_ 38 (d := d39) rfl
  have F : FunD K "undo" "Desk.undo" (defArgs s39) (defBody s39) (defScope s39) [] [] (He.fAd K ("Desk", some "undo")) fd := F
  exact ⟨fd, Desk_undo_core E F, FunD.bindsN F fun _ _ _ _ _ _ us hl => match us, hl with | [_], _ => rfl, F.kp⟩
/-! ### step_of -/
def step_of_N : List Str := ["way", "name", "down", "right"]
noncomputable def step_of_b : GL.Sl → GL.So :=
  (GL.sSeq (GL.sFor (GL.mSrc (GL.mCold (GL.mVal (.nd false .ktp [(.nd false .ktp [.str "n", .int (-1), .int 0]), (.nd false .ktp [.str "e", .int 0, .int 1]), (.nd false .ktp [.str "s", .int 1, .int 0]), (.nd false .ktp [.str "w", .int 0, .int (-1)])])))) (GL.tgTup [(GL.tgName 1 false), (GL.tgName 2 false), (GL.tgName 3 false)]) (GL.sSeq (GL.sIf (GL.mBl (GL.m2 GL.eqG (GL.mVar 1) (GL.mVar 0))) (GL.sSeq (GL.sRet (GL.mCall GL.tupD (GL.mCons (GL.mVar 2) (GL.mCons (GL.mVar 3) GL.mNil))))
  GL.sNil) GL.sNil)
  GL.sNil))
  (GL.sSeq (GL.sRaise "NoSuch" (GL.mFz (GL.mVar 0)))
  GL.sNil))
noncomputable def step_of : List GL.D → GL.RF := GL.mDef 4 [true] step_of_b
theorem step_of_sc : FnScope step_of_N ["way"] (defScope s41) := ⟨rfl, rfl, rfl, by decide +kernel, rfl, by decide +kernel, by decide +kernel⟩
theorem step_of_core (E : En w K mg base) {fd : FuncData} (F : FunD K "step_of" "step_of" (defArgs s41) (defBody s41) (defScope s41) [] [] (He.fAd K ("step_of", none)) fd) : FnOk PW w K mg base (L2.CX PW w) 1 (He.fAd K ("step_of", none)) fd ["way"] (GL.Pr K (GK K) step_of) := by
  have hcd := GL.code_of F
  exact GL.fn_okC (N := step_of_N) (ms := [true]) (s := step_of_b) (pz := [0]) F step_of_sc (GL.pz_ok (ms := [true]) (pz := [0]) rfl).1 (GL.pz_ok (ms := [true]) (pz := [0]) rfl).2 rfl (fun A outer s0 H Ex hr => (GL.gb_cons (GL.gs_forL (GL.git_any (GL.go_of (GL.ge_cst (c_WAYS E) (g_WAYS E)))) (GL.gtg_tup (GL.gtgs_cons (GL.gtg_name 1 false (hN := step_of_sc.nd)) (GL.gtgs_cons (GL.gtg_name 2 false (hN := step_of_sc.nd)) (GL.gtgs_cons (GL.gtg_name 3 false (hN := step_of_sc.nd)) GL.gtgs_nil)))) (GL.gb_cons (GL.gs_if (GL.gt_cmp (GL.cEq hr.units) (GL.go_var 1) (GL.go_var 0)) (GL.gb_cons (GL.gs_ret (GL.ge_tup (GL.ga_cons (GL.go_var 2) (GL.ga_cons (GL.go_var 3) GL.ga_nil))))
  GL.gb_nil) GL.gb_nil)
  GL.gb_nil))
  (GL.gb_cons (GL.gs_raise (E.xc rfl rfl rfl 21 22 rfl rfl) (GL.ge_of (GL.go_var 0)))
  GL.gb_nil)))
theorem step_of_ok (E : En w K mg base) : Ok w K mg base 1 (He.fAd K ("step_of", none)) ["way"] step_of := by
  obtain ⟨fd, F⟩ := E.def_ 40 (d := d41) rfl
  have F : FunD K "step_of" "step_of" (defArgs s41) (defBody s41) (defScope s41) [] [] (He.fAd K ("step_of", none)) fd := F
  exact ⟨fd, step_of_core E F, FunD.bindsN F fun _ _ _ _ _ _ us hl => match us, hl with | [_], _ => rfl, F.kp⟩
/-! ### check_pane -/
def check_pane_N : List Str := ["wide", "high", "thick", "wind"]
noncomputable def check_pane_b : GL.Sl → GL.So :=
  (GL.sSeq (GL.sIf (GL.mOr (GL.mBl (GL.m2 GL.ltD (GL.mCold (GL.mCall GL.min3I (GL.mCons (GL.mVar 0) (GL.mCons (GL.mVar 1) (GL.mCons (GL.mVar 2) GL.mNil))))) (GL.mCold (GL.mVal (.int 1))))) (GL.mBl (GL.m2 GL.ltD (GL.mVar 3) (GL.mCold (GL.mVal (.int 0)))))) (GL.sSeq (GL.sRaise "BadSize" (GL.mVal (.str "no pane")))
  GL.sNil) GL.sNil)
  (GL.sSeq (GL.sIf (GL.mBl (GL.m2 GL.gtD (GL.mCold (GL.m2 GL.mulD (GL.mCold (GL.mCall GL.max2D (GL.mCons (GL.mVar 0) (GL.mCons (GL.mVar 1) GL.mNil)))) (GL.mVar 3))) (GL.mCold (GL.m2 GL.mulD (GL.mCold (GL.mVal (.int 300))) (GL.mVar 2))))) (GL.sSeq (GL.sRaise "Breaks" (GL.mVal (.str "it bursts")))
  GL.sNil) GL.sNil)
  GL.sNil))
noncomputable def check_pane : List GL.D → GL.RF := GL.mDef 4 [true, true, true, true] check_pane_b
theorem check_pane_sc : FnScope check_pane_N ["wide", "high", "thick", "wind"] (defScope s42) := ⟨rfl, rfl, rfl, by decide +kernel, rfl, by decide +kernel, by decide +kernel⟩
theorem check_pane_core (E : En w K mg base) {fd : FuncData} (F : FunD K "check_pane" "check_pane" (defArgs s42) (defBody s42) (defScope s42) [] [] (He.fAd K ("check_pane", none)) fd) : FnOk PW w K mg base (L2.CX PW w) 1 (He.fAd K ("check_pane", none)) fd ["wide", "high", "thick", "wind"] (GL.Pr K (GK K) check_pane) := by
  have hcd := GL.code_of F
  exact GL.fn_okC (N := check_pane_N) (ms := [true, true, true, true]) (s := check_pane_b) (pz := [0, 1, 2, 3]) F check_pane_sc (GL.pz_ok (ms := [true, true, true, true]) (pz := [0, 1, 2, 3]) rfl).1 (GL.pz_ok (ms := [true, true, true, true]) (pz := [0, 1, 2, 3]) rfl).2 rfl (fun A outer s0 H Ex hr => (GL.gb_cons (GL.gs_if (GL.GW.t (GL.gw_or (GL.gt_cmp GL.cLt (GL.go_of (GL.ge_bltn (GL.cMin3 rfl) (GL.ga_cons (GL.go_var 0) (GL.ga_cons (GL.go_var 1) (GL.ga_cons (GL.go_var 2) GL.ga_nil))) (b_min E))) (GL.go_of GL.ge_int)) (GL.gw_or1 (GL.gt_cmp GL.cLt (GL.go_var 3) (GL.go_of GL.ge_int))))) (GL.gb_cons (GL.gs_raise (E.xc rfl rfl rfl 15 16 rfl rfl) GL.ge_str)
  GL.gb_nil) GL.gb_nil)
  (GL.gb_cons (GL.gs_if (GL.gt_cmp GL.cGt (GL.go_of (GL.ge_mul (GL.go_of (GL.ge_bltn (GL.cMax2 rfl) (GL.ga_cons (GL.go_var 0) (GL.ga_cons (GL.go_var 1) GL.ga_nil)) (b_max E))) (GL.go_var 3))) (GL.go_of (GL.ge_mul (GL.go_of GL.ge_int) (GL.go_var 2)))) (GL.gb_cons (GL.gs_raise (E.xc rfl rfl rfl 30 31 rfl rfl) GL.ge_str)
  GL.gb_nil) GL.gb_nil)
  GL.gb_nil)))
theorem check_pane_ok (E : En w K mg base) : Ok w K mg base 1 (He.fAd K ("check_pane", none)) ["wide", "high", "thick", "wind"] check_pane := by
  obtain ⟨fd, F⟩ := E.def_ 41 (d := d42) rfl
  have F : FunD K "check_pane" "check_pane" (defArgs s42) (defBody s42) (defScope s42) [] [] (He.fAd K ("check_pane", none)) fd := F
  exact ⟨fd, check_pane_core E F, FunD.bindsN F fun _ _ _ _ _ _ us hl => match us, hl with | [_, _, _, _], _ => rfl, F.kp⟩
/-! ### putty_for -/
def putty_for_N : List Str := ["panes", "each", "whole", "wide", "high", "many"]
noncomputable def putty_for_b : GL.Sl → GL.So :=
  (GL.sSeq (GL.sIf (GL.mBl (GL.m2 GL.ltD (GL.mVar 1) (GL.mCold (GL.mVal (.int 0))))) (GL.sSeq (GL.sRaise "BadSize" (GL.mVal (.str "below nought")))
  GL.sNil) GL.sNil)
  (GL.sSeq (GL.sSet 2 false (GL.mGsN GL.sumF (GL.mSqN 3 (GL.mVar 0)) GL.mYes (GL.m2 GL.mulQ (GL.m2 GL.mulQ (GL.m2 GL.mulQ (GL.mVal (.int 2)) (GL.m2 GL.addQ (GL.mVar 6) (GL.mVar 7))) (GL.mVar 8)) (GL.mVar 1))))
  (GL.sSeq (GL.sRet (GL.m2 GL.subD (GL.mCold (GL.mVal (.int 0))) (GL.mCold (GL.m2 GL.fdivD (GL.mCold (GL.m2 GL.subD (GL.mCold (GL.mVal (.int 0))) (GL.mVar 2))) (GL.mCold (GL.mVal (.int 100)))))))
  GL.sNil)))
noncomputable def putty_for : List GL.D → GL.RF := GL.mDef 6 [true, true] putty_for_b
theorem putty_for_sc : FnScope putty_for_N ["panes", "each"] (defScope s43) := ⟨rfl, rfl, rfl, by decide +kernel, rfl, by decide +kernel, by decide +kernel⟩
theorem putty_for_core (E : En w K mg base) {fd : FuncData} (F : FunD K "putty_for" "putty_for" (defArgs s43) (defBody s43) (defScope s43) [] [] (He.fAd K ("putty_for", none)) fd) : FnOk PW w K mg base (L2.CX PW w) 1 (He.fAd K ("putty_for", none)) fd ["panes", "each"] (GL.Pr K (GK K) putty_for) := by
  have hcd := GL.code_of F
  exact GL.fn_okC (N := putty_for_N) (ms := [true, true]) (s := putty_for_b) (pz := [0, 1]) F putty_for_sc (GL.pz_ok (ms := [true, true]) (pz := [0, 1]) rfl).1 (GL.pz_ok (ms := [true, true]) (pz := [0, 1]) rfl).2 rfl (fun A outer s0 H Ex hr => (GL.gb_cons (GL.gs_if (GL.gt_cmp GL.cLt (GL.go_var 1) (GL.go_of GL.ge_int)) (GL.gb_cons (GL.gs_raise (E.xc rfl rfl rfl 15 16 rfl rfl) GL.ge_str)
  GL.gb_nil) GL.gb_nil)
  (GL.gb_cons (GL.gs_set 2 false (GL.ge_sumN (k0 := 0) (xs := ["wide", "high", "many"]) (GL.IsNames.cons (GL.IsNames.cons (GL.IsNames.cons GL.IsNames.nil))) (GL.gsrN_seq (GL.go_var 0)) (E.tb _ (.tail _ (.head _))) hcd (GL.gOf_mem (.tail _ (.head _))) ⟨GL.gOf_one (.tail _ (.head _)) E.nd, .inl rfl⟩ (hr.mono (by decide)) (b_sum E) (M := ["panes", "each", "whole", "", "", ""]) (fun L0 cv => (GL.GQ.bd (GL.gq_bin GL.q_mul (GL.gq_bin GL.q_mul (GL.gq_bin GL.q_mul GL.gq_int (GL.gq_bin GL.q_add (GL.gq_var 6) (GL.gq_var 7))) (GL.gq_var 8)) (GL.gq_var 1)) _ _)) (fun L0 cv => GL.ifs_nil) (L := GL.genPN_by (by kernel_rfl)) (hx := GL.hidN_by (N := putty_for_N) (by kernel_rfl))) (hN := putty_for_sc.nd))
  (GL.gb_cons (GL.gs_ret (GL.ge_sub (GL.go_of GL.ge_int) (GL.go_of (GL.ge_fdiv (GL.go_of (GL.ge_sub (GL.go_of GL.ge_int) (GL.go_var 2))) (GL.go_of GL.ge_int)))))
  GL.gb_nil))))
theorem putty_for_ok (E : En w K mg base) : Ok w K mg base 1 (He.fAd K ("putty_for", none)) ["panes", "each"] putty_for := by
  obtain ⟨fd, F⟩ := E.def_ 42 (d := d43) rfl
  have F : FunD K "putty_for" "putty_for" (defArgs s43) (defBody s43) (defScope s43) [] [] (He.fAd K ("putty_for", none)) fd := F
  exact ⟨fd, putty_for_core E F, FunD.bindsN F fun _ _ _ _ _ _ us hl => match us, hl with | [_, _], _ => rfl, F.kp⟩
/-! ### Glass.__init__ -/
def Glass_init_N : List Str := ["self", "whole", "above"]
noncomputable def Glass_init_b : GL.Sl → GL.So :=
  (GL.sSeq (GL.sIf (GL.mOr (GL.mBl (GL.m2 GL.ltD (GL.mVar 1) (GL.mCold (GL.mVal (.int 1))))) (GL.mNot (GL.mBl (GL.mChain GL.leD GL.leD (GL.mCold (GL.mVal (.int 0))) (GL.mVar 2) (GL.mVar 1))))) (GL.sSeq (GL.sRaise "BadPlan" (GL.mVal (.str "no glass")))
  GL.sNil) GL.sNil)
  (GL.sSeq (GL.sFld ["Glass"] "whole" (GL.plVar 0) false (GL.mFz (GL.mVar 1)))
  (GL.sSeq (GL.sFld ["Glass"] "above" (GL.plVar 0) false (GL.mFz (GL.mVar 2)))
  GL.sNil)))
noncomputable def Glass_init : List GL.D → GL.RF := GL.mDef 3 [true, true, true] Glass_init_b
theorem Glass_init_sc : FnScope Glass_init_N ["self", "whole", "above"] (defScope s44) := ⟨rfl, rfl, rfl, by decide +kernel, rfl, by decide +kernel, by decide +kernel⟩
theorem Glass_init_core (E : En w K mg base) {fd : FuncData} (F : FunD K "__init__" "Glass.__init__" (defArgs s44) (defBody s44) (defScope s44) [] [] (He.fAd K ("Glass", some "__init__")) fd) : FnOk PW w K mg base (L2.CX PW w) 1 (He.fAd K ("Glass", some "__init__")) fd ["self", "whole", "above"] (GL.Pr K (GK K) Glass_init) := by
  have hcd := GL.code_of F
  exact GL.fn_okC (N := Glass_init_N) (ms := [true, true, true]) (s := Glass_init_b) (pz := [0, 1, 2]) F Glass_init_sc (GL.pz_ok (ms := [true, true, true]) (pz := [0, 1, 2]) rfl).1 (GL.pz_ok (ms := [true, true, true]) (pz := [0, 1, 2]) rfl).2 rfl (fun A outer s0 H Ex hr => (GL.gb_cons (GL.gs_if (GL.GW.t (GL.gw_or (GL.gt_cmp GL.cLt (GL.go_var 1) (GL.go_of GL.ge_int)) (GL.gw_or1 (GL.gt_not (GL.gt_chain GL.cLe GL.cLe (GL.go_of GL.ge_int) (GL.go_var 2) (GL.go_var 1)))))) (GL.gb_cons (GL.gs_raise (E.xc rfl rfl rfl 18 19 rfl rfl) GL.ge_str)
  GL.gb_nil) GL.gb_nil)
  (GL.gb_cons (GL.gs_fld false (GL.ge_of (GL.go_var 1)) (GL.gpl_var 0) (fld_whole E))
  (GL.gb_cons (GL.gs_fld false (GL.ge_of (GL.go_var 2)) (GL.gpl_var 0) (fld_above E))
  GL.gb_nil))))
theorem Glass_init_ok (E : En w K mg base) : Ok w K mg base 1 (He.fAd K ("Glass", some "__init__")) ["self", "whole", "above"] Glass_init := by
  obtain ⟨fd, F⟩ := E.def_ 43 (d := d44) rfl
  have F : FunD K "__init__" "Glass.__init__" (defArgs s44) (defBody s44) (defScope s44) [] [] (He.fAd K ("Glass", some "__init__")) fd := F
  exact ⟨fd, Glass_init_core E F, FunD.bindsN F fun _ _ _ _ _ _ us hl => match us, hl with | [_, _, _], _ => rfl, F.kp⟩
/-! ### Pair.__init__ -/
def Pair_init_N : List Str := ["self", "one", "other"]
noncomputable def Pair_init_b : GL.Sl → GL.So :=
  (GL.sSeq (GL.sIf (GL.mBl (GL.m2 GL.ltD (GL.mCold (GL.mCall GL.min2D (GL.mCons (GL.mVar 1) (GL.mCons (GL.mVar 2) GL.mNil)))) (GL.mCold (GL.mVal (.int 1))))) (GL.sSeq (GL.sRaise "BadPlan" (GL.mVal (.str "no glasses")))
  GL.sNil) GL.sNil)
  (GL.sSeq (GL.sFld ["Pair"] "glasses" (GL.plVar 0) false (GL.mCall GL.tupD (GL.mCons (GL.mCold (GL.mMk "Glass" Glass_init (GL.agPl (GL.plVar 1) (GL.agPl (GL.plVar 1) GL.agNil)))) (GL.mCons (GL.mCold (GL.mMk "Glass" Glass_init (GL.agPl (GL.plVar 2) (GL.agPl (GL.plVar 2) GL.agNil)))) GL.mNil))))
  (GL.sSeq (GL.sFld ["Pair"] "time" (GL.plVar 0) false (GL.mVal (.int 0)))
  GL.sNil)))
noncomputable def Pair_init : List GL.D → GL.RF := GL.mDef 3 [true, true, true] Pair_init_b
theorem Pair_init_sc : FnScope Pair_init_N ["self", "one", "other"] (defScope s49) := ⟨rfl, rfl, rfl, by decide +kernel, rfl, by decide +kernel, by decide +kernel⟩
theorem Pair_init_core (E : En w K mg base) {fd : FuncData} (F : FunD K "__init__" "Pair.__init__" (defArgs s49) (defBody s49) (defScope s49) [] [] (He.fAd K ("Pair", some "__init__")) fd) : FnOk PW w K mg base (L2.CX PW w) 3 (He.fAd K ("Pair", some "__init__")) fd ["self", "one", "other"] (GL.Pr K (GK K) Pair_init) := by
  have hcd := GL.code_of F
  exact GL.fn_okC (N := Pair_init_N) (ms := [true, true, true]) (s := Pair_init_b) (pz := [0, 1, 2]) F Pair_init_sc (GL.pz_ok (ms := [true, true, true]) (pz := [0, 1, 2]) rfl).1 (GL.pz_ok (ms := [true, true, true]) (pz := [0, 1, 2]) rfl).2 rfl (fun A outer s0 H Ex hr => (GL.gb_cons (GL.gs_if (GL.gt_cmp GL.cLt (GL.go_of (GL.ge_bltn (GL.cMin2 rfl) (GL.ga_cons (GL.go_var 1) (GL.ga_cons (GL.go_var 2) GL.ga_nil)) (b_min E))) (GL.go_of GL.ge_int)) (GL.gb_cons (GL.gs_raise (E.xc rfl rfl rfl 18 19 rfl rfl) GL.ge_str)
  GL.gb_nil) GL.gb_nil)
  (GL.gb_cons (GL.gs_fld false (GL.ge_tup (GL.ga_cons (GL.go_of (GL.ge_makeD (Glass_init_ok E) (He.mkr_ok (E.fact 55 rfl)) (hr.mono (by decide)) (g_Glass E) (GL.gag_pl (GL.gpl_var 1) (GL.gag_pl (GL.gpl_var 1) GL.gag_nil)))) (GL.ga_cons (GL.go_of (GL.ge_makeD (Glass_init_ok E) (He.mkr_ok (E.fact 55 rfl)) (hr.mono (by decide)) (g_Glass E) (GL.gag_pl (GL.gpl_var 2) (GL.gag_pl (GL.gpl_var 2) GL.gag_nil)))) GL.ga_nil))) (GL.gpl_var 0) (fld_glasses E))
  (GL.gb_cons (GL.gs_fld false GL.ge_int (GL.gpl_var 0) (fld_time E))
  GL.gb_nil))))
theorem Pair_init_ok (E : En w K mg base) : Ok w K mg base 3 (He.fAd K ("Pair", some "__init__")) ["self", "one", "other"] Pair_init := by
  obtain ⟨fd, F⟩ := E.def_ 48 (d := d49) rfl
  have F : FunD K "__init__" "Pair.__init__" (defArgs s49) (defBody s49) (defScope s49) [] [] (He.fAd K ("Pair", some "__init__")) fd := F
  exact ⟨fd, Pair_init_core E F, FunD.bindsN F fun _ _ _ _ _ _ us hl => match us, hl with | [_, _, _], _ => rfl, F.kp⟩
/-! ### _law_dice -/
def law_dice_N : List Str := ["cell"]
noncomputable def law_dice_b : GL.Sl → GL.So :=
  (GL.sSeq (GL.sIf (GL.mBl (GL.mChain GL.ltD GL.ltD (GL.mCold (GL.m2 GL.subD (GL.mCold (GL.mVal (.int 0))) (GL.mCold (GL.mVal (.int 10))))) (GL.mVar 0) (GL.mCold (GL.mVal (.int 10))))) (GL.sSeq (GL.sRet (GL.mCall GL.lstD (GL.mCons (GL.mCold (GL.mCall GL.absD (GL.mCons (GL.mVar 0) GL.mNil))) (GL.mCons (GL.mCold (GL.mVal (.int 0))) (GL.mCons (GL.mCold (GL.mVal (.int 2))) GL.mNil)))))
  GL.sNil) GL.sNil)
  (GL.sSeq (GL.sRet (GL.mCall GL.lstD (GL.mCons (GL.mVar 0) (GL.mCons (GL.mCold (GL.m2 GL.addD (GL.mCold (GL.mVal (.int 1))) (GL.mCold (GL.m2 GL.modD (GL.mCold (GL.mCall GL.intD (GL.mCons (GL.mVar 0) GL.mNil))) (GL.mCold (GL.mVal (.int 1009))))))) (GL.mCons (GL.mCold (GL.mCall GL.intD (GL.mCons (GL.mCold (GL.m2 GL.geD (GL.mVar 0) (GL.mCold (GL.m2 GL.powD (GL.mCold (GL.mVal (.int 10))) (GL.mCold (GL.mVal (.int 18))))))) GL.mNil))) GL.mNil)))))
  GL.sNil))
noncomputable def law_dice : List GL.D → GL.RF := GL.mDef 1 [true] law_dice_b
theorem law_dice_sc : FnScope law_dice_N ["cell"] (defScope s53) := ⟨rfl, rfl, rfl, by decide +kernel, rfl, by decide +kernel, by decide +kernel⟩
theorem law_dice_core (E : En w K mg base) {fd : FuncData} (F : FunD K "_law_dice" "_law_dice" (defArgs s53) (defBody s53) (defScope s53) [] [] (He.fAd K ("_law_dice", none)) fd) : FnOk PW w K mg base (L2.CX PW w) 1 (He.fAd K ("_law_dice", none)) fd ["cell"] (GL.Pr K (GK K) law_dice) := by
  have hcd := GL.code_of F
  exact GL.fn_okC (N := law_dice_N) (ms := [true]) (s := law_dice_b) (pz := [0]) F law_dice_sc (GL.pz_ok (ms := [true]) (pz := [0]) rfl).1 (GL.pz_ok (ms := [true]) (pz := [0]) rfl).2 rfl (fun A outer s0 H Ex hr => (GL.gb_cons (GL.gs_if (GL.gt_chain GL.cLt GL.cLt (GL.go_of (GL.ge_sub (GL.go_of GL.ge_int) (GL.go_of GL.ge_int))) (GL.go_var 0) (GL.go_of GL.ge_int)) (GL.gb_cons (GL.gs_ret (GL.ge_lst (GL.ga_cons (GL.go_of (GL.ge_bltn GL.cAbs (GL.ga_cons (GL.go_var 0) GL.ga_nil) (b_abs E))) (GL.ga_cons (GL.go_of GL.ge_int) (GL.ga_cons (GL.go_of GL.ge_int) GL.ga_nil)))))
  GL.gb_nil) GL.gb_nil)
  (GL.gb_cons (GL.gs_ret (GL.ge_lst (GL.ga_cons (GL.go_var 0) (GL.ga_cons (GL.go_of (GL.ge_add (GL.go_of GL.ge_int) (GL.go_of (GL.ge_mod (GL.go_of (GL.ge_type GL.cInt (GL.ga_cons (GL.go_var 0) GL.ga_nil) (b_int E))) (GL.go_of GL.ge_int))))) (GL.ga_cons (GL.go_of (GL.ge_type GL.cInt (GL.ga_cons (GL.go_of (GL.ge_cmp GL.cGe (GL.go_var 0) (GL.go_of (GL.ge_pow (GL.go_of GL.ge_int) (GL.go_of GL.ge_int))))) GL.ga_nil) (b_int E))) GL.ga_nil)))))
  GL.gb_nil)))
theorem law_dice_ok (E : En w K mg base) : Ok w K mg base 1 (He.fAd K ("_law_dice", none)) ["cell"] law_dice := by
  obtain ⟨fd, F⟩ := E.def_ 52 (d := d53) rfl
  have F : FunD K "_law_dice" "_law_dice" (defArgs s53) (defBody s53) (defScope s53) [] [] (He.fAd K ("_law_dice", none)) fd := F
  exact ⟨fd, law_dice_core E F, FunD.bindsN F fun _ _ _ _ _ _ us hl => match us, hl with | [_], _ => rfl, F.kp⟩
/-! ### _law_roll -/
def law_roll_N : List Str := ["dice", "many", "found"]
noncomputable def law_roll_b : GL.Sl → GL.So :=
  (GL.sSeq (GL.sIf (GL.mOr (GL.mBl (GL.m2 GL.eqG (GL.m2 GL.ixD (GL.mVar 0) (GL.mCold (GL.mVal (.int 2)))) (GL.mCold (GL.mVal (.int 2))))) (GL.mAnd (GL.mBl (GL.m2 GL.eqG (GL.m2 GL.ixD (GL.mVar 0) (GL.mCold (GL.mVal (.int 2)))) (GL.mCold (GL.mVal (.int 1))))) (GL.mBl (GL.m2 GL.gtD (GL.m2 GL.ixD (GL.mVar 0) (GL.mCold (GL.mVal (.int 0)))) (GL.mCold (GL.mVal (.int 0))))))) (GL.sSeq (GL.sSet 2 false (GL.m2 GL.modD (GL.mCold (GL.mCall GL.intD (GL.mCons (GL.m2 GL.ixD (GL.mVar 0) (GL.mCold (GL.mVal (.int 0)))) GL.mNil))) (GL.mVar 1)))
  (GL.sSeq (GL.sIx (GL.plVar 0) (GL.mCold (GL.mVal (.int 0))) false (GL.m2 GL.fdivD (GL.m2 GL.ixD (GL.mVar 0) (GL.mCold (GL.mVal (.int 0)))) (GL.mVar 1)))
  (GL.sSeq (GL.sRet (GL.mFz (GL.mVar 2)))
  GL.sNil))) GL.sNil)
  (GL.sSeq (GL.sIx (GL.plVar 0) (GL.mCold (GL.mVal (.int 2))) false (GL.mVal (.int 0)))
  (GL.sSeq (GL.sIx (GL.plVar 0) (GL.mCold (GL.mVal (.int 0))) false (GL.m2 GL.modD (GL.mCold (GL.mCall GL.intD (GL.mCons (GL.mCold (GL.m2 GL.addD (GL.mCold (GL.m2 GL.addD (GL.mCold (GL.m2 GL.mulD (GL.m2 GL.ixD (GL.mVar 0) (GL.mCold (GL.mVal (.int 0)))) (GL.mCold (GL.mVal (.int 48271))))) (GL.mCold (GL.m2 GL.mulD (GL.m2 GL.ixD (GL.mVar 0) (GL.mCold (GL.mVal (.int 1)))) (GL.mCold (GL.mVal (.int 69621))))))) (GL.mCold (GL.mVal (.int 11))))) GL.mNil))) (GL.mCold (GL.mVal (.int 2147483647)))))
  (GL.sSeq (GL.sIx (GL.plVar 0) (GL.mCold (GL.mVal (.int 1))) false (GL.m2 GL.addD (GL.m2 GL.ixD (GL.mVar 0) (GL.mCold (GL.mVal (.int 1)))) (GL.mCold (GL.mVal (.int 1)))))
  (GL.sSeq (GL.sRet (GL.m2 GL.modD (GL.mCold (GL.mCall GL.intD (GL.mCons (GL.mCold (GL.m2 GL.addD (GL.mCold (GL.m2 GL.fdivD (GL.m2 GL.ixD (GL.mVar 0) (GL.mCold (GL.mVal (.int 0)))) (GL.mCold (GL.mVal (.int 7))))) (GL.m2 GL.ixD (GL.mVar 0) (GL.mCold (GL.mVal (.int 0)))))) GL.mNil))) (GL.mVar 1)))
  GL.sNil)))))
noncomputable def law_roll : List GL.D → GL.RF := GL.mDef 3 [true, true] law_roll_b
theorem law_roll_sc : FnScope law_roll_N ["dice", "many"] (defScope s54) := ⟨rfl, rfl, rfl, by decide +kernel, rfl, by decide +kernel, by decide +kernel⟩
theorem law_roll_core (E : En w K mg base) {fd : FuncData} (F : FunD K "_law_roll" "_law_roll" (defArgs s54) (defBody s54) (defScope s54) [] [] (He.fAd K ("_law_roll", none)) fd) : FnOk PW w K mg base (L2.CX PW w) 1 (He.fAd K ("_law_roll", none)) fd ["dice", "many"] (GL.Pr K (GK K) law_roll) := by
  have hcd := GL.code_of F
  exact GL.fn_okC (N := law_roll_N) (ms := [true, true]) (s := law_roll_b) (pz := [0, 1]) F law_roll_sc (GL.pz_ok (ms := [true, true]) (pz := [0, 1]) rfl).1 (GL.pz_ok (ms := [true, true]) (pz := [0, 1]) rfl).2 rfl (fun A outer s0 H Ex hr => (GL.gb_cons (GL.gs_if (GL.GW.t (GL.gw_or (GL.gt_cmp (GL.cEq hr.units) (GL.go_ix (hu_of hr) (GL.go_var 0) (GL.go_of GL.ge_int)) (GL.go_of GL.ge_int)) (GL.gw_or1 (GL.GW.t (GL.gw_and (GL.gt_cmp (GL.cEq hr.units) (GL.go_ix (hu_of hr) (GL.go_var 0) (GL.go_of GL.ge_int)) (GL.go_of GL.ge_int)) (GL.gw_and1 (GL.gt_cmp GL.cGt (GL.go_ix (hu_of hr) (GL.go_var 0) (GL.go_of GL.ge_int)) (GL.go_of GL.ge_int)))))))) (GL.gb_cons (GL.gs_set 2 false (GL.ge_mod (GL.go_of (GL.ge_type GL.cInt (GL.ga_cons (GL.go_ix (hu_of hr) (GL.go_var 0) (GL.go_of GL.ge_int)) GL.ga_nil) (b_int E))) (GL.go_var 1)) (hN := law_roll_sc.nd))
  (GL.gb_cons (GL.gs_ix (hu_of hr) false (GL.ge_fdiv (GL.go_ix (hu_of hr) (GL.go_var 0) (GL.go_of GL.ge_int)) (GL.go_var 1)) (GL.gpl_var 0) (GL.go_of GL.ge_int))
  (GL.gb_cons (GL.gs_ret (GL.ge_of (GL.go_var 2)))
  GL.gb_nil))) GL.gb_nil)
  (GL.gb_cons (GL.gs_ix (hu_of hr) false GL.ge_int (GL.gpl_var 0) (GL.go_of GL.ge_int))
  (GL.gb_cons (GL.gs_ix (hu_of hr) false (GL.ge_mod (GL.go_of (GL.ge_type GL.cInt (GL.ga_cons (GL.go_of (GL.ge_add (GL.go_of (GL.ge_add (GL.go_of (GL.ge_mul (GL.go_ix (hu_of hr) (GL.go_var 0) (GL.go_of GL.ge_int)) (GL.go_of GL.ge_int))) (GL.go_of (GL.ge_mul (GL.go_ix (hu_of hr) (GL.go_var 0) (GL.go_of GL.ge_int)) (GL.go_of GL.ge_int))))) (GL.go_of GL.ge_int))) GL.ga_nil) (b_int E))) (GL.go_of GL.ge_int)) (GL.gpl_var 0) (GL.go_of GL.ge_int))
  (GL.gb_cons (GL.gs_ix (hu_of hr) false (GL.ge_add (GL.go_ix (hu_of hr) (GL.go_var 0) (GL.go_of GL.ge_int)) (GL.go_of GL.ge_int)) (GL.gpl_var 0) (GL.go_of GL.ge_int))
  (GL.gb_cons (GL.gs_ret (GL.ge_mod (GL.go_of (GL.ge_type GL.cInt (GL.ga_cons (GL.go_of (GL.ge_add (GL.go_of (GL.ge_fdiv (GL.go_ix (hu_of hr) (GL.go_var 0) (GL.go_of GL.ge_int)) (GL.go_of GL.ge_int))) (GL.go_ix (hu_of hr) (GL.go_var 0) (GL.go_of GL.ge_int)))) GL.ga_nil) (b_int E))) (GL.go_var 1)))
  GL.gb_nil))))))
theorem law_roll_ok (E : En w K mg base) : Ok w K mg base 1 (He.fAd K ("_law_roll", none)) ["dice", "many"] law_roll := by
  obtain ⟨fd, F⟩ := E.def_ 53 (d := d54) rfl
  have F : FunD K "_law_roll" "_law_roll" (defArgs s54) (defBody s54) (defScope s54) [] [] (He.fAd K ("_law_roll", none)) fd := F
  exact ⟨fd, law_roll_core E F, FunD.bindsN F fun _ _ _ _ _ _ us hl => match us, hl with | [_, _], _ => rfl, F.kp⟩
/-! ### _law_rounds -/
def law_rounds_N : List Str := ["script", "most", "cells", "cell"]
noncomputable def law_rounds_b : GL.Sl → GL.So :=
  (GL.sSeq (GL.sSet 2 false (GL.mSl (GL.mVar 0) GL.ptNo (GL.ptSome (GL.mVar 1))))
  (GL.sSeq (GL.sIf (GL.mBl (GL.m2 GL.eqG (GL.mVar 2) (GL.mCold (GL.mCall GL.lstD GL.mNil)))) (GL.sSeq (GL.sSet 2 false (GL.mCall GL.lstD (GL.mCons (GL.mCold (GL.mVal (.int 0))) GL.mNil)))
  GL.sNil) GL.sNil)
  (GL.sSeq (GL.sRet (GL.mLc [3] (GL.mSrc (GL.mVar 2)) (GL.turnD (GL.tgName 3 false) GL.mTrue (GL.mFn law_dice (GL.agPl (GL.plVar 3) GL.agNil)) true)))
  GL.sNil)))
noncomputable def law_rounds : List GL.D → GL.RF := GL.mDef 4 [true, true] law_rounds_b
theorem law_rounds_sc : FnScope law_rounds_N ["script", "most"] (defScope s55) := ⟨rfl, rfl, rfl, by decide +kernel, rfl, by decide +kernel, by decide +kernel⟩
theorem law_rounds_core (E : En w K mg base) {fd : FuncData} (F : FunD K "_law_rounds" "_law_rounds" (defArgs s55) (defBody s55) (defScope s55) [] [] (He.fAd K ("_law_rounds", none)) fd) : FnOk PW w K mg base (L2.CX PW w) 2 (He.fAd K ("_law_rounds", none)) fd ["script", "most"] (GL.Pr K (GK K) law_rounds) := by
  have hcd := GL.code_of F
  exact GL.fn_okC (N := law_rounds_N) (ms := [true, true]) (s := law_rounds_b) (pz := [0, 1]) F law_rounds_sc (GL.pz_ok (ms := [true, true]) (pz := [0, 1]) rfl).1 (GL.pz_ok (ms := [true, true]) (pz := [0, 1]) rfl).2 rfl (fun A outer s0 H Ex hr => (GL.gb_cons (GL.gs_set 2 false (GL.ge_sl (GL.go_var 0) GL.gpt_no (GL.gpt_some (GL.go_var 1))) (hN := law_rounds_sc.nd))
  (GL.gb_cons (GL.gs_if (GL.gt_cmp (GL.cEq hr.units) (GL.go_var 2) (GL.go_of (GL.ge_lst GL.ga_nil))) (GL.gb_cons (GL.gs_set 2 false (GL.ge_lst (GL.ga_cons (GL.go_of GL.ge_int) GL.ga_nil)) (hN := law_rounds_sc.nd))
  GL.gb_nil) GL.gb_nil)
  (GL.gb_cons (GL.gs_ret (GL.ge_lcL [("cell", 3)] true (GL.git_any (GL.go_var 2)) (fun s0 H C cl fp => ⟨(GL.gtv_name 3 (hN := law_rounds_sc.nd)), GL.gts_nil, (GL.ge_callD (law_dice_ok E) (hr.mono (by decide)) (g_law_dice E) (GL.gag_pl (GL.gpl_var 3) GL.gag_nil))⟩) (blkOk_by (by kernel_rfl)) (hN := law_rounds_sc.nd)))
  GL.gb_nil))))
theorem law_rounds_ok (E : En w K mg base) : Ok w K mg base 2 (He.fAd K ("_law_rounds", none)) ["script", "most"] law_rounds := by
  obtain ⟨fd, F⟩ := E.def_ 54 (d := d55) rfl
  have F : FunD K "_law_rounds" "_law_rounds" (defArgs s55) (defBody s55) (defScope s55) [] [] (He.fAd K ("_law_rounds", none)) fd := F
  exact ⟨fd, law_rounds_core E F, FunD.bindsN F fun _ _ _ _ _ _ us hl => match us, hl with | [_, _], _ => rfl, F.kp⟩
/-! ### law -/
def law_N : List Str := ["script", "dice", "many", "desk", "whats", "k", "j"]
noncomputable def law_b : GL.Sl → GL.So :=
  (GL.sSeq (GL.sForMv (GL.mFn law_rounds (GL.agPl (GL.plVar 0) (GL.agVal (GL.mCold (GL.mVal (.int 1))) GL.agNil))) (GL.tgName 1 true) (GL.sSeq (GL.sPar [(GL.tgName 2 false), (GL.tgName 3 true)] (GL.mvCons (GL.m2 GL.addD (GL.mCold (GL.mVal (.int 1))) (GL.mCold (GL.mFn law_roll (GL.agPl (GL.plVar 1) (GL.agVal (GL.mCold (GL.mVal (.int 90))) GL.agNil))))) (GL.mvCons (GL.mMk "Desk" Desk_init GL.agNil) GL.mvNil)))
  (GL.sUnd 4 (GL.sSet 5 false (GL.mFn law_roll (GL.agPl (GL.plVar 1) (GL.agVal (GL.mCold (GL.mVal (.int 8))) GL.agNil)))) (GL.undGo us [(GL.mMt [("Desk", Desk_undo)] "undo" (GL.rPl (GL.plVar 3)) GL.agNil), (GL.mMk "Pair" Pair_init (GL.agVal (GL.mCold (GL.mVal (.int 0))) (GL.agPl (GL.plVar 2) GL.agNil))), (GL.mFn putty_for (GL.agVal (GL.mCold (GL.mCall GL.lstD GL.mNil)) (GL.agVal (GL.mCold (GL.m2 GL.subD (GL.mCold (GL.mVal (.int 0))) (GL.mVar 2))) GL.agNil))), (GL.mFn read_line (GL.agVal (GL.mCold (GL.m2 GL.mulS (GL.mCold (GL.mVal (.str "x"))) (GL.mVar 2))) GL.agNil)), (GL.mFn check_pane (GL.agPl (GL.plVar 2) (GL.agPl (GL.plVar 2) (GL.agVal (GL.mCold (GL.mVal (.int 1))) (GL.agVal (GL.mCold (GL.mVal (.int 301))) GL.agNil))))), (GL.mMt [("Bottle", Bottle_level)] "level" (GL.rVal (GL.mCold (GL.mMk "Bottle" Bottle_init (GL.agVal (GL.mCold (GL.mCall GL.lstD (GL.mCons (GL.mVar 2) GL.mNil))) GL.agNil)))) (GL.agVal (GL.mCold (GL.m2 GL.addD (GL.mVar 2) (GL.mCold (GL.mVal (.int 1))))) GL.agNil)), (GL.mFn step_of (GL.agVal (GL.mCold (GL.m2 GL.mulS (GL.mCold (GL.mVal (.str "x"))) (GL.mVar 2))) GL.agNil)), (GL.mMt [("Scope", Scope_tube)] "tube" (GL.rVal (GL.mCold (GL.mMk "Scope" Scope_init (GL.agPl (GL.plVar 2) (GL.agVal (GL.mCold (GL.mVal (.int 1))) (GL.agVal (GL.mCold (GL.m2 GL.subD (GL.mCold (GL.mVal (.int 0))) (GL.mVar 2))) GL.agNil)))))) GL.agNil)] 5 (GL.mCold (GL.m2 GL.addD (GL.mCold (GL.mLc [6] (GL.mRng GL.rng1 (GL.mCons (GL.mCold (GL.mVal (.int 8))) GL.mNil)) (GL.turnD (GL.tgName 6 false) GL.mTrue (GL.m2 GL.eqG (GL.mVar 6) (GL.mVar 5)) false))) (GL.mCold (GL.mCall GL.lstD (GL.mCons (GL.mCold (GL.mVal (.bl true))) GL.mNil))))) (GL.sSeq (GL.sRet (GL.mVal (.bl false)))
  GL.sNil)
  GL.sNil))))
  (GL.sSeq (GL.sRet (GL.mVal (.bl true)))
  GL.sNil))
noncomputable def law : List GL.D → GL.RF := GL.mDef 7 [true] law_b
theorem law_sc : FnScope law_N ["script"] (defScope s57) := ⟨rfl, rfl, rfl, by decide +kernel, rfl, by decide +kernel, by decide +kernel⟩
theorem law_core (E : En w K mg base) {fd : FuncData} (F : FunD K "law" "law" (defArgs s57) (defBody s57) (defScope s57) [] [] (He.fAd K ("law", none)) fd) : FnOk PW w K mg base (L2.CX PW w) 8 (He.fAd K ("law", none)) fd ["script"] (GL.Pr K (GK K) law) := by
  have hcd := GL.code_of F
  exact GL.fn_okC (N := law_N) (ms := [true]) (s := law_b) (pz := [0]) F law_sc (GL.pz_ok (ms := [true]) (pz := [0]) rfl).1 (GL.pz_ok (ms := [true]) (pz := [0]) rfl).2 rfl (fun A outer s0 H Ex hr => (GL.gb_cons (GL.gs_forMv (GL.ge_callD (law_rounds_ok E) (hr.mono (by decide)) (g_law_rounds E) (GL.gag_pl (GL.gpl_var 0) (GL.gag_val (GL.go_of GL.ge_int) GL.gag_nil))) (GL.gtg_name 1 true (hN := law_sc.nd)) (GL.gb_cons (GL.gs_par (GL.gv_cons (GL.ge_add (GL.go_of GL.ge_int) (GL.go_of (GL.ge_callD (law_roll_ok E) (hr.mono (by decide)) (g_law_roll E) (GL.gag_pl (GL.gpl_var 1) (GL.gag_val (GL.go_of GL.ge_int) GL.gag_nil))))) (GL.gv_cons (GL.ge_make0D (Desk_init_ok E) (He.mkr_ok (E.fact 52 rfl)) (hr.mono (by decide)) (g_Desk E)) GL.gv_nil)) (GL.gtgs_cons (GL.gtg_name 2 false (hN := law_sc.nd)) (GL.gtgs_cons (GL.gtg_name 3 true (hN := law_sc.nd)) GL.gtgs_nil)))
  (GL.gb_und (iw := 4) (ik := 5) (k := 5) (ls := GL.lamsIn (GL.nth (GL.forBody (GL.nth (defBody s57) 0)) 1)) (und_ok E) (hr.mono (by decide)) (.cons ⟨LamX.lamS_by (by kernel_rfl), rfl, fun _ _ _ _ _ => rfl, fun A outer s0 H Ex f c hr => (GL.ge_meth0D (GL.gr_pl (GL.gpl_var 3)) (GL.mtok_cons (Desk_undo_ok E) (hr.mono (by decide)) (He.cls_ok (E.fact 51 rfl)) (He.meth_ok (E.fact 90 rfl)) GL.mtok_nil))⟩
  (.cons ⟨LamX.lamS_by (by kernel_rfl), rfl, fun _ _ _ _ _ => rfl, fun A outer s0 H Ex f c hr => (GL.ge_makeD (Pair_init_ok E) (He.mkr_ok (E.fact 58 rfl)) (hr.mono (by decide)) (g_Pair E) (GL.gag_val (GL.go_of GL.ge_int) (GL.gag_pl (GL.gpl_var 2) GL.gag_nil)))⟩
  (.cons ⟨LamX.lamS_by (by kernel_rfl), rfl, fun _ _ _ _ _ => rfl, fun A outer s0 H Ex f c hr => (GL.ge_callD (putty_for_ok E) (hr.mono (by decide)) (g_putty_for E) (GL.gag_val (GL.go_of (GL.ge_lst GL.ga_nil)) (GL.gag_val (GL.go_of (GL.ge_sub (GL.go_of GL.ge_int) (GL.go_var 2))) GL.gag_nil)))⟩
  (.cons ⟨LamX.lamS_by (by kernel_rfl), rfl, fun _ _ _ _ _ => rfl, fun A outer s0 H Ex f c hr => (GL.ge_callD (read_line_ok E) (hr.mono (by decide)) (g_read_line E) (GL.gag_val (GL.go_of (GL.ge_mulS (GL.go_of GL.ge_str) (GL.go_var 2))) GL.gag_nil))⟩
  (.cons ⟨LamX.lamS_by (by kernel_rfl), rfl, fun _ _ _ _ _ => rfl, fun A outer s0 H Ex f c hr => (GL.ge_callD (check_pane_ok E) (hr.mono (by decide)) (g_check_pane E) (GL.gag_pl (GL.gpl_var 2) (GL.gag_pl (GL.gpl_var 2) (GL.gag_val (GL.go_of GL.ge_int) (GL.gag_val (GL.go_of GL.ge_int) GL.gag_nil)))))⟩
  (.cons ⟨LamX.lamS_by (by kernel_rfl), rfl, fun _ _ _ _ _ => rfl, fun A outer s0 H Ex f c hr => (GL.ge_methD (GL.gr_val (GL.go_of (GL.ge_makeD (Bottle_init_ok E) (He.mkr_ok (E.fact 43 rfl)) (hr.mono (by decide)) (g_Bottle E) (GL.gag_val (GL.go_of (GL.ge_lst (GL.ga_cons (GL.go_var 2) GL.ga_nil))) GL.gag_nil)))) (GL.gag_val (GL.go_of (GL.ge_add (GL.go_var 2) (GL.go_of GL.ge_int))) GL.gag_nil) (GL.mtok_cons (Bottle_level_ok E) (hr.mono (by decide)) (He.cls_ok (E.fact 42 rfl)) (He.meth_ok (E.fact 69 rfl)) GL.mtok_nil))⟩
  (.cons ⟨LamX.lamS_by (by kernel_rfl), rfl, fun _ _ _ _ _ => rfl, fun A outer s0 H Ex f c hr => (GL.ge_callD (step_of_ok E) (hr.mono (by decide)) (g_step_of E) (GL.gag_val (GL.go_of (GL.ge_mulS (GL.go_of GL.ge_str) (GL.go_var 2))) GL.gag_nil))⟩
  (.cons ⟨LamX.lamS_by (by kernel_rfl), rfl, fun _ _ _ _ _ => rfl, fun A outer s0 H Ex f c hr => (GL.ge_meth0D (GL.gr_val (GL.go_of (GL.ge_makeD (Scope_init_ok E) (He.mkr_ok (E.fact 40 rfl)) (hr.mono (by decide)) (g_Scope E) (GL.gag_pl (GL.gpl_var 2) (GL.gag_val (GL.go_of GL.ge_int) (GL.gag_val (GL.go_of (GL.ge_sub (GL.go_of GL.ge_int) (GL.go_var 2))) GL.gag_nil)))))) (GL.mtok_cons (Scope_tube_ok E) (hr.mono (by decide)) (He.cls_ok (E.fact 39 rfl)) (He.meth_ok (E.fact 60 rfl)) GL.mtok_nil))⟩
  .nil)))))))) (by decide +kernel) (E.tb _ (.tail _ (.tail _ (.head _)))) hcd (GL.gOf_mem (.tail _ (.tail _ (.head _)))) (GL.gOf_one (.tail _ (.tail _ (.head _))) E.nd) rfl rfl law_sc.nd rfl rfl rfl (by first | exact .inl rfl | exact .inr (.inl rfl)) (by decide) (GL.gs_set 5 false (GL.ge_callD (law_roll_ok E) (hr.mono (by decide)) (g_law_roll E) (GL.gag_pl (GL.gpl_var 1) (GL.gag_val (GL.go_of GL.ge_int) GL.gag_nil))) (hN := law_sc.nd)) (GL.go_of (GL.ge_add (GL.go_of (GL.ge_lcL [("j", 6)] false (GL.GIt.l (GL.git_range1 (b_range E) (GL.ga_cons (GL.go_of GL.ge_int) GL.ga_nil))) (fun s0 H C cl fp => ⟨(GL.gtv_name 6 (hN := law_sc.nd)), GL.gts_nil, (GL.ge_cmp (GL.cEq hr.units) (GL.go_var 6) (GL.go_var 5))⟩) (blkOk_by (by kernel_rfl)) (hN := law_sc.nd))) (GL.go_of (GL.ge_lst (GL.ga_cons (GL.go_of GL.ge_bl) GL.ga_nil))))) (GL.gb_cons (GL.gs_ret GL.ge_bl)
  GL.gb_nil)
  GL.gb_nil rfl (by decide) (by decide) (by decide) (by decide) (by decide))))
  (GL.gb_cons (GL.gs_ret GL.ge_bl)
  GL.gb_nil)))
end
end GP
namespace GL
open PySem PySem.Spec PyProof.Rows L2
/-! ### reckoning the combinators: what comes next has a name, so that nothing is reckoned ahead of its time -/
theorem szL {n : Nat} (h : n < 100) : n ≤ sizeLine := by
  have : (100 : Nat) ≤ sizeLine := by decide
  omega
section ev
variable {α β : Type} {x : α} {Γ Γ1 Γ2 : Sl} {q q1 b : Bool} {e : Ex} {f : α → Sl → Rg β} {k : α → Sl → So} {ks s s1 s2 : Sl → So} {m ma mb mc me : Sl → Re} {mt mt1 mt2 : Sl → Rg Bool} {d da db : D} {ds bs : List D} {i j : Nat} {t : Tg} {ts : List Tg} {mu mi' mj' : Bool} {ml : Sl → Rg (List D)} {mg : Sl → Rg (List Ag)} {pl : Sl → Option Place} {p : Place} {as : List Ag} {g : List D → RF} {cs : List Str} {n c : Str} {mi : Sl → Rg (List D × Bool)}
theorem r_bo : (Rg.ok x Γ q).bind f = (f x Γ).andq q := rfl
theorem r_be : (Rg.er e Γ : Rg α).bind f = .er e Γ := rfl
theorem r_bs : (Rg.st : Rg α).bind f = .st := rfl
theorem r_ao : (Rg.ok x Γ q1).andq q = .ok x Γ (q && q1) := rfl
theorem r_ae : (Rg.er e Γ : Rg α).andq q = .er e Γ := rfl
theorem r_as : (Rg.st : Rg α).andq q = .st := rfl
theorem r_os : Rg.of (some x) Γ = .ok x Γ true := rfl
theorem r_on : Rg.of (none : Option α) Γ = .st := rfl
theorem r_gt : (Rg.ok x Γ q).gd true = .ok x Γ q := rfl
theorem r_gq : (Rg.ok x Γ true).gd b = .ok x Γ true := by cases b <;> rfl
theorem r_ge : (Rg.er e Γ : Rg α).gd b = .er e Γ := rfl
theorem r_so : (Rg.ok x Γ q).so k = k x Γ := rfl
theorem r_se : (Rg.er e Γ : Rg α).so k = .er e Γ := rfl
theorem s_nx : (So.nx Γ).seq ks = ks Γ := rfl
theorem s_rt : (So.rt d Γ).seq ks = .rt d Γ := rfl
theorem s_bk : (So.bk Γ).seq ks = .bk Γ := rfl
theorem s_ct : (So.ct Γ).seq ks = .ct Γ := rfl
theorem s_er : (So.er e Γ).seq ks = .er e Γ := rfl
theorem e_Val : mVal d Γ = .ok d Γ true := rfl
def kOf (g : α → Option β) (x : α) (Γ : Sl) : Rg β := .of (g x) Γ
theorem k_Of {g : α → Option β} : kOf g x Γ = .of (g x) Γ := rfl
def kOk (x : α) (Γ : Sl) : Rg α := .ok x Γ true
theorem k_Ok : kOk x Γ = .ok x Γ true := rfl
def kVar (Γ : Sl) : Option (Option D) → Re | some (some d) => .ok d Γ true | _ => .st
theorem e_Var : mVar i Γ = kVar Γ Γ[i]? := rfl
theorem k_Var : kVar Γ (some (some d)) = .ok d Γ true := rfl
def kFz (d : D) (Γ : Sl) : Re := if d.fz = true then .ok d Γ true else .st
def kFz' (d : D) (Γ : Sl) : Bool → Re | true => .ok d Γ true | false => .st
theorem e_Fz : mFz m Γ = (m Γ).bind kFz := rfl
theorem k_Fz : kFz d Γ = kFz' d Γ d.fz := by
  unfold kFz
  cases d.fz <;> rfl
theorem k_Fz' : kFz' d Γ true = .ok d Γ true := rfl
def kCold (d : D) (Γ : Sl) : Re := .ok d.cold Γ true
theorem e_Cold : mCold m Γ = (m Γ).bind kCold := rfl
theorem k_Cold : kCold d Γ = .ok d.cold Γ true := rfl
def k2 (g : D → D → Option D) (mb : Sl → Re) (da : D) (Γ1 : Sl) : Re := ((mb Γ1).gd da.fz).bind (kOf (g da))
theorem e_2 {g : D → D → Option D} : m2 g ma mb Γ = (ma Γ).bind (k2 g mb) := rfl
theorem k_2 {g : D → D → Option D} : k2 g mb da Γ = ((mb Γ).gd da.fz).bind (kOf (g da)) := rfl
theorem e_Tru : mTru m Γ = (m Γ).bind (kOf D.truth) := rfl
def kBl : D → Sl → Rg Bool | .bl b, Γ => .ok b Γ true | _, _ => .st
theorem e_Bl : mBl m Γ = (m Γ).bind kBl := by
  have : kBl = fun d Γ => match d with | .bl b => .ok b Γ true | _ => .st := by
    funext d Γ
    cases d <;> rfl
  rw [this]
  rfl
theorem k_Bl : kBl (.bl b) Γ = .ok b Γ true := rfl
def kB (b : Bool) (Γ : Sl) : Re := .ok (.bl b) Γ true
theorem e_B : mB mt Γ = (mt Γ).bind kB := rfl
theorem k_B : kB b Γ = .ok (.bl b) Γ true := rfl
def kNot (b : Bool) (Γ : Sl) : Rg Bool := .ok (!b) Γ true
theorem e_Not : mNot mt Γ = (mt Γ).bind kNot := rfl
theorem k_Not : kNot b Γ = .ok (!b) Γ true := rfl
def kAnd (m : Sl → Rg Bool) (b : Bool) (Γ : Sl) : Rg Bool := if b = true then m Γ else .ok false Γ true
theorem e_And : mAnd mt1 mt2 Γ = (mt1 Γ).bind (kAnd mt2) := rfl
theorem k_AndT : kAnd mt true Γ = mt Γ := rfl
theorem k_AndF : kAnd mt false Γ = .ok false Γ true := rfl
def kOr (m : Sl → Rg Bool) (b : Bool) (Γ : Sl) : Rg Bool := if b = true then .ok true Γ true else m Γ
theorem e_Or : mOr mt1 mt2 Γ = (mt1 Γ).bind (kOr mt2) := rfl
theorem k_OrT : kOr mt true Γ = .ok true Γ true := rfl
theorem k_OrF : kOr mt false Γ = mt Γ := rfl
def kIfE (m1 m2 : Sl → Rg α) (b : Bool) (Γ : Sl) : Rg α := if b = true then m1 Γ else m2 Γ
theorem e_If {m1 m2 : Sl → Rg α} : mIf mt m1 m2 Γ = (mt Γ).bind (kIfE m1 m2) := rfl
theorem k_IfET {m1 m2 : Sl → Rg α} : kIfE m1 m2 true Γ = m1 Γ := rfl
theorem k_IfEF {m1 m2 : Sl → Rg α} : kIfE m1 m2 false Γ = m2 Γ := rfl
theorem e_True : mTrue Γ = .ok true Γ true := rfl
def kCh3 (f' : D → D → Option D) (mc : Sl → Re) (db : D) (Γ : Sl) : Option D → Re
  | some (.bl true) => ((mc Γ).gd db.fz).bind (kOf (f' db))
  | some (.bl false) => .ok (.bl false) Γ true
  | _ => .st
def kCh2 (f f' : D → D → Option D) (mc : Sl → Re) (da db : D) (Γ : Sl) : Re := kCh3 f' mc db Γ (f da db)
def kCh1 (f f' : D → D → Option D) (mb mc : Sl → Re) (da : D) (Γ : Sl) : Re := ((mb Γ).gd da.fz).bind (kCh2 f f' mc da)
theorem e_Chain {f f' : D → D → Option D} : mChain f f' ma mb mc Γ = (ma Γ).bind (kCh1 f f' mb mc) := by
  show (ma Γ).bind _ = _
  congr 1
theorem k_Ch1 {f f' : D → D → Option D} : kCh1 f f' mb mc da Γ = ((mb Γ).gd da.fz).bind (kCh2 f f' mc da) := rfl
theorem k_Ch2 {f f' : D → D → Option D} : kCh2 f f' mc da db Γ = kCh3 f' mc db Γ (f da db) := rfl
theorem k_Ch3T {f' : D → D → Option D} : kCh3 f' mc db Γ (some (.bl true)) = ((mc Γ).gd db.fz).bind (kOf (f' db)) := rfl
theorem k_Ch3F {f' : D → D → Option D} : kCh3 f' mc db Γ (some (.bl false)) = .ok (.bl false) Γ true := rfl
theorem e_Nil : mNil Γ = .ok [] Γ true := rfl
def kCons' (d : D) (ds : List D) (Γ : Sl) : Rg (List D) := .ok (d :: ds) Γ true
def kCons (ms : Sl → Rg (List D)) (d : D) (Γ : Sl) : Rg (List D) := ((ms Γ).gd d.fz).bind (kCons' d)
theorem e_Cons : mCons m ml Γ = (m Γ).bind (kCons ml) := rfl
theorem k_Cons : kCons ml d Γ = ((ml Γ).gd d.fz).bind (kCons' d) := rfl
theorem k_Cons' : kCons' d ds Γ = .ok (d :: ds) Γ true := rfl
theorem e_vNil : mvNil Γ = .ok [] Γ true := rfl
def kvCons (ms : Sl → Rg (List D)) (d : D) (Γ : Sl) : Rg (List D) := (ms Γ).bind (kCons' d)
theorem e_vCons : mvCons m ml Γ = (m Γ).bind (kvCons ml) := rfl
theorem k_vCons : kvCons ml d Γ = (ml Γ).bind (kCons' d) := rfl
theorem e_Call {g : List D → Option D} : mCall g ml Γ = (ml Γ).bind (kOf g) := rfl
theorem e_Neg : mNeg m Γ = (m Γ).bind (kOf negD) := rfl
theorem e_Fld : mFld cs n m Γ = (m Γ).bind (kOf (D.fld cs n)) := rfl
theorem e_agNil : agNil Γ = .ok [] Γ true := rfl
def kAg2 (d : D) (as : List Ag) (Γ : Sl) : Bool → Rg (List Ag) | true => .ok (.val d :: as) Γ true | false => .st
def kAg1 (d : D) (as : List Ag) (Γ : Sl) : Rg (List Ag) := kAg2 d as Γ d.fz
def kAg (ms : Sl → Rg (List Ag)) (d : D) (Γ : Sl) : Rg (List Ag) := (ms Γ).bind (kAg1 d)
theorem e_agVal : agVal m mg Γ = (m Γ).bind (kAg mg) := by
  show (m Γ).bind _ = _
  congr 1
  funext d Γ1
  show (mg Γ1).bind _ = _
  unfold kAg
  congr 1
  funext as Γ2
  show _ = kAg2 d as Γ2 d.fz
  cases d.fz <;> rfl
theorem k_Ag : kAg mg d Γ = (mg Γ).bind (kAg1 d) := rfl
theorem k_Ag1 : kAg1 d as Γ = kAg2 d as Γ d.fz := rfl
theorem k_Ag2 : kAg2 d as Γ true = .ok (.val d :: as) Γ true := rfl
def agOf (d : D) (p : Place) : Bool → Ag | true => .val d | false => .own p.1 p.2
theorem agT : agOf d p true = .val d := rfl
theorem agF {l : List Nat} : agOf d (i, l) false = .own i l := rfl
theorem agOf_eq : (if d.fz = true then Ag.val d else Ag.own p.1 p.2) = agOf d p d.fz := by cases d.fz <;> rfl
def kPl2 (p : Place) (d : D) (as : List Ag) (Γ : Sl) : Rg (List Ag) := .ok (agOf d p d.fz :: as) Γ true
def kPl1 (ms : Sl → Rg (List Ag)) (Γ : Sl) (p : Place) : Option D → Rg (List Ag)
  | some d => ((ms Γ).gd (d.fz || p.2.isEmpty)).bind (kPl2 p d)
  | none => .st
def kPl (ms : Sl → Rg (List Ag)) (Γ : Sl) : Option Place → Rg (List Ag)
  | some p => kPl1 ms Γ p (getP Γ p)
  | none => .st
theorem e_agPl : agPl pl mg Γ = kPl mg Γ (pl Γ) := by
  unfold agPl kPl
  cases pl Γ with
  | none => rfl
  | some p =>
    show (match getP Γ p with | some d => _ | none => _) = kPl1 mg Γ p (getP Γ p)
    cases getP Γ p with
    | none => rfl
    | some d =>
      show ((mg Γ).gd _).bind _ = ((mg Γ).gd _).bind _
      congr 1
      funext as Γ2
      rw [agOf_eq]
      rfl
theorem k_Pl : kPl mg Γ (some p) = kPl1 mg Γ p (getP Γ p) := rfl
theorem k_Pl1 {l : List Nat} : kPl1 mg Γ (i, l) (some d) = ((mg Γ).gd (d.fz || l.isEmpty)).bind (kPl2 (i, l) d) := rfl
theorem k_Pl2 : kPl2 p d as Γ = .ok (agOf d p d.fz :: as) Γ true := rfl
theorem e_plVar : plVar i Γ = some (i, []) := rfl
def kpF2 (p : Place) : Option Nat → Option Place | some j => some (p.1, p.2 ++ [j]) | none => none
def kfI (cs : List Str) (n : Str) : D → Option Nat
  | .nd _ (.ins c fs) _ => if c ∈ cs then idxOf fs n else none
  | _ => none
def kpF1 (cs : List Str) (n : Str) (p : Place) : Option D → Option Place
  | some d => kpF2 p (kfI cs n d)
  | none => none
def kpF (cs : List Str) (n : Str) (Γ : Sl) : Option Place → Option Place
  | some p => kpF1 cs n p (getP Γ p)
  | none => none
theorem e_plFld : plFld cs n pl Γ = kpF cs n Γ (pl Γ) := by
  unfold plFld kpF
  cases pl Γ with
  | none => rfl
  | some p =>
    show (match getP Γ p with | some (.nd _ (.ins c fs) _) => _ | _ => _) = kpF1 cs n p (getP Γ p)
    cases getP Γ p with
    | none => rfl
    | some d =>
      cases d with
      | nd o k l =>
        cases k with
        | ins c fs =>
          show (if c ∈ cs then _ else _) = kpF2 p (if c ∈ cs then idxOf fs n else none)
          by_cases h : c ∈ cs
          · rw [if_pos h, if_pos h]
            cases idxOf fs n <;> rfl
          · rw [if_neg h, if_neg h]
            rfl
        | _ => rfl
      | _ => rfl
theorem k_pF : kpF cs n Γ (some p) = kpF1 cs n p (getP Γ p) := rfl
theorem k_pF1 : kpF1 cs n p (some d) = kpF2 p (kfI cs n d) := rfl
theorem k_pF2 {l : List Nat} : kpF2 (i, l) (some j) = some (i, l ++ [j]) := rfl
def krP1 (Γ : Sl) (p : Place) : Option D → Rg (Ag × D) | some d => .ok (agOf d p d.fz, d) Γ true | none => .st
def krP (Γ : Sl) : Option Place → Rg (Ag × D) | some p => krP1 Γ p (getP Γ p) | none => .st
theorem e_rPl : rPl pl Γ = krP Γ (pl Γ) := by
  unfold rPl krP
  cases pl Γ with
  | none => rfl
  | some p =>
    show (match getP Γ p with | some d => _ | none => _) = krP1 Γ p (getP Γ p)
    cases getP Γ p with
    | none => rfl
    | some d =>
      show Rg.ok (_, _) _ _ = Rg.ok (_, _) _ _
      rw [agOf_eq]
theorem k_rP : krP Γ (some p) = krP1 Γ p (getP Γ p) := rfl
theorem k_rP1 : krP1 Γ p (some d) = .ok (agOf d p d.fz, d) Γ true := rfl
def krV1 (d : D) (Γ : Sl) : Bool → Rg (Ag × D) | true => .ok (.val d, d) Γ true | false => .st
def krV (d : D) (Γ : Sl) : Rg (Ag × D) := krV1 d Γ d.fz
theorem e_rVal : rVal m Γ = (m Γ).bind krV := by
  show (m Γ).bind _ = _
  congr 1
  funext d Γ1
  show _ = krV1 d Γ1 d.fz
  cases d.fz <;> rfl
theorem k_rV : krV d Γ = krV1 d Γ d.fz := rfl
theorem k_rV1 : krV1 d Γ true = .ok (.val d, d) Γ true := rfl
theorem e_Fn : mFn g mg Γ = (mg Γ).bind (runF g) := rfl
theorem e_Mk : mMk c g mg Γ = (mg Γ).bind (runMk c g) := rfl
def pick (cs : List (Str × (List D → RF))) (mn : Str) (d : D) : Option (List D → RF) := (d.cls mn).bind fun c => cs.lookup c
def kMt2 (g : List D → RF) (a : Ag) (as : List Ag) (Γ : Sl) : Re := runF g (a :: as) Γ
def kMt1 (ms : Sl → Rg (List Ag)) (a : Ag) (Γ : Sl) : Option (List D → RF) → Re
  | some f => ((ms Γ).gd a.fix).bind (kMt2 f a)
  | none => .st
def kMt (cs : List (Str × (List D → RF))) (mn : Str) (ms : Sl → Rg (List Ag)) (r : Ag × D) (Γ : Sl) : Re := kMt1 ms r.1 Γ (pick cs mn r.2)
theorem e_Mt {cs : List (Str × (List D → RF))} {mr : Sl → Rg (Ag × D)} : mMt cs n mr mg Γ = (mr Γ).bind (kMt cs n mg) := by
  show (mr Γ).bind _ = _
  congr 1
theorem k_Mt {cs : List (Str × (List D → RF))} {a : Ag} : kMt cs n mg (a, d) Γ = kMt1 mg a Γ (pick cs n d) := rfl
theorem k_Mt1 {a : Ag} : kMt1 mg a Γ (some g) = ((mg Γ).gd a.fix).bind (kMt2 g a) := rfl
theorem k_Mt2 {a : Ag} : kMt2 g a as Γ = runF g (a :: as) Γ := rfl
theorem a_fixV : (Ag.val d).fix = true := rfl
theorem a_fixO {l : List Nat} : (Ag.own i l).fix = l.isEmpty := rfl
def kRf (as : List Ag) (Γ : Sl) : RF → Re
  | .rt d bs => .ok d (giveA Γ as bs) (as.all Ag.isV)
  | .er e bs => .er e (giveA Γ as bs)
  | .st => .st
def kRun (g : List D → RF) (as : List Ag) (Γ : Sl) : Option (List D) → Re
  | some ds => kRf as Γ (g ds)
  | none => .st
theorem e_runF : runF g as Γ = kRun g as Γ (lendA Γ as) := by
  unfold runF kRun
  cases lendA Γ as with
  | none => rfl
  | some ds =>
    show (match g ds with | .rt d bs => _ | .er e bs => _ | .st => _) = kRf as Γ (g ds)
    cases g ds <;> rfl
theorem k_Run : kRun g as Γ (some ds) = kRf as Γ (g ds) := rfl
theorem k_Rf : kRf as Γ (.rt d bs) = .ok d (giveA Γ as bs) (as.all Ag.isV) := rfl
theorem k_RfE : kRf as Γ (.er e bs) = .er e (giveA Γ as bs) := rfl
def kMkR (Γ : Sl) : RF → Re
  | .rt .non (b :: _) => .ok b Γ true
  | .er e _ => .er e Γ
  | _ => .st
def kMk1 (c : Str) (g : List D → RF) (Γ : Sl) : Option (List D) → Re
  | some ds => kMkR Γ (g (.nd true (.ins c []) [] :: ds))
  | none => .st
def kMk (c : Str) (g : List D → RF) (as : List Ag) (Γ : Sl) : Bool → Re
  | true => kMk1 c g Γ (lendA Γ as)
  | false => .st
theorem e_runMk : runMk c g as Γ = kMk c g as Γ (as.all Ag.isV) := by
  unfold runMk
  cases as.all Ag.isV with
  | false => rfl
  | true =>
    rw [if_pos rfl]
    show _ = kMk1 c g Γ (lendA Γ as)
    cases lendA Γ as with
    | none => rfl
    | some ds =>
      show _ = kMkR Γ (g (.nd true (.ins c []) [] :: ds))
      show (match g (.nd true (.ins c []) [] :: ds) with | .rt .non (b :: _) => _ | .er e _ => _ | _ => _) = _
      cases g (.nd true (.ins c []) [] :: ds) with
      | rt d bs =>
        cases d with
        | non => cases bs <;> rfl
        | _ => rfl
      | er e bs => rfl
      | st => rfl
theorem k_Mk : kMk c g as Γ true = kMk1 c g Γ (lendA Γ as) := rfl
theorem k_Mk1 : kMk1 c g Γ (some ds) = kMkR Γ (g (.nd true (.ins c []) [] :: ds)) := rfl
theorem k_MkR : kMkR Γ (.rt .non (d :: bs)) = .ok d Γ true := rfl
theorem k_MkE : kMkR Γ (.er e bs) = .er e Γ := rfl
def kTd1 (Γ : Sl) : Option Str → Re | some s => .ok (.str s) Γ false | none => .st
def kTd (tl : List (Str × Str)) : Re → Re
  | .ok d Γ q => .ok d Γ q
  | .er e Γ => kTd1 Γ (tl.lookup e.c)
  | .st => .st
theorem e_Told {tl : List (Str × Str)} : mTold tl m Γ = kTd tl (m Γ) := by
  unfold mTold
  cases m Γ with
  | ok => rfl
  | er e Γ' =>
    show _ = kTd1 Γ' (tl.lookup e.c)
    show (match tl.lookup e.c with | some s => _ | none => _) = _
    cases tl.lookup e.c <;> rfl
  | st => rfl
theorem k_Td {tl : List (Str × Str)} : kTd tl (.ok d Γ q) = .ok d Γ q := rfl
theorem k_TdE {tl : List (Str × Str)} {r : Option Int} : kTd tl (.er ⟨c, r⟩ Γ) = kTd1 Γ (tl.lookup c) := rfl
theorem k_Td1 : kTd1 Γ (some n) = .ok (.str n) Γ false := rfl
theorem e_Rng {g : List D → Option (List D × Bool)} : mRng g ml Γ = (ml Γ).bind (kOf g) := rfl
theorem e_Src : mSrc m Γ = (m Γ).bind (kOf D.srcs) := rfl
def kWk (g : D → Option (List D × Bool)) (d : D) (Γ : Sl) : Rg (List D × Bool) := .of (g d.cold) Γ
theorem e_Walk {g : D → Option (List D × Bool)} : mWalk g m Γ = (m Γ).bind (kWk g) := rfl
theorem k_Wk {g : D → Option (List D × Bool)} : kWk g d Γ = .of (g d.cold) Γ := rfl
def kTy (mu : Bool) (y : D) (Γ : Sl) : Rg (Option D) := .ok (some (keepD mu y)) Γ true
def kTn1 (me : Sl → Re) (mu : Bool) : Bool → Sl → Rg (Option D)
  | true, Γ => (me Γ).bind (kTy mu)
  | false, Γ => .ok none Γ true
def kTn (mc : Sl → Rg Bool) (me : Sl → Re) (mu : Bool) : Option Sl → Rg (Option D)
  | some Γ => (mc Γ).bind (kTn1 me mu)
  | none => .st
theorem e_turn : turnD t mt me mu d Γ = kTn mt me mu (t d Γ) := by
  unfold turnD
  cases t d Γ with
  | none => rfl
  | some Γ1 =>
    show (mt Γ1).bind _ = (mt Γ1).bind _
    congr 1
    funext b Γ2
    cases b <;> rfl
theorem k_Tn : kTn mt me mu (some Γ) = (mt Γ).bind (kTn1 me mu) := rfl
theorem k_TnT : kTn1 me mu true Γ = (me Γ).bind (kTy mu) := rfl
theorem k_TnF : kTn1 me mu false Γ = .ok none Γ true := rfl
theorem k_Ty : kTy mu d Γ = .ok (some (keepD mu d)) Γ true := rfl
def kLc1 (acc : List D) (Γ : Sl) : Re := .ok (.nd true .lst acc) Γ true
def kLc (vs : List Nat) (g : D → Sl → Rg (Option D)) (xs : List D × Bool) (Γ : Sl) : Re := (lcD vs xs.2 g xs.1 [] (wipeG Γ vs)).bind kLc1
theorem e_Lc {vs : List Nat} {h : D → Sl → Rg (Option D)} : mLc vs mi h Γ = (mi Γ).bind (kLc vs h) := rfl
theorem k_Lc {vs : List Nat} {h : D → Sl → Rg (Option D)} : kLc vs h (ds, b) Γ = (lcD vs b h ds [] (wipeG Γ vs)).bind kLc1 := rfl
theorem k_Lc1 : kLc1 ds Γ = .ok (.nd true .lst ds) Γ true := rfl
def kLd1 (vs : List Nat) (ow : Bool) (h : D → Sl → Rg (Option D)) (ds acc : List D) : Rg (Option D) → Rg (List D)
  | .ok y Γ' q => if (!ow || q) = true then (lcD vs ow h ds (acc ++ y.toList) (wipeG Γ' vs)).andq q else .st
  | _ => .st
theorem e_Ld0 {vs : List Nat} {h : D → Sl → Rg (Option D)} : lcD vs b h [] ds Γ = .ok ds Γ true := rfl
theorem e_Ld {vs : List Nat} {h : D → Sl → Rg (Option D)} : lcD vs b h (d :: ds) bs Γ = kLd1 vs b h ds bs (h d Γ) := by
  show (match h d Γ with | .ok y Γ' q => _ | _ => _) = _
  cases h d Γ <;> rfl
theorem k_Ld {vs : List Nat} {h : D → Sl → Rg (Option D)} {y : Option D} : kLd1 vs false h ds bs (.ok y Γ q) = (lcD vs false h ds (bs ++ y.toList) (wipeG Γ vs)).andq q := rfl
theorem k_LdT {vs : List Nat} {h : D → Sl → Rg (Option D)} {y : Option D} : kLd1 vs b h ds bs (.ok y Γ true) = (lcD vs b h ds (bs ++ y.toList) (wipeG Γ vs)).andq true := by cases b <;> rfl
theorem e_sNil : sNil Γ = .nx Γ := rfl
theorem e_sSeq : sSeq s ks Γ = (s Γ).seq ks := rfl
def kX (_ : D) (Γ : Sl) : So := .nx Γ
theorem e_sExpr : sExpr m Γ = (m Γ).so kX := rfl
theorem k_X : kX d Γ = .nx Γ := rfl
theorem e_sRet : sRet m Γ = (m Γ).so .rt := rfl
def kIf (s1 s2 : Sl → So) (b : Bool) (Γ : Sl) : So := if b = true then s1 Γ else s2 Γ
theorem e_sIf : sIf mt s1 s2 Γ = (mt Γ).so (kIf s1 s2) := rfl
theorem k_IfT : kIf s1 s2 true Γ = s1 Γ := rfl
theorem k_IfF : kIf s1 s2 false Γ = s2 Γ := rfl
def kSet (i : Nat) (mu : Bool) (d : D) (Γ : Sl) : So := .nx (Γ.set i (some (keepD mu d)))
theorem e_sSet : sSet i mu m Γ = (m Γ).so (kSet i mu) := rfl
theorem k_Set : kSet i mu d Γ = .nx (Γ.set i (some (keepD mu d))) := rfl
def kAsg (t : Tg) (d : D) (Γ : Sl) : So := .of (t d Γ)
theorem e_sAsg : sAsg t m Γ = (m Γ).so (kAsg t) := rfl
theorem k_Asg : kAsg t d Γ = .of (t d Γ) := rfl
def kPar (ts : List Tg) (ds : List D) (Γ : Sl) : So := if ds.length ≤ sizeLine then .of (tgAll ts ds Γ) else .st
theorem e_sPar : sPar ts ml Γ = (ml Γ).so (kPar ts) := rfl
theorem k_ParN (h : ds.length ≤ sizeLine) : kPar ts ds Γ = .of (tgAll ts ds Γ) := if_pos h
theorem k_Par2' {d1 d2 : D} : kPar ts [d1, d2] Γ = .of (tgAll ts [d1, d2] Γ) := k_ParN (szL (by simp only [List.length_cons, List.length_nil]; decide))
theorem k_Par3' {d1 d2 d3 : D} : kPar ts [d1, d2, d3] Γ = .of (tgAll ts [d1, d2, d3] Γ) := k_ParN (szL (by simp only [List.length_cons, List.length_nil]; decide))
theorem k_Par4' {d1 d2 d3 d4 : D} : kPar ts [d1, d2, d3, d4] Γ = .of (tgAll ts [d1, d2, d3, d4] Γ) := k_ParN (szL (by simp only [List.length_cons, List.length_nil]; decide))
theorem k_Par5' {d1 d2 d3 d4 d5 : D} : kPar ts [d1, d2, d3, d4, d5] Γ = .of (tgAll ts [d1, d2, d3, d4, d5] Γ) := k_ParN (szL (by simp only [List.length_cons, List.length_nil]; decide))
def kPar2 (i j : Nat) (mi mj : Bool) (ds : List D) (Γ : Sl) : So := .of (par2 i j mi mj ds Γ)
theorem e_sPar2 : sPar2 i j mi' mj' ml Γ = (ml Γ).so (kPar2 i j mi' mj') := rfl
theorem k_Par2 : kPar2 i j mi' mj' ds Γ = .of (par2 i j mi' mj' ds Γ) := rfl
theorem e_par2 {d' : D} : par2 i j mi' mj' [d, d'] Γ = some ((Γ.set i (some (keepD mi' d))).set j (some (keepD mj' d'))) := rfl
def kFor (t : Tg) (s : Sl → So) (ds : List D × Bool) (Γ : Sl) : So := if ds.2 = true then .st else forD t s ds.1 Γ
theorem e_sFor : sFor mi t s Γ = (mi Γ).so (kFor t s) := rfl
theorem k_For : kFor t s (ds, false) Γ = forD t s ds Γ := rfl
def kF2 (t : Tg) (s : Sl → So) (ds : List D) : So → So
  | .nx Γ => forD t s ds Γ
  | .ct Γ => forD t s ds Γ
  | .bk Γ => .nx Γ
  | .rt d Γ => .rt d Γ
  | .er e Γ => .er e Γ
  | .st => .st
def kF1 (t : Tg) (s : Sl → So) (ds : List D) : Option Sl → So
  | some Γ => kF2 t s ds (s Γ)
  | none => .st
theorem e_for0 : forD t s [] Γ = .nx Γ := rfl
theorem e_for1 : forD t s (d :: ds) Γ = kF1 t s ds (t d Γ) := by
  show (match t d Γ with | none => _ | some Γ1 => _) = _
  cases t d Γ with
  | none => rfl
  | some Γ1 =>
    show (match s Γ1 with | .nx Γ2 => _ | .ct Γ2 => _ | .bk Γ2 => _ | .rt d Γ2 => _ | .er e Γ2 => _ | .st => _) = kF2 t s ds (s Γ1)
    cases s Γ1 <;> rfl
theorem k_F1 : kF1 t s ds (some Γ) = kF2 t s ds (s Γ) := rfl
theorem k_F2n : kF2 t s ds (.nx Γ) = forD t s ds Γ := rfl
theorem k_F2c : kF2 t s ds (.ct Γ) = forD t s ds Γ := rfl
theorem k_F2b : kF2 t s ds (.bk Γ) = .nx Γ := rfl
theorem k_F2r : kF2 t s ds (.rt d Γ) = .rt d Γ := rfl
theorem k_F2e : kF2 t s ds (.er e Γ) = .er e Γ := rfl
def kMv (t : Tg) (s : Sl → So) (d : D) (Γ : Sl) : So := match d with
  | .nd true .lst l => if l.length ≤ sizeLine then forD t s l Γ else .st
  | _ => .st
theorem e_sForMv : sForMv m t s Γ = (m Γ).so (kMv t s) := rfl
theorem k_Mv1 : kMv t s (.nd true .lst [d]) Γ = forD t s [d] Γ := by
  unfold kMv
  exact if_pos (szL (n := 1) (by decide))
def kRs (c : Str) (_ : D) (Γ : Sl) : So := .er ⟨c, none⟩ Γ
theorem e_sRaise : sRaise c m Γ = (m Γ).so (kRs c) := rfl
theorem k_Rs : kRs c d Γ = .er ⟨c, none⟩ Γ := rfl
def kc3 (Γ : Sl) (p : Place) : Option D → So | some d => .nx (putP Γ p d) | none => .st
def kc2 (u : D → Option D) (Γ : Sl) (p : Place) : Option D → So | some d => kc3 Γ p (u d) | none => .st
def kc1 (u : D → Option D) (Γ : Sl) : Option Place → So | some p => kc2 u Γ p (getP Γ p) | none => .st
theorem e_chg {u : D → Option D} : chg pl u Γ = kc1 u Γ (pl Γ) := by
  unfold chg
  cases pl Γ with
  | none => rfl
  | some p =>
    show (match getP Γ p with | some d => _ | none => _) = kc2 u Γ p (getP Γ p)
    cases getP Γ p with
    | none => rfl
    | some d =>
      show (match u d with | some d' => _ | none => _) = kc3 Γ p (u d)
      cases u d <;> rfl
theorem k_c1 {u : D → Option D} : kc1 u Γ (some p) = kc2 u Γ p (getP Γ p) := rfl
theorem k_c2 {u : D → Option D} : kc2 u Γ p (some d) = kc3 Γ p (u d) := rfl
theorem k_c3 : kc3 Γ p (some d) = .nx (putP Γ p d) := rfl
def kSf (cs : List Str) (n : Str) (pl : Sl → Option Place) (mu : Bool) (d : D) (Γ : Sl) : So := chg pl (fldPut cs n (keepD mu d)) Γ
theorem e_sFld : sFld cs n pl mu m Γ = (m Γ).so (kSf cs n pl mu) := rfl
theorem k_Sf : kSf cs n pl mu d Γ = chg pl (fldPut cs n (keepD mu d)) Γ := rfl
def ka4 (p : Place) (mu : Bool) (d : D) (Γ : Sl) : Option (List D) → Re
  | some l => if l.length < sizeLine then .ok .non (putP Γ p (.nd true .lst (l ++ [keepD mu d]))) false else .st
  | none => .st
def ka3 (p : Place) (mu : Bool) (d : D) (Γ : Sl) : Re := ka4 p mu d Γ (getL Γ p)
def ka2 (mu : Bool) (m : Sl → Re) (Γ : Sl) (p : Place) : Option (List D) → Re
  | some _ => ((m Γ).gd p.2.isEmpty).bind (ka3 p mu)
  | none => .st
def ka1 (mu : Bool) (m : Sl → Re) (Γ : Sl) : Option Place → Re
  | some p => ka2 mu m Γ p (getL Γ p)
  | none => .st
theorem e_App : mApp pl mu m Γ = ka1 mu m Γ (pl Γ) := by
  unfold mApp
  cases pl Γ with
  | none => rfl
  | some p =>
    show (match getL Γ p with | some _ => _ | none => _) = ka2 mu m Γ p (getL Γ p)
    cases getL Γ p with
    | none => rfl
    | some l =>
      show ((m Γ).gd _).bind _ = ((m Γ).gd _).bind _
      congr 1
theorem k_a1 : ka1 mu m Γ (some p) = ka2 mu m Γ p (getL Γ p) := rfl
theorem k_a2 {l : List Nat} : ka2 mu m Γ (i, l) (some ds) = ((m Γ).gd l.isEmpty).bind (ka3 (i, l) mu) := rfl
theorem k_a3 : ka3 p mu d Γ = ka4 p mu d Γ (getL Γ p) := rfl
theorem k_a4 : ka4 p mu d Γ (some ds) = if ds.length < sizeLine then .ok .non (putP Γ p (.nd true .lst (ds ++ [keepD mu d]))) false else .st := rfl
def kix1 (pl : Sl → Option Place) (mu : Bool) (d : D) (Γ : Sl) : Option D → So | some di => chg pl (setIx di (keepD mu d)) Γ | none => .st
def kix (pl : Sl → Option Place) (mi : Sl → Re) (mu : Bool) (d : D) (Γ : Sl) : So := kix1 pl mu d Γ (quiet (mi Γ))
theorem e_sIx {mi : Sl → Re} : sIx pl mi mu m Γ = (m Γ).so (kix pl mi mu) := by
  show (m Γ).so _ = _
  congr 1
theorem k_ix {mi : Sl → Re} : kix pl mi mu d Γ = kix1 pl mu d Γ (quiet (mi Γ)) := rfl
theorem k_ix1 : kix1 pl mu d Γ (some da) = chg pl (setIx da (keepD mu d)) Γ := rfl
def kAu3 (i : Nat) (Γ : Sl) : Option D → So | some z => .nx (Γ.set i (some z)) | none => .st
def kAu2 (i : Nat) (g : D → D → Option D) (x : D) (d : D) (Γ : Sl) : So := kAu3 i Γ (g x d)
def kAu1 (i : Nat) (g : D → D → Option D) (m : Sl → Re) (Γ : Sl) (x : D) : Bool → So | true => (m Γ).so (kAu2 i g x) | false => .st
def kAu (i : Nat) (g : D → D → Option D) (m : Sl → Re) (Γ : Sl) : Option (Option D) → So | some (some x) => kAu1 i g m Γ x x.fz | _ => .st
theorem e_sAug {g : D → D → Option D} : sAug i g m Γ = kAu i g m Γ Γ[i]? := by
  unfold sAug
  cases Γ[i]? with
  | none => rfl
  | some o =>
    cases o with
    | none => rfl
    | some x =>
      show (if x.fz = true then (m Γ).so _ else .st) = kAu1 i g m Γ x x.fz
      cases x.fz with
      | false => rfl
      | true =>
        show (m Γ).so _ = (m Γ).so _
        congr 1
theorem k_Au {g : D → D → Option D} : kAu i g m Γ (some (some d)) = kAu1 i g m Γ d d.fz := rfl
theorem k_Au1 {g : D → D → Option D} : kAu1 i g m Γ d true = (m Γ).so (kAu2 i g d) := rfl
theorem k_Au2 {g : D → D → Option D} : kAu2 i g da d Γ = kAu3 i Γ (g da d) := rfl
theorem k_Au3 : kAu3 i Γ (some d) = .nx (Γ.set i (some d)) := rfl
theorem e_quiet : quiet (.ok d Γ true) = some d := rfl
theorem e_tName : tgName i mu d Γ = some (Γ.set i (some (keepD mu d))) := rfl
theorem e_tTup : tgTup ts (.nd false .tup ds) Γ = tgAll ts ds Γ := rfl
theorem e_tNil : tgAll [] [] Γ = some Γ := rfl
def kT (ts : List Tg) (ds : List D) : Option Sl → Option Sl | some Γ => tgAll ts ds Γ | none => none
theorem e_tCons : tgAll (t :: ts) (d :: ds) Γ = kT ts ds (t d Γ) := by
  show (t d Γ).bind (tgAll ts ds) = _
  cases t d Γ <;> rfl
theorem k_T : kT ts ds (some Γ) = tgAll ts ds Γ := rfl
theorem e_soOf : So.of (some Γ) = .nx Γ := rfl
def kgP (l : List Nat) : Option (Option D) → Option D | some (some d) => d.at l | _ => none
theorem e_getP {l : List Nat} : getP Γ (i, l) = kgP l Γ[i]? := by
  unfold getP
  cases Γ[i]? with
  | none => rfl
  | some o => cases o <;> rfl
theorem k_gP {l : List Nat} : kgP l (some (some d)) = d.at l := rfl
theorem e_at0 : d.at [] = some d := by
  unfold D.at
  rfl
def kat (l : List Nat) : Option D → Option D | some d => d.at l | none => none
theorem e_at1 {k : Kd} {l : List Nat} : (D.nd b k ds).at (j :: l) = kat l ds[j]? := by
  show (match ds[j]? with | some d => _ | none => _) = _
  cases ds[j]? <;> rfl
theorem k_at : kat [] (some d) = some d := e_at0
theorem e_put0 : d.put [] da = da := by
  unfold D.put
  rfl
def kpu (Γ : Sl) (i : Nat) (l : List Nat) (x : D) : Option (Option D) → Sl | some (some d) => Γ.set i (some (d.put l x)) | _ => Γ
theorem e_putP' {l : List Nat} : putP Γ (i, l) da = kpu Γ i l da Γ[i]? := by
  unfold putP
  cases Γ[i]? with
  | none => rfl
  | some o => cases o <;> rfl
theorem k_pu {l : List Nat} : kpu Γ i l da (some (some d)) = Γ.set i (some (d.put l da)) := rfl
def kgL : Option D → Option (List D) | some (.nd true .lst l) => some l | _ => none
theorem e_getL : getL Γ p = kgL (getP Γ p) := by
  unfold getL
  cases getP Γ p with
  | none => rfl
  | some d =>
    cases d with
    | nd o k l => cases o <;> cases k <;> rfl
    | _ => rfl
theorem k_gL : kgL (some (.nd true .lst ds)) = some ds := rfl
def kL0 (x : D) : Option (List D) → Option (List D) | some l => some (x :: l) | none => none
theorem k_L0 : kL0 d (some ds) = some (d :: ds) := rfl
def kL3 (d1 : D) (Γ : Sl) (i : Nat) (as : List Ag) : Bool → Option (List D) | true => none | false => kL0 d1 (lendA (Γ.set i none) as)
def kL2 (Γ : Sl) (i : Nat) (as : List Ag) : Option D → Option (List D) | some d1 => kL3 d1 Γ i as d1.fz | none => none
def kL1 (Γ : Sl) (i : Nat) (l : List Nat) (as : List Ag) : Option (Option D) → Option (List D) | some (some d) => kL2 Γ i as (d.at l) | _ => none
theorem e_len0 : lendA Γ [] = some [] := rfl
theorem e_lenV : lendA Γ (.val d :: as) = kL0 d (lendA Γ as) := by
  show (lendA Γ as).map (d :: ·) = _
  cases lendA Γ as <;> rfl
theorem e_lenO {l : List Nat} : lendA Γ (.own i l :: as) = kL1 Γ i l as Γ[i]? := by
  show (match Γ[i]? with | some (some d) => _ | _ => _) = _
  cases Γ[i]? with
  | none => rfl
  | some o =>
    cases o with
    | none => rfl
    | some d =>
      show (match d.at l with | some d1 => _ | none => _) = kL2 Γ i as (d.at l)
      cases d.at l with
      | none => rfl
      | some d1 =>
        show (if d1.fz = true then none else _) = kL3 d1 Γ i as d1.fz
        cases d1.fz with
        | true => rfl
        | false =>
          show (lendA (Γ.set i none) as).map (d1 :: ·) = kL0 d1 (lendA (Γ.set i none) as)
          cases lendA (Γ.set i none) as <;> rfl
theorem k_L1 {l : List Nat} : kL1 Γ i l as (some (some d)) = kL2 Γ i as (d.at l) := rfl
theorem k_L2 : kL2 Γ i as (some d) = kL3 d Γ i as d.fz := rfl
theorem k_L3 : kL3 d Γ i as false = kL0 d (lendA (Γ.set i none) as) := rfl
def kG1 (Γ : Sl) (i : Nat) (l : List Nat) (as : List Ag) (b : D) (bs : List D) : Option (Option D) → Sl | some (some d) => (giveA (Γ.set i none) as bs).set i (some (d.put l b)) | _ => Γ
theorem e_giv0 : giveA Γ [] ds = Γ := by
  unfold giveA
  rfl
theorem e_givV : giveA Γ (.val d :: as) (da :: bs) = giveA Γ as bs := rfl
theorem e_givO {l : List Nat} : giveA Γ (.own i l :: as) (da :: bs) = kG1 Γ i l as da bs Γ[i]? := by
  show (match Γ[i]? with | some (some d) => _ | _ => _) = _
  cases Γ[i]? with
  | none => rfl
  | some o => cases o <;> rfl
theorem k_G1 {l : List Nat} : kG1 Γ i l as da bs (some (some d)) = (giveA (Γ.set i none) as bs).set i (some (d.put l da)) := rfl
theorem a_isV : (Ag.val d).isV = true := rfl
theorem a_isO {l : List Nat} : (Ag.own i l).isV = false := rfl
theorem e_rfR {ms : List Bool} : So.rf ms (.rt d Γ) = .rt d (bkS ms Γ) := rfl
theorem e_rfN {ms : List Bool} : So.rf ms (.nx Γ) = .rt .non (bkS ms Γ) := rfl
theorem e_rfE {ms : List Bool} : So.rf ms (.er e Γ) = .er e (bkS ms Γ) := rfl
theorem e_bkT {ms : List Bool} : bkS (true :: ms) (some d :: Γ) = d :: bkS ms Γ := rfl
theorem e_bkN {ms : List Bool} : bkS (true :: ms) (none :: Γ) = .any :: bkS ms Γ := rfl
theorem e_bkF {ms : List Bool} {o : Option D} : bkS (false :: ms) (o :: Γ) = .any :: bkS ms Γ := rfl
theorem e_bk0 : bkS [] Γ = [] := by
  unfold bkS
  rfl
theorem e_wip0 : wipeG Γ [] = Γ := rfl
theorem e_wip1 {l : List Nat} : wipeG Γ (i :: l) = wipeG (Γ.set i none) l := rfl
theorem e_kT : keepD true d = d := rfl
theorem e_kF : keepD false d = d.cold := rfl
theorem c_int {n : Int} : (D.int n).cold = .int n := rfl
theorem c_bl : (D.bl b).cold = .bl b := rfl
theorem c_str {n : Str} : (D.str n).cold = .str n := rfl
theorem c_non : D.non.cold = .non := rfl
theorem c_any : D.any.cold = .any := rfl
theorem c_nd {k : Kd} {l : List D} : (D.nd b k l).cold = .nd false k (D.colds l) := rfl
theorem c_nil : D.colds [] = [] := rfl
theorem c_cons : D.colds (d :: ds) = d.cold :: D.colds ds := rfl
theorem f_int {n : Int} : (D.int n).fz = true := rfl
theorem f_bl : (D.bl b).fz = true := rfl
theorem f_str {n : Str} : (D.str n).fz = true := rfl
theorem f_non : D.non.fz = true := rfl
theorem f_any : D.any.fz = true := rfl
theorem f_ndT {k : Kd} {l : List D} : (D.nd true k l).fz = false := rfl
theorem f_ndF {k : Kd} {l : List D} : (D.nd false k l).fz = true := rfl
def kPt : D → Sl → Rg (Option Int) | .int i, Γ => .ok (some i) Γ true | _, _ => .st
theorem e_ptN : ptNo Γ = .ok none Γ true := rfl
theorem e_ptS : ptSome m Γ = (m Γ).bind kPt := by
  have : kPt = fun d Γ => match d with | .int i => .ok (some i) Γ true | _ => .st := by
    funext d Γ
    cases d <;> rfl
  rw [this]
  rfl
theorem k_Pt {x : Int} : kPt (.int x) Γ = .ok (some x) Γ true := rfl
def kSl3 (c : D) (l h : Option Int) (Γ : Sl) : Re := .of (slD c l h) Γ
def kSl2 (hi : Sl → Rg (Option Int)) (c : D) (l : Option Int) (Γ : Sl) : Re := ((hi Γ).gd c.fz).bind (kSl3 c l)
def kSl1 (lo hi : Sl → Rg (Option Int)) (c : D) (Γ : Sl) : Re := ((lo Γ).gd c.fz).bind (kSl2 hi c)
theorem e_Sl {lo hi : Sl → Rg (Option Int)} : mSl m lo hi Γ = (m Γ).bind (kSl1 lo hi) := rfl
theorem k_Sl1 {lo hi : Sl → Rg (Option Int)} : kSl1 lo hi d Γ = ((lo Γ).gd d.fz).bind (kSl2 hi d) := rfl
theorem k_Sl2 {hi : Sl → Rg (Option Int)} {l : Option Int} : kSl2 hi d l Γ = ((hi Γ).gd d.fz).bind (kSl3 d l) := rfl
theorem k_Sl3 {l h : Option Int} : kSl3 d l h Γ = .of (slD d l h) Γ := rfl
theorem e_srF : D.srcs (.nd false .lst ds) = some (ds, false) := rfl
theorem e_srC : D.srcs (.nd false .scr ds) = some (ds, false) := rfl
theorem e_srT : D.srcs (.nd b .tup ds) = some (ds, false) := by cases b <;> rfl
theorem e_scr {ns : List Int} : (scrD ns).fz = true := rfl
theorem c_scr {ns : List Int} : (scrD ns).cold = scrD ns := by
  unfold scrD
  rw [c_nd, D.colds_eq, List.map_map]
  rfl
variable {x y : Int}
/-- what // takes -/
def fdG (y : Int) : Prop := y ≠ 0 ∧ y.natAbs < 1073741824
def mdG (y : Int) : Prop := y ≠ 0
theorem fd_g (h : 0 < y) (h1 : y < 1073741824) : fdG y := ⟨by omega, by omega⟩
theorem md_g (h : 0 < y) : mdG y := by
  unfold mdG
  omega
theorem i_add : addD (.int x) (.int y) = some (.int (x + y)) := rfl
theorem i_adI : addI (.int x) (.int y) = some (.int (x + y)) := rfl
theorem i_adQ : addQ (.int x) (.int y) = some (.int (x + y)) := rfl
theorem i_sub : subD (.int x) (.int y) = some (.int (x - y)) := rfl
theorem i_mul (h : mulG x y = true) : mulD (.int x) (.int y) = some (.int (x * y)) := if_pos h
theorem i_fdv (h : fdG y) : fdivD (.int x) (.int y) = some (.int (x.fdiv y)) := if_pos (by rw [decide_eq_true h.1, decide_eq_true h.2]; rfl)
theorem i_mod (h : mdG y) : modD (.int x) (.int y) = some (.int (x.fmod y)) := if_pos h
theorem i_lt : ltD (.int x) (.int y) = some (.bl (decide (x < y))) := rfl
theorem i_le : leD (.int x) (.int y) = some (.bl (decide (x ≤ y))) := rfl
theorem i_gt : gtD (.int x) (.int y) = some (.bl (decide (y < x))) := rfl
theorem i_ge : geD (.int x) (.int y) = some (.bl (decide (y ≤ x))) := rfl
theorem i_neg : negD (.int x) = some (.int (-x)) := rfl
theorem i_abs : absD [.int x] = some (.int x.natAbs) := by
  show some (D.int (if x < 0 then -x else x)) = _
  congr 2
  split <;> omega
theorem i_int : intD [.int x] = some (.int x) := rfl
theorem i_intb : intD [.bl b] = some (.int (b2i b)) := rfl
theorem i_max : max2D [.int x, .int y] = some (.int (max x y)) := by
  show some (D.int (if y > x then y else x)) = _
  congr 2
  split <;> omega
theorem i_min : min2D [.int x, .int y] = some (.int (min x y)) := by
  show some (D.int (if y < x then y else x)) = _
  congr 2
  split <;> omega
theorem i_eq : eqG (.int x) (.int y) = some (.bl (decide (x = y))) := by
  unfold eqG eqD
  rw [if_pos (by simp only [D.pk, Bool.and_self]), show PyData.eqv (pd (.int x)) (pd (.int y)) = decide (x = y) from ?_]
  simp only [pd, PyData.eqv]
  rfl
theorem i_ne : neG (.int x) (.int y) = some (.bl (!decide (x = y))) := by
  unfold neG eqD
  rw [if_pos (by simp only [D.pk, Bool.and_self]), show PyData.eqv (pd (.int x)) (pd (.int y)) = decide (x = y) from ?_]
  simp only [pd, PyData.eqv]
  rfl
theorem i_ixl : ixD (.nd b .lst ds) (.int x) = atI ds x := rfl
theorem i_ixt : ixD (.nd b .tup ds) (.int x) = atI ds x := rfl
def kMap (h : α → β) : Option α → Option β | some x => some (h x) | none => none
theorem k_Map {h : α → β} {x : α} : kMap h (some x) = some (h x) := rfl
def kSt (ds : List D) (d : D) (j : Nat) : D := .nd true .lst (ds.set j d)
theorem k_St : kSt ds d j = .nd true .lst (ds.set j d) := rfl
theorem i_set : setIx (.int x) d (.nd true .lst ds) = kMap (kSt ds d) (ixN ds.length x) := by
  show (ixN ds.length x).map _ = _
  cases ixN ds.length x <;> rfl
theorem at0 {α : Type} {a : α} {l : List α} : atI (a :: l) 0 = some a := by
  unfold atI ixN
  rw [if_pos (by omega), if_pos (by simp only [List.length_cons]; omega)]
  rfl
theorem at1 {α : Type} {a b : α} {l : List α} : atI (a :: b :: l) 1 = some b := by
  unfold atI ixN
  rw [if_pos (by omega), if_pos (by simp only [List.length_cons]; omega)]
  rfl
theorem at2 {α : Type} {a b c : α} {l : List α} : atI (a :: b :: c :: l) 2 = some c := by
  unfold atI ixN
  rw [if_pos (by omega), if_pos (by simp only [List.length_cons]; omega)]
  rfl
theorem sl_0 : slD (scrD []) none (some 1) = some (.nd true .lst []) := rfl
theorem sl_1 {ns : List Int} : slD (scrD (x :: ns)) none (some 1) = some (.nd true .lst [.int x]) := by
  show some (D.nd true .lst (cutD _ _ _)) = _
  unfold cutD
  rw [HT.sIx_none, show (1 : Int) = ((1 : Nat) : Int) from rfl, HT.sIx_nat, List.drop_zero, Nat.sub_zero, List.map_cons, List.length_cons, Nat.min_eq_left (by omega)]
  rfl
theorem eq_00 {b' : Bool} : eqG (.nd b .lst []) (.nd b' .lst []) = some (.bl true) := rfl
theorem eq_10 {b' : Bool} : eqG (.nd b .lst [.int x]) (.nd b' .lst []) = some (.bl false) := rfl
theorem ixN30 : ixN 3 0 = some 0 := rfl
theorem ixN31 : ixN 3 1 = some 1 := rfl
theorem ixN32 : ixN 3 2 = some 2 := rfl
theorem lst0 : lstD [] = some (.nd true .lst []) := rfl
def kOb (d : D) : Bool → Option D | true => some d | false => none
theorem k_Ob : kOb d true = some d := rfl
theorem kOb_tup (h : ds.length ≤ sizeLine) : tupD ds = kOb (.nd false .tup ds) (ds.all D.fz) := by
  unfold tupD
  rw [decide_eq_true h, Bool.and_true]
  cases ds.all D.fz <;> rfl
theorem kOb_lst (h : ds.length ≤ sizeLine) : lstD ds = kOb (.nd true .lst ds) (ds.all D.fz) := by
  unfold lstD
  rw [decide_eq_true h, Bool.and_true]
  cases ds.all D.fz <;> rfl
theorem i_tup1 {d1 : D} : tupD [d1] = kOb (.nd false .tup [d1]) ([d1].all D.fz) := kOb_tup (szL (by simp only [List.length_cons, List.length_nil]; decide))
theorem i_lst1 {d1 : D} : lstD [d1] = kOb (.nd true .lst [d1]) ([d1].all D.fz) := kOb_lst (szL (by simp only [List.length_cons, List.length_nil]; decide))
theorem i_tup2 {d1 d2 : D} : tupD [d1, d2] = kOb (.nd false .tup [d1, d2]) ([d1, d2].all D.fz) := kOb_tup (szL (by simp only [List.length_cons, List.length_nil]; decide))
theorem i_lst2 {d1 d2 : D} : lstD [d1, d2] = kOb (.nd true .lst [d1, d2]) ([d1, d2].all D.fz) := kOb_lst (szL (by simp only [List.length_cons, List.length_nil]; decide))
theorem i_tup3 {d1 d2 d3 : D} : tupD [d1, d2, d3] = kOb (.nd false .tup [d1, d2, d3]) ([d1, d2, d3].all D.fz) := kOb_tup (szL (by simp only [List.length_cons, List.length_nil]; decide))
theorem i_lst3 {d1 d2 d3 : D} : lstD [d1, d2, d3] = kOb (.nd true .lst [d1, d2, d3]) ([d1, d2, d3].all D.fz) := kOb_lst (szL (by simp only [List.length_cons, List.length_nil]; decide))
theorem i_tup4 {d1 d2 d3 d4 : D} : tupD [d1, d2, d3, d4] = kOb (.nd false .tup [d1, d2, d3, d4]) ([d1, d2, d3, d4].all D.fz) := kOb_tup (szL (by simp only [List.length_cons, List.length_nil]; decide))
theorem i_lst4 {d1 d2 d3 d4 : D} : lstD [d1, d2, d3, d4] = kOb (.nd true .lst [d1, d2, d3, d4]) ([d1, d2, d3, d4].all D.fz) := kOb_lst (szL (by simp only [List.length_cons, List.length_nil]; decide))
theorem i_tup5 {d1 d2 d3 d4 d5 : D} : tupD [d1, d2, d3, d4, d5] = kOb (.nd false .tup [d1, d2, d3, d4, d5]) ([d1, d2, d3, d4, d5].all D.fz) := kOb_tup (szL (by simp only [List.length_cons, List.length_nil]; decide))
theorem i_lst5 {d1 d2 d3 d4 d5 : D} : lstD [d1, d2, d3, d4, d5] = kOb (.nd true .lst [d1, d2, d3, d4, d5]) ([d1, d2, d3, d4, d5].all D.fz) := kOb_lst (szL (by simp only [List.length_cons, List.length_nil]; decide))
theorem i_tup6 {d1 d2 d3 d4 d5 d6 : D} : tupD [d1, d2, d3, d4, d5, d6] = kOb (.nd false .tup [d1, d2, d3, d4, d5, d6]) ([d1, d2, d3, d4, d5, d6].all D.fz) := kOb_tup (szL (by simp only [List.length_cons, List.length_nil]; decide))
theorem i_lst6 {d1 d2 d3 d4 d5 d6 : D} : lstD [d1, d2, d3, d4, d5, d6] = kOb (.nd true .lst [d1, d2, d3, d4, d5, d6]) ([d1, d2, d3, d4, d5, d6].all D.fz) := kOb_lst (szL (by simp only [List.length_cons, List.length_nil]; decide))
theorem mul_g (h : -(2 ^ 64) < x ∧ x < 2 ^ 64 ∨ -(2 ^ 64) < y ∧ y < 2 ^ 64) : mulG x y = true := by
  unfold mulG
  simp only [Bool.or_eq_true, Bool.and_eq_true, decide_eq_true_eq]
  exact h
end ev
end GL
namespace GL
open PySem PySem.Spec PyProof.Rows L2
abbrev diceD (a b c : Int) : D := .nd true .lst [.int a, .int b, .int c]
theorem fmod_lt {a b : Int} (h : 0 < b) : 0 ≤ a.fmod b ∧ a.fmod b < b := ⟨Int.fmod_nonneg_of_pos a h, Int.fmod_lt_of_pos a h⟩
theorem fdG7 : fdG 7 := fd_g (by decide) (by decide)
end GL
namespace GP
open PySem PySem.Spec PyProof.Rows L2 GL
theorem roll_eq (a b c : Int) {n : Int} (h : 0 < n) (h2 : n < 1073741824) : ∃ r a' b' c', law_roll [diceD a b c, .int n] = .rt (.int r) [diceD a' b' c', .int n] ∧ 0 ≤ r ∧ r < n := by
  have e : ∀ x y, law_roll [x, y] = (law_roll_b [some x, some y, none]).rf [true, true] := fun x y => rfl
  have n0 : fdG n := fd_g h h2
  have n1 : mdG n := md_g h
  have n2 : mdG 2147483647 := md_g (by decide)
  have m1 : mulG a 48271 = true := mul_g (Or.inr (by decide))
  have m2 : mulG b 69621 = true := mul_g (Or.inr (by decide))
  simp only [e]
  unfold law_roll_b
  by_cases c2 : c = 2
  · refine ⟨a.fmod n, a.fdiv n, b, c, ?_, (fmod_lt h).1, (fmod_lt h).2⟩
    simp only [r_bo,r_be,r_bs,r_ao,r_ae,r_as,r_os,r_on,r_gt,r_gq,r_ge,r_so,r_se,s_nx,s_rt,s_bk,s_ct,s_er,e_Val,k_Of,k_Ok,e_Var,k_Var,e_Fz,k_Fz,k_Fz',e_Cold,k_Cold,e_2,k_2,e_Tru,e_Bl,k_Bl,e_B,k_B,e_Not,k_Not,e_And,k_AndT,k_AndF,e_Or,k_OrT,k_OrF,e_If,k_IfET,k_IfEF,e_True,e_Chain,k_Ch1,k_Ch2,k_Ch3T,k_Ch3F,e_Nil,e_Cons,k_Cons,k_Cons',e_vNil,e_vCons,k_vCons,e_Call,e_Neg,e_Fld,e_agNil,e_agVal,k_Ag,k_Ag1,k_Ag2,agT,agF,e_agPl,k_Pl,k_Pl1,k_Pl2,e_plVar,e_plFld,k_pF,k_pF1,k_pF2,e_rPl,k_rP,k_rP1,e_rVal,k_rV,k_rV1,e_Fn,e_Mk,e_Mt,k_Mt,k_Mt1,k_Mt2,a_fixV,a_fixO,e_runF,k_Run,k_Rf,k_RfE,e_runMk,k_Mk,k_Mk1,k_MkR,k_MkE,e_Told,k_Td,k_TdE,k_Td1,e_Rng,e_Src,e_Walk,k_Wk,e_turn,k_Tn,k_TnT,k_TnF,k_Ty,e_Lc,k_Lc,k_Lc1,e_Ld0,e_Ld,k_Ld,k_LdT,e_sNil,e_sSeq,e_sExpr,k_X,e_sRet,e_sIf,k_IfT,k_IfF,e_sSet,k_Set,e_sAsg,k_Asg,e_sPar,k_Par2',k_Par3',k_Par4',k_Par5',e_sPar2,k_Par2,e_par2,e_sFor,k_For,e_for0,e_for1,k_F1,k_F2n,k_F2c,k_F2b,k_F2r,k_F2e,e_sForMv,k_Mv1,e_sRaise,k_Rs,e_chg,k_c1,k_c2,k_c3,e_sFld,k_Sf,e_App,k_a1,k_a2,k_a3,k_a4,e_sIx,k_ix,k_ix1,e_sAug,k_Au,k_Au1,k_Au2,k_Au3,e_quiet,e_tName,e_tTup,e_tNil,e_tCons,k_T,e_soOf,e_getP,k_gP,e_at0,e_at1,k_at,e_put0,e_putP',k_pu,e_getL,k_gL,k_L0,e_len0,e_lenV,e_lenO,k_L1,k_L2,k_L3,e_giv0,e_givV,e_givO,k_G1,a_isV,a_isO,e_rfR,e_rfN,e_rfE,e_bkT,e_bkN,e_bkF,e_bk0,e_wip0,e_wip1,e_kT,e_kF,c_int,c_bl,c_str,c_non,c_any,c_nd,c_nil,c_cons,f_int,f_bl,f_str,f_non,f_any,f_ndT,f_ndF,e_ptN,e_ptS,k_Pt,e_Sl,k_Sl1,k_Sl2,k_Sl3,e_srF,e_srC,e_srT,e_scr,c_scr,i_add,i_adI,i_adQ,i_sub,i_mul,i_fdv,i_mod,i_lt,i_le,i_gt,i_ge,i_neg,i_abs,i_int,i_intb,i_max,i_min,i_eq,i_ne,i_ixl,i_ixt,k_Map,k_St,i_set,at0,at1,at2,sl_0,sl_1,eq_00,eq_10,ixN30,ixN31,ixN32,lst0,k_Ob,i_tup1,i_lst1,i_tup2,i_lst2,i_tup3,i_lst3,i_tup4,i_lst4,i_tup5,i_lst5,i_tup6,i_lst6,List.getElem?_cons_zero,List.getElem?_cons_succ,List.getElem?_nil,List.set_cons_zero,List.set_cons_succ,List.set_nil,Bool.and_true,Bool.true_and,Bool.and_false,Bool.false_and,Bool.or_true,Bool.true_or,Bool.or_false,Bool.false_or,Bool.not_true,Bool.not_false,decide_true,decide_false,List.all_cons,List.all_nil,List.isEmpty_nil,List.isEmpty_cons,List.map_cons,List.map_nil,List.append_nil,List.nil_append,List.cons_append,List.length_cons,List.length_nil,Nat.zero_add,Nat.reduceAdd,Option.toList_some,Option.toList_none,Int.reduceEq,Int.reduceLT,Int.reduceLE,Int.reduceSub,Int.reduceAdd,Int.reduceNeg,Int.reduceMul,eq_self,n0,n1,c2]
  · by_cases c1 : c = 1
    · by_cases a0 : 0 < a
      · refine ⟨a.fmod n, a.fdiv n, b, c, ?_, (fmod_lt h).1, (fmod_lt h).2⟩
        simp only [r_bo,r_be,r_bs,r_ao,r_ae,r_as,r_os,r_on,r_gt,r_gq,r_ge,r_so,r_se,s_nx,s_rt,s_bk,s_ct,s_er,e_Val,k_Of,k_Ok,e_Var,k_Var,e_Fz,k_Fz,k_Fz',e_Cold,k_Cold,e_2,k_2,e_Tru,e_Bl,k_Bl,e_B,k_B,e_Not,k_Not,e_And,k_AndT,k_AndF,e_Or,k_OrT,k_OrF,e_If,k_IfET,k_IfEF,e_True,e_Chain,k_Ch1,k_Ch2,k_Ch3T,k_Ch3F,e_Nil,e_Cons,k_Cons,k_Cons',e_vNil,e_vCons,k_vCons,e_Call,e_Neg,e_Fld,e_agNil,e_agVal,k_Ag,k_Ag1,k_Ag2,agT,agF,e_agPl,k_Pl,k_Pl1,k_Pl2,e_plVar,e_plFld,k_pF,k_pF1,k_pF2,e_rPl,k_rP,k_rP1,e_rVal,k_rV,k_rV1,e_Fn,e_Mk,e_Mt,k_Mt,k_Mt1,k_Mt2,a_fixV,a_fixO,e_runF,k_Run,k_Rf,k_RfE,e_runMk,k_Mk,k_Mk1,k_MkR,k_MkE,e_Told,k_Td,k_TdE,k_Td1,e_Rng,e_Src,e_Walk,k_Wk,e_turn,k_Tn,k_TnT,k_TnF,k_Ty,e_Lc,k_Lc,k_Lc1,e_Ld0,e_Ld,k_Ld,k_LdT,e_sNil,e_sSeq,e_sExpr,k_X,e_sRet,e_sIf,k_IfT,k_IfF,e_sSet,k_Set,e_sAsg,k_Asg,e_sPar,k_Par2',k_Par3',k_Par4',k_Par5',e_sPar2,k_Par2,e_par2,e_sFor,k_For,e_for0,e_for1,k_F1,k_F2n,k_F2c,k_F2b,k_F2r,k_F2e,e_sForMv,k_Mv1,e_sRaise,k_Rs,e_chg,k_c1,k_c2,k_c3,e_sFld,k_Sf,e_App,k_a1,k_a2,k_a3,k_a4,e_sIx,k_ix,k_ix1,e_sAug,k_Au,k_Au1,k_Au2,k_Au3,e_quiet,e_tName,e_tTup,e_tNil,e_tCons,k_T,e_soOf,e_getP,k_gP,e_at0,e_at1,k_at,e_put0,e_putP',k_pu,e_getL,k_gL,k_L0,e_len0,e_lenV,e_lenO,k_L1,k_L2,k_L3,e_giv0,e_givV,e_givO,k_G1,a_isV,a_isO,e_rfR,e_rfN,e_rfE,e_bkT,e_bkN,e_bkF,e_bk0,e_wip0,e_wip1,e_kT,e_kF,c_int,c_bl,c_str,c_non,c_any,c_nd,c_nil,c_cons,f_int,f_bl,f_str,f_non,f_any,f_ndT,f_ndF,e_ptN,e_ptS,k_Pt,e_Sl,k_Sl1,k_Sl2,k_Sl3,e_srF,e_srC,e_srT,e_scr,c_scr,i_add,i_adI,i_adQ,i_sub,i_mul,i_fdv,i_mod,i_lt,i_le,i_gt,i_ge,i_neg,i_abs,i_int,i_intb,i_max,i_min,i_eq,i_ne,i_ixl,i_ixt,k_Map,k_St,i_set,at0,at1,at2,sl_0,sl_1,eq_00,eq_10,ixN30,ixN31,ixN32,lst0,k_Ob,i_tup1,i_lst1,i_tup2,i_lst2,i_tup3,i_lst3,i_tup4,i_lst4,i_tup5,i_lst5,i_tup6,i_lst6,List.getElem?_cons_zero,List.getElem?_cons_succ,List.getElem?_nil,List.set_cons_zero,List.set_cons_succ,List.set_nil,Bool.and_true,Bool.true_and,Bool.and_false,Bool.false_and,Bool.or_true,Bool.true_or,Bool.or_false,Bool.false_or,Bool.not_true,Bool.not_false,decide_true,decide_false,List.all_cons,List.all_nil,List.isEmpty_nil,List.isEmpty_cons,List.map_cons,List.map_nil,List.append_nil,List.nil_append,List.cons_append,List.length_cons,List.length_nil,Nat.zero_add,Nat.reduceAdd,Option.toList_some,Option.toList_none,Int.reduceEq,Int.reduceLT,Int.reduceLE,Int.reduceSub,Int.reduceAdd,Int.reduceNeg,Int.reduceMul,eq_self,n0,n1,a0,c2,c1]
      · refine ⟨_, (a * 48271 + b * 69621 + 11).fmod 2147483647, b + 1, 0, ?_, (fmod_lt (a := ((a * 48271 + b * 69621 + 11).fmod 2147483647).fdiv 7 + (a * 48271 + b * 69621 + 11).fmod 2147483647) h).1, (fmod_lt h).2⟩
        simp only [r_bo,r_be,r_bs,r_ao,r_ae,r_as,r_os,r_on,r_gt,r_gq,r_ge,r_so,r_se,s_nx,s_rt,s_bk,s_ct,s_er,e_Val,k_Of,k_Ok,e_Var,k_Var,e_Fz,k_Fz,k_Fz',e_Cold,k_Cold,e_2,k_2,e_Tru,e_Bl,k_Bl,e_B,k_B,e_Not,k_Not,e_And,k_AndT,k_AndF,e_Or,k_OrT,k_OrF,e_If,k_IfET,k_IfEF,e_True,e_Chain,k_Ch1,k_Ch2,k_Ch3T,k_Ch3F,e_Nil,e_Cons,k_Cons,k_Cons',e_vNil,e_vCons,k_vCons,e_Call,e_Neg,e_Fld,e_agNil,e_agVal,k_Ag,k_Ag1,k_Ag2,agT,agF,e_agPl,k_Pl,k_Pl1,k_Pl2,e_plVar,e_plFld,k_pF,k_pF1,k_pF2,e_rPl,k_rP,k_rP1,e_rVal,k_rV,k_rV1,e_Fn,e_Mk,e_Mt,k_Mt,k_Mt1,k_Mt2,a_fixV,a_fixO,e_runF,k_Run,k_Rf,k_RfE,e_runMk,k_Mk,k_Mk1,k_MkR,k_MkE,e_Told,k_Td,k_TdE,k_Td1,e_Rng,e_Src,e_Walk,k_Wk,e_turn,k_Tn,k_TnT,k_TnF,k_Ty,e_Lc,k_Lc,k_Lc1,e_Ld0,e_Ld,k_Ld,k_LdT,e_sNil,e_sSeq,e_sExpr,k_X,e_sRet,e_sIf,k_IfT,k_IfF,e_sSet,k_Set,e_sAsg,k_Asg,e_sPar,k_Par2',k_Par3',k_Par4',k_Par5',e_sPar2,k_Par2,e_par2,e_sFor,k_For,e_for0,e_for1,k_F1,k_F2n,k_F2c,k_F2b,k_F2r,k_F2e,e_sForMv,k_Mv1,e_sRaise,k_Rs,e_chg,k_c1,k_c2,k_c3,e_sFld,k_Sf,e_App,k_a1,k_a2,k_a3,k_a4,e_sIx,k_ix,k_ix1,e_sAug,k_Au,k_Au1,k_Au2,k_Au3,e_quiet,e_tName,e_tTup,e_tNil,e_tCons,k_T,e_soOf,e_getP,k_gP,e_at0,e_at1,k_at,e_put0,e_putP',k_pu,e_getL,k_gL,k_L0,e_len0,e_lenV,e_lenO,k_L1,k_L2,k_L3,e_giv0,e_givV,e_givO,k_G1,a_isV,a_isO,e_rfR,e_rfN,e_rfE,e_bkT,e_bkN,e_bkF,e_bk0,e_wip0,e_wip1,e_kT,e_kF,c_int,c_bl,c_str,c_non,c_any,c_nd,c_nil,c_cons,f_int,f_bl,f_str,f_non,f_any,f_ndT,f_ndF,e_ptN,e_ptS,k_Pt,e_Sl,k_Sl1,k_Sl2,k_Sl3,e_srF,e_srC,e_srT,e_scr,c_scr,i_add,i_adI,i_adQ,i_sub,i_mul,i_fdv,i_mod,i_lt,i_le,i_gt,i_ge,i_neg,i_abs,i_int,i_intb,i_max,i_min,i_eq,i_ne,i_ixl,i_ixt,k_Map,k_St,i_set,at0,at1,at2,sl_0,sl_1,eq_00,eq_10,ixN30,ixN31,ixN32,lst0,k_Ob,i_tup1,i_lst1,i_tup2,i_lst2,i_tup3,i_lst3,i_tup4,i_lst4,i_tup5,i_lst5,i_tup6,i_lst6,List.getElem?_cons_zero,List.getElem?_cons_succ,List.getElem?_nil,List.set_cons_zero,List.set_cons_succ,List.set_nil,Bool.and_true,Bool.true_and,Bool.and_false,Bool.false_and,Bool.or_true,Bool.true_or,Bool.or_false,Bool.false_or,Bool.not_true,Bool.not_false,decide_true,decide_false,List.all_cons,List.all_nil,List.isEmpty_nil,List.isEmpty_cons,List.map_cons,List.map_nil,List.append_nil,List.nil_append,List.cons_append,List.length_cons,List.length_nil,Nat.zero_add,Nat.reduceAdd,Option.toList_some,Option.toList_none,Int.reduceEq,Int.reduceLT,Int.reduceLE,Int.reduceSub,Int.reduceAdd,Int.reduceNeg,Int.reduceMul,eq_self,n0,n1,n2,a0,c2,c1,m1,m2,fdG7]
    · refine ⟨_, (a * 48271 + b * 69621 + 11).fmod 2147483647, b + 1, 0, ?_, (fmod_lt (a := ((a * 48271 + b * 69621 + 11).fmod 2147483647).fdiv 7 + (a * 48271 + b * 69621 + 11).fmod 2147483647) h).1, (fmod_lt h).2⟩
      simp only [r_bo,r_be,r_bs,r_ao,r_ae,r_as,r_os,r_on,r_gt,r_gq,r_ge,r_so,r_se,s_nx,s_rt,s_bk,s_ct,s_er,e_Val,k_Of,k_Ok,e_Var,k_Var,e_Fz,k_Fz,k_Fz',e_Cold,k_Cold,e_2,k_2,e_Tru,e_Bl,k_Bl,e_B,k_B,e_Not,k_Not,e_And,k_AndT,k_AndF,e_Or,k_OrT,k_OrF,e_If,k_IfET,k_IfEF,e_True,e_Chain,k_Ch1,k_Ch2,k_Ch3T,k_Ch3F,e_Nil,e_Cons,k_Cons,k_Cons',e_vNil,e_vCons,k_vCons,e_Call,e_Neg,e_Fld,e_agNil,e_agVal,k_Ag,k_Ag1,k_Ag2,agT,agF,e_agPl,k_Pl,k_Pl1,k_Pl2,e_plVar,e_plFld,k_pF,k_pF1,k_pF2,e_rPl,k_rP,k_rP1,e_rVal,k_rV,k_rV1,e_Fn,e_Mk,e_Mt,k_Mt,k_Mt1,k_Mt2,a_fixV,a_fixO,e_runF,k_Run,k_Rf,k_RfE,e_runMk,k_Mk,k_Mk1,k_MkR,k_MkE,e_Told,k_Td,k_TdE,k_Td1,e_Rng,e_Src,e_Walk,k_Wk,e_turn,k_Tn,k_TnT,k_TnF,k_Ty,e_Lc,k_Lc,k_Lc1,e_Ld0,e_Ld,k_Ld,k_LdT,e_sNil,e_sSeq,e_sExpr,k_X,e_sRet,e_sIf,k_IfT,k_IfF,e_sSet,k_Set,e_sAsg,k_Asg,e_sPar,k_Par2',k_Par3',k_Par4',k_Par5',e_sPar2,k_Par2,e_par2,e_sFor,k_For,e_for0,e_for1,k_F1,k_F2n,k_F2c,k_F2b,k_F2r,k_F2e,e_sForMv,k_Mv1,e_sRaise,k_Rs,e_chg,k_c1,k_c2,k_c3,e_sFld,k_Sf,e_App,k_a1,k_a2,k_a3,k_a4,e_sIx,k_ix,k_ix1,e_sAug,k_Au,k_Au1,k_Au2,k_Au3,e_quiet,e_tName,e_tTup,e_tNil,e_tCons,k_T,e_soOf,e_getP,k_gP,e_at0,e_at1,k_at,e_put0,e_putP',k_pu,e_getL,k_gL,k_L0,e_len0,e_lenV,e_lenO,k_L1,k_L2,k_L3,e_giv0,e_givV,e_givO,k_G1,a_isV,a_isO,e_rfR,e_rfN,e_rfE,e_bkT,e_bkN,e_bkF,e_bk0,e_wip0,e_wip1,e_kT,e_kF,c_int,c_bl,c_str,c_non,c_any,c_nd,c_nil,c_cons,f_int,f_bl,f_str,f_non,f_any,f_ndT,f_ndF,e_ptN,e_ptS,k_Pt,e_Sl,k_Sl1,k_Sl2,k_Sl3,e_srF,e_srC,e_srT,e_scr,c_scr,i_add,i_adI,i_adQ,i_sub,i_mul,i_fdv,i_mod,i_lt,i_le,i_gt,i_ge,i_neg,i_abs,i_int,i_intb,i_max,i_min,i_eq,i_ne,i_ixl,i_ixt,k_Map,k_St,i_set,at0,at1,at2,sl_0,sl_1,eq_00,eq_10,ixN30,ixN31,ixN32,lst0,k_Ob,i_tup1,i_lst1,i_tup2,i_lst2,i_tup3,i_lst3,i_tup4,i_lst4,i_tup5,i_lst5,i_tup6,i_lst6,List.getElem?_cons_zero,List.getElem?_cons_succ,List.getElem?_nil,List.set_cons_zero,List.set_cons_succ,List.set_nil,Bool.and_true,Bool.true_and,Bool.and_false,Bool.false_and,Bool.or_true,Bool.true_or,Bool.or_false,Bool.false_or,Bool.not_true,Bool.not_false,decide_true,decide_false,List.all_cons,List.all_nil,List.isEmpty_nil,List.isEmpty_cons,List.map_cons,List.map_nil,List.append_nil,List.nil_append,List.cons_append,List.length_cons,List.length_nil,Nat.zero_add,Nat.reduceAdd,Option.toList_some,Option.toList_none,Int.reduceEq,Int.reduceLT,Int.reduceLE,Int.reduceSub,Int.reduceAdd,Int.reduceNeg,Int.reduceMul,eq_self,n0,n1,n2,c2,c1,m1,m2,fdG7]

theorem dice_eq (z : Int) : ∃ a b c, law_dice [.int z] = .rt (diceD a b c) [.int z] := by
  have e : ∀ x, law_dice [x] = (law_dice_b [some x]).rf [true] := fun x => rfl
  have m1 : mdG 1009 := md_g (by decide)
  have p1 : powD (.int 10) (.int 18) = some (.int (10 ^ 18)) := rfl
  simp only [e]
  unfold law_dice_b
  by_cases h1 : -10 < z
  · by_cases h2 : z < 10
    · refine ⟨z.natAbs, 0, 2, ?_⟩
      simp only [r_bo,r_be,r_bs,r_ao,r_ae,r_as,r_os,r_on,r_gt,r_gq,r_ge,r_so,r_se,s_nx,s_rt,s_bk,s_ct,s_er,e_Val,k_Of,k_Ok,e_Var,k_Var,e_Fz,k_Fz,k_Fz',e_Cold,k_Cold,e_2,k_2,e_Tru,e_Bl,k_Bl,e_B,k_B,e_Not,k_Not,e_And,k_AndT,k_AndF,e_Or,k_OrT,k_OrF,e_If,k_IfET,k_IfEF,e_True,e_Chain,k_Ch1,k_Ch2,k_Ch3T,k_Ch3F,e_Nil,e_Cons,k_Cons,k_Cons',e_vNil,e_vCons,k_vCons,e_Call,e_Neg,e_Fld,e_agNil,e_agVal,k_Ag,k_Ag1,k_Ag2,agT,agF,e_agPl,k_Pl,k_Pl1,k_Pl2,e_plVar,e_plFld,k_pF,k_pF1,k_pF2,e_rPl,k_rP,k_rP1,e_rVal,k_rV,k_rV1,e_Fn,e_Mk,e_Mt,k_Mt,k_Mt1,k_Mt2,a_fixV,a_fixO,e_runF,k_Run,k_Rf,k_RfE,e_runMk,k_Mk,k_Mk1,k_MkR,k_MkE,e_Told,k_Td,k_TdE,k_Td1,e_Rng,e_Src,e_Walk,k_Wk,e_turn,k_Tn,k_TnT,k_TnF,k_Ty,e_Lc,k_Lc,k_Lc1,e_Ld0,e_Ld,k_Ld,k_LdT,e_sNil,e_sSeq,e_sExpr,k_X,e_sRet,e_sIf,k_IfT,k_IfF,e_sSet,k_Set,e_sAsg,k_Asg,e_sPar,k_Par2',k_Par3',k_Par4',k_Par5',e_sPar2,k_Par2,e_par2,e_sFor,k_For,e_for0,e_for1,k_F1,k_F2n,k_F2c,k_F2b,k_F2r,k_F2e,e_sForMv,k_Mv1,e_sRaise,k_Rs,e_chg,k_c1,k_c2,k_c3,e_sFld,k_Sf,e_App,k_a1,k_a2,k_a3,k_a4,e_sIx,k_ix,k_ix1,e_sAug,k_Au,k_Au1,k_Au2,k_Au3,e_quiet,e_tName,e_tTup,e_tNil,e_tCons,k_T,e_soOf,e_getP,k_gP,e_at0,e_at1,k_at,e_put0,e_putP',k_pu,e_getL,k_gL,k_L0,e_len0,e_lenV,e_lenO,k_L1,k_L2,k_L3,e_giv0,e_givV,e_givO,k_G1,a_isV,a_isO,e_rfR,e_rfN,e_rfE,e_bkT,e_bkN,e_bkF,e_bk0,e_wip0,e_wip1,e_kT,e_kF,c_int,c_bl,c_str,c_non,c_any,c_nd,c_nil,c_cons,f_int,f_bl,f_str,f_non,f_any,f_ndT,f_ndF,e_ptN,e_ptS,k_Pt,e_Sl,k_Sl1,k_Sl2,k_Sl3,e_srF,e_srC,e_srT,e_scr,c_scr,i_add,i_adI,i_adQ,i_sub,i_mul,i_fdv,i_mod,i_lt,i_le,i_gt,i_ge,i_neg,i_abs,i_int,i_intb,i_max,i_min,i_eq,i_ne,i_ixl,i_ixt,k_Map,k_St,i_set,at0,at1,at2,sl_0,sl_1,eq_00,eq_10,ixN30,ixN31,ixN32,lst0,k_Ob,i_tup1,i_lst1,i_tup2,i_lst2,i_tup3,i_lst3,i_tup4,i_lst4,i_tup5,i_lst5,i_tup6,i_lst6,List.getElem?_cons_zero,List.getElem?_cons_succ,List.getElem?_nil,List.set_cons_zero,List.set_cons_succ,List.set_nil,Bool.and_true,Bool.true_and,Bool.and_false,Bool.false_and,Bool.or_true,Bool.true_or,Bool.or_false,Bool.false_or,Bool.not_true,Bool.not_false,decide_true,decide_false,List.all_cons,List.all_nil,List.isEmpty_nil,List.isEmpty_cons,List.map_cons,List.map_nil,List.append_nil,List.nil_append,List.cons_append,List.length_cons,List.length_nil,Nat.zero_add,Nat.reduceAdd,Option.toList_some,Option.toList_none,Int.reduceEq,Int.reduceLT,Int.reduceLE,Int.reduceSub,Int.reduceAdd,Int.reduceNeg,Int.reduceMul,eq_self,h1,h2]
    · refine ⟨z, 1 + z.fmod 1009, b2i (decide (10 ^ 18 ≤ z)), ?_⟩
      simp only [r_bo,r_be,r_bs,r_ao,r_ae,r_as,r_os,r_on,r_gt,r_gq,r_ge,r_so,r_se,s_nx,s_rt,s_bk,s_ct,s_er,e_Val,k_Of,k_Ok,e_Var,k_Var,e_Fz,k_Fz,k_Fz',e_Cold,k_Cold,e_2,k_2,e_Tru,e_Bl,k_Bl,e_B,k_B,e_Not,k_Not,e_And,k_AndT,k_AndF,e_Or,k_OrT,k_OrF,e_If,k_IfET,k_IfEF,e_True,e_Chain,k_Ch1,k_Ch2,k_Ch3T,k_Ch3F,e_Nil,e_Cons,k_Cons,k_Cons',e_vNil,e_vCons,k_vCons,e_Call,e_Neg,e_Fld,e_agNil,e_agVal,k_Ag,k_Ag1,k_Ag2,agT,agF,e_agPl,k_Pl,k_Pl1,k_Pl2,e_plVar,e_plFld,k_pF,k_pF1,k_pF2,e_rPl,k_rP,k_rP1,e_rVal,k_rV,k_rV1,e_Fn,e_Mk,e_Mt,k_Mt,k_Mt1,k_Mt2,a_fixV,a_fixO,e_runF,k_Run,k_Rf,k_RfE,e_runMk,k_Mk,k_Mk1,k_MkR,k_MkE,e_Told,k_Td,k_TdE,k_Td1,e_Rng,e_Src,e_Walk,k_Wk,e_turn,k_Tn,k_TnT,k_TnF,k_Ty,e_Lc,k_Lc,k_Lc1,e_Ld0,e_Ld,k_Ld,k_LdT,e_sNil,e_sSeq,e_sExpr,k_X,e_sRet,e_sIf,k_IfT,k_IfF,e_sSet,k_Set,e_sAsg,k_Asg,e_sPar,k_Par2',k_Par3',k_Par4',k_Par5',e_sPar2,k_Par2,e_par2,e_sFor,k_For,e_for0,e_for1,k_F1,k_F2n,k_F2c,k_F2b,k_F2r,k_F2e,e_sForMv,k_Mv1,e_sRaise,k_Rs,e_chg,k_c1,k_c2,k_c3,e_sFld,k_Sf,e_App,k_a1,k_a2,k_a3,k_a4,e_sIx,k_ix,k_ix1,e_sAug,k_Au,k_Au1,k_Au2,k_Au3,e_quiet,e_tName,e_tTup,e_tNil,e_tCons,k_T,e_soOf,e_getP,k_gP,e_at0,e_at1,k_at,e_put0,e_putP',k_pu,e_getL,k_gL,k_L0,e_len0,e_lenV,e_lenO,k_L1,k_L2,k_L3,e_giv0,e_givV,e_givO,k_G1,a_isV,a_isO,e_rfR,e_rfN,e_rfE,e_bkT,e_bkN,e_bkF,e_bk0,e_wip0,e_wip1,e_kT,e_kF,c_int,c_bl,c_str,c_non,c_any,c_nd,c_nil,c_cons,f_int,f_bl,f_str,f_non,f_any,f_ndT,f_ndF,e_ptN,e_ptS,k_Pt,e_Sl,k_Sl1,k_Sl2,k_Sl3,e_srF,e_srC,e_srT,e_scr,c_scr,i_add,i_adI,i_adQ,i_sub,i_mul,i_fdv,i_mod,i_lt,i_le,i_gt,i_ge,i_neg,i_abs,i_int,i_intb,i_max,i_min,i_eq,i_ne,i_ixl,i_ixt,k_Map,k_St,i_set,at0,at1,at2,sl_0,sl_1,eq_00,eq_10,ixN30,ixN31,ixN32,lst0,k_Ob,i_tup1,i_lst1,i_tup2,i_lst2,i_tup3,i_lst3,i_tup4,i_lst4,i_tup5,i_lst5,i_tup6,i_lst6,List.getElem?_cons_zero,List.getElem?_cons_succ,List.getElem?_nil,List.set_cons_zero,List.set_cons_succ,List.set_nil,Bool.and_true,Bool.true_and,Bool.and_false,Bool.false_and,Bool.or_true,Bool.true_or,Bool.or_false,Bool.false_or,Bool.not_true,Bool.not_false,decide_true,decide_false,List.all_cons,List.all_nil,List.isEmpty_nil,List.isEmpty_cons,List.map_cons,List.map_nil,List.append_nil,List.nil_append,List.cons_append,List.length_cons,List.length_nil,Nat.zero_add,Nat.reduceAdd,Option.toList_some,Option.toList_none,Int.reduceEq,Int.reduceLT,Int.reduceLE,Int.reduceSub,Int.reduceAdd,Int.reduceNeg,Int.reduceMul,eq_self,h1,h2,m1,p1]
  · refine ⟨z, 1 + z.fmod 1009, b2i (decide (10 ^ 18 ≤ z)), ?_⟩
    simp only [r_bo,r_be,r_bs,r_ao,r_ae,r_as,r_os,r_on,r_gt,r_gq,r_ge,r_so,r_se,s_nx,s_rt,s_bk,s_ct,s_er,e_Val,k_Of,k_Ok,e_Var,k_Var,e_Fz,k_Fz,k_Fz',e_Cold,k_Cold,e_2,k_2,e_Tru,e_Bl,k_Bl,e_B,k_B,e_Not,k_Not,e_And,k_AndT,k_AndF,e_Or,k_OrT,k_OrF,e_If,k_IfET,k_IfEF,e_True,e_Chain,k_Ch1,k_Ch2,k_Ch3T,k_Ch3F,e_Nil,e_Cons,k_Cons,k_Cons',e_vNil,e_vCons,k_vCons,e_Call,e_Neg,e_Fld,e_agNil,e_agVal,k_Ag,k_Ag1,k_Ag2,agT,agF,e_agPl,k_Pl,k_Pl1,k_Pl2,e_plVar,e_plFld,k_pF,k_pF1,k_pF2,e_rPl,k_rP,k_rP1,e_rVal,k_rV,k_rV1,e_Fn,e_Mk,e_Mt,k_Mt,k_Mt1,k_Mt2,a_fixV,a_fixO,e_runF,k_Run,k_Rf,k_RfE,e_runMk,k_Mk,k_Mk1,k_MkR,k_MkE,e_Told,k_Td,k_TdE,k_Td1,e_Rng,e_Src,e_Walk,k_Wk,e_turn,k_Tn,k_TnT,k_TnF,k_Ty,e_Lc,k_Lc,k_Lc1,e_Ld0,e_Ld,k_Ld,k_LdT,e_sNil,e_sSeq,e_sExpr,k_X,e_sRet,e_sIf,k_IfT,k_IfF,e_sSet,k_Set,e_sAsg,k_Asg,e_sPar,k_Par2',k_Par3',k_Par4',k_Par5',e_sPar2,k_Par2,e_par2,e_sFor,k_For,e_for0,e_for1,k_F1,k_F2n,k_F2c,k_F2b,k_F2r,k_F2e,e_sForMv,k_Mv1,e_sRaise,k_Rs,e_chg,k_c1,k_c2,k_c3,e_sFld,k_Sf,e_App,k_a1,k_a2,k_a3,k_a4,e_sIx,k_ix,k_ix1,e_sAug,k_Au,k_Au1,k_Au2,k_Au3,e_quiet,e_tName,e_tTup,e_tNil,e_tCons,k_T,e_soOf,e_getP,k_gP,e_at0,e_at1,k_at,e_put0,e_putP',k_pu,e_getL,k_gL,k_L0,e_len0,e_lenV,e_lenO,k_L1,k_L2,k_L3,e_giv0,e_givV,e_givO,k_G1,a_isV,a_isO,e_rfR,e_rfN,e_rfE,e_bkT,e_bkN,e_bkF,e_bk0,e_wip0,e_wip1,e_kT,e_kF,c_int,c_bl,c_str,c_non,c_any,c_nd,c_nil,c_cons,f_int,f_bl,f_str,f_non,f_any,f_ndT,f_ndF,e_ptN,e_ptS,k_Pt,e_Sl,k_Sl1,k_Sl2,k_Sl3,e_srF,e_srC,e_srT,e_scr,c_scr,i_add,i_adI,i_adQ,i_sub,i_mul,i_fdv,i_mod,i_lt,i_le,i_gt,i_ge,i_neg,i_abs,i_int,i_intb,i_max,i_min,i_eq,i_ne,i_ixl,i_ixt,k_Map,k_St,i_set,at0,at1,at2,sl_0,sl_1,eq_00,eq_10,ixN30,ixN31,ixN32,lst0,k_Ob,i_tup1,i_lst1,i_tup2,i_lst2,i_tup3,i_lst3,i_tup4,i_lst4,i_tup5,i_lst5,i_tup6,i_lst6,List.getElem?_cons_zero,List.getElem?_cons_succ,List.getElem?_nil,List.set_cons_zero,List.set_cons_succ,List.set_nil,Bool.and_true,Bool.true_and,Bool.and_false,Bool.false_and,Bool.or_true,Bool.true_or,Bool.or_false,Bool.false_or,Bool.not_true,Bool.not_false,decide_true,decide_false,List.all_cons,List.all_nil,List.isEmpty_nil,List.isEmpty_cons,List.map_cons,List.map_nil,List.append_nil,List.nil_append,List.cons_append,List.length_cons,List.length_nil,Nat.zero_add,Nat.reduceAdd,Option.toList_some,Option.toList_none,Int.reduceEq,Int.reduceLT,Int.reduceLE,Int.reduceSub,Int.reduceAdd,Int.reduceNeg,Int.reduceMul,eq_self,h1,m1,p1]
theorem rounds_eq (ns : List Int) : ∃ a b c bs, law_rounds [scrD ns, .int 1] = .rt (.nd true .lst [diceD a b c]) bs := by
  have e : ∀ x y, law_rounds [x, y] = (law_rounds_b [some x, some y, none, none]).rf [true, true] := fun x y => rfl
  simp only [e]
  unfold law_rounds_b
  have key : ∀ (o : Bool) (z : Int) (d1 d2 : D), ∃ a b c, lcD [3] o (turnD (tgName 3 false) mTrue (mFn law_dice (agPl (plVar 3) agNil)) true) [.int z] [] [some d1, some d2, some (.nd false .lst [.int z]), none] = .ok [diceD a b c] [some d1, some d2, some (.nd false .lst [.int z]), none] true := by
    intro o z d1 d2
    obtain ⟨a, b, c, h⟩ := dice_eq z
    refine ⟨a, b, c, ?_⟩
    simp only [r_bo,r_be,r_bs,r_ao,r_ae,r_as,r_os,r_on,r_gt,r_gq,r_ge,r_so,r_se,s_nx,s_rt,s_bk,s_ct,s_er,e_Val,k_Of,k_Ok,e_Var,k_Var,e_Fz,k_Fz,k_Fz',e_Cold,k_Cold,e_2,k_2,e_Tru,e_Bl,k_Bl,e_B,k_B,e_Not,k_Not,e_And,k_AndT,k_AndF,e_Or,k_OrT,k_OrF,e_If,k_IfET,k_IfEF,e_True,e_Chain,k_Ch1,k_Ch2,k_Ch3T,k_Ch3F,e_Nil,e_Cons,k_Cons,k_Cons',e_vNil,e_vCons,k_vCons,e_Call,e_Neg,e_Fld,e_agNil,e_agVal,k_Ag,k_Ag1,k_Ag2,agT,agF,e_agPl,k_Pl,k_Pl1,k_Pl2,e_plVar,e_plFld,k_pF,k_pF1,k_pF2,e_rPl,k_rP,k_rP1,e_rVal,k_rV,k_rV1,e_Fn,e_Mk,e_Mt,k_Mt,k_Mt1,k_Mt2,a_fixV,a_fixO,e_runF,k_Run,k_Rf,k_RfE,e_runMk,k_Mk,k_Mk1,k_MkR,k_MkE,e_Told,k_Td,k_TdE,k_Td1,e_Rng,e_Src,e_Walk,k_Wk,e_turn,k_Tn,k_TnT,k_TnF,k_Ty,e_Lc,k_Lc,k_Lc1,e_Ld0,e_Ld,k_Ld,k_LdT,e_sNil,e_sSeq,e_sExpr,k_X,e_sRet,e_sIf,k_IfT,k_IfF,e_sSet,k_Set,e_sAsg,k_Asg,e_sPar,k_Par2',k_Par3',k_Par4',k_Par5',e_sPar2,k_Par2,e_par2,e_sFor,k_For,e_for0,e_for1,k_F1,k_F2n,k_F2c,k_F2b,k_F2r,k_F2e,e_sForMv,k_Mv1,e_sRaise,k_Rs,e_chg,k_c1,k_c2,k_c3,e_sFld,k_Sf,e_App,k_a1,k_a2,k_a3,k_a4,e_sIx,k_ix,k_ix1,e_sAug,k_Au,k_Au1,k_Au2,k_Au3,e_quiet,e_tName,e_tTup,e_tNil,e_tCons,k_T,e_soOf,e_getP,k_gP,e_at0,e_at1,k_at,e_put0,e_putP',k_pu,e_getL,k_gL,k_L0,e_len0,e_lenV,e_lenO,k_L1,k_L2,k_L3,e_giv0,e_givV,e_givO,k_G1,a_isV,a_isO,e_rfR,e_rfN,e_rfE,e_bkT,e_bkN,e_bkF,e_bk0,e_wip0,e_wip1,e_kT,e_kF,c_int,c_bl,c_str,c_non,c_any,c_nd,c_nil,c_cons,f_int,f_bl,f_str,f_non,f_any,f_ndT,f_ndF,e_ptN,e_ptS,k_Pt,e_Sl,k_Sl1,k_Sl2,k_Sl3,e_srF,e_srC,e_srT,e_scr,c_scr,i_add,i_adI,i_adQ,i_sub,i_mul,i_fdv,i_mod,i_lt,i_le,i_gt,i_ge,i_neg,i_abs,i_int,i_intb,i_max,i_min,i_eq,i_ne,i_ixl,i_ixt,k_Map,k_St,i_set,at0,at1,at2,sl_0,sl_1,eq_00,eq_10,ixN30,ixN31,ixN32,lst0,k_Ob,i_tup1,i_lst1,i_tup2,i_lst2,i_tup3,i_lst3,i_tup4,i_lst4,i_tup5,i_lst5,i_tup6,i_lst6,List.getElem?_cons_zero,List.getElem?_cons_succ,List.getElem?_nil,List.set_cons_zero,List.set_cons_succ,List.set_nil,Bool.and_true,Bool.true_and,Bool.and_false,Bool.false_and,Bool.or_true,Bool.true_or,Bool.or_false,Bool.false_or,Bool.not_true,Bool.not_false,decide_true,decide_false,List.all_cons,List.all_nil,List.isEmpty_nil,List.isEmpty_cons,List.map_cons,List.map_nil,List.append_nil,List.nil_append,List.cons_append,List.length_cons,List.length_nil,Nat.zero_add,Nat.reduceAdd,Option.toList_some,Option.toList_none,Int.reduceEq,Int.reduceLT,Int.reduceLE,Int.reduceSub,Int.reduceAdd,Int.reduceNeg,Int.reduceMul,eq_self,h]
  cases ns with
  | nil =>
    obtain ⟨a, b, c, h⟩ := key false 0 (scrD []) (.int 1)
    refine ⟨a, b, c, [scrD [], .int 1], ?_⟩
    simp only [e_sSeq, e_sSet, e_sRet, e_Lc]
    simp only [r_bo,r_be,r_bs,r_ao,r_ae,r_as,r_os,r_on,r_gt,r_gq,r_ge,r_so,r_se,s_nx,s_rt,s_bk,s_ct,s_er,e_Val,k_Of,k_Ok,e_Var,k_Var,e_Fz,k_Fz,k_Fz',e_Cold,k_Cold,e_2,k_2,e_Tru,e_Bl,k_Bl,e_B,k_B,e_Not,k_Not,e_And,k_AndT,k_AndF,e_Or,k_OrT,k_OrF,e_If,k_IfET,k_IfEF,e_True,e_Chain,k_Ch1,k_Ch2,k_Ch3T,k_Ch3F,e_Nil,e_Cons,k_Cons,k_Cons',e_vNil,e_vCons,k_vCons,e_Call,e_Neg,e_Fld,e_agNil,e_agVal,k_Ag,k_Ag1,k_Ag2,agT,agF,e_agPl,k_Pl,k_Pl1,k_Pl2,e_plVar,e_plFld,k_pF,k_pF1,k_pF2,e_rPl,k_rP,k_rP1,e_rVal,k_rV,k_rV1,e_Fn,e_Mk,e_Mt,k_Mt,k_Mt1,k_Mt2,a_fixV,a_fixO,e_runF,k_Run,k_Rf,k_RfE,e_runMk,k_Mk,k_Mk1,k_MkR,k_MkE,e_Told,k_Td,k_TdE,k_Td1,e_Rng,e_Src,e_Walk,k_Wk,e_turn,k_Tn,k_TnT,k_TnF,k_Ty,e_Lc,k_Lc,k_Lc1,e_Ld0,e_Ld,k_Ld,k_LdT,e_sNil,e_sSeq,e_sExpr,k_X,e_sRet,e_sIf,k_IfT,k_IfF,e_sSet,k_Set,e_sAsg,k_Asg,e_sPar,k_Par2',k_Par3',k_Par4',k_Par5',e_sPar2,k_Par2,e_par2,e_sFor,k_For,e_for0,e_for1,k_F1,k_F2n,k_F2c,k_F2b,k_F2r,k_F2e,e_sForMv,k_Mv1,e_sRaise,k_Rs,e_chg,k_c1,k_c2,k_c3,e_sFld,k_Sf,e_App,k_a1,k_a2,k_a3,k_a4,e_sIx,k_ix,k_ix1,e_sAug,k_Au,k_Au1,k_Au2,k_Au3,e_quiet,e_tName,e_tTup,e_tNil,e_tCons,k_T,e_soOf,e_getP,k_gP,e_at0,e_at1,k_at,e_put0,e_putP',k_pu,e_getL,k_gL,k_L0,e_len0,e_lenV,e_lenO,k_L1,k_L2,k_L3,e_giv0,e_givV,e_givO,k_G1,a_isV,a_isO,e_rfR,e_rfN,e_rfE,e_bkT,e_bkN,e_bkF,e_bk0,e_wip0,e_wip1,e_kT,e_kF,c_int,c_bl,c_str,c_non,c_any,c_nd,c_nil,c_cons,f_int,f_bl,f_str,f_non,f_any,f_ndT,f_ndF,e_ptN,e_ptS,k_Pt,e_Sl,k_Sl1,k_Sl2,k_Sl3,e_srF,e_srC,e_srT,e_scr,c_scr,i_add,i_adI,i_adQ,i_sub,i_mul,i_fdv,i_mod,i_lt,i_le,i_gt,i_ge,i_neg,i_abs,i_int,i_intb,i_max,i_min,i_eq,i_ne,i_ixl,i_ixt,k_Map,k_St,i_set,at0,at1,at2,sl_0,sl_1,eq_00,eq_10,ixN30,ixN31,ixN32,lst0,k_Ob,i_tup1,i_lst1,i_tup2,i_lst2,i_tup3,i_lst3,i_tup4,i_lst4,i_tup5,i_lst5,i_tup6,i_lst6,List.getElem?_cons_zero,List.getElem?_cons_succ,List.getElem?_nil,List.set_cons_zero,List.set_cons_succ,List.set_nil,Bool.and_true,Bool.true_and,Bool.and_false,Bool.false_and,Bool.or_true,Bool.true_or,Bool.or_false,Bool.false_or,Bool.not_true,Bool.not_false,decide_true,decide_false,List.all_cons,List.all_nil,List.isEmpty_nil,List.isEmpty_cons,List.map_cons,List.map_nil,List.append_nil,List.nil_append,List.cons_append,List.length_cons,List.length_nil,Nat.zero_add,Nat.reduceAdd,Option.toList_some,Option.toList_none,Int.reduceEq,Int.reduceLT,Int.reduceLE,Int.reduceSub,Int.reduceAdd,Int.reduceNeg,Int.reduceMul,eq_self,h]
  | cons z ns =>
    obtain ⟨a, b, c, h⟩ := key false z (scrD (z :: ns)) (.int 1)
    refine ⟨a, b, c, [scrD (z :: ns), .int 1], ?_⟩
    simp only [r_bo,r_be,r_bs,r_ao,r_ae,r_as,r_os,r_on,r_gt,r_gq,r_ge,r_so,r_se,s_nx,s_rt,s_bk,s_ct,s_er,e_Val,k_Of,k_Ok,e_Var,k_Var,e_Fz,k_Fz,k_Fz',e_Cold,k_Cold,e_2,k_2,e_Tru,e_Bl,k_Bl,e_B,k_B,e_Not,k_Not,e_And,k_AndT,k_AndF,e_Or,k_OrT,k_OrF,e_If,k_IfET,k_IfEF,e_True,e_Chain,k_Ch1,k_Ch2,k_Ch3T,k_Ch3F,e_Nil,e_Cons,k_Cons,k_Cons',e_vNil,e_vCons,k_vCons,e_Call,e_Neg,e_Fld,e_agNil,e_agVal,k_Ag,k_Ag1,k_Ag2,agT,agF,e_agPl,k_Pl,k_Pl1,k_Pl2,e_plVar,e_plFld,k_pF,k_pF1,k_pF2,e_rPl,k_rP,k_rP1,e_rVal,k_rV,k_rV1,e_Fn,e_Mk,e_Mt,k_Mt,k_Mt1,k_Mt2,a_fixV,a_fixO,e_runF,k_Run,k_Rf,k_RfE,e_runMk,k_Mk,k_Mk1,k_MkR,k_MkE,e_Told,k_Td,k_TdE,k_Td1,e_Rng,e_Src,e_Walk,k_Wk,e_turn,k_Tn,k_TnT,k_TnF,k_Ty,e_Lc,k_Lc,k_Lc1,e_Ld0,e_Ld,k_Ld,k_LdT,e_sNil,e_sSeq,e_sExpr,k_X,e_sRet,e_sIf,k_IfT,k_IfF,e_sSet,k_Set,e_sAsg,k_Asg,e_sPar,k_Par2',k_Par3',k_Par4',k_Par5',e_sPar2,k_Par2,e_par2,e_sFor,k_For,e_for0,e_for1,k_F1,k_F2n,k_F2c,k_F2b,k_F2r,k_F2e,e_sForMv,k_Mv1,e_sRaise,k_Rs,e_chg,k_c1,k_c2,k_c3,e_sFld,k_Sf,e_App,k_a1,k_a2,k_a3,k_a4,e_sIx,k_ix,k_ix1,e_sAug,k_Au,k_Au1,k_Au2,k_Au3,e_quiet,e_tName,e_tTup,e_tNil,e_tCons,k_T,e_soOf,e_getP,k_gP,e_at0,e_at1,k_at,e_put0,e_putP',k_pu,e_getL,k_gL,k_L0,e_len0,e_lenV,e_lenO,k_L1,k_L2,k_L3,e_giv0,e_givV,e_givO,k_G1,a_isV,a_isO,e_rfR,e_rfN,e_rfE,e_bkT,e_bkN,e_bkF,e_bk0,e_wip0,e_wip1,e_kT,e_kF,c_int,c_bl,c_str,c_non,c_any,c_nd,c_nil,c_cons,f_int,f_bl,f_str,f_non,f_any,f_ndT,f_ndF,e_ptN,e_ptS,k_Pt,e_Sl,k_Sl1,k_Sl2,k_Sl3,e_srF,e_srC,e_srT,e_scr,c_scr,i_add,i_adI,i_adQ,i_sub,i_mul,i_fdv,i_mod,i_lt,i_le,i_gt,i_ge,i_neg,i_abs,i_int,i_intb,i_max,i_min,i_eq,i_ne,i_ixl,i_ixt,k_Map,k_St,i_set,at0,at1,at2,sl_0,sl_1,eq_00,eq_10,ixN30,ixN31,ixN32,lst0,k_Ob,i_tup1,i_lst1,i_tup2,i_lst2,i_tup3,i_lst3,i_tup4,i_lst4,i_tup5,i_lst5,i_tup6,i_lst6,List.getElem?_cons_zero,List.getElem?_cons_succ,List.getElem?_nil,List.set_cons_zero,List.set_cons_succ,List.set_nil,Bool.and_true,Bool.true_and,Bool.and_false,Bool.false_and,Bool.or_true,Bool.true_or,Bool.or_false,Bool.false_or,Bool.not_true,Bool.not_false,decide_true,decide_false,List.all_cons,List.all_nil,List.isEmpty_nil,List.isEmpty_cons,List.map_cons,List.map_nil,List.append_nil,List.nil_append,List.cons_append,List.length_cons,List.length_nil,Nat.zero_add,Nat.reduceAdd,Option.toList_some,Option.toList_none,Int.reduceEq,Int.reduceLT,Int.reduceLE,Int.reduceSub,Int.reduceAdd,Int.reduceNeg,Int.reduceMul,eq_self,h]
end GP
namespace GL
open PySem PySem.Spec PyProof.Rows L2
/-! ### while: any number of turns that is enough -/
/-! ### Euclid's steps -/
end GL
namespace GL
open PySem PySem.Spec PyProof.Rows L2
/-! ### one statement, and the rest -/
theorem seq_step {s k : Sl → So} {Γ Γ' : Sl} {ms : List Bool} {r : RF} (h1 : s Γ = .nx Γ') (h2 : So.rf ms (k Γ') = r) : So.rf ms (sSeq s k Γ) = r := by
  rw [e_sSeq, h1, s_nx, h2]
theorem seq_in {s k : Sl → So} {Γ Γ' : Sl} {o : So} (h1 : s Γ = .nx Γ') (h2 : k Γ' = o) : sSeq s k Γ = o := by
  rw [e_sSeq, h1, s_nx, h2]
end GL
namespace GL
open PySem PySem.Spec PyProof.Rows L2
section
variable {x y z : Int}
end
theorem n1 : ((1 : Nat) : Int) = 1 := rfl
theorem n2 : ((2 : Nat) : Int) = 2 := rfl
theorem n3 : ((3 : Nat) : Int) = 3 := rfl
theorem one : fdG 1 := ⟨by decide, by decide⟩
theorem z0 : ((0 : Nat) : Int) = 0 := rfl
theorem giv2 (Γ : Sl) (d1 d2 : D) : ∀ bs : List D, giveA Γ [.val d1, .val d2] bs = Γ
  | [] => by unfold giveA; rfl
  | [_] => by rw [e_givV]; unfold giveA; rfl
  | _ :: _ :: _ => by rw [e_givV, e_givV]; exact e_giv0
end GL
namespace GP
open PySem PySem.Spec PyProof.Rows L2 GL
def deskD : D := .nd true (.ins "Desk" ["text", "deeds", "undone"]) [.str "1 jug blown 9\n2 jug cooled 6\n2 jar blown 4\n3 jug sold 1", .nd true .lst [], .nd true .lst []]
def slots (s0 d : D) (m k : Int) (s6 : Option D) : Sl := [some s0, some d, some (.int m), some deskD, some .any, some (.int k), s6]
noncomputable def go : Sl → So := (GL.undGo us [(GL.mMt [("Desk", Desk_undo)] "undo" (GL.rPl (GL.plVar 3)) GL.agNil), (GL.mMk "Pair" Pair_init (GL.agVal (GL.mCold (GL.mVal (.int 0))) (GL.agPl (GL.plVar 2) GL.agNil))), (GL.mFn putty_for (GL.agVal (GL.mCold (GL.mCall GL.lstD GL.mNil)) (GL.agVal (GL.mCold (GL.m2 GL.subD (GL.mCold (GL.mVal (.int 0))) (GL.mVar 2))) GL.agNil))), (GL.mFn read_line (GL.agVal (GL.mCold (GL.m2 GL.mulS (GL.mCold (GL.mVal (.str "x"))) (GL.mVar 2))) GL.agNil)), (GL.mFn check_pane (GL.agPl (GL.plVar 2) (GL.agPl (GL.plVar 2) (GL.agVal (GL.mCold (GL.mVal (.int 1))) (GL.agVal (GL.mCold (GL.mVal (.int 301))) GL.agNil))))), (GL.mMt [("Bottle", Bottle_level)] "level" (GL.rVal (GL.mCold (GL.mMk "Bottle" Bottle_init (GL.agVal (GL.mCold (GL.mCall GL.lstD (GL.mCons (GL.mVar 2) GL.mNil))) GL.agNil)))) (GL.agVal (GL.mCold (GL.m2 GL.addD (GL.mVar 2) (GL.mCold (GL.mVal (.int 1))))) GL.agNil)), (GL.mFn step_of (GL.agVal (GL.mCold (GL.m2 GL.mulS (GL.mCold (GL.mVal (.str "x"))) (GL.mVar 2))) GL.agNil)), (GL.mMt [("Scope", Scope_tube)] "tube" (GL.rVal (GL.mCold (GL.mMk "Scope" Scope_init (GL.agPl (GL.plVar 2) (GL.agVal (GL.mCold (GL.mVal (.int 1))) (GL.agVal (GL.mCold (GL.m2 GL.subD (GL.mCold (GL.mVal (.int 0))) (GL.mVar 2))) GL.agNil)))))) GL.agNil)] 5 (GL.mCold (GL.m2 GL.addD (GL.mCold (GL.mLc [6] (GL.mRng GL.rng1 (GL.mCons (GL.mCold (GL.mVal (.int 8))) GL.mNil)) (GL.turnD (GL.tgName 6 false) GL.mTrue (GL.m2 GL.eqG (GL.mVar 6) (GL.mVar 5)) false))) (GL.mCold (GL.mCall GL.lstD (GL.mCons (GL.mCold (GL.mVal (.bl true))) GL.mNil))))) (GL.sSeq (GL.sRet (GL.mVal (.bl false)))
  GL.sNil)
  GL.sNil)
theorem go_0_1 (s0 d s6) : go (slots s0 d 1 0 s6) = .nx (slots s0 d 1 0 none) := by kernel_rfl
theorem go_0_2 (s0 d s6) : go (slots s0 d 2 0 s6) = .nx (slots s0 d 2 0 none) := by kernel_rfl
theorem go_0_3 (s0 d s6) : go (slots s0 d 3 0 s6) = .nx (slots s0 d 3 0 none) := by kernel_rfl
theorem go_0_4 (s0 d s6) : go (slots s0 d 4 0 s6) = .nx (slots s0 d 4 0 none) := by kernel_rfl
theorem go_0_5 (s0 d s6) : go (slots s0 d 5 0 s6) = .nx (slots s0 d 5 0 none) := by kernel_rfl
theorem go_0_6 (s0 d s6) : go (slots s0 d 6 0 s6) = .nx (slots s0 d 6 0 none) := by kernel_rfl
theorem go_0_7 (s0 d s6) : go (slots s0 d 7 0 s6) = .nx (slots s0 d 7 0 none) := by kernel_rfl
theorem go_0_8 (s0 d s6) : go (slots s0 d 8 0 s6) = .nx (slots s0 d 8 0 none) := by kernel_rfl
theorem go_0_9 (s0 d s6) : go (slots s0 d 9 0 s6) = .nx (slots s0 d 9 0 none) := by kernel_rfl
theorem go_0_10 (s0 d s6) : go (slots s0 d 10 0 s6) = .nx (slots s0 d 10 0 none) := by kernel_rfl
theorem go_0_11 (s0 d s6) : go (slots s0 d 11 0 s6) = .nx (slots s0 d 11 0 none) := by kernel_rfl
theorem go_0_12 (s0 d s6) : go (slots s0 d 12 0 s6) = .nx (slots s0 d 12 0 none) := by kernel_rfl
theorem go_0_13 (s0 d s6) : go (slots s0 d 13 0 s6) = .nx (slots s0 d 13 0 none) := by kernel_rfl
theorem go_0_14 (s0 d s6) : go (slots s0 d 14 0 s6) = .nx (slots s0 d 14 0 none) := by kernel_rfl
theorem go_0_15 (s0 d s6) : go (slots s0 d 15 0 s6) = .nx (slots s0 d 15 0 none) := by kernel_rfl
theorem go_0_16 (s0 d s6) : go (slots s0 d 16 0 s6) = .nx (slots s0 d 16 0 none) := by kernel_rfl
theorem go_0_17 (s0 d s6) : go (slots s0 d 17 0 s6) = .nx (slots s0 d 17 0 none) := by kernel_rfl
theorem go_0_18 (s0 d s6) : go (slots s0 d 18 0 s6) = .nx (slots s0 d 18 0 none) := by kernel_rfl
theorem go_0_19 (s0 d s6) : go (slots s0 d 19 0 s6) = .nx (slots s0 d 19 0 none) := by kernel_rfl
theorem go_0_20 (s0 d s6) : go (slots s0 d 20 0 s6) = .nx (slots s0 d 20 0 none) := by kernel_rfl
theorem go_0_21 (s0 d s6) : go (slots s0 d 21 0 s6) = .nx (slots s0 d 21 0 none) := by kernel_rfl
theorem go_0_22 (s0 d s6) : go (slots s0 d 22 0 s6) = .nx (slots s0 d 22 0 none) := by kernel_rfl
theorem go_0_23 (s0 d s6) : go (slots s0 d 23 0 s6) = .nx (slots s0 d 23 0 none) := by kernel_rfl
theorem go_0_24 (s0 d s6) : go (slots s0 d 24 0 s6) = .nx (slots s0 d 24 0 none) := by kernel_rfl
theorem go_0_25 (s0 d s6) : go (slots s0 d 25 0 s6) = .nx (slots s0 d 25 0 none) := by kernel_rfl
theorem go_0_26 (s0 d s6) : go (slots s0 d 26 0 s6) = .nx (slots s0 d 26 0 none) := by kernel_rfl
theorem go_0_27 (s0 d s6) : go (slots s0 d 27 0 s6) = .nx (slots s0 d 27 0 none) := by kernel_rfl
theorem go_0_28 (s0 d s6) : go (slots s0 d 28 0 s6) = .nx (slots s0 d 28 0 none) := by kernel_rfl
theorem go_0_29 (s0 d s6) : go (slots s0 d 29 0 s6) = .nx (slots s0 d 29 0 none) := by kernel_rfl
theorem go_0_30 (s0 d s6) : go (slots s0 d 30 0 s6) = .nx (slots s0 d 30 0 none) := by kernel_rfl
theorem go_0_31 (s0 d s6) : go (slots s0 d 31 0 s6) = .nx (slots s0 d 31 0 none) := by kernel_rfl
theorem go_0_32 (s0 d s6) : go (slots s0 d 32 0 s6) = .nx (slots s0 d 32 0 none) := by kernel_rfl
theorem go_0_33 (s0 d s6) : go (slots s0 d 33 0 s6) = .nx (slots s0 d 33 0 none) := by kernel_rfl
theorem go_0_34 (s0 d s6) : go (slots s0 d 34 0 s6) = .nx (slots s0 d 34 0 none) := by kernel_rfl
theorem go_0_35 (s0 d s6) : go (slots s0 d 35 0 s6) = .nx (slots s0 d 35 0 none) := by kernel_rfl
theorem go_0_36 (s0 d s6) : go (slots s0 d 36 0 s6) = .nx (slots s0 d 36 0 none) := by kernel_rfl
theorem go_0_37 (s0 d s6) : go (slots s0 d 37 0 s6) = .nx (slots s0 d 37 0 none) := by kernel_rfl
theorem go_0_38 (s0 d s6) : go (slots s0 d 38 0 s6) = .nx (slots s0 d 38 0 none) := by kernel_rfl
theorem go_0_39 (s0 d s6) : go (slots s0 d 39 0 s6) = .nx (slots s0 d 39 0 none) := by kernel_rfl
theorem go_0_40 (s0 d s6) : go (slots s0 d 40 0 s6) = .nx (slots s0 d 40 0 none) := by kernel_rfl
theorem go_0_41 (s0 d s6) : go (slots s0 d 41 0 s6) = .nx (slots s0 d 41 0 none) := by kernel_rfl
theorem go_0_42 (s0 d s6) : go (slots s0 d 42 0 s6) = .nx (slots s0 d 42 0 none) := by kernel_rfl
theorem go_0_43 (s0 d s6) : go (slots s0 d 43 0 s6) = .nx (slots s0 d 43 0 none) := by kernel_rfl
theorem go_0_44 (s0 d s6) : go (slots s0 d 44 0 s6) = .nx (slots s0 d 44 0 none) := by kernel_rfl
theorem go_0_45 (s0 d s6) : go (slots s0 d 45 0 s6) = .nx (slots s0 d 45 0 none) := by kernel_rfl
theorem go_0_46 (s0 d s6) : go (slots s0 d 46 0 s6) = .nx (slots s0 d 46 0 none) := by kernel_rfl
theorem go_0_47 (s0 d s6) : go (slots s0 d 47 0 s6) = .nx (slots s0 d 47 0 none) := by kernel_rfl
theorem go_0_48 (s0 d s6) : go (slots s0 d 48 0 s6) = .nx (slots s0 d 48 0 none) := by kernel_rfl
theorem go_0_49 (s0 d s6) : go (slots s0 d 49 0 s6) = .nx (slots s0 d 49 0 none) := by kernel_rfl
theorem go_0_50 (s0 d s6) : go (slots s0 d 50 0 s6) = .nx (slots s0 d 50 0 none) := by kernel_rfl
theorem go_0_51 (s0 d s6) : go (slots s0 d 51 0 s6) = .nx (slots s0 d 51 0 none) := by kernel_rfl
theorem go_0_52 (s0 d s6) : go (slots s0 d 52 0 s6) = .nx (slots s0 d 52 0 none) := by kernel_rfl
theorem go_0_53 (s0 d s6) : go (slots s0 d 53 0 s6) = .nx (slots s0 d 53 0 none) := by kernel_rfl
theorem go_0_54 (s0 d s6) : go (slots s0 d 54 0 s6) = .nx (slots s0 d 54 0 none) := by kernel_rfl
theorem go_0_55 (s0 d s6) : go (slots s0 d 55 0 s6) = .nx (slots s0 d 55 0 none) := by kernel_rfl
theorem go_0_56 (s0 d s6) : go (slots s0 d 56 0 s6) = .nx (slots s0 d 56 0 none) := by kernel_rfl
theorem go_0_57 (s0 d s6) : go (slots s0 d 57 0 s6) = .nx (slots s0 d 57 0 none) := by kernel_rfl
theorem go_0_58 (s0 d s6) : go (slots s0 d 58 0 s6) = .nx (slots s0 d 58 0 none) := by kernel_rfl
theorem go_0_59 (s0 d s6) : go (slots s0 d 59 0 s6) = .nx (slots s0 d 59 0 none) := by kernel_rfl
theorem go_0_60 (s0 d s6) : go (slots s0 d 60 0 s6) = .nx (slots s0 d 60 0 none) := by kernel_rfl
theorem go_0_61 (s0 d s6) : go (slots s0 d 61 0 s6) = .nx (slots s0 d 61 0 none) := by kernel_rfl
theorem go_0_62 (s0 d s6) : go (slots s0 d 62 0 s6) = .nx (slots s0 d 62 0 none) := by kernel_rfl
theorem go_0_63 (s0 d s6) : go (slots s0 d 63 0 s6) = .nx (slots s0 d 63 0 none) := by kernel_rfl
theorem go_0_64 (s0 d s6) : go (slots s0 d 64 0 s6) = .nx (slots s0 d 64 0 none) := by kernel_rfl
theorem go_0_65 (s0 d s6) : go (slots s0 d 65 0 s6) = .nx (slots s0 d 65 0 none) := by kernel_rfl
theorem go_0_66 (s0 d s6) : go (slots s0 d 66 0 s6) = .nx (slots s0 d 66 0 none) := by kernel_rfl
theorem go_0_67 (s0 d s6) : go (slots s0 d 67 0 s6) = .nx (slots s0 d 67 0 none) := by kernel_rfl
theorem go_0_68 (s0 d s6) : go (slots s0 d 68 0 s6) = .nx (slots s0 d 68 0 none) := by kernel_rfl
theorem go_0_69 (s0 d s6) : go (slots s0 d 69 0 s6) = .nx (slots s0 d 69 0 none) := by kernel_rfl
theorem go_0_70 (s0 d s6) : go (slots s0 d 70 0 s6) = .nx (slots s0 d 70 0 none) := by kernel_rfl
theorem go_0_71 (s0 d s6) : go (slots s0 d 71 0 s6) = .nx (slots s0 d 71 0 none) := by kernel_rfl
theorem go_0_72 (s0 d s6) : go (slots s0 d 72 0 s6) = .nx (slots s0 d 72 0 none) := by kernel_rfl
theorem go_0_73 (s0 d s6) : go (slots s0 d 73 0 s6) = .nx (slots s0 d 73 0 none) := by kernel_rfl
theorem go_0_74 (s0 d s6) : go (slots s0 d 74 0 s6) = .nx (slots s0 d 74 0 none) := by kernel_rfl
theorem go_0_75 (s0 d s6) : go (slots s0 d 75 0 s6) = .nx (slots s0 d 75 0 none) := by kernel_rfl
theorem go_0_76 (s0 d s6) : go (slots s0 d 76 0 s6) = .nx (slots s0 d 76 0 none) := by kernel_rfl
theorem go_0_77 (s0 d s6) : go (slots s0 d 77 0 s6) = .nx (slots s0 d 77 0 none) := by kernel_rfl
theorem go_0_78 (s0 d s6) : go (slots s0 d 78 0 s6) = .nx (slots s0 d 78 0 none) := by kernel_rfl
theorem go_0_79 (s0 d s6) : go (slots s0 d 79 0 s6) = .nx (slots s0 d 79 0 none) := by kernel_rfl
theorem go_0_80 (s0 d s6) : go (slots s0 d 80 0 s6) = .nx (slots s0 d 80 0 none) := by kernel_rfl
theorem go_0_81 (s0 d s6) : go (slots s0 d 81 0 s6) = .nx (slots s0 d 81 0 none) := by kernel_rfl
theorem go_0_82 (s0 d s6) : go (slots s0 d 82 0 s6) = .nx (slots s0 d 82 0 none) := by kernel_rfl
theorem go_0_83 (s0 d s6) : go (slots s0 d 83 0 s6) = .nx (slots s0 d 83 0 none) := by kernel_rfl
theorem go_0_84 (s0 d s6) : go (slots s0 d 84 0 s6) = .nx (slots s0 d 84 0 none) := by kernel_rfl
theorem go_0_85 (s0 d s6) : go (slots s0 d 85 0 s6) = .nx (slots s0 d 85 0 none) := by kernel_rfl
theorem go_0_86 (s0 d s6) : go (slots s0 d 86 0 s6) = .nx (slots s0 d 86 0 none) := by kernel_rfl
theorem go_0_87 (s0 d s6) : go (slots s0 d 87 0 s6) = .nx (slots s0 d 87 0 none) := by kernel_rfl
theorem go_0_88 (s0 d s6) : go (slots s0 d 88 0 s6) = .nx (slots s0 d 88 0 none) := by kernel_rfl
theorem go_0_89 (s0 d s6) : go (slots s0 d 89 0 s6) = .nx (slots s0 d 89 0 none) := by kernel_rfl
theorem go_0_90 (s0 d s6) : go (slots s0 d 90 0 s6) = .nx (slots s0 d 90 0 none) := by kernel_rfl
theorem go_1_1 (s0 d s6) : go (slots s0 d 1 1 s6) = .nx (slots s0 d 1 1 none) := by kernel_rfl
theorem go_1_2 (s0 d s6) : go (slots s0 d 2 1 s6) = .nx (slots s0 d 2 1 none) := by kernel_rfl
theorem go_1_3 (s0 d s6) : go (slots s0 d 3 1 s6) = .nx (slots s0 d 3 1 none) := by kernel_rfl
theorem go_1_4 (s0 d s6) : go (slots s0 d 4 1 s6) = .nx (slots s0 d 4 1 none) := by kernel_rfl
theorem go_1_5 (s0 d s6) : go (slots s0 d 5 1 s6) = .nx (slots s0 d 5 1 none) := by kernel_rfl
theorem go_1_6 (s0 d s6) : go (slots s0 d 6 1 s6) = .nx (slots s0 d 6 1 none) := by kernel_rfl
theorem go_1_7 (s0 d s6) : go (slots s0 d 7 1 s6) = .nx (slots s0 d 7 1 none) := by kernel_rfl
theorem go_1_8 (s0 d s6) : go (slots s0 d 8 1 s6) = .nx (slots s0 d 8 1 none) := by kernel_rfl
theorem go_1_9 (s0 d s6) : go (slots s0 d 9 1 s6) = .nx (slots s0 d 9 1 none) := by kernel_rfl
theorem go_1_10 (s0 d s6) : go (slots s0 d 10 1 s6) = .nx (slots s0 d 10 1 none) := by kernel_rfl
theorem go_1_11 (s0 d s6) : go (slots s0 d 11 1 s6) = .nx (slots s0 d 11 1 none) := by kernel_rfl
theorem go_1_12 (s0 d s6) : go (slots s0 d 12 1 s6) = .nx (slots s0 d 12 1 none) := by kernel_rfl
theorem go_1_13 (s0 d s6) : go (slots s0 d 13 1 s6) = .nx (slots s0 d 13 1 none) := by kernel_rfl
theorem go_1_14 (s0 d s6) : go (slots s0 d 14 1 s6) = .nx (slots s0 d 14 1 none) := by kernel_rfl
theorem go_1_15 (s0 d s6) : go (slots s0 d 15 1 s6) = .nx (slots s0 d 15 1 none) := by kernel_rfl
theorem go_1_16 (s0 d s6) : go (slots s0 d 16 1 s6) = .nx (slots s0 d 16 1 none) := by kernel_rfl
theorem go_1_17 (s0 d s6) : go (slots s0 d 17 1 s6) = .nx (slots s0 d 17 1 none) := by kernel_rfl
theorem go_1_18 (s0 d s6) : go (slots s0 d 18 1 s6) = .nx (slots s0 d 18 1 none) := by kernel_rfl
theorem go_1_19 (s0 d s6) : go (slots s0 d 19 1 s6) = .nx (slots s0 d 19 1 none) := by kernel_rfl
theorem go_1_20 (s0 d s6) : go (slots s0 d 20 1 s6) = .nx (slots s0 d 20 1 none) := by kernel_rfl
theorem go_1_21 (s0 d s6) : go (slots s0 d 21 1 s6) = .nx (slots s0 d 21 1 none) := by kernel_rfl
theorem go_1_22 (s0 d s6) : go (slots s0 d 22 1 s6) = .nx (slots s0 d 22 1 none) := by kernel_rfl
theorem go_1_23 (s0 d s6) : go (slots s0 d 23 1 s6) = .nx (slots s0 d 23 1 none) := by kernel_rfl
theorem go_1_24 (s0 d s6) : go (slots s0 d 24 1 s6) = .nx (slots s0 d 24 1 none) := by kernel_rfl
theorem go_1_25 (s0 d s6) : go (slots s0 d 25 1 s6) = .nx (slots s0 d 25 1 none) := by kernel_rfl
theorem go_1_26 (s0 d s6) : go (slots s0 d 26 1 s6) = .nx (slots s0 d 26 1 none) := by kernel_rfl
theorem go_1_27 (s0 d s6) : go (slots s0 d 27 1 s6) = .nx (slots s0 d 27 1 none) := by kernel_rfl
theorem go_1_28 (s0 d s6) : go (slots s0 d 28 1 s6) = .nx (slots s0 d 28 1 none) := by kernel_rfl
theorem go_1_29 (s0 d s6) : go (slots s0 d 29 1 s6) = .nx (slots s0 d 29 1 none) := by kernel_rfl
theorem go_1_30 (s0 d s6) : go (slots s0 d 30 1 s6) = .nx (slots s0 d 30 1 none) := by kernel_rfl
theorem go_1_31 (s0 d s6) : go (slots s0 d 31 1 s6) = .nx (slots s0 d 31 1 none) := by kernel_rfl
theorem go_1_32 (s0 d s6) : go (slots s0 d 32 1 s6) = .nx (slots s0 d 32 1 none) := by kernel_rfl
theorem go_1_33 (s0 d s6) : go (slots s0 d 33 1 s6) = .nx (slots s0 d 33 1 none) := by kernel_rfl
theorem go_1_34 (s0 d s6) : go (slots s0 d 34 1 s6) = .nx (slots s0 d 34 1 none) := by kernel_rfl
theorem go_1_35 (s0 d s6) : go (slots s0 d 35 1 s6) = .nx (slots s0 d 35 1 none) := by kernel_rfl
theorem go_1_36 (s0 d s6) : go (slots s0 d 36 1 s6) = .nx (slots s0 d 36 1 none) := by kernel_rfl
theorem go_1_37 (s0 d s6) : go (slots s0 d 37 1 s6) = .nx (slots s0 d 37 1 none) := by kernel_rfl
theorem go_1_38 (s0 d s6) : go (slots s0 d 38 1 s6) = .nx (slots s0 d 38 1 none) := by kernel_rfl
theorem go_1_39 (s0 d s6) : go (slots s0 d 39 1 s6) = .nx (slots s0 d 39 1 none) := by kernel_rfl
theorem go_1_40 (s0 d s6) : go (slots s0 d 40 1 s6) = .nx (slots s0 d 40 1 none) := by kernel_rfl
theorem go_1_41 (s0 d s6) : go (slots s0 d 41 1 s6) = .nx (slots s0 d 41 1 none) := by kernel_rfl
theorem go_1_42 (s0 d s6) : go (slots s0 d 42 1 s6) = .nx (slots s0 d 42 1 none) := by kernel_rfl
theorem go_1_43 (s0 d s6) : go (slots s0 d 43 1 s6) = .nx (slots s0 d 43 1 none) := by kernel_rfl
theorem go_1_44 (s0 d s6) : go (slots s0 d 44 1 s6) = .nx (slots s0 d 44 1 none) := by kernel_rfl
theorem go_1_45 (s0 d s6) : go (slots s0 d 45 1 s6) = .nx (slots s0 d 45 1 none) := by kernel_rfl
theorem go_1_46 (s0 d s6) : go (slots s0 d 46 1 s6) = .nx (slots s0 d 46 1 none) := by kernel_rfl
theorem go_1_47 (s0 d s6) : go (slots s0 d 47 1 s6) = .nx (slots s0 d 47 1 none) := by kernel_rfl
theorem go_1_48 (s0 d s6) : go (slots s0 d 48 1 s6) = .nx (slots s0 d 48 1 none) := by kernel_rfl
theorem go_1_49 (s0 d s6) : go (slots s0 d 49 1 s6) = .nx (slots s0 d 49 1 none) := by kernel_rfl
theorem go_1_50 (s0 d s6) : go (slots s0 d 50 1 s6) = .nx (slots s0 d 50 1 none) := by kernel_rfl
theorem go_1_51 (s0 d s6) : go (slots s0 d 51 1 s6) = .nx (slots s0 d 51 1 none) := by kernel_rfl
theorem go_1_52 (s0 d s6) : go (slots s0 d 52 1 s6) = .nx (slots s0 d 52 1 none) := by kernel_rfl
theorem go_1_53 (s0 d s6) : go (slots s0 d 53 1 s6) = .nx (slots s0 d 53 1 none) := by kernel_rfl
theorem go_1_54 (s0 d s6) : go (slots s0 d 54 1 s6) = .nx (slots s0 d 54 1 none) := by kernel_rfl
theorem go_1_55 (s0 d s6) : go (slots s0 d 55 1 s6) = .nx (slots s0 d 55 1 none) := by kernel_rfl
theorem go_1_56 (s0 d s6) : go (slots s0 d 56 1 s6) = .nx (slots s0 d 56 1 none) := by kernel_rfl
theorem go_1_57 (s0 d s6) : go (slots s0 d 57 1 s6) = .nx (slots s0 d 57 1 none) := by kernel_rfl
theorem go_1_58 (s0 d s6) : go (slots s0 d 58 1 s6) = .nx (slots s0 d 58 1 none) := by kernel_rfl
theorem go_1_59 (s0 d s6) : go (slots s0 d 59 1 s6) = .nx (slots s0 d 59 1 none) := by kernel_rfl
theorem go_1_60 (s0 d s6) : go (slots s0 d 60 1 s6) = .nx (slots s0 d 60 1 none) := by kernel_rfl
theorem go_1_61 (s0 d s6) : go (slots s0 d 61 1 s6) = .nx (slots s0 d 61 1 none) := by kernel_rfl
theorem go_1_62 (s0 d s6) : go (slots s0 d 62 1 s6) = .nx (slots s0 d 62 1 none) := by kernel_rfl
theorem go_1_63 (s0 d s6) : go (slots s0 d 63 1 s6) = .nx (slots s0 d 63 1 none) := by kernel_rfl
theorem go_1_64 (s0 d s6) : go (slots s0 d 64 1 s6) = .nx (slots s0 d 64 1 none) := by kernel_rfl
theorem go_1_65 (s0 d s6) : go (slots s0 d 65 1 s6) = .nx (slots s0 d 65 1 none) := by kernel_rfl
theorem go_1_66 (s0 d s6) : go (slots s0 d 66 1 s6) = .nx (slots s0 d 66 1 none) := by kernel_rfl
theorem go_1_67 (s0 d s6) : go (slots s0 d 67 1 s6) = .nx (slots s0 d 67 1 none) := by kernel_rfl
theorem go_1_68 (s0 d s6) : go (slots s0 d 68 1 s6) = .nx (slots s0 d 68 1 none) := by kernel_rfl
theorem go_1_69 (s0 d s6) : go (slots s0 d 69 1 s6) = .nx (slots s0 d 69 1 none) := by kernel_rfl
theorem go_1_70 (s0 d s6) : go (slots s0 d 70 1 s6) = .nx (slots s0 d 70 1 none) := by kernel_rfl
theorem go_1_71 (s0 d s6) : go (slots s0 d 71 1 s6) = .nx (slots s0 d 71 1 none) := by kernel_rfl
theorem go_1_72 (s0 d s6) : go (slots s0 d 72 1 s6) = .nx (slots s0 d 72 1 none) := by kernel_rfl
theorem go_1_73 (s0 d s6) : go (slots s0 d 73 1 s6) = .nx (slots s0 d 73 1 none) := by kernel_rfl
theorem go_1_74 (s0 d s6) : go (slots s0 d 74 1 s6) = .nx (slots s0 d 74 1 none) := by kernel_rfl
theorem go_1_75 (s0 d s6) : go (slots s0 d 75 1 s6) = .nx (slots s0 d 75 1 none) := by kernel_rfl
theorem go_1_76 (s0 d s6) : go (slots s0 d 76 1 s6) = .nx (slots s0 d 76 1 none) := by kernel_rfl
theorem go_1_77 (s0 d s6) : go (slots s0 d 77 1 s6) = .nx (slots s0 d 77 1 none) := by kernel_rfl
theorem go_1_78 (s0 d s6) : go (slots s0 d 78 1 s6) = .nx (slots s0 d 78 1 none) := by kernel_rfl
theorem go_1_79 (s0 d s6) : go (slots s0 d 79 1 s6) = .nx (slots s0 d 79 1 none) := by kernel_rfl
theorem go_1_80 (s0 d s6) : go (slots s0 d 80 1 s6) = .nx (slots s0 d 80 1 none) := by kernel_rfl
theorem go_1_81 (s0 d s6) : go (slots s0 d 81 1 s6) = .nx (slots s0 d 81 1 none) := by kernel_rfl
theorem go_1_82 (s0 d s6) : go (slots s0 d 82 1 s6) = .nx (slots s0 d 82 1 none) := by kernel_rfl
theorem go_1_83 (s0 d s6) : go (slots s0 d 83 1 s6) = .nx (slots s0 d 83 1 none) := by kernel_rfl
theorem go_1_84 (s0 d s6) : go (slots s0 d 84 1 s6) = .nx (slots s0 d 84 1 none) := by kernel_rfl
theorem go_1_85 (s0 d s6) : go (slots s0 d 85 1 s6) = .nx (slots s0 d 85 1 none) := by kernel_rfl
theorem go_1_86 (s0 d s6) : go (slots s0 d 86 1 s6) = .nx (slots s0 d 86 1 none) := by kernel_rfl
theorem go_1_87 (s0 d s6) : go (slots s0 d 87 1 s6) = .nx (slots s0 d 87 1 none) := by kernel_rfl
theorem go_1_88 (s0 d s6) : go (slots s0 d 88 1 s6) = .nx (slots s0 d 88 1 none) := by kernel_rfl
theorem go_1_89 (s0 d s6) : go (slots s0 d 89 1 s6) = .nx (slots s0 d 89 1 none) := by kernel_rfl
theorem go_1_90 (s0 d s6) : go (slots s0 d 90 1 s6) = .nx (slots s0 d 90 1 none) := by kernel_rfl
theorem go_2_1 (s0 d s6) : go (slots s0 d 1 2 s6) = .nx (slots s0 d 1 2 none) := by kernel_rfl
theorem go_2_2 (s0 d s6) : go (slots s0 d 2 2 s6) = .nx (slots s0 d 2 2 none) := by kernel_rfl
theorem go_2_3 (s0 d s6) : go (slots s0 d 3 2 s6) = .nx (slots s0 d 3 2 none) := by kernel_rfl
theorem go_2_4 (s0 d s6) : go (slots s0 d 4 2 s6) = .nx (slots s0 d 4 2 none) := by kernel_rfl
theorem go_2_5 (s0 d s6) : go (slots s0 d 5 2 s6) = .nx (slots s0 d 5 2 none) := by kernel_rfl
theorem go_2_6 (s0 d s6) : go (slots s0 d 6 2 s6) = .nx (slots s0 d 6 2 none) := by kernel_rfl
theorem go_2_7 (s0 d s6) : go (slots s0 d 7 2 s6) = .nx (slots s0 d 7 2 none) := by kernel_rfl
theorem go_2_8 (s0 d s6) : go (slots s0 d 8 2 s6) = .nx (slots s0 d 8 2 none) := by kernel_rfl
theorem go_2_9 (s0 d s6) : go (slots s0 d 9 2 s6) = .nx (slots s0 d 9 2 none) := by kernel_rfl
theorem go_2_10 (s0 d s6) : go (slots s0 d 10 2 s6) = .nx (slots s0 d 10 2 none) := by kernel_rfl
theorem go_2_11 (s0 d s6) : go (slots s0 d 11 2 s6) = .nx (slots s0 d 11 2 none) := by kernel_rfl
theorem go_2_12 (s0 d s6) : go (slots s0 d 12 2 s6) = .nx (slots s0 d 12 2 none) := by kernel_rfl
theorem go_2_13 (s0 d s6) : go (slots s0 d 13 2 s6) = .nx (slots s0 d 13 2 none) := by kernel_rfl
theorem go_2_14 (s0 d s6) : go (slots s0 d 14 2 s6) = .nx (slots s0 d 14 2 none) := by kernel_rfl
theorem go_2_15 (s0 d s6) : go (slots s0 d 15 2 s6) = .nx (slots s0 d 15 2 none) := by kernel_rfl
theorem go_2_16 (s0 d s6) : go (slots s0 d 16 2 s6) = .nx (slots s0 d 16 2 none) := by kernel_rfl
theorem go_2_17 (s0 d s6) : go (slots s0 d 17 2 s6) = .nx (slots s0 d 17 2 none) := by kernel_rfl
theorem go_2_18 (s0 d s6) : go (slots s0 d 18 2 s6) = .nx (slots s0 d 18 2 none) := by kernel_rfl
theorem go_2_19 (s0 d s6) : go (slots s0 d 19 2 s6) = .nx (slots s0 d 19 2 none) := by kernel_rfl
theorem go_2_20 (s0 d s6) : go (slots s0 d 20 2 s6) = .nx (slots s0 d 20 2 none) := by kernel_rfl
theorem go_2_21 (s0 d s6) : go (slots s0 d 21 2 s6) = .nx (slots s0 d 21 2 none) := by kernel_rfl
theorem go_2_22 (s0 d s6) : go (slots s0 d 22 2 s6) = .nx (slots s0 d 22 2 none) := by kernel_rfl
theorem go_2_23 (s0 d s6) : go (slots s0 d 23 2 s6) = .nx (slots s0 d 23 2 none) := by kernel_rfl
theorem go_2_24 (s0 d s6) : go (slots s0 d 24 2 s6) = .nx (slots s0 d 24 2 none) := by kernel_rfl
theorem go_2_25 (s0 d s6) : go (slots s0 d 25 2 s6) = .nx (slots s0 d 25 2 none) := by kernel_rfl
theorem go_2_26 (s0 d s6) : go (slots s0 d 26 2 s6) = .nx (slots s0 d 26 2 none) := by kernel_rfl
theorem go_2_27 (s0 d s6) : go (slots s0 d 27 2 s6) = .nx (slots s0 d 27 2 none) := by kernel_rfl
theorem go_2_28 (s0 d s6) : go (slots s0 d 28 2 s6) = .nx (slots s0 d 28 2 none) := by kernel_rfl
theorem go_2_29 (s0 d s6) : go (slots s0 d 29 2 s6) = .nx (slots s0 d 29 2 none) := by kernel_rfl
theorem go_2_30 (s0 d s6) : go (slots s0 d 30 2 s6) = .nx (slots s0 d 30 2 none) := by kernel_rfl
theorem go_2_31 (s0 d s6) : go (slots s0 d 31 2 s6) = .nx (slots s0 d 31 2 none) := by kernel_rfl
theorem go_2_32 (s0 d s6) : go (slots s0 d 32 2 s6) = .nx (slots s0 d 32 2 none) := by kernel_rfl
theorem go_2_33 (s0 d s6) : go (slots s0 d 33 2 s6) = .nx (slots s0 d 33 2 none) := by kernel_rfl
theorem go_2_34 (s0 d s6) : go (slots s0 d 34 2 s6) = .nx (slots s0 d 34 2 none) := by kernel_rfl
theorem go_2_35 (s0 d s6) : go (slots s0 d 35 2 s6) = .nx (slots s0 d 35 2 none) := by kernel_rfl
theorem go_2_36 (s0 d s6) : go (slots s0 d 36 2 s6) = .nx (slots s0 d 36 2 none) := by kernel_rfl
theorem go_2_37 (s0 d s6) : go (slots s0 d 37 2 s6) = .nx (slots s0 d 37 2 none) := by kernel_rfl
theorem go_2_38 (s0 d s6) : go (slots s0 d 38 2 s6) = .nx (slots s0 d 38 2 none) := by kernel_rfl
theorem go_2_39 (s0 d s6) : go (slots s0 d 39 2 s6) = .nx (slots s0 d 39 2 none) := by kernel_rfl
theorem go_2_40 (s0 d s6) : go (slots s0 d 40 2 s6) = .nx (slots s0 d 40 2 none) := by kernel_rfl
theorem go_2_41 (s0 d s6) : go (slots s0 d 41 2 s6) = .nx (slots s0 d 41 2 none) := by kernel_rfl
theorem go_2_42 (s0 d s6) : go (slots s0 d 42 2 s6) = .nx (slots s0 d 42 2 none) := by kernel_rfl
theorem go_2_43 (s0 d s6) : go (slots s0 d 43 2 s6) = .nx (slots s0 d 43 2 none) := by kernel_rfl
theorem go_2_44 (s0 d s6) : go (slots s0 d 44 2 s6) = .nx (slots s0 d 44 2 none) := by kernel_rfl
theorem go_2_45 (s0 d s6) : go (slots s0 d 45 2 s6) = .nx (slots s0 d 45 2 none) := by kernel_rfl
theorem go_2_46 (s0 d s6) : go (slots s0 d 46 2 s6) = .nx (slots s0 d 46 2 none) := by kernel_rfl
theorem go_2_47 (s0 d s6) : go (slots s0 d 47 2 s6) = .nx (slots s0 d 47 2 none) := by kernel_rfl
theorem go_2_48 (s0 d s6) : go (slots s0 d 48 2 s6) = .nx (slots s0 d 48 2 none) := by kernel_rfl
theorem go_2_49 (s0 d s6) : go (slots s0 d 49 2 s6) = .nx (slots s0 d 49 2 none) := by kernel_rfl
theorem go_2_50 (s0 d s6) : go (slots s0 d 50 2 s6) = .nx (slots s0 d 50 2 none) := by kernel_rfl
theorem go_2_51 (s0 d s6) : go (slots s0 d 51 2 s6) = .nx (slots s0 d 51 2 none) := by kernel_rfl
theorem go_2_52 (s0 d s6) : go (slots s0 d 52 2 s6) = .nx (slots s0 d 52 2 none) := by kernel_rfl
theorem go_2_53 (s0 d s6) : go (slots s0 d 53 2 s6) = .nx (slots s0 d 53 2 none) := by kernel_rfl
theorem go_2_54 (s0 d s6) : go (slots s0 d 54 2 s6) = .nx (slots s0 d 54 2 none) := by kernel_rfl
theorem go_2_55 (s0 d s6) : go (slots s0 d 55 2 s6) = .nx (slots s0 d 55 2 none) := by kernel_rfl
theorem go_2_56 (s0 d s6) : go (slots s0 d 56 2 s6) = .nx (slots s0 d 56 2 none) := by kernel_rfl
theorem go_2_57 (s0 d s6) : go (slots s0 d 57 2 s6) = .nx (slots s0 d 57 2 none) := by kernel_rfl
theorem go_2_58 (s0 d s6) : go (slots s0 d 58 2 s6) = .nx (slots s0 d 58 2 none) := by kernel_rfl
theorem go_2_59 (s0 d s6) : go (slots s0 d 59 2 s6) = .nx (slots s0 d 59 2 none) := by kernel_rfl
theorem go_2_60 (s0 d s6) : go (slots s0 d 60 2 s6) = .nx (slots s0 d 60 2 none) := by kernel_rfl
theorem go_2_61 (s0 d s6) : go (slots s0 d 61 2 s6) = .nx (slots s0 d 61 2 none) := by kernel_rfl
theorem go_2_62 (s0 d s6) : go (slots s0 d 62 2 s6) = .nx (slots s0 d 62 2 none) := by kernel_rfl
theorem go_2_63 (s0 d s6) : go (slots s0 d 63 2 s6) = .nx (slots s0 d 63 2 none) := by kernel_rfl
theorem go_2_64 (s0 d s6) : go (slots s0 d 64 2 s6) = .nx (slots s0 d 64 2 none) := by kernel_rfl
theorem go_2_65 (s0 d s6) : go (slots s0 d 65 2 s6) = .nx (slots s0 d 65 2 none) := by kernel_rfl
theorem go_2_66 (s0 d s6) : go (slots s0 d 66 2 s6) = .nx (slots s0 d 66 2 none) := by kernel_rfl
theorem go_2_67 (s0 d s6) : go (slots s0 d 67 2 s6) = .nx (slots s0 d 67 2 none) := by kernel_rfl
theorem go_2_68 (s0 d s6) : go (slots s0 d 68 2 s6) = .nx (slots s0 d 68 2 none) := by kernel_rfl
theorem go_2_69 (s0 d s6) : go (slots s0 d 69 2 s6) = .nx (slots s0 d 69 2 none) := by kernel_rfl
theorem go_2_70 (s0 d s6) : go (slots s0 d 70 2 s6) = .nx (slots s0 d 70 2 none) := by kernel_rfl
theorem go_2_71 (s0 d s6) : go (slots s0 d 71 2 s6) = .nx (slots s0 d 71 2 none) := by kernel_rfl
theorem go_2_72 (s0 d s6) : go (slots s0 d 72 2 s6) = .nx (slots s0 d 72 2 none) := by kernel_rfl
theorem go_2_73 (s0 d s6) : go (slots s0 d 73 2 s6) = .nx (slots s0 d 73 2 none) := by kernel_rfl
theorem go_2_74 (s0 d s6) : go (slots s0 d 74 2 s6) = .nx (slots s0 d 74 2 none) := by kernel_rfl
theorem go_2_75 (s0 d s6) : go (slots s0 d 75 2 s6) = .nx (slots s0 d 75 2 none) := by kernel_rfl
theorem go_2_76 (s0 d s6) : go (slots s0 d 76 2 s6) = .nx (slots s0 d 76 2 none) := by kernel_rfl
theorem go_2_77 (s0 d s6) : go (slots s0 d 77 2 s6) = .nx (slots s0 d 77 2 none) := by kernel_rfl
theorem go_2_78 (s0 d s6) : go (slots s0 d 78 2 s6) = .nx (slots s0 d 78 2 none) := by kernel_rfl
theorem go_2_79 (s0 d s6) : go (slots s0 d 79 2 s6) = .nx (slots s0 d 79 2 none) := by kernel_rfl
theorem go_2_80 (s0 d s6) : go (slots s0 d 80 2 s6) = .nx (slots s0 d 80 2 none) := by kernel_rfl
theorem go_2_81 (s0 d s6) : go (slots s0 d 81 2 s6) = .nx (slots s0 d 81 2 none) := by kernel_rfl
theorem go_2_82 (s0 d s6) : go (slots s0 d 82 2 s6) = .nx (slots s0 d 82 2 none) := by kernel_rfl
theorem go_2_83 (s0 d s6) : go (slots s0 d 83 2 s6) = .nx (slots s0 d 83 2 none) := by kernel_rfl
theorem go_2_84 (s0 d s6) : go (slots s0 d 84 2 s6) = .nx (slots s0 d 84 2 none) := by kernel_rfl
theorem go_2_85 (s0 d s6) : go (slots s0 d 85 2 s6) = .nx (slots s0 d 85 2 none) := by kernel_rfl
theorem go_2_86 (s0 d s6) : go (slots s0 d 86 2 s6) = .nx (slots s0 d 86 2 none) := by kernel_rfl
theorem go_2_87 (s0 d s6) : go (slots s0 d 87 2 s6) = .nx (slots s0 d 87 2 none) := by kernel_rfl
theorem go_2_88 (s0 d s6) : go (slots s0 d 88 2 s6) = .nx (slots s0 d 88 2 none) := by kernel_rfl
theorem go_2_89 (s0 d s6) : go (slots s0 d 89 2 s6) = .nx (slots s0 d 89 2 none) := by kernel_rfl
theorem go_2_90 (s0 d s6) : go (slots s0 d 90 2 s6) = .nx (slots s0 d 90 2 none) := by kernel_rfl
theorem go_3_1 (s0 d s6) : go (slots s0 d 1 3 s6) = .nx (slots s0 d 1 3 none) := by kernel_rfl
theorem go_3_2 (s0 d s6) : go (slots s0 d 2 3 s6) = .nx (slots s0 d 2 3 none) := by kernel_rfl
theorem go_3_3 (s0 d s6) : go (slots s0 d 3 3 s6) = .nx (slots s0 d 3 3 none) := by kernel_rfl
theorem go_3_4 (s0 d s6) : go (slots s0 d 4 3 s6) = .nx (slots s0 d 4 3 none) := by kernel_rfl
theorem go_3_5 (s0 d s6) : go (slots s0 d 5 3 s6) = .nx (slots s0 d 5 3 none) := by kernel_rfl
theorem go_3_6 (s0 d s6) : go (slots s0 d 6 3 s6) = .nx (slots s0 d 6 3 none) := by kernel_rfl
theorem go_3_7 (s0 d s6) : go (slots s0 d 7 3 s6) = .nx (slots s0 d 7 3 none) := by kernel_rfl
theorem go_3_8 (s0 d s6) : go (slots s0 d 8 3 s6) = .nx (slots s0 d 8 3 none) := by kernel_rfl
theorem go_3_9 (s0 d s6) : go (slots s0 d 9 3 s6) = .nx (slots s0 d 9 3 none) := by kernel_rfl
theorem go_3_10 (s0 d s6) : go (slots s0 d 10 3 s6) = .nx (slots s0 d 10 3 none) := by kernel_rfl
theorem go_3_11 (s0 d s6) : go (slots s0 d 11 3 s6) = .nx (slots s0 d 11 3 none) := by kernel_rfl
theorem go_3_12 (s0 d s6) : go (slots s0 d 12 3 s6) = .nx (slots s0 d 12 3 none) := by kernel_rfl
theorem go_3_13 (s0 d s6) : go (slots s0 d 13 3 s6) = .nx (slots s0 d 13 3 none) := by kernel_rfl
theorem go_3_14 (s0 d s6) : go (slots s0 d 14 3 s6) = .nx (slots s0 d 14 3 none) := by kernel_rfl
theorem go_3_15 (s0 d s6) : go (slots s0 d 15 3 s6) = .nx (slots s0 d 15 3 none) := by kernel_rfl
theorem go_3_16 (s0 d s6) : go (slots s0 d 16 3 s6) = .nx (slots s0 d 16 3 none) := by kernel_rfl
theorem go_3_17 (s0 d s6) : go (slots s0 d 17 3 s6) = .nx (slots s0 d 17 3 none) := by kernel_rfl
theorem go_3_18 (s0 d s6) : go (slots s0 d 18 3 s6) = .nx (slots s0 d 18 3 none) := by kernel_rfl
theorem go_3_19 (s0 d s6) : go (slots s0 d 19 3 s6) = .nx (slots s0 d 19 3 none) := by kernel_rfl
theorem go_3_20 (s0 d s6) : go (slots s0 d 20 3 s6) = .nx (slots s0 d 20 3 none) := by kernel_rfl
theorem go_3_21 (s0 d s6) : go (slots s0 d 21 3 s6) = .nx (slots s0 d 21 3 none) := by kernel_rfl
theorem go_3_22 (s0 d s6) : go (slots s0 d 22 3 s6) = .nx (slots s0 d 22 3 none) := by kernel_rfl
theorem go_3_23 (s0 d s6) : go (slots s0 d 23 3 s6) = .nx (slots s0 d 23 3 none) := by kernel_rfl
theorem go_3_24 (s0 d s6) : go (slots s0 d 24 3 s6) = .nx (slots s0 d 24 3 none) := by kernel_rfl
theorem go_3_25 (s0 d s6) : go (slots s0 d 25 3 s6) = .nx (slots s0 d 25 3 none) := by kernel_rfl
theorem go_3_26 (s0 d s6) : go (slots s0 d 26 3 s6) = .nx (slots s0 d 26 3 none) := by kernel_rfl
theorem go_3_27 (s0 d s6) : go (slots s0 d 27 3 s6) = .nx (slots s0 d 27 3 none) := by kernel_rfl
theorem go_3_28 (s0 d s6) : go (slots s0 d 28 3 s6) = .nx (slots s0 d 28 3 none) := by kernel_rfl
theorem go_3_29 (s0 d s6) : go (slots s0 d 29 3 s6) = .nx (slots s0 d 29 3 none) := by kernel_rfl
theorem go_3_30 (s0 d s6) : go (slots s0 d 30 3 s6) = .nx (slots s0 d 30 3 none) := by kernel_rfl
theorem go_3_31 (s0 d s6) : go (slots s0 d 31 3 s6) = .nx (slots s0 d 31 3 none) := by kernel_rfl
theorem go_3_32 (s0 d s6) : go (slots s0 d 32 3 s6) = .nx (slots s0 d 32 3 none) := by kernel_rfl
theorem go_3_33 (s0 d s6) : go (slots s0 d 33 3 s6) = .nx (slots s0 d 33 3 none) := by kernel_rfl
theorem go_3_34 (s0 d s6) : go (slots s0 d 34 3 s6) = .nx (slots s0 d 34 3 none) := by kernel_rfl
theorem go_3_35 (s0 d s6) : go (slots s0 d 35 3 s6) = .nx (slots s0 d 35 3 none) := by kernel_rfl
theorem go_3_36 (s0 d s6) : go (slots s0 d 36 3 s6) = .nx (slots s0 d 36 3 none) := by kernel_rfl
theorem go_3_37 (s0 d s6) : go (slots s0 d 37 3 s6) = .nx (slots s0 d 37 3 none) := by kernel_rfl
theorem go_3_38 (s0 d s6) : go (slots s0 d 38 3 s6) = .nx (slots s0 d 38 3 none) := by kernel_rfl
theorem go_3_39 (s0 d s6) : go (slots s0 d 39 3 s6) = .nx (slots s0 d 39 3 none) := by kernel_rfl
theorem go_3_40 (s0 d s6) : go (slots s0 d 40 3 s6) = .nx (slots s0 d 40 3 none) := by kernel_rfl
theorem go_3_41 (s0 d s6) : go (slots s0 d 41 3 s6) = .nx (slots s0 d 41 3 none) := by kernel_rfl
theorem go_3_42 (s0 d s6) : go (slots s0 d 42 3 s6) = .nx (slots s0 d 42 3 none) := by kernel_rfl
theorem go_3_43 (s0 d s6) : go (slots s0 d 43 3 s6) = .nx (slots s0 d 43 3 none) := by kernel_rfl
theorem go_3_44 (s0 d s6) : go (slots s0 d 44 3 s6) = .nx (slots s0 d 44 3 none) := by kernel_rfl
theorem go_3_45 (s0 d s6) : go (slots s0 d 45 3 s6) = .nx (slots s0 d 45 3 none) := by kernel_rfl
theorem go_3_46 (s0 d s6) : go (slots s0 d 46 3 s6) = .nx (slots s0 d 46 3 none) := by kernel_rfl
theorem go_3_47 (s0 d s6) : go (slots s0 d 47 3 s6) = .nx (slots s0 d 47 3 none) := by kernel_rfl
theorem go_3_48 (s0 d s6) : go (slots s0 d 48 3 s6) = .nx (slots s0 d 48 3 none) := by kernel_rfl
theorem go_3_49 (s0 d s6) : go (slots s0 d 49 3 s6) = .nx (slots s0 d 49 3 none) := by kernel_rfl
theorem go_3_50 (s0 d s6) : go (slots s0 d 50 3 s6) = .nx (slots s0 d 50 3 none) := by kernel_rfl
theorem go_3_51 (s0 d s6) : go (slots s0 d 51 3 s6) = .nx (slots s0 d 51 3 none) := by kernel_rfl
theorem go_3_52 (s0 d s6) : go (slots s0 d 52 3 s6) = .nx (slots s0 d 52 3 none) := by kernel_rfl
theorem go_3_53 (s0 d s6) : go (slots s0 d 53 3 s6) = .nx (slots s0 d 53 3 none) := by kernel_rfl
theorem go_3_54 (s0 d s6) : go (slots s0 d 54 3 s6) = .nx (slots s0 d 54 3 none) := by kernel_rfl
theorem go_3_55 (s0 d s6) : go (slots s0 d 55 3 s6) = .nx (slots s0 d 55 3 none) := by kernel_rfl
theorem go_3_56 (s0 d s6) : go (slots s0 d 56 3 s6) = .nx (slots s0 d 56 3 none) := by kernel_rfl
theorem go_3_57 (s0 d s6) : go (slots s0 d 57 3 s6) = .nx (slots s0 d 57 3 none) := by kernel_rfl
theorem go_3_58 (s0 d s6) : go (slots s0 d 58 3 s6) = .nx (slots s0 d 58 3 none) := by kernel_rfl
theorem go_3_59 (s0 d s6) : go (slots s0 d 59 3 s6) = .nx (slots s0 d 59 3 none) := by kernel_rfl
theorem go_3_60 (s0 d s6) : go (slots s0 d 60 3 s6) = .nx (slots s0 d 60 3 none) := by kernel_rfl
theorem go_3_61 (s0 d s6) : go (slots s0 d 61 3 s6) = .nx (slots s0 d 61 3 none) := by kernel_rfl
theorem go_3_62 (s0 d s6) : go (slots s0 d 62 3 s6) = .nx (slots s0 d 62 3 none) := by kernel_rfl
theorem go_3_63 (s0 d s6) : go (slots s0 d 63 3 s6) = .nx (slots s0 d 63 3 none) := by kernel_rfl
theorem go_3_64 (s0 d s6) : go (slots s0 d 64 3 s6) = .nx (slots s0 d 64 3 none) := by kernel_rfl
theorem go_3_65 (s0 d s6) : go (slots s0 d 65 3 s6) = .nx (slots s0 d 65 3 none) := by kernel_rfl
theorem go_3_66 (s0 d s6) : go (slots s0 d 66 3 s6) = .nx (slots s0 d 66 3 none) := by kernel_rfl
theorem go_3_67 (s0 d s6) : go (slots s0 d 67 3 s6) = .nx (slots s0 d 67 3 none) := by kernel_rfl
theorem go_3_68 (s0 d s6) : go (slots s0 d 68 3 s6) = .nx (slots s0 d 68 3 none) := by kernel_rfl
theorem go_3_69 (s0 d s6) : go (slots s0 d 69 3 s6) = .nx (slots s0 d 69 3 none) := by kernel_rfl
theorem go_3_70 (s0 d s6) : go (slots s0 d 70 3 s6) = .nx (slots s0 d 70 3 none) := by kernel_rfl
theorem go_3_71 (s0 d s6) : go (slots s0 d 71 3 s6) = .nx (slots s0 d 71 3 none) := by kernel_rfl
theorem go_3_72 (s0 d s6) : go (slots s0 d 72 3 s6) = .nx (slots s0 d 72 3 none) := by kernel_rfl
theorem go_3_73 (s0 d s6) : go (slots s0 d 73 3 s6) = .nx (slots s0 d 73 3 none) := by kernel_rfl
theorem go_3_74 (s0 d s6) : go (slots s0 d 74 3 s6) = .nx (slots s0 d 74 3 none) := by kernel_rfl
theorem go_3_75 (s0 d s6) : go (slots s0 d 75 3 s6) = .nx (slots s0 d 75 3 none) := by kernel_rfl
theorem go_3_76 (s0 d s6) : go (slots s0 d 76 3 s6) = .nx (slots s0 d 76 3 none) := by kernel_rfl
theorem go_3_77 (s0 d s6) : go (slots s0 d 77 3 s6) = .nx (slots s0 d 77 3 none) := by kernel_rfl
theorem go_3_78 (s0 d s6) : go (slots s0 d 78 3 s6) = .nx (slots s0 d 78 3 none) := by kernel_rfl
theorem go_3_79 (s0 d s6) : go (slots s0 d 79 3 s6) = .nx (slots s0 d 79 3 none) := by kernel_rfl
theorem go_3_80 (s0 d s6) : go (slots s0 d 80 3 s6) = .nx (slots s0 d 80 3 none) := by kernel_rfl
theorem go_3_81 (s0 d s6) : go (slots s0 d 81 3 s6) = .nx (slots s0 d 81 3 none) := by kernel_rfl
theorem go_3_82 (s0 d s6) : go (slots s0 d 82 3 s6) = .nx (slots s0 d 82 3 none) := by kernel_rfl
theorem go_3_83 (s0 d s6) : go (slots s0 d 83 3 s6) = .nx (slots s0 d 83 3 none) := by kernel_rfl
theorem go_3_84 (s0 d s6) : go (slots s0 d 84 3 s6) = .nx (slots s0 d 84 3 none) := by kernel_rfl
theorem go_3_85 (s0 d s6) : go (slots s0 d 85 3 s6) = .nx (slots s0 d 85 3 none) := by kernel_rfl
theorem go_3_86 (s0 d s6) : go (slots s0 d 86 3 s6) = .nx (slots s0 d 86 3 none) := by kernel_rfl
theorem go_3_87 (s0 d s6) : go (slots s0 d 87 3 s6) = .nx (slots s0 d 87 3 none) := by kernel_rfl
theorem go_3_88 (s0 d s6) : go (slots s0 d 88 3 s6) = .nx (slots s0 d 88 3 none) := by kernel_rfl
theorem go_3_89 (s0 d s6) : go (slots s0 d 89 3 s6) = .nx (slots s0 d 89 3 none) := by kernel_rfl
theorem go_3_90 (s0 d s6) : go (slots s0 d 90 3 s6) = .nx (slots s0 d 90 3 none) := by kernel_rfl
theorem go_4_1 (s0 d s6) : go (slots s0 d 1 4 s6) = .nx (slots s0 d 1 4 none) := by kernel_rfl
theorem go_4_2 (s0 d s6) : go (slots s0 d 2 4 s6) = .nx (slots s0 d 2 4 none) := by kernel_rfl
theorem go_4_3 (s0 d s6) : go (slots s0 d 3 4 s6) = .nx (slots s0 d 3 4 none) := by kernel_rfl
theorem go_4_4 (s0 d s6) : go (slots s0 d 4 4 s6) = .nx (slots s0 d 4 4 none) := by kernel_rfl
theorem go_4_5 (s0 d s6) : go (slots s0 d 5 4 s6) = .nx (slots s0 d 5 4 none) := by kernel_rfl
theorem go_4_6 (s0 d s6) : go (slots s0 d 6 4 s6) = .nx (slots s0 d 6 4 none) := by kernel_rfl
theorem go_4_7 (s0 d s6) : go (slots s0 d 7 4 s6) = .nx (slots s0 d 7 4 none) := by kernel_rfl
theorem go_4_8 (s0 d s6) : go (slots s0 d 8 4 s6) = .nx (slots s0 d 8 4 none) := by kernel_rfl
theorem go_4_9 (s0 d s6) : go (slots s0 d 9 4 s6) = .nx (slots s0 d 9 4 none) := by kernel_rfl
theorem go_4_10 (s0 d s6) : go (slots s0 d 10 4 s6) = .nx (slots s0 d 10 4 none) := by kernel_rfl
theorem go_4_11 (s0 d s6) : go (slots s0 d 11 4 s6) = .nx (slots s0 d 11 4 none) := by kernel_rfl
theorem go_4_12 (s0 d s6) : go (slots s0 d 12 4 s6) = .nx (slots s0 d 12 4 none) := by kernel_rfl
theorem go_4_13 (s0 d s6) : go (slots s0 d 13 4 s6) = .nx (slots s0 d 13 4 none) := by kernel_rfl
theorem go_4_14 (s0 d s6) : go (slots s0 d 14 4 s6) = .nx (slots s0 d 14 4 none) := by kernel_rfl
theorem go_4_15 (s0 d s6) : go (slots s0 d 15 4 s6) = .nx (slots s0 d 15 4 none) := by kernel_rfl
theorem go_4_16 (s0 d s6) : go (slots s0 d 16 4 s6) = .nx (slots s0 d 16 4 none) := by kernel_rfl
theorem go_4_17 (s0 d s6) : go (slots s0 d 17 4 s6) = .nx (slots s0 d 17 4 none) := by kernel_rfl
theorem go_4_18 (s0 d s6) : go (slots s0 d 18 4 s6) = .nx (slots s0 d 18 4 none) := by kernel_rfl
theorem go_4_19 (s0 d s6) : go (slots s0 d 19 4 s6) = .nx (slots s0 d 19 4 none) := by kernel_rfl
theorem go_4_20 (s0 d s6) : go (slots s0 d 20 4 s6) = .nx (slots s0 d 20 4 none) := by kernel_rfl
theorem go_4_21 (s0 d s6) : go (slots s0 d 21 4 s6) = .nx (slots s0 d 21 4 none) := by kernel_rfl
theorem go_4_22 (s0 d s6) : go (slots s0 d 22 4 s6) = .nx (slots s0 d 22 4 none) := by kernel_rfl
theorem go_4_23 (s0 d s6) : go (slots s0 d 23 4 s6) = .nx (slots s0 d 23 4 none) := by kernel_rfl
theorem go_4_24 (s0 d s6) : go (slots s0 d 24 4 s6) = .nx (slots s0 d 24 4 none) := by kernel_rfl
theorem go_4_25 (s0 d s6) : go (slots s0 d 25 4 s6) = .nx (slots s0 d 25 4 none) := by kernel_rfl
theorem go_4_26 (s0 d s6) : go (slots s0 d 26 4 s6) = .nx (slots s0 d 26 4 none) := by kernel_rfl
theorem go_4_27 (s0 d s6) : go (slots s0 d 27 4 s6) = .nx (slots s0 d 27 4 none) := by kernel_rfl
theorem go_4_28 (s0 d s6) : go (slots s0 d 28 4 s6) = .nx (slots s0 d 28 4 none) := by kernel_rfl
theorem go_4_29 (s0 d s6) : go (slots s0 d 29 4 s6) = .nx (slots s0 d 29 4 none) := by kernel_rfl
theorem go_4_30 (s0 d s6) : go (slots s0 d 30 4 s6) = .nx (slots s0 d 30 4 none) := by kernel_rfl
theorem go_4_31 (s0 d s6) : go (slots s0 d 31 4 s6) = .nx (slots s0 d 31 4 none) := by kernel_rfl
theorem go_4_32 (s0 d s6) : go (slots s0 d 32 4 s6) = .nx (slots s0 d 32 4 none) := by kernel_rfl
theorem go_4_33 (s0 d s6) : go (slots s0 d 33 4 s6) = .nx (slots s0 d 33 4 none) := by kernel_rfl
theorem go_4_34 (s0 d s6) : go (slots s0 d 34 4 s6) = .nx (slots s0 d 34 4 none) := by kernel_rfl
theorem go_4_35 (s0 d s6) : go (slots s0 d 35 4 s6) = .nx (slots s0 d 35 4 none) := by kernel_rfl
theorem go_4_36 (s0 d s6) : go (slots s0 d 36 4 s6) = .nx (slots s0 d 36 4 none) := by kernel_rfl
theorem go_4_37 (s0 d s6) : go (slots s0 d 37 4 s6) = .nx (slots s0 d 37 4 none) := by kernel_rfl
theorem go_4_38 (s0 d s6) : go (slots s0 d 38 4 s6) = .nx (slots s0 d 38 4 none) := by kernel_rfl
theorem go_4_39 (s0 d s6) : go (slots s0 d 39 4 s6) = .nx (slots s0 d 39 4 none) := by kernel_rfl
theorem go_4_40 (s0 d s6) : go (slots s0 d 40 4 s6) = .nx (slots s0 d 40 4 none) := by kernel_rfl
theorem go_4_41 (s0 d s6) : go (slots s0 d 41 4 s6) = .nx (slots s0 d 41 4 none) := by kernel_rfl
theorem go_4_42 (s0 d s6) : go (slots s0 d 42 4 s6) = .nx (slots s0 d 42 4 none) := by kernel_rfl
theorem go_4_43 (s0 d s6) : go (slots s0 d 43 4 s6) = .nx (slots s0 d 43 4 none) := by kernel_rfl
theorem go_4_44 (s0 d s6) : go (slots s0 d 44 4 s6) = .nx (slots s0 d 44 4 none) := by kernel_rfl
theorem go_4_45 (s0 d s6) : go (slots s0 d 45 4 s6) = .nx (slots s0 d 45 4 none) := by kernel_rfl
theorem go_4_46 (s0 d s6) : go (slots s0 d 46 4 s6) = .nx (slots s0 d 46 4 none) := by kernel_rfl
theorem go_4_47 (s0 d s6) : go (slots s0 d 47 4 s6) = .nx (slots s0 d 47 4 none) := by kernel_rfl
theorem go_4_48 (s0 d s6) : go (slots s0 d 48 4 s6) = .nx (slots s0 d 48 4 none) := by kernel_rfl
theorem go_4_49 (s0 d s6) : go (slots s0 d 49 4 s6) = .nx (slots s0 d 49 4 none) := by kernel_rfl
theorem go_4_50 (s0 d s6) : go (slots s0 d 50 4 s6) = .nx (slots s0 d 50 4 none) := by kernel_rfl
theorem go_4_51 (s0 d s6) : go (slots s0 d 51 4 s6) = .nx (slots s0 d 51 4 none) := by kernel_rfl
theorem go_4_52 (s0 d s6) : go (slots s0 d 52 4 s6) = .nx (slots s0 d 52 4 none) := by kernel_rfl
theorem go_4_53 (s0 d s6) : go (slots s0 d 53 4 s6) = .nx (slots s0 d 53 4 none) := by kernel_rfl
theorem go_4_54 (s0 d s6) : go (slots s0 d 54 4 s6) = .nx (slots s0 d 54 4 none) := by kernel_rfl
theorem go_4_55 (s0 d s6) : go (slots s0 d 55 4 s6) = .nx (slots s0 d 55 4 none) := by kernel_rfl
theorem go_4_56 (s0 d s6) : go (slots s0 d 56 4 s6) = .nx (slots s0 d 56 4 none) := by kernel_rfl
theorem go_4_57 (s0 d s6) : go (slots s0 d 57 4 s6) = .nx (slots s0 d 57 4 none) := by kernel_rfl
theorem go_4_58 (s0 d s6) : go (slots s0 d 58 4 s6) = .nx (slots s0 d 58 4 none) := by kernel_rfl
theorem go_4_59 (s0 d s6) : go (slots s0 d 59 4 s6) = .nx (slots s0 d 59 4 none) := by kernel_rfl
theorem go_4_60 (s0 d s6) : go (slots s0 d 60 4 s6) = .nx (slots s0 d 60 4 none) := by kernel_rfl
theorem go_4_61 (s0 d s6) : go (slots s0 d 61 4 s6) = .nx (slots s0 d 61 4 none) := by kernel_rfl
theorem go_4_62 (s0 d s6) : go (slots s0 d 62 4 s6) = .nx (slots s0 d 62 4 none) := by kernel_rfl
theorem go_4_63 (s0 d s6) : go (slots s0 d 63 4 s6) = .nx (slots s0 d 63 4 none) := by kernel_rfl
theorem go_4_64 (s0 d s6) : go (slots s0 d 64 4 s6) = .nx (slots s0 d 64 4 none) := by kernel_rfl
theorem go_4_65 (s0 d s6) : go (slots s0 d 65 4 s6) = .nx (slots s0 d 65 4 none) := by kernel_rfl
theorem go_4_66 (s0 d s6) : go (slots s0 d 66 4 s6) = .nx (slots s0 d 66 4 none) := by kernel_rfl
theorem go_4_67 (s0 d s6) : go (slots s0 d 67 4 s6) = .nx (slots s0 d 67 4 none) := by kernel_rfl
theorem go_4_68 (s0 d s6) : go (slots s0 d 68 4 s6) = .nx (slots s0 d 68 4 none) := by kernel_rfl
theorem go_4_69 (s0 d s6) : go (slots s0 d 69 4 s6) = .nx (slots s0 d 69 4 none) := by kernel_rfl
theorem go_4_70 (s0 d s6) : go (slots s0 d 70 4 s6) = .nx (slots s0 d 70 4 none) := by kernel_rfl
theorem go_4_71 (s0 d s6) : go (slots s0 d 71 4 s6) = .nx (slots s0 d 71 4 none) := by kernel_rfl
theorem go_4_72 (s0 d s6) : go (slots s0 d 72 4 s6) = .nx (slots s0 d 72 4 none) := by kernel_rfl
theorem go_4_73 (s0 d s6) : go (slots s0 d 73 4 s6) = .nx (slots s0 d 73 4 none) := by kernel_rfl
theorem go_4_74 (s0 d s6) : go (slots s0 d 74 4 s6) = .nx (slots s0 d 74 4 none) := by kernel_rfl
theorem go_4_75 (s0 d s6) : go (slots s0 d 75 4 s6) = .nx (slots s0 d 75 4 none) := by kernel_rfl
theorem go_4_76 (s0 d s6) : go (slots s0 d 76 4 s6) = .nx (slots s0 d 76 4 none) := by kernel_rfl
theorem go_4_77 (s0 d s6) : go (slots s0 d 77 4 s6) = .nx (slots s0 d 77 4 none) := by kernel_rfl
theorem go_4_78 (s0 d s6) : go (slots s0 d 78 4 s6) = .nx (slots s0 d 78 4 none) := by kernel_rfl
theorem go_4_79 (s0 d s6) : go (slots s0 d 79 4 s6) = .nx (slots s0 d 79 4 none) := by kernel_rfl
theorem go_4_80 (s0 d s6) : go (slots s0 d 80 4 s6) = .nx (slots s0 d 80 4 none) := by kernel_rfl
theorem go_4_81 (s0 d s6) : go (slots s0 d 81 4 s6) = .nx (slots s0 d 81 4 none) := by kernel_rfl
theorem go_4_82 (s0 d s6) : go (slots s0 d 82 4 s6) = .nx (slots s0 d 82 4 none) := by kernel_rfl
theorem go_4_83 (s0 d s6) : go (slots s0 d 83 4 s6) = .nx (slots s0 d 83 4 none) := by kernel_rfl
theorem go_4_84 (s0 d s6) : go (slots s0 d 84 4 s6) = .nx (slots s0 d 84 4 none) := by kernel_rfl
theorem go_4_85 (s0 d s6) : go (slots s0 d 85 4 s6) = .nx (slots s0 d 85 4 none) := by kernel_rfl
theorem go_4_86 (s0 d s6) : go (slots s0 d 86 4 s6) = .nx (slots s0 d 86 4 none) := by kernel_rfl
theorem go_4_87 (s0 d s6) : go (slots s0 d 87 4 s6) = .nx (slots s0 d 87 4 none) := by kernel_rfl
theorem go_4_88 (s0 d s6) : go (slots s0 d 88 4 s6) = .nx (slots s0 d 88 4 none) := by kernel_rfl
theorem go_4_89 (s0 d s6) : go (slots s0 d 89 4 s6) = .nx (slots s0 d 89 4 none) := by kernel_rfl
theorem go_4_90 (s0 d s6) : go (slots s0 d 90 4 s6) = .nx (slots s0 d 90 4 none) := by kernel_rfl
theorem go_5_1 (s0 d s6) : go (slots s0 d 1 5 s6) = .nx (slots s0 d 1 5 none) := by kernel_rfl
theorem go_5_2 (s0 d s6) : go (slots s0 d 2 5 s6) = .nx (slots s0 d 2 5 none) := by kernel_rfl
theorem go_5_3 (s0 d s6) : go (slots s0 d 3 5 s6) = .nx (slots s0 d 3 5 none) := by kernel_rfl
theorem go_5_4 (s0 d s6) : go (slots s0 d 4 5 s6) = .nx (slots s0 d 4 5 none) := by kernel_rfl
theorem go_5_5 (s0 d s6) : go (slots s0 d 5 5 s6) = .nx (slots s0 d 5 5 none) := by kernel_rfl
theorem go_5_6 (s0 d s6) : go (slots s0 d 6 5 s6) = .nx (slots s0 d 6 5 none) := by kernel_rfl
theorem go_5_7 (s0 d s6) : go (slots s0 d 7 5 s6) = .nx (slots s0 d 7 5 none) := by kernel_rfl
theorem go_5_8 (s0 d s6) : go (slots s0 d 8 5 s6) = .nx (slots s0 d 8 5 none) := by kernel_rfl
theorem go_5_9 (s0 d s6) : go (slots s0 d 9 5 s6) = .nx (slots s0 d 9 5 none) := by kernel_rfl
theorem go_5_10 (s0 d s6) : go (slots s0 d 10 5 s6) = .nx (slots s0 d 10 5 none) := by kernel_rfl
theorem go_5_11 (s0 d s6) : go (slots s0 d 11 5 s6) = .nx (slots s0 d 11 5 none) := by kernel_rfl
theorem go_5_12 (s0 d s6) : go (slots s0 d 12 5 s6) = .nx (slots s0 d 12 5 none) := by kernel_rfl
theorem go_5_13 (s0 d s6) : go (slots s0 d 13 5 s6) = .nx (slots s0 d 13 5 none) := by kernel_rfl
theorem go_5_14 (s0 d s6) : go (slots s0 d 14 5 s6) = .nx (slots s0 d 14 5 none) := by kernel_rfl
theorem go_5_15 (s0 d s6) : go (slots s0 d 15 5 s6) = .nx (slots s0 d 15 5 none) := by kernel_rfl
theorem go_5_16 (s0 d s6) : go (slots s0 d 16 5 s6) = .nx (slots s0 d 16 5 none) := by kernel_rfl
theorem go_5_17 (s0 d s6) : go (slots s0 d 17 5 s6) = .nx (slots s0 d 17 5 none) := by kernel_rfl
theorem go_5_18 (s0 d s6) : go (slots s0 d 18 5 s6) = .nx (slots s0 d 18 5 none) := by kernel_rfl
theorem go_5_19 (s0 d s6) : go (slots s0 d 19 5 s6) = .nx (slots s0 d 19 5 none) := by kernel_rfl
theorem go_5_20 (s0 d s6) : go (slots s0 d 20 5 s6) = .nx (slots s0 d 20 5 none) := by kernel_rfl
theorem go_5_21 (s0 d s6) : go (slots s0 d 21 5 s6) = .nx (slots s0 d 21 5 none) := by kernel_rfl
theorem go_5_22 (s0 d s6) : go (slots s0 d 22 5 s6) = .nx (slots s0 d 22 5 none) := by kernel_rfl
theorem go_5_23 (s0 d s6) : go (slots s0 d 23 5 s6) = .nx (slots s0 d 23 5 none) := by kernel_rfl
theorem go_5_24 (s0 d s6) : go (slots s0 d 24 5 s6) = .nx (slots s0 d 24 5 none) := by kernel_rfl
theorem go_5_25 (s0 d s6) : go (slots s0 d 25 5 s6) = .nx (slots s0 d 25 5 none) := by kernel_rfl
theorem go_5_26 (s0 d s6) : go (slots s0 d 26 5 s6) = .nx (slots s0 d 26 5 none) := by kernel_rfl
theorem go_5_27 (s0 d s6) : go (slots s0 d 27 5 s6) = .nx (slots s0 d 27 5 none) := by kernel_rfl
theorem go_5_28 (s0 d s6) : go (slots s0 d 28 5 s6) = .nx (slots s0 d 28 5 none) := by kernel_rfl
theorem go_5_29 (s0 d s6) : go (slots s0 d 29 5 s6) = .nx (slots s0 d 29 5 none) := by kernel_rfl
theorem go_5_30 (s0 d s6) : go (slots s0 d 30 5 s6) = .nx (slots s0 d 30 5 none) := by kernel_rfl
theorem go_5_31 (s0 d s6) : go (slots s0 d 31 5 s6) = .nx (slots s0 d 31 5 none) := by kernel_rfl
theorem go_5_32 (s0 d s6) : go (slots s0 d 32 5 s6) = .nx (slots s0 d 32 5 none) := by kernel_rfl
theorem go_5_33 (s0 d s6) : go (slots s0 d 33 5 s6) = .nx (slots s0 d 33 5 none) := by kernel_rfl
theorem go_5_34 (s0 d s6) : go (slots s0 d 34 5 s6) = .nx (slots s0 d 34 5 none) := by kernel_rfl
theorem go_5_35 (s0 d s6) : go (slots s0 d 35 5 s6) = .nx (slots s0 d 35 5 none) := by kernel_rfl
theorem go_5_36 (s0 d s6) : go (slots s0 d 36 5 s6) = .nx (slots s0 d 36 5 none) := by kernel_rfl
theorem go_5_37 (s0 d s6) : go (slots s0 d 37 5 s6) = .nx (slots s0 d 37 5 none) := by kernel_rfl
theorem go_5_38 (s0 d s6) : go (slots s0 d 38 5 s6) = .nx (slots s0 d 38 5 none) := by kernel_rfl
theorem go_5_39 (s0 d s6) : go (slots s0 d 39 5 s6) = .nx (slots s0 d 39 5 none) := by kernel_rfl
theorem go_5_40 (s0 d s6) : go (slots s0 d 40 5 s6) = .nx (slots s0 d 40 5 none) := by kernel_rfl
theorem go_5_41 (s0 d s6) : go (slots s0 d 41 5 s6) = .nx (slots s0 d 41 5 none) := by kernel_rfl
theorem go_5_42 (s0 d s6) : go (slots s0 d 42 5 s6) = .nx (slots s0 d 42 5 none) := by kernel_rfl
theorem go_5_43 (s0 d s6) : go (slots s0 d 43 5 s6) = .nx (slots s0 d 43 5 none) := by kernel_rfl
theorem go_5_44 (s0 d s6) : go (slots s0 d 44 5 s6) = .nx (slots s0 d 44 5 none) := by kernel_rfl
theorem go_5_45 (s0 d s6) : go (slots s0 d 45 5 s6) = .nx (slots s0 d 45 5 none) := by kernel_rfl
theorem go_5_46 (s0 d s6) : go (slots s0 d 46 5 s6) = .nx (slots s0 d 46 5 none) := by kernel_rfl
theorem go_5_47 (s0 d s6) : go (slots s0 d 47 5 s6) = .nx (slots s0 d 47 5 none) := by kernel_rfl
theorem go_5_48 (s0 d s6) : go (slots s0 d 48 5 s6) = .nx (slots s0 d 48 5 none) := by kernel_rfl
theorem go_5_49 (s0 d s6) : go (slots s0 d 49 5 s6) = .nx (slots s0 d 49 5 none) := by kernel_rfl
theorem go_5_50 (s0 d s6) : go (slots s0 d 50 5 s6) = .nx (slots s0 d 50 5 none) := by kernel_rfl
theorem go_5_51 (s0 d s6) : go (slots s0 d 51 5 s6) = .nx (slots s0 d 51 5 none) := by kernel_rfl
theorem go_5_52 (s0 d s6) : go (slots s0 d 52 5 s6) = .nx (slots s0 d 52 5 none) := by kernel_rfl
theorem go_5_53 (s0 d s6) : go (slots s0 d 53 5 s6) = .nx (slots s0 d 53 5 none) := by kernel_rfl
theorem go_5_54 (s0 d s6) : go (slots s0 d 54 5 s6) = .nx (slots s0 d 54 5 none) := by kernel_rfl
theorem go_5_55 (s0 d s6) : go (slots s0 d 55 5 s6) = .nx (slots s0 d 55 5 none) := by kernel_rfl
theorem go_5_56 (s0 d s6) : go (slots s0 d 56 5 s6) = .nx (slots s0 d 56 5 none) := by kernel_rfl
theorem go_5_57 (s0 d s6) : go (slots s0 d 57 5 s6) = .nx (slots s0 d 57 5 none) := by kernel_rfl
theorem go_5_58 (s0 d s6) : go (slots s0 d 58 5 s6) = .nx (slots s0 d 58 5 none) := by kernel_rfl
theorem go_5_59 (s0 d s6) : go (slots s0 d 59 5 s6) = .nx (slots s0 d 59 5 none) := by kernel_rfl
theorem go_5_60 (s0 d s6) : go (slots s0 d 60 5 s6) = .nx (slots s0 d 60 5 none) := by kernel_rfl
theorem go_5_61 (s0 d s6) : go (slots s0 d 61 5 s6) = .nx (slots s0 d 61 5 none) := by kernel_rfl
theorem go_5_62 (s0 d s6) : go (slots s0 d 62 5 s6) = .nx (slots s0 d 62 5 none) := by kernel_rfl
theorem go_5_63 (s0 d s6) : go (slots s0 d 63 5 s6) = .nx (slots s0 d 63 5 none) := by kernel_rfl
theorem go_5_64 (s0 d s6) : go (slots s0 d 64 5 s6) = .nx (slots s0 d 64 5 none) := by kernel_rfl
theorem go_5_65 (s0 d s6) : go (slots s0 d 65 5 s6) = .nx (slots s0 d 65 5 none) := by kernel_rfl
theorem go_5_66 (s0 d s6) : go (slots s0 d 66 5 s6) = .nx (slots s0 d 66 5 none) := by kernel_rfl
theorem go_5_67 (s0 d s6) : go (slots s0 d 67 5 s6) = .nx (slots s0 d 67 5 none) := by kernel_rfl
theorem go_5_68 (s0 d s6) : go (slots s0 d 68 5 s6) = .nx (slots s0 d 68 5 none) := by kernel_rfl
theorem go_5_69 (s0 d s6) : go (slots s0 d 69 5 s6) = .nx (slots s0 d 69 5 none) := by kernel_rfl
theorem go_5_70 (s0 d s6) : go (slots s0 d 70 5 s6) = .nx (slots s0 d 70 5 none) := by kernel_rfl
theorem go_5_71 (s0 d s6) : go (slots s0 d 71 5 s6) = .nx (slots s0 d 71 5 none) := by kernel_rfl
theorem go_5_72 (s0 d s6) : go (slots s0 d 72 5 s6) = .nx (slots s0 d 72 5 none) := by kernel_rfl
theorem go_5_73 (s0 d s6) : go (slots s0 d 73 5 s6) = .nx (slots s0 d 73 5 none) := by kernel_rfl
theorem go_5_74 (s0 d s6) : go (slots s0 d 74 5 s6) = .nx (slots s0 d 74 5 none) := by kernel_rfl
theorem go_5_75 (s0 d s6) : go (slots s0 d 75 5 s6) = .nx (slots s0 d 75 5 none) := by kernel_rfl
theorem go_5_76 (s0 d s6) : go (slots s0 d 76 5 s6) = .nx (slots s0 d 76 5 none) := by kernel_rfl
theorem go_5_77 (s0 d s6) : go (slots s0 d 77 5 s6) = .nx (slots s0 d 77 5 none) := by kernel_rfl
theorem go_5_78 (s0 d s6) : go (slots s0 d 78 5 s6) = .nx (slots s0 d 78 5 none) := by kernel_rfl
theorem go_5_79 (s0 d s6) : go (slots s0 d 79 5 s6) = .nx (slots s0 d 79 5 none) := by kernel_rfl
theorem go_5_80 (s0 d s6) : go (slots s0 d 80 5 s6) = .nx (slots s0 d 80 5 none) := by kernel_rfl
theorem go_5_81 (s0 d s6) : go (slots s0 d 81 5 s6) = .nx (slots s0 d 81 5 none) := by kernel_rfl
theorem go_5_82 (s0 d s6) : go (slots s0 d 82 5 s6) = .nx (slots s0 d 82 5 none) := by kernel_rfl
theorem go_5_83 (s0 d s6) : go (slots s0 d 83 5 s6) = .nx (slots s0 d 83 5 none) := by kernel_rfl
theorem go_5_84 (s0 d s6) : go (slots s0 d 84 5 s6) = .nx (slots s0 d 84 5 none) := by kernel_rfl
theorem go_5_85 (s0 d s6) : go (slots s0 d 85 5 s6) = .nx (slots s0 d 85 5 none) := by kernel_rfl
theorem go_5_86 (s0 d s6) : go (slots s0 d 86 5 s6) = .nx (slots s0 d 86 5 none) := by kernel_rfl
theorem go_5_87 (s0 d s6) : go (slots s0 d 87 5 s6) = .nx (slots s0 d 87 5 none) := by kernel_rfl
theorem go_5_88 (s0 d s6) : go (slots s0 d 88 5 s6) = .nx (slots s0 d 88 5 none) := by kernel_rfl
theorem go_5_89 (s0 d s6) : go (slots s0 d 89 5 s6) = .nx (slots s0 d 89 5 none) := by kernel_rfl
theorem go_5_90 (s0 d s6) : go (slots s0 d 90 5 s6) = .nx (slots s0 d 90 5 none) := by kernel_rfl
theorem go_6_1 (s0 d s6) : go (slots s0 d 1 6 s6) = .nx (slots s0 d 1 6 none) := by kernel_rfl
theorem go_6_2 (s0 d s6) : go (slots s0 d 2 6 s6) = .nx (slots s0 d 2 6 none) := by kernel_rfl
theorem go_6_3 (s0 d s6) : go (slots s0 d 3 6 s6) = .nx (slots s0 d 3 6 none) := by kernel_rfl
theorem go_6_4 (s0 d s6) : go (slots s0 d 4 6 s6) = .nx (slots s0 d 4 6 none) := by kernel_rfl
theorem go_6_5 (s0 d s6) : go (slots s0 d 5 6 s6) = .nx (slots s0 d 5 6 none) := by kernel_rfl
theorem go_6_6 (s0 d s6) : go (slots s0 d 6 6 s6) = .nx (slots s0 d 6 6 none) := by kernel_rfl
theorem go_6_7 (s0 d s6) : go (slots s0 d 7 6 s6) = .nx (slots s0 d 7 6 none) := by kernel_rfl
theorem go_6_8 (s0 d s6) : go (slots s0 d 8 6 s6) = .nx (slots s0 d 8 6 none) := by kernel_rfl
theorem go_6_9 (s0 d s6) : go (slots s0 d 9 6 s6) = .nx (slots s0 d 9 6 none) := by kernel_rfl
theorem go_6_10 (s0 d s6) : go (slots s0 d 10 6 s6) = .nx (slots s0 d 10 6 none) := by kernel_rfl
theorem go_6_11 (s0 d s6) : go (slots s0 d 11 6 s6) = .nx (slots s0 d 11 6 none) := by kernel_rfl
theorem go_6_12 (s0 d s6) : go (slots s0 d 12 6 s6) = .nx (slots s0 d 12 6 none) := by kernel_rfl
theorem go_6_13 (s0 d s6) : go (slots s0 d 13 6 s6) = .nx (slots s0 d 13 6 none) := by kernel_rfl
theorem go_6_14 (s0 d s6) : go (slots s0 d 14 6 s6) = .nx (slots s0 d 14 6 none) := by kernel_rfl
theorem go_6_15 (s0 d s6) : go (slots s0 d 15 6 s6) = .nx (slots s0 d 15 6 none) := by kernel_rfl
theorem go_6_16 (s0 d s6) : go (slots s0 d 16 6 s6) = .nx (slots s0 d 16 6 none) := by kernel_rfl
theorem go_6_17 (s0 d s6) : go (slots s0 d 17 6 s6) = .nx (slots s0 d 17 6 none) := by kernel_rfl
theorem go_6_18 (s0 d s6) : go (slots s0 d 18 6 s6) = .nx (slots s0 d 18 6 none) := by kernel_rfl
theorem go_6_19 (s0 d s6) : go (slots s0 d 19 6 s6) = .nx (slots s0 d 19 6 none) := by kernel_rfl
theorem go_6_20 (s0 d s6) : go (slots s0 d 20 6 s6) = .nx (slots s0 d 20 6 none) := by kernel_rfl
theorem go_6_21 (s0 d s6) : go (slots s0 d 21 6 s6) = .nx (slots s0 d 21 6 none) := by kernel_rfl
theorem go_6_22 (s0 d s6) : go (slots s0 d 22 6 s6) = .nx (slots s0 d 22 6 none) := by kernel_rfl
theorem go_6_23 (s0 d s6) : go (slots s0 d 23 6 s6) = .nx (slots s0 d 23 6 none) := by kernel_rfl
theorem go_6_24 (s0 d s6) : go (slots s0 d 24 6 s6) = .nx (slots s0 d 24 6 none) := by kernel_rfl
theorem go_6_25 (s0 d s6) : go (slots s0 d 25 6 s6) = .nx (slots s0 d 25 6 none) := by kernel_rfl
theorem go_6_26 (s0 d s6) : go (slots s0 d 26 6 s6) = .nx (slots s0 d 26 6 none) := by kernel_rfl
theorem go_6_27 (s0 d s6) : go (slots s0 d 27 6 s6) = .nx (slots s0 d 27 6 none) := by kernel_rfl
theorem go_6_28 (s0 d s6) : go (slots s0 d 28 6 s6) = .nx (slots s0 d 28 6 none) := by kernel_rfl
theorem go_6_29 (s0 d s6) : go (slots s0 d 29 6 s6) = .nx (slots s0 d 29 6 none) := by kernel_rfl
theorem go_6_30 (s0 d s6) : go (slots s0 d 30 6 s6) = .nx (slots s0 d 30 6 none) := by kernel_rfl
theorem go_6_31 (s0 d s6) : go (slots s0 d 31 6 s6) = .nx (slots s0 d 31 6 none) := by kernel_rfl
theorem go_6_32 (s0 d s6) : go (slots s0 d 32 6 s6) = .nx (slots s0 d 32 6 none) := by kernel_rfl
theorem go_6_33 (s0 d s6) : go (slots s0 d 33 6 s6) = .nx (slots s0 d 33 6 none) := by kernel_rfl
theorem go_6_34 (s0 d s6) : go (slots s0 d 34 6 s6) = .nx (slots s0 d 34 6 none) := by kernel_rfl
theorem go_6_35 (s0 d s6) : go (slots s0 d 35 6 s6) = .nx (slots s0 d 35 6 none) := by kernel_rfl
theorem go_6_36 (s0 d s6) : go (slots s0 d 36 6 s6) = .nx (slots s0 d 36 6 none) := by kernel_rfl
theorem go_6_37 (s0 d s6) : go (slots s0 d 37 6 s6) = .nx (slots s0 d 37 6 none) := by kernel_rfl
theorem go_6_38 (s0 d s6) : go (slots s0 d 38 6 s6) = .nx (slots s0 d 38 6 none) := by kernel_rfl
theorem go_6_39 (s0 d s6) : go (slots s0 d 39 6 s6) = .nx (slots s0 d 39 6 none) := by kernel_rfl
theorem go_6_40 (s0 d s6) : go (slots s0 d 40 6 s6) = .nx (slots s0 d 40 6 none) := by kernel_rfl
theorem go_6_41 (s0 d s6) : go (slots s0 d 41 6 s6) = .nx (slots s0 d 41 6 none) := by kernel_rfl
theorem go_6_42 (s0 d s6) : go (slots s0 d 42 6 s6) = .nx (slots s0 d 42 6 none) := by kernel_rfl
theorem go_6_43 (s0 d s6) : go (slots s0 d 43 6 s6) = .nx (slots s0 d 43 6 none) := by kernel_rfl
theorem go_6_44 (s0 d s6) : go (slots s0 d 44 6 s6) = .nx (slots s0 d 44 6 none) := by kernel_rfl
theorem go_6_45 (s0 d s6) : go (slots s0 d 45 6 s6) = .nx (slots s0 d 45 6 none) := by kernel_rfl
theorem go_6_46 (s0 d s6) : go (slots s0 d 46 6 s6) = .nx (slots s0 d 46 6 none) := by kernel_rfl
theorem go_6_47 (s0 d s6) : go (slots s0 d 47 6 s6) = .nx (slots s0 d 47 6 none) := by kernel_rfl
theorem go_6_48 (s0 d s6) : go (slots s0 d 48 6 s6) = .nx (slots s0 d 48 6 none) := by kernel_rfl
theorem go_6_49 (s0 d s6) : go (slots s0 d 49 6 s6) = .nx (slots s0 d 49 6 none) := by kernel_rfl
theorem go_6_50 (s0 d s6) : go (slots s0 d 50 6 s6) = .nx (slots s0 d 50 6 none) := by kernel_rfl
theorem go_6_51 (s0 d s6) : go (slots s0 d 51 6 s6) = .nx (slots s0 d 51 6 none) := by kernel_rfl
theorem go_6_52 (s0 d s6) : go (slots s0 d 52 6 s6) = .nx (slots s0 d 52 6 none) := by kernel_rfl
theorem go_6_53 (s0 d s6) : go (slots s0 d 53 6 s6) = .nx (slots s0 d 53 6 none) := by kernel_rfl
theorem go_6_54 (s0 d s6) : go (slots s0 d 54 6 s6) = .nx (slots s0 d 54 6 none) := by kernel_rfl
theorem go_6_55 (s0 d s6) : go (slots s0 d 55 6 s6) = .nx (slots s0 d 55 6 none) := by kernel_rfl
theorem go_6_56 (s0 d s6) : go (slots s0 d 56 6 s6) = .nx (slots s0 d 56 6 none) := by kernel_rfl
theorem go_6_57 (s0 d s6) : go (slots s0 d 57 6 s6) = .nx (slots s0 d 57 6 none) := by kernel_rfl
theorem go_6_58 (s0 d s6) : go (slots s0 d 58 6 s6) = .nx (slots s0 d 58 6 none) := by kernel_rfl
theorem go_6_59 (s0 d s6) : go (slots s0 d 59 6 s6) = .nx (slots s0 d 59 6 none) := by kernel_rfl
theorem go_6_60 (s0 d s6) : go (slots s0 d 60 6 s6) = .nx (slots s0 d 60 6 none) := by kernel_rfl
theorem go_6_61 (s0 d s6) : go (slots s0 d 61 6 s6) = .nx (slots s0 d 61 6 none) := by kernel_rfl
theorem go_6_62 (s0 d s6) : go (slots s0 d 62 6 s6) = .nx (slots s0 d 62 6 none) := by kernel_rfl
theorem go_6_63 (s0 d s6) : go (slots s0 d 63 6 s6) = .nx (slots s0 d 63 6 none) := by kernel_rfl
theorem go_6_64 (s0 d s6) : go (slots s0 d 64 6 s6) = .nx (slots s0 d 64 6 none) := by kernel_rfl
theorem go_6_65 (s0 d s6) : go (slots s0 d 65 6 s6) = .nx (slots s0 d 65 6 none) := by kernel_rfl
theorem go_6_66 (s0 d s6) : go (slots s0 d 66 6 s6) = .nx (slots s0 d 66 6 none) := by kernel_rfl
theorem go_6_67 (s0 d s6) : go (slots s0 d 67 6 s6) = .nx (slots s0 d 67 6 none) := by kernel_rfl
theorem go_6_68 (s0 d s6) : go (slots s0 d 68 6 s6) = .nx (slots s0 d 68 6 none) := by kernel_rfl
theorem go_6_69 (s0 d s6) : go (slots s0 d 69 6 s6) = .nx (slots s0 d 69 6 none) := by kernel_rfl
theorem go_6_70 (s0 d s6) : go (slots s0 d 70 6 s6) = .nx (slots s0 d 70 6 none) := by kernel_rfl
theorem go_6_71 (s0 d s6) : go (slots s0 d 71 6 s6) = .nx (slots s0 d 71 6 none) := by kernel_rfl
theorem go_6_72 (s0 d s6) : go (slots s0 d 72 6 s6) = .nx (slots s0 d 72 6 none) := by kernel_rfl
theorem go_6_73 (s0 d s6) : go (slots s0 d 73 6 s6) = .nx (slots s0 d 73 6 none) := by kernel_rfl
theorem go_6_74 (s0 d s6) : go (slots s0 d 74 6 s6) = .nx (slots s0 d 74 6 none) := by kernel_rfl
theorem go_6_75 (s0 d s6) : go (slots s0 d 75 6 s6) = .nx (slots s0 d 75 6 none) := by kernel_rfl
theorem go_6_76 (s0 d s6) : go (slots s0 d 76 6 s6) = .nx (slots s0 d 76 6 none) := by kernel_rfl
theorem go_6_77 (s0 d s6) : go (slots s0 d 77 6 s6) = .nx (slots s0 d 77 6 none) := by kernel_rfl
theorem go_6_78 (s0 d s6) : go (slots s0 d 78 6 s6) = .nx (slots s0 d 78 6 none) := by kernel_rfl
theorem go_6_79 (s0 d s6) : go (slots s0 d 79 6 s6) = .nx (slots s0 d 79 6 none) := by kernel_rfl
theorem go_6_80 (s0 d s6) : go (slots s0 d 80 6 s6) = .nx (slots s0 d 80 6 none) := by kernel_rfl
theorem go_6_81 (s0 d s6) : go (slots s0 d 81 6 s6) = .nx (slots s0 d 81 6 none) := by kernel_rfl
theorem go_6_82 (s0 d s6) : go (slots s0 d 82 6 s6) = .nx (slots s0 d 82 6 none) := by kernel_rfl
theorem go_6_83 (s0 d s6) : go (slots s0 d 83 6 s6) = .nx (slots s0 d 83 6 none) := by kernel_rfl
theorem go_6_84 (s0 d s6) : go (slots s0 d 84 6 s6) = .nx (slots s0 d 84 6 none) := by kernel_rfl
theorem go_6_85 (s0 d s6) : go (slots s0 d 85 6 s6) = .nx (slots s0 d 85 6 none) := by kernel_rfl
theorem go_6_86 (s0 d s6) : go (slots s0 d 86 6 s6) = .nx (slots s0 d 86 6 none) := by kernel_rfl
theorem go_6_87 (s0 d s6) : go (slots s0 d 87 6 s6) = .nx (slots s0 d 87 6 none) := by kernel_rfl
theorem go_6_88 (s0 d s6) : go (slots s0 d 88 6 s6) = .nx (slots s0 d 88 6 none) := by kernel_rfl
theorem go_6_89 (s0 d s6) : go (slots s0 d 89 6 s6) = .nx (slots s0 d 89 6 none) := by kernel_rfl
theorem go_6_90 (s0 d s6) : go (slots s0 d 90 6 s6) = .nx (slots s0 d 90 6 none) := by kernel_rfl
theorem go_7_1 (s0 d s6) : go (slots s0 d 1 7 s6) = .nx (slots s0 d 1 7 none) := by kernel_rfl
theorem go_7_2 (s0 d s6) : go (slots s0 d 2 7 s6) = .nx (slots s0 d 2 7 none) := by kernel_rfl
theorem go_7_3 (s0 d s6) : go (slots s0 d 3 7 s6) = .nx (slots s0 d 3 7 none) := by kernel_rfl
theorem go_7_4 (s0 d s6) : go (slots s0 d 4 7 s6) = .nx (slots s0 d 4 7 none) := by kernel_rfl
theorem go_7_5 (s0 d s6) : go (slots s0 d 5 7 s6) = .nx (slots s0 d 5 7 none) := by kernel_rfl
theorem go_7_6 (s0 d s6) : go (slots s0 d 6 7 s6) = .nx (slots s0 d 6 7 none) := by kernel_rfl
theorem go_7_7 (s0 d s6) : go (slots s0 d 7 7 s6) = .nx (slots s0 d 7 7 none) := by kernel_rfl
theorem go_7_8 (s0 d s6) : go (slots s0 d 8 7 s6) = .nx (slots s0 d 8 7 none) := by kernel_rfl
theorem go_7_9 (s0 d s6) : go (slots s0 d 9 7 s6) = .nx (slots s0 d 9 7 none) := by kernel_rfl
theorem go_7_10 (s0 d s6) : go (slots s0 d 10 7 s6) = .nx (slots s0 d 10 7 none) := by kernel_rfl
theorem go_7_11 (s0 d s6) : go (slots s0 d 11 7 s6) = .nx (slots s0 d 11 7 none) := by kernel_rfl
theorem go_7_12 (s0 d s6) : go (slots s0 d 12 7 s6) = .nx (slots s0 d 12 7 none) := by kernel_rfl
theorem go_7_13 (s0 d s6) : go (slots s0 d 13 7 s6) = .nx (slots s0 d 13 7 none) := by kernel_rfl
theorem go_7_14 (s0 d s6) : go (slots s0 d 14 7 s6) = .nx (slots s0 d 14 7 none) := by kernel_rfl
theorem go_7_15 (s0 d s6) : go (slots s0 d 15 7 s6) = .nx (slots s0 d 15 7 none) := by kernel_rfl
theorem go_7_16 (s0 d s6) : go (slots s0 d 16 7 s6) = .nx (slots s0 d 16 7 none) := by kernel_rfl
theorem go_7_17 (s0 d s6) : go (slots s0 d 17 7 s6) = .nx (slots s0 d 17 7 none) := by kernel_rfl
theorem go_7_18 (s0 d s6) : go (slots s0 d 18 7 s6) = .nx (slots s0 d 18 7 none) := by kernel_rfl
theorem go_7_19 (s0 d s6) : go (slots s0 d 19 7 s6) = .nx (slots s0 d 19 7 none) := by kernel_rfl
theorem go_7_20 (s0 d s6) : go (slots s0 d 20 7 s6) = .nx (slots s0 d 20 7 none) := by kernel_rfl
theorem go_7_21 (s0 d s6) : go (slots s0 d 21 7 s6) = .nx (slots s0 d 21 7 none) := by kernel_rfl
theorem go_7_22 (s0 d s6) : go (slots s0 d 22 7 s6) = .nx (slots s0 d 22 7 none) := by kernel_rfl
theorem go_7_23 (s0 d s6) : go (slots s0 d 23 7 s6) = .nx (slots s0 d 23 7 none) := by kernel_rfl
theorem go_7_24 (s0 d s6) : go (slots s0 d 24 7 s6) = .nx (slots s0 d 24 7 none) := by kernel_rfl
theorem go_7_25 (s0 d s6) : go (slots s0 d 25 7 s6) = .nx (slots s0 d 25 7 none) := by kernel_rfl
theorem go_7_26 (s0 d s6) : go (slots s0 d 26 7 s6) = .nx (slots s0 d 26 7 none) := by kernel_rfl
theorem go_7_27 (s0 d s6) : go (slots s0 d 27 7 s6) = .nx (slots s0 d 27 7 none) := by kernel_rfl
theorem go_7_28 (s0 d s6) : go (slots s0 d 28 7 s6) = .nx (slots s0 d 28 7 none) := by kernel_rfl
theorem go_7_29 (s0 d s6) : go (slots s0 d 29 7 s6) = .nx (slots s0 d 29 7 none) := by kernel_rfl
theorem go_7_30 (s0 d s6) : go (slots s0 d 30 7 s6) = .nx (slots s0 d 30 7 none) := by kernel_rfl
theorem go_7_31 (s0 d s6) : go (slots s0 d 31 7 s6) = .nx (slots s0 d 31 7 none) := by kernel_rfl
theorem go_7_32 (s0 d s6) : go (slots s0 d 32 7 s6) = .nx (slots s0 d 32 7 none) := by kernel_rfl
theorem go_7_33 (s0 d s6) : go (slots s0 d 33 7 s6) = .nx (slots s0 d 33 7 none) := by kernel_rfl
theorem go_7_34 (s0 d s6) : go (slots s0 d 34 7 s6) = .nx (slots s0 d 34 7 none) := by kernel_rfl
theorem go_7_35 (s0 d s6) : go (slots s0 d 35 7 s6) = .nx (slots s0 d 35 7 none) := by kernel_rfl
theorem go_7_36 (s0 d s6) : go (slots s0 d 36 7 s6) = .nx (slots s0 d 36 7 none) := by kernel_rfl
theorem go_7_37 (s0 d s6) : go (slots s0 d 37 7 s6) = .nx (slots s0 d 37 7 none) := by kernel_rfl
theorem go_7_38 (s0 d s6) : go (slots s0 d 38 7 s6) = .nx (slots s0 d 38 7 none) := by kernel_rfl
theorem go_7_39 (s0 d s6) : go (slots s0 d 39 7 s6) = .nx (slots s0 d 39 7 none) := by kernel_rfl
theorem go_7_40 (s0 d s6) : go (slots s0 d 40 7 s6) = .nx (slots s0 d 40 7 none) := by kernel_rfl
theorem go_7_41 (s0 d s6) : go (slots s0 d 41 7 s6) = .nx (slots s0 d 41 7 none) := by kernel_rfl
theorem go_7_42 (s0 d s6) : go (slots s0 d 42 7 s6) = .nx (slots s0 d 42 7 none) := by kernel_rfl
theorem go_7_43 (s0 d s6) : go (slots s0 d 43 7 s6) = .nx (slots s0 d 43 7 none) := by kernel_rfl
theorem go_7_44 (s0 d s6) : go (slots s0 d 44 7 s6) = .nx (slots s0 d 44 7 none) := by kernel_rfl
theorem go_7_45 (s0 d s6) : go (slots s0 d 45 7 s6) = .nx (slots s0 d 45 7 none) := by kernel_rfl
theorem go_7_46 (s0 d s6) : go (slots s0 d 46 7 s6) = .nx (slots s0 d 46 7 none) := by kernel_rfl
theorem go_7_47 (s0 d s6) : go (slots s0 d 47 7 s6) = .nx (slots s0 d 47 7 none) := by kernel_rfl
theorem go_7_48 (s0 d s6) : go (slots s0 d 48 7 s6) = .nx (slots s0 d 48 7 none) := by kernel_rfl
theorem go_7_49 (s0 d s6) : go (slots s0 d 49 7 s6) = .nx (slots s0 d 49 7 none) := by kernel_rfl
theorem go_7_50 (s0 d s6) : go (slots s0 d 50 7 s6) = .nx (slots s0 d 50 7 none) := by kernel_rfl
theorem go_7_51 (s0 d s6) : go (slots s0 d 51 7 s6) = .nx (slots s0 d 51 7 none) := by kernel_rfl
theorem go_7_52 (s0 d s6) : go (slots s0 d 52 7 s6) = .nx (slots s0 d 52 7 none) := by kernel_rfl
theorem go_7_53 (s0 d s6) : go (slots s0 d 53 7 s6) = .nx (slots s0 d 53 7 none) := by kernel_rfl
theorem go_7_54 (s0 d s6) : go (slots s0 d 54 7 s6) = .nx (slots s0 d 54 7 none) := by kernel_rfl
theorem go_7_55 (s0 d s6) : go (slots s0 d 55 7 s6) = .nx (slots s0 d 55 7 none) := by kernel_rfl
theorem go_7_56 (s0 d s6) : go (slots s0 d 56 7 s6) = .nx (slots s0 d 56 7 none) := by kernel_rfl
theorem go_7_57 (s0 d s6) : go (slots s0 d 57 7 s6) = .nx (slots s0 d 57 7 none) := by kernel_rfl
theorem go_7_58 (s0 d s6) : go (slots s0 d 58 7 s6) = .nx (slots s0 d 58 7 none) := by kernel_rfl
theorem go_7_59 (s0 d s6) : go (slots s0 d 59 7 s6) = .nx (slots s0 d 59 7 none) := by kernel_rfl
theorem go_7_60 (s0 d s6) : go (slots s0 d 60 7 s6) = .nx (slots s0 d 60 7 none) := by kernel_rfl
theorem go_7_61 (s0 d s6) : go (slots s0 d 61 7 s6) = .nx (slots s0 d 61 7 none) := by kernel_rfl
theorem go_7_62 (s0 d s6) : go (slots s0 d 62 7 s6) = .nx (slots s0 d 62 7 none) := by kernel_rfl
theorem go_7_63 (s0 d s6) : go (slots s0 d 63 7 s6) = .nx (slots s0 d 63 7 none) := by kernel_rfl
theorem go_7_64 (s0 d s6) : go (slots s0 d 64 7 s6) = .nx (slots s0 d 64 7 none) := by kernel_rfl
theorem go_7_65 (s0 d s6) : go (slots s0 d 65 7 s6) = .nx (slots s0 d 65 7 none) := by kernel_rfl
theorem go_7_66 (s0 d s6) : go (slots s0 d 66 7 s6) = .nx (slots s0 d 66 7 none) := by kernel_rfl
theorem go_7_67 (s0 d s6) : go (slots s0 d 67 7 s6) = .nx (slots s0 d 67 7 none) := by kernel_rfl
theorem go_7_68 (s0 d s6) : go (slots s0 d 68 7 s6) = .nx (slots s0 d 68 7 none) := by kernel_rfl
theorem go_7_69 (s0 d s6) : go (slots s0 d 69 7 s6) = .nx (slots s0 d 69 7 none) := by kernel_rfl
theorem go_7_70 (s0 d s6) : go (slots s0 d 70 7 s6) = .nx (slots s0 d 70 7 none) := by kernel_rfl
theorem go_7_71 (s0 d s6) : go (slots s0 d 71 7 s6) = .nx (slots s0 d 71 7 none) := by kernel_rfl
theorem go_7_72 (s0 d s6) : go (slots s0 d 72 7 s6) = .nx (slots s0 d 72 7 none) := by kernel_rfl
theorem go_7_73 (s0 d s6) : go (slots s0 d 73 7 s6) = .nx (slots s0 d 73 7 none) := by kernel_rfl
theorem go_7_74 (s0 d s6) : go (slots s0 d 74 7 s6) = .nx (slots s0 d 74 7 none) := by kernel_rfl
theorem go_7_75 (s0 d s6) : go (slots s0 d 75 7 s6) = .nx (slots s0 d 75 7 none) := by kernel_rfl
theorem go_7_76 (s0 d s6) : go (slots s0 d 76 7 s6) = .nx (slots s0 d 76 7 none) := by kernel_rfl
theorem go_7_77 (s0 d s6) : go (slots s0 d 77 7 s6) = .nx (slots s0 d 77 7 none) := by kernel_rfl
theorem go_7_78 (s0 d s6) : go (slots s0 d 78 7 s6) = .nx (slots s0 d 78 7 none) := by kernel_rfl
theorem go_7_79 (s0 d s6) : go (slots s0 d 79 7 s6) = .nx (slots s0 d 79 7 none) := by kernel_rfl
theorem go_7_80 (s0 d s6) : go (slots s0 d 80 7 s6) = .nx (slots s0 d 80 7 none) := by kernel_rfl
theorem go_7_81 (s0 d s6) : go (slots s0 d 81 7 s6) = .nx (slots s0 d 81 7 none) := by kernel_rfl
theorem go_7_82 (s0 d s6) : go (slots s0 d 82 7 s6) = .nx (slots s0 d 82 7 none) := by kernel_rfl
theorem go_7_83 (s0 d s6) : go (slots s0 d 83 7 s6) = .nx (slots s0 d 83 7 none) := by kernel_rfl
theorem go_7_84 (s0 d s6) : go (slots s0 d 84 7 s6) = .nx (slots s0 d 84 7 none) := by kernel_rfl
theorem go_7_85 (s0 d s6) : go (slots s0 d 85 7 s6) = .nx (slots s0 d 85 7 none) := by kernel_rfl
theorem go_7_86 (s0 d s6) : go (slots s0 d 86 7 s6) = .nx (slots s0 d 86 7 none) := by kernel_rfl
theorem go_7_87 (s0 d s6) : go (slots s0 d 87 7 s6) = .nx (slots s0 d 87 7 none) := by kernel_rfl
theorem go_7_88 (s0 d s6) : go (slots s0 d 88 7 s6) = .nx (slots s0 d 88 7 none) := by kernel_rfl
theorem go_7_89 (s0 d s6) : go (slots s0 d 89 7 s6) = .nx (slots s0 d 89 7 none) := by kernel_rfl
theorem go_7_90 (s0 d s6) : go (slots s0 d 90 7 s6) = .nx (slots s0 d 90 7 none) := by kernel_rfl
theorem go_0 (s0 d : D) (s6 : Option D) : ∀ n : Nat, n < 90 → go (slots s0 d (1 + (n : Int)) 0 s6) = .nx (slots s0 d (1 + (n : Int)) 0 none)
  | 0, _ => go_0_1 s0 d s6
  | 1, _ => go_0_2 s0 d s6
  | 2, _ => go_0_3 s0 d s6
  | 3, _ => go_0_4 s0 d s6
  | 4, _ => go_0_5 s0 d s6
  | 5, _ => go_0_6 s0 d s6
  | 6, _ => go_0_7 s0 d s6
  | 7, _ => go_0_8 s0 d s6
  | 8, _ => go_0_9 s0 d s6
  | 9, _ => go_0_10 s0 d s6
  | 10, _ => go_0_11 s0 d s6
  | 11, _ => go_0_12 s0 d s6
  | 12, _ => go_0_13 s0 d s6
  | 13, _ => go_0_14 s0 d s6
  | 14, _ => go_0_15 s0 d s6
  | 15, _ => go_0_16 s0 d s6
  | 16, _ => go_0_17 s0 d s6
  | 17, _ => go_0_18 s0 d s6
  | 18, _ => go_0_19 s0 d s6
  | 19, _ => go_0_20 s0 d s6
  | 20, _ => go_0_21 s0 d s6
  | 21, _ => go_0_22 s0 d s6
  | 22, _ => go_0_23 s0 d s6
  | 23, _ => go_0_24 s0 d s6
  | 24, _ => go_0_25 s0 d s6
  | 25, _ => go_0_26 s0 d s6
  | 26, _ => go_0_27 s0 d s6
  | 27, _ => go_0_28 s0 d s6
  | 28, _ => go_0_29 s0 d s6
  | 29, _ => go_0_30 s0 d s6
  | 30, _ => go_0_31 s0 d s6
  | 31, _ => go_0_32 s0 d s6
  | 32, _ => go_0_33 s0 d s6
  | 33, _ => go_0_34 s0 d s6
  | 34, _ => go_0_35 s0 d s6
  | 35, _ => go_0_36 s0 d s6
  | 36, _ => go_0_37 s0 d s6
  | 37, _ => go_0_38 s0 d s6
  | 38, _ => go_0_39 s0 d s6
  | 39, _ => go_0_40 s0 d s6
  | 40, _ => go_0_41 s0 d s6
  | 41, _ => go_0_42 s0 d s6
  | 42, _ => go_0_43 s0 d s6
  | 43, _ => go_0_44 s0 d s6
  | 44, _ => go_0_45 s0 d s6
  | 45, _ => go_0_46 s0 d s6
  | 46, _ => go_0_47 s0 d s6
  | 47, _ => go_0_48 s0 d s6
  | 48, _ => go_0_49 s0 d s6
  | 49, _ => go_0_50 s0 d s6
  | 50, _ => go_0_51 s0 d s6
  | 51, _ => go_0_52 s0 d s6
  | 52, _ => go_0_53 s0 d s6
  | 53, _ => go_0_54 s0 d s6
  | 54, _ => go_0_55 s0 d s6
  | 55, _ => go_0_56 s0 d s6
  | 56, _ => go_0_57 s0 d s6
  | 57, _ => go_0_58 s0 d s6
  | 58, _ => go_0_59 s0 d s6
  | 59, _ => go_0_60 s0 d s6
  | 60, _ => go_0_61 s0 d s6
  | 61, _ => go_0_62 s0 d s6
  | 62, _ => go_0_63 s0 d s6
  | 63, _ => go_0_64 s0 d s6
  | 64, _ => go_0_65 s0 d s6
  | 65, _ => go_0_66 s0 d s6
  | 66, _ => go_0_67 s0 d s6
  | 67, _ => go_0_68 s0 d s6
  | 68, _ => go_0_69 s0 d s6
  | 69, _ => go_0_70 s0 d s6
  | 70, _ => go_0_71 s0 d s6
  | 71, _ => go_0_72 s0 d s6
  | 72, _ => go_0_73 s0 d s6
  | 73, _ => go_0_74 s0 d s6
  | 74, _ => go_0_75 s0 d s6
  | 75, _ => go_0_76 s0 d s6
  | 76, _ => go_0_77 s0 d s6
  | 77, _ => go_0_78 s0 d s6
  | 78, _ => go_0_79 s0 d s6
  | 79, _ => go_0_80 s0 d s6
  | 80, _ => go_0_81 s0 d s6
  | 81, _ => go_0_82 s0 d s6
  | 82, _ => go_0_83 s0 d s6
  | 83, _ => go_0_84 s0 d s6
  | 84, _ => go_0_85 s0 d s6
  | 85, _ => go_0_86 s0 d s6
  | 86, _ => go_0_87 s0 d s6
  | 87, _ => go_0_88 s0 d s6
  | 88, _ => go_0_89 s0 d s6
  | 89, _ => go_0_90 s0 d s6
  | n + 90, h => absurd h (by omega)
theorem go_1 (s0 d : D) (s6 : Option D) : ∀ n : Nat, n < 90 → go (slots s0 d (1 + (n : Int)) 1 s6) = .nx (slots s0 d (1 + (n : Int)) 1 none)
  | 0, _ => go_1_1 s0 d s6
  | 1, _ => go_1_2 s0 d s6
  | 2, _ => go_1_3 s0 d s6
  | 3, _ => go_1_4 s0 d s6
  | 4, _ => go_1_5 s0 d s6
  | 5, _ => go_1_6 s0 d s6
  | 6, _ => go_1_7 s0 d s6
  | 7, _ => go_1_8 s0 d s6
  | 8, _ => go_1_9 s0 d s6
  | 9, _ => go_1_10 s0 d s6
  | 10, _ => go_1_11 s0 d s6
  | 11, _ => go_1_12 s0 d s6
  | 12, _ => go_1_13 s0 d s6
  | 13, _ => go_1_14 s0 d s6
  | 14, _ => go_1_15 s0 d s6
  | 15, _ => go_1_16 s0 d s6
  | 16, _ => go_1_17 s0 d s6
  | 17, _ => go_1_18 s0 d s6
  | 18, _ => go_1_19 s0 d s6
  | 19, _ => go_1_20 s0 d s6
  | 20, _ => go_1_21 s0 d s6
  | 21, _ => go_1_22 s0 d s6
  | 22, _ => go_1_23 s0 d s6
  | 23, _ => go_1_24 s0 d s6
  | 24, _ => go_1_25 s0 d s6
  | 25, _ => go_1_26 s0 d s6
  | 26, _ => go_1_27 s0 d s6
  | 27, _ => go_1_28 s0 d s6
  | 28, _ => go_1_29 s0 d s6
  | 29, _ => go_1_30 s0 d s6
  | 30, _ => go_1_31 s0 d s6
  | 31, _ => go_1_32 s0 d s6
  | 32, _ => go_1_33 s0 d s6
  | 33, _ => go_1_34 s0 d s6
  | 34, _ => go_1_35 s0 d s6
  | 35, _ => go_1_36 s0 d s6
  | 36, _ => go_1_37 s0 d s6
  | 37, _ => go_1_38 s0 d s6
  | 38, _ => go_1_39 s0 d s6
  | 39, _ => go_1_40 s0 d s6
  | 40, _ => go_1_41 s0 d s6
  | 41, _ => go_1_42 s0 d s6
  | 42, _ => go_1_43 s0 d s6
  | 43, _ => go_1_44 s0 d s6
  | 44, _ => go_1_45 s0 d s6
  | 45, _ => go_1_46 s0 d s6
  | 46, _ => go_1_47 s0 d s6
  | 47, _ => go_1_48 s0 d s6
  | 48, _ => go_1_49 s0 d s6
  | 49, _ => go_1_50 s0 d s6
  | 50, _ => go_1_51 s0 d s6
  | 51, _ => go_1_52 s0 d s6
  | 52, _ => go_1_53 s0 d s6
  | 53, _ => go_1_54 s0 d s6
  | 54, _ => go_1_55 s0 d s6
  | 55, _ => go_1_56 s0 d s6
  | 56, _ => go_1_57 s0 d s6
  | 57, _ => go_1_58 s0 d s6
  | 58, _ => go_1_59 s0 d s6
  | 59, _ => go_1_60 s0 d s6
  | 60, _ => go_1_61 s0 d s6
  | 61, _ => go_1_62 s0 d s6
  | 62, _ => go_1_63 s0 d s6
  | 63, _ => go_1_64 s0 d s6
  | 64, _ => go_1_65 s0 d s6
  | 65, _ => go_1_66 s0 d s6
  | 66, _ => go_1_67 s0 d s6
  | 67, _ => go_1_68 s0 d s6
  | 68, _ => go_1_69 s0 d s6
  | 69, _ => go_1_70 s0 d s6
  | 70, _ => go_1_71 s0 d s6
  | 71, _ => go_1_72 s0 d s6
  | 72, _ => go_1_73 s0 d s6
  | 73, _ => go_1_74 s0 d s6
  | 74, _ => go_1_75 s0 d s6
  | 75, _ => go_1_76 s0 d s6
  | 76, _ => go_1_77 s0 d s6
  | 77, _ => go_1_78 s0 d s6
  | 78, _ => go_1_79 s0 d s6
  | 79, _ => go_1_80 s0 d s6
  | 80, _ => go_1_81 s0 d s6
  | 81, _ => go_1_82 s0 d s6
  | 82, _ => go_1_83 s0 d s6
  | 83, _ => go_1_84 s0 d s6
  | 84, _ => go_1_85 s0 d s6
  | 85, _ => go_1_86 s0 d s6
  | 86, _ => go_1_87 s0 d s6
  | 87, _ => go_1_88 s0 d s6
  | 88, _ => go_1_89 s0 d s6
  | 89, _ => go_1_90 s0 d s6
  | n + 90, h => absurd h (by omega)
theorem go_2 (s0 d : D) (s6 : Option D) : ∀ n : Nat, n < 90 → go (slots s0 d (1 + (n : Int)) 2 s6) = .nx (slots s0 d (1 + (n : Int)) 2 none)
  | 0, _ => go_2_1 s0 d s6
  | 1, _ => go_2_2 s0 d s6
  | 2, _ => go_2_3 s0 d s6
  | 3, _ => go_2_4 s0 d s6
  | 4, _ => go_2_5 s0 d s6
  | 5, _ => go_2_6 s0 d s6
  | 6, _ => go_2_7 s0 d s6
  | 7, _ => go_2_8 s0 d s6
  | 8, _ => go_2_9 s0 d s6
  | 9, _ => go_2_10 s0 d s6
  | 10, _ => go_2_11 s0 d s6
  | 11, _ => go_2_12 s0 d s6
  | 12, _ => go_2_13 s0 d s6
  | 13, _ => go_2_14 s0 d s6
  | 14, _ => go_2_15 s0 d s6
  | 15, _ => go_2_16 s0 d s6
  | 16, _ => go_2_17 s0 d s6
  | 17, _ => go_2_18 s0 d s6
  | 18, _ => go_2_19 s0 d s6
  | 19, _ => go_2_20 s0 d s6
  | 20, _ => go_2_21 s0 d s6
  | 21, _ => go_2_22 s0 d s6
  | 22, _ => go_2_23 s0 d s6
  | 23, _ => go_2_24 s0 d s6
  | 24, _ => go_2_25 s0 d s6
  | 25, _ => go_2_26 s0 d s6
  | 26, _ => go_2_27 s0 d s6
  | 27, _ => go_2_28 s0 d s6
  | 28, _ => go_2_29 s0 d s6
  | 29, _ => go_2_30 s0 d s6
  | 30, _ => go_2_31 s0 d s6
  | 31, _ => go_2_32 s0 d s6
  | 32, _ => go_2_33 s0 d s6
  | 33, _ => go_2_34 s0 d s6
  | 34, _ => go_2_35 s0 d s6
  | 35, _ => go_2_36 s0 d s6
  | 36, _ => go_2_37 s0 d s6
  | 37, _ => go_2_38 s0 d s6
  | 38, _ => go_2_39 s0 d s6
  | 39, _ => go_2_40 s0 d s6
  | 40, _ => go_2_41 s0 d s6
  | 41, _ => go_2_42 s0 d s6
  | 42, _ => go_2_43 s0 d s6
  | 43, _ => go_2_44 s0 d s6
  | 44, _ => go_2_45 s0 d s6
  | 45, _ => go_2_46 s0 d s6
  | 46, _ => go_2_47 s0 d s6
  | 47, _ => go_2_48 s0 d s6
  | 48, _ => go_2_49 s0 d s6
  | 49, _ => go_2_50 s0 d s6
  | 50, _ => go_2_51 s0 d s6
  | 51, _ => go_2_52 s0 d s6
  | 52, _ => go_2_53 s0 d s6
  | 53, _ => go_2_54 s0 d s6
  | 54, _ => go_2_55 s0 d s6
  | 55, _ => go_2_56 s0 d s6
  | 56, _ => go_2_57 s0 d s6
  | 57, _ => go_2_58 s0 d s6
  | 58, _ => go_2_59 s0 d s6
  | 59, _ => go_2_60 s0 d s6
  | 60, _ => go_2_61 s0 d s6
  | 61, _ => go_2_62 s0 d s6
  | 62, _ => go_2_63 s0 d s6
  | 63, _ => go_2_64 s0 d s6
  | 64, _ => go_2_65 s0 d s6
  | 65, _ => go_2_66 s0 d s6
  | 66, _ => go_2_67 s0 d s6
  | 67, _ => go_2_68 s0 d s6
  | 68, _ => go_2_69 s0 d s6
  | 69, _ => go_2_70 s0 d s6
  | 70, _ => go_2_71 s0 d s6
  | 71, _ => go_2_72 s0 d s6
  | 72, _ => go_2_73 s0 d s6
  | 73, _ => go_2_74 s0 d s6
  | 74, _ => go_2_75 s0 d s6
  | 75, _ => go_2_76 s0 d s6
  | 76, _ => go_2_77 s0 d s6
  | 77, _ => go_2_78 s0 d s6
  | 78, _ => go_2_79 s0 d s6
  | 79, _ => go_2_80 s0 d s6
  | 80, _ => go_2_81 s0 d s6
  | 81, _ => go_2_82 s0 d s6
  | 82, _ => go_2_83 s0 d s6
  | 83, _ => go_2_84 s0 d s6
  | 84, _ => go_2_85 s0 d s6
  | 85, _ => go_2_86 s0 d s6
  | 86, _ => go_2_87 s0 d s6
  | 87, _ => go_2_88 s0 d s6
  | 88, _ => go_2_89 s0 d s6
  | 89, _ => go_2_90 s0 d s6
  | n + 90, h => absurd h (by omega)
theorem go_3 (s0 d : D) (s6 : Option D) : ∀ n : Nat, n < 90 → go (slots s0 d (1 + (n : Int)) 3 s6) = .nx (slots s0 d (1 + (n : Int)) 3 none)
  | 0, _ => go_3_1 s0 d s6
  | 1, _ => go_3_2 s0 d s6
  | 2, _ => go_3_3 s0 d s6
  | 3, _ => go_3_4 s0 d s6
  | 4, _ => go_3_5 s0 d s6
  | 5, _ => go_3_6 s0 d s6
  | 6, _ => go_3_7 s0 d s6
  | 7, _ => go_3_8 s0 d s6
  | 8, _ => go_3_9 s0 d s6
  | 9, _ => go_3_10 s0 d s6
  | 10, _ => go_3_11 s0 d s6
  | 11, _ => go_3_12 s0 d s6
  | 12, _ => go_3_13 s0 d s6
  | 13, _ => go_3_14 s0 d s6
  | 14, _ => go_3_15 s0 d s6
  | 15, _ => go_3_16 s0 d s6
  | 16, _ => go_3_17 s0 d s6
  | 17, _ => go_3_18 s0 d s6
  | 18, _ => go_3_19 s0 d s6
  | 19, _ => go_3_20 s0 d s6
  | 20, _ => go_3_21 s0 d s6
  | 21, _ => go_3_22 s0 d s6
  | 22, _ => go_3_23 s0 d s6
  | 23, _ => go_3_24 s0 d s6
  | 24, _ => go_3_25 s0 d s6
  | 25, _ => go_3_26 s0 d s6
  | 26, _ => go_3_27 s0 d s6
  | 27, _ => go_3_28 s0 d s6
  | 28, _ => go_3_29 s0 d s6
  | 29, _ => go_3_30 s0 d s6
  | 30, _ => go_3_31 s0 d s6
  | 31, _ => go_3_32 s0 d s6
  | 32, _ => go_3_33 s0 d s6
  | 33, _ => go_3_34 s0 d s6
  | 34, _ => go_3_35 s0 d s6
  | 35, _ => go_3_36 s0 d s6
  | 36, _ => go_3_37 s0 d s6
  | 37, _ => go_3_38 s0 d s6
  | 38, _ => go_3_39 s0 d s6
  | 39, _ => go_3_40 s0 d s6
  | 40, _ => go_3_41 s0 d s6
  | 41, _ => go_3_42 s0 d s6
  | 42, _ => go_3_43 s0 d s6
  | 43, _ => go_3_44 s0 d s6
  | 44, _ => go_3_45 s0 d s6
  | 45, _ => go_3_46 s0 d s6
  | 46, _ => go_3_47 s0 d s6
  | 47, _ => go_3_48 s0 d s6
  | 48, _ => go_3_49 s0 d s6
  | 49, _ => go_3_50 s0 d s6
  | 50, _ => go_3_51 s0 d s6
  | 51, _ => go_3_52 s0 d s6
  | 52, _ => go_3_53 s0 d s6
  | 53, _ => go_3_54 s0 d s6
  | 54, _ => go_3_55 s0 d s6
  | 55, _ => go_3_56 s0 d s6
  | 56, _ => go_3_57 s0 d s6
  | 57, _ => go_3_58 s0 d s6
  | 58, _ => go_3_59 s0 d s6
  | 59, _ => go_3_60 s0 d s6
  | 60, _ => go_3_61 s0 d s6
  | 61, _ => go_3_62 s0 d s6
  | 62, _ => go_3_63 s0 d s6
  | 63, _ => go_3_64 s0 d s6
  | 64, _ => go_3_65 s0 d s6
  | 65, _ => go_3_66 s0 d s6
  | 66, _ => go_3_67 s0 d s6
  | 67, _ => go_3_68 s0 d s6
  | 68, _ => go_3_69 s0 d s6
  | 69, _ => go_3_70 s0 d s6
  | 70, _ => go_3_71 s0 d s6
  | 71, _ => go_3_72 s0 d s6
  | 72, _ => go_3_73 s0 d s6
  | 73, _ => go_3_74 s0 d s6
  | 74, _ => go_3_75 s0 d s6
  | 75, _ => go_3_76 s0 d s6
  | 76, _ => go_3_77 s0 d s6
  | 77, _ => go_3_78 s0 d s6
  | 78, _ => go_3_79 s0 d s6
  | 79, _ => go_3_80 s0 d s6
  | 80, _ => go_3_81 s0 d s6
  | 81, _ => go_3_82 s0 d s6
  | 82, _ => go_3_83 s0 d s6
  | 83, _ => go_3_84 s0 d s6
  | 84, _ => go_3_85 s0 d s6
  | 85, _ => go_3_86 s0 d s6
  | 86, _ => go_3_87 s0 d s6
  | 87, _ => go_3_88 s0 d s6
  | 88, _ => go_3_89 s0 d s6
  | 89, _ => go_3_90 s0 d s6
  | n + 90, h => absurd h (by omega)
theorem go_4 (s0 d : D) (s6 : Option D) : ∀ n : Nat, n < 90 → go (slots s0 d (1 + (n : Int)) 4 s6) = .nx (slots s0 d (1 + (n : Int)) 4 none)
  | 0, _ => go_4_1 s0 d s6
  | 1, _ => go_4_2 s0 d s6
  | 2, _ => go_4_3 s0 d s6
  | 3, _ => go_4_4 s0 d s6
  | 4, _ => go_4_5 s0 d s6
  | 5, _ => go_4_6 s0 d s6
  | 6, _ => go_4_7 s0 d s6
  | 7, _ => go_4_8 s0 d s6
  | 8, _ => go_4_9 s0 d s6
  | 9, _ => go_4_10 s0 d s6
  | 10, _ => go_4_11 s0 d s6
  | 11, _ => go_4_12 s0 d s6
  | 12, _ => go_4_13 s0 d s6
  | 13, _ => go_4_14 s0 d s6
  | 14, _ => go_4_15 s0 d s6
  | 15, _ => go_4_16 s0 d s6
  | 16, _ => go_4_17 s0 d s6
  | 17, _ => go_4_18 s0 d s6
  | 18, _ => go_4_19 s0 d s6
  | 19, _ => go_4_20 s0 d s6
  | 20, _ => go_4_21 s0 d s6
  | 21, _ => go_4_22 s0 d s6
  | 22, _ => go_4_23 s0 d s6
  | 23, _ => go_4_24 s0 d s6
  | 24, _ => go_4_25 s0 d s6
  | 25, _ => go_4_26 s0 d s6
  | 26, _ => go_4_27 s0 d s6
  | 27, _ => go_4_28 s0 d s6
  | 28, _ => go_4_29 s0 d s6
  | 29, _ => go_4_30 s0 d s6
  | 30, _ => go_4_31 s0 d s6
  | 31, _ => go_4_32 s0 d s6
  | 32, _ => go_4_33 s0 d s6
  | 33, _ => go_4_34 s0 d s6
  | 34, _ => go_4_35 s0 d s6
  | 35, _ => go_4_36 s0 d s6
  | 36, _ => go_4_37 s0 d s6
  | 37, _ => go_4_38 s0 d s6
  | 38, _ => go_4_39 s0 d s6
  | 39, _ => go_4_40 s0 d s6
  | 40, _ => go_4_41 s0 d s6
  | 41, _ => go_4_42 s0 d s6
  | 42, _ => go_4_43 s0 d s6
  | 43, _ => go_4_44 s0 d s6
  | 44, _ => go_4_45 s0 d s6
  | 45, _ => go_4_46 s0 d s6
  | 46, _ => go_4_47 s0 d s6
  | 47, _ => go_4_48 s0 d s6
  | 48, _ => go_4_49 s0 d s6
  | 49, _ => go_4_50 s0 d s6
  | 50, _ => go_4_51 s0 d s6
  | 51, _ => go_4_52 s0 d s6
  | 52, _ => go_4_53 s0 d s6
  | 53, _ => go_4_54 s0 d s6
  | 54, _ => go_4_55 s0 d s6
  | 55, _ => go_4_56 s0 d s6
  | 56, _ => go_4_57 s0 d s6
  | 57, _ => go_4_58 s0 d s6
  | 58, _ => go_4_59 s0 d s6
  | 59, _ => go_4_60 s0 d s6
  | 60, _ => go_4_61 s0 d s6
  | 61, _ => go_4_62 s0 d s6
  | 62, _ => go_4_63 s0 d s6
  | 63, _ => go_4_64 s0 d s6
  | 64, _ => go_4_65 s0 d s6
  | 65, _ => go_4_66 s0 d s6
  | 66, _ => go_4_67 s0 d s6
  | 67, _ => go_4_68 s0 d s6
  | 68, _ => go_4_69 s0 d s6
  | 69, _ => go_4_70 s0 d s6
  | 70, _ => go_4_71 s0 d s6
  | 71, _ => go_4_72 s0 d s6
  | 72, _ => go_4_73 s0 d s6
  | 73, _ => go_4_74 s0 d s6
  | 74, _ => go_4_75 s0 d s6
  | 75, _ => go_4_76 s0 d s6
  | 76, _ => go_4_77 s0 d s6
  | 77, _ => go_4_78 s0 d s6
  | 78, _ => go_4_79 s0 d s6
  | 79, _ => go_4_80 s0 d s6
  | 80, _ => go_4_81 s0 d s6
  | 81, _ => go_4_82 s0 d s6
  | 82, _ => go_4_83 s0 d s6
  | 83, _ => go_4_84 s0 d s6
  | 84, _ => go_4_85 s0 d s6
  | 85, _ => go_4_86 s0 d s6
  | 86, _ => go_4_87 s0 d s6
  | 87, _ => go_4_88 s0 d s6
  | 88, _ => go_4_89 s0 d s6
  | 89, _ => go_4_90 s0 d s6
  | n + 90, h => absurd h (by omega)
theorem go_5 (s0 d : D) (s6 : Option D) : ∀ n : Nat, n < 90 → go (slots s0 d (1 + (n : Int)) 5 s6) = .nx (slots s0 d (1 + (n : Int)) 5 none)
  | 0, _ => go_5_1 s0 d s6
  | 1, _ => go_5_2 s0 d s6
  | 2, _ => go_5_3 s0 d s6
  | 3, _ => go_5_4 s0 d s6
  | 4, _ => go_5_5 s0 d s6
  | 5, _ => go_5_6 s0 d s6
  | 6, _ => go_5_7 s0 d s6
  | 7, _ => go_5_8 s0 d s6
  | 8, _ => go_5_9 s0 d s6
  | 9, _ => go_5_10 s0 d s6
  | 10, _ => go_5_11 s0 d s6
  | 11, _ => go_5_12 s0 d s6
  | 12, _ => go_5_13 s0 d s6
  | 13, _ => go_5_14 s0 d s6
  | 14, _ => go_5_15 s0 d s6
  | 15, _ => go_5_16 s0 d s6
  | 16, _ => go_5_17 s0 d s6
  | 17, _ => go_5_18 s0 d s6
  | 18, _ => go_5_19 s0 d s6
  | 19, _ => go_5_20 s0 d s6
  | 20, _ => go_5_21 s0 d s6
  | 21, _ => go_5_22 s0 d s6
  | 22, _ => go_5_23 s0 d s6
  | 23, _ => go_5_24 s0 d s6
  | 24, _ => go_5_25 s0 d s6
  | 25, _ => go_5_26 s0 d s6
  | 26, _ => go_5_27 s0 d s6
  | 27, _ => go_5_28 s0 d s6
  | 28, _ => go_5_29 s0 d s6
  | 29, _ => go_5_30 s0 d s6
  | 30, _ => go_5_31 s0 d s6
  | 31, _ => go_5_32 s0 d s6
  | 32, _ => go_5_33 s0 d s6
  | 33, _ => go_5_34 s0 d s6
  | 34, _ => go_5_35 s0 d s6
  | 35, _ => go_5_36 s0 d s6
  | 36, _ => go_5_37 s0 d s6
  | 37, _ => go_5_38 s0 d s6
  | 38, _ => go_5_39 s0 d s6
  | 39, _ => go_5_40 s0 d s6
  | 40, _ => go_5_41 s0 d s6
  | 41, _ => go_5_42 s0 d s6
  | 42, _ => go_5_43 s0 d s6
  | 43, _ => go_5_44 s0 d s6
  | 44, _ => go_5_45 s0 d s6
  | 45, _ => go_5_46 s0 d s6
  | 46, _ => go_5_47 s0 d s6
  | 47, _ => go_5_48 s0 d s6
  | 48, _ => go_5_49 s0 d s6
  | 49, _ => go_5_50 s0 d s6
  | 50, _ => go_5_51 s0 d s6
  | 51, _ => go_5_52 s0 d s6
  | 52, _ => go_5_53 s0 d s6
  | 53, _ => go_5_54 s0 d s6
  | 54, _ => go_5_55 s0 d s6
  | 55, _ => go_5_56 s0 d s6
  | 56, _ => go_5_57 s0 d s6
  | 57, _ => go_5_58 s0 d s6
  | 58, _ => go_5_59 s0 d s6
  | 59, _ => go_5_60 s0 d s6
  | 60, _ => go_5_61 s0 d s6
  | 61, _ => go_5_62 s0 d s6
  | 62, _ => go_5_63 s0 d s6
  | 63, _ => go_5_64 s0 d s6
  | 64, _ => go_5_65 s0 d s6
  | 65, _ => go_5_66 s0 d s6
  | 66, _ => go_5_67 s0 d s6
  | 67, _ => go_5_68 s0 d s6
  | 68, _ => go_5_69 s0 d s6
  | 69, _ => go_5_70 s0 d s6
  | 70, _ => go_5_71 s0 d s6
  | 71, _ => go_5_72 s0 d s6
  | 72, _ => go_5_73 s0 d s6
  | 73, _ => go_5_74 s0 d s6
  | 74, _ => go_5_75 s0 d s6
  | 75, _ => go_5_76 s0 d s6
  | 76, _ => go_5_77 s0 d s6
  | 77, _ => go_5_78 s0 d s6
  | 78, _ => go_5_79 s0 d s6
  | 79, _ => go_5_80 s0 d s6
  | 80, _ => go_5_81 s0 d s6
  | 81, _ => go_5_82 s0 d s6
  | 82, _ => go_5_83 s0 d s6
  | 83, _ => go_5_84 s0 d s6
  | 84, _ => go_5_85 s0 d s6
  | 85, _ => go_5_86 s0 d s6
  | 86, _ => go_5_87 s0 d s6
  | 87, _ => go_5_88 s0 d s6
  | 88, _ => go_5_89 s0 d s6
  | 89, _ => go_5_90 s0 d s6
  | n + 90, h => absurd h (by omega)
theorem go_6 (s0 d : D) (s6 : Option D) : ∀ n : Nat, n < 90 → go (slots s0 d (1 + (n : Int)) 6 s6) = .nx (slots s0 d (1 + (n : Int)) 6 none)
  | 0, _ => go_6_1 s0 d s6
  | 1, _ => go_6_2 s0 d s6
  | 2, _ => go_6_3 s0 d s6
  | 3, _ => go_6_4 s0 d s6
  | 4, _ => go_6_5 s0 d s6
  | 5, _ => go_6_6 s0 d s6
  | 6, _ => go_6_7 s0 d s6
  | 7, _ => go_6_8 s0 d s6
  | 8, _ => go_6_9 s0 d s6
  | 9, _ => go_6_10 s0 d s6
  | 10, _ => go_6_11 s0 d s6
  | 11, _ => go_6_12 s0 d s6
  | 12, _ => go_6_13 s0 d s6
  | 13, _ => go_6_14 s0 d s6
  | 14, _ => go_6_15 s0 d s6
  | 15, _ => go_6_16 s0 d s6
  | 16, _ => go_6_17 s0 d s6
  | 17, _ => go_6_18 s0 d s6
  | 18, _ => go_6_19 s0 d s6
  | 19, _ => go_6_20 s0 d s6
  | 20, _ => go_6_21 s0 d s6
  | 21, _ => go_6_22 s0 d s6
  | 22, _ => go_6_23 s0 d s6
  | 23, _ => go_6_24 s0 d s6
  | 24, _ => go_6_25 s0 d s6
  | 25, _ => go_6_26 s0 d s6
  | 26, _ => go_6_27 s0 d s6
  | 27, _ => go_6_28 s0 d s6
  | 28, _ => go_6_29 s0 d s6
  | 29, _ => go_6_30 s0 d s6
  | 30, _ => go_6_31 s0 d s6
  | 31, _ => go_6_32 s0 d s6
  | 32, _ => go_6_33 s0 d s6
  | 33, _ => go_6_34 s0 d s6
  | 34, _ => go_6_35 s0 d s6
  | 35, _ => go_6_36 s0 d s6
  | 36, _ => go_6_37 s0 d s6
  | 37, _ => go_6_38 s0 d s6
  | 38, _ => go_6_39 s0 d s6
  | 39, _ => go_6_40 s0 d s6
  | 40, _ => go_6_41 s0 d s6
  | 41, _ => go_6_42 s0 d s6
  | 42, _ => go_6_43 s0 d s6
  | 43, _ => go_6_44 s0 d s6
  | 44, _ => go_6_45 s0 d s6
  | 45, _ => go_6_46 s0 d s6
  | 46, _ => go_6_47 s0 d s6
  | 47, _ => go_6_48 s0 d s6
  | 48, _ => go_6_49 s0 d s6
  | 49, _ => go_6_50 s0 d s6
  | 50, _ => go_6_51 s0 d s6
  | 51, _ => go_6_52 s0 d s6
  | 52, _ => go_6_53 s0 d s6
  | 53, _ => go_6_54 s0 d s6
  | 54, _ => go_6_55 s0 d s6
  | 55, _ => go_6_56 s0 d s6
  | 56, _ => go_6_57 s0 d s6
  | 57, _ => go_6_58 s0 d s6
  | 58, _ => go_6_59 s0 d s6
  | 59, _ => go_6_60 s0 d s6
  | 60, _ => go_6_61 s0 d s6
  | 61, _ => go_6_62 s0 d s6
  | 62, _ => go_6_63 s0 d s6
  | 63, _ => go_6_64 s0 d s6
  | 64, _ => go_6_65 s0 d s6
  | 65, _ => go_6_66 s0 d s6
  | 66, _ => go_6_67 s0 d s6
  | 67, _ => go_6_68 s0 d s6
  | 68, _ => go_6_69 s0 d s6
  | 69, _ => go_6_70 s0 d s6
  | 70, _ => go_6_71 s0 d s6
  | 71, _ => go_6_72 s0 d s6
  | 72, _ => go_6_73 s0 d s6
  | 73, _ => go_6_74 s0 d s6
  | 74, _ => go_6_75 s0 d s6
  | 75, _ => go_6_76 s0 d s6
  | 76, _ => go_6_77 s0 d s6
  | 77, _ => go_6_78 s0 d s6
  | 78, _ => go_6_79 s0 d s6
  | 79, _ => go_6_80 s0 d s6
  | 80, _ => go_6_81 s0 d s6
  | 81, _ => go_6_82 s0 d s6
  | 82, _ => go_6_83 s0 d s6
  | 83, _ => go_6_84 s0 d s6
  | 84, _ => go_6_85 s0 d s6
  | 85, _ => go_6_86 s0 d s6
  | 86, _ => go_6_87 s0 d s6
  | 87, _ => go_6_88 s0 d s6
  | 88, _ => go_6_89 s0 d s6
  | 89, _ => go_6_90 s0 d s6
  | n + 90, h => absurd h (by omega)
theorem go_7 (s0 d : D) (s6 : Option D) : ∀ n : Nat, n < 90 → go (slots s0 d (1 + (n : Int)) 7 s6) = .nx (slots s0 d (1 + (n : Int)) 7 none)
  | 0, _ => go_7_1 s0 d s6
  | 1, _ => go_7_2 s0 d s6
  | 2, _ => go_7_3 s0 d s6
  | 3, _ => go_7_4 s0 d s6
  | 4, _ => go_7_5 s0 d s6
  | 5, _ => go_7_6 s0 d s6
  | 6, _ => go_7_7 s0 d s6
  | 7, _ => go_7_8 s0 d s6
  | 8, _ => go_7_9 s0 d s6
  | 9, _ => go_7_10 s0 d s6
  | 10, _ => go_7_11 s0 d s6
  | 11, _ => go_7_12 s0 d s6
  | 12, _ => go_7_13 s0 d s6
  | 13, _ => go_7_14 s0 d s6
  | 14, _ => go_7_15 s0 d s6
  | 15, _ => go_7_16 s0 d s6
  | 16, _ => go_7_17 s0 d s6
  | 17, _ => go_7_18 s0 d s6
  | 18, _ => go_7_19 s0 d s6
  | 19, _ => go_7_20 s0 d s6
  | 20, _ => go_7_21 s0 d s6
  | 21, _ => go_7_22 s0 d s6
  | 22, _ => go_7_23 s0 d s6
  | 23, _ => go_7_24 s0 d s6
  | 24, _ => go_7_25 s0 d s6
  | 25, _ => go_7_26 s0 d s6
  | 26, _ => go_7_27 s0 d s6
  | 27, _ => go_7_28 s0 d s6
  | 28, _ => go_7_29 s0 d s6
  | 29, _ => go_7_30 s0 d s6
  | 30, _ => go_7_31 s0 d s6
  | 31, _ => go_7_32 s0 d s6
  | 32, _ => go_7_33 s0 d s6
  | 33, _ => go_7_34 s0 d s6
  | 34, _ => go_7_35 s0 d s6
  | 35, _ => go_7_36 s0 d s6
  | 36, _ => go_7_37 s0 d s6
  | 37, _ => go_7_38 s0 d s6
  | 38, _ => go_7_39 s0 d s6
  | 39, _ => go_7_40 s0 d s6
  | 40, _ => go_7_41 s0 d s6
  | 41, _ => go_7_42 s0 d s6
  | 42, _ => go_7_43 s0 d s6
  | 43, _ => go_7_44 s0 d s6
  | 44, _ => go_7_45 s0 d s6
  | 45, _ => go_7_46 s0 d s6
  | 46, _ => go_7_47 s0 d s6
  | 47, _ => go_7_48 s0 d s6
  | 48, _ => go_7_49 s0 d s6
  | 49, _ => go_7_50 s0 d s6
  | 50, _ => go_7_51 s0 d s6
  | 51, _ => go_7_52 s0 d s6
  | 52, _ => go_7_53 s0 d s6
  | 53, _ => go_7_54 s0 d s6
  | 54, _ => go_7_55 s0 d s6
  | 55, _ => go_7_56 s0 d s6
  | 56, _ => go_7_57 s0 d s6
  | 57, _ => go_7_58 s0 d s6
  | 58, _ => go_7_59 s0 d s6
  | 59, _ => go_7_60 s0 d s6
  | 60, _ => go_7_61 s0 d s6
  | 61, _ => go_7_62 s0 d s6
  | 62, _ => go_7_63 s0 d s6
  | 63, _ => go_7_64 s0 d s6
  | 64, _ => go_7_65 s0 d s6
  | 65, _ => go_7_66 s0 d s6
  | 66, _ => go_7_67 s0 d s6
  | 67, _ => go_7_68 s0 d s6
  | 68, _ => go_7_69 s0 d s6
  | 69, _ => go_7_70 s0 d s6
  | 70, _ => go_7_71 s0 d s6
  | 71, _ => go_7_72 s0 d s6
  | 72, _ => go_7_73 s0 d s6
  | 73, _ => go_7_74 s0 d s6
  | 74, _ => go_7_75 s0 d s6
  | 75, _ => go_7_76 s0 d s6
  | 76, _ => go_7_77 s0 d s6
  | 77, _ => go_7_78 s0 d s6
  | 78, _ => go_7_79 s0 d s6
  | 79, _ => go_7_80 s0 d s6
  | 80, _ => go_7_81 s0 d s6
  | 81, _ => go_7_82 s0 d s6
  | 82, _ => go_7_83 s0 d s6
  | 83, _ => go_7_84 s0 d s6
  | 84, _ => go_7_85 s0 d s6
  | 85, _ => go_7_86 s0 d s6
  | 86, _ => go_7_87 s0 d s6
  | 87, _ => go_7_88 s0 d s6
  | 88, _ => go_7_89 s0 d s6
  | 89, _ => go_7_90 s0 d s6
  | n + 90, h => absurd h (by omega)
theorem go_all (s0 d : D) (s6 : Option D) {m k : Int} (m0 : 0 ≤ m) (m1 : m < 90) (k0 : 0 ≤ k) (k1 : k < 8) : go (slots s0 d (1 + m) k s6) = .nx (slots s0 d (1 + m) k none) := by
  obtain ⟨n, rfl⟩ := Int.eq_ofNat_of_zero_le m0
  have hn : n < 90 := by omega
  rcases (show k = 0 ∨ k = 1 ∨ k = 2 ∨ k = 3 ∨ k = 4 ∨ k = 5 ∨ k = 6 ∨ k = 7 by omega) with h | h | h | h | h | h | h | h <;> subst h
  · exact go_0 s0 d s6 n hn
  · exact go_1 s0 d s6 n hn
  · exact go_2 s0 d s6 n hn
  · exact go_3 s0 d s6 n hn
  · exact go_4 s0 d s6 n hn
  · exact go_5 s0 d s6 n hn
  · exact go_6 s0 d s6 n hn
  · exact go_7 s0 d s6 n hn
end GP
namespace GP
open PySem PySem.Spec PyProof.Rows L2 GL
noncomputable def vpar : Sl → So := (GL.sPar [(GL.tgName 2 false), (GL.tgName 3 true)] (GL.mvCons (GL.m2 GL.addD (GL.mCold (GL.mVal (.int 1))) (GL.mCold (GL.mFn law_roll (GL.agPl (GL.plVar 1) (GL.agVal (GL.mCold (GL.mVal (.int 90))) GL.agNil))))) (GL.mvCons (GL.mMk "Desk" Desk_init GL.agNil) GL.mvNil)))
noncomputable def vroll : Sl → So := (GL.sSet 5 false (GL.mFn law_roll (GL.agPl (GL.plVar 1) (GL.agVal (GL.mCold (GL.mVal (.int 8))) GL.agNil))))
theorem d_init : Desk_init [.nd true (.ins "Desk" []) []] = .rt .non [deskD] := by kernel_rfl
theorem desk_fz : deskD.fz = false := rfl
theorem v_0 (sc : D) (a b c : Int) : ∃ a1 b1 c1 r, 0 ≤ r ∧ r < 90 ∧ vpar [some (sc), some (diceD a b c), none, none, none, none, none] = .nx [some (sc), some (diceD a1 b1 c1), some (.int (1 + r)), some (deskD), none, none, none] := by
  obtain ⟨r, a1, b1, c1, e1, i0, i1⟩ := roll_eq a b c (n := 90) (by decide) (by decide)
  refine ⟨a1, b1, c1, r, i0, i1, ?_⟩
  unfold vpar
  simp only [r_bo,r_be,r_bs,r_ao,r_ae,r_as,r_os,r_on,r_gt,r_gq,r_ge,r_so,r_se,s_nx,s_rt,s_bk,s_ct,s_er,e_Val,k_Of,k_Ok,e_Var,k_Var,e_Fz,k_Fz,k_Fz',e_Cold,k_Cold,e_2,k_2,e_Tru,e_Bl,k_Bl,e_B,k_B,e_Not,k_Not,e_And,k_AndT,k_AndF,e_Or,k_OrT,k_OrF,e_If,k_IfET,k_IfEF,e_True,e_Chain,k_Ch1,k_Ch2,k_Ch3T,k_Ch3F,e_Nil,e_Cons,k_Cons,k_Cons',e_vNil,e_vCons,k_vCons,e_Call,e_Neg,e_Fld,e_agNil,e_agVal,k_Ag,k_Ag1,k_Ag2,agT,agF,e_agPl,k_Pl,k_Pl1,k_Pl2,e_plVar,e_plFld,k_pF,k_pF1,k_pF2,e_rPl,k_rP,k_rP1,e_rVal,k_rV,k_rV1,e_Fn,e_Mk,e_Mt,k_Mt,k_Mt1,k_Mt2,a_fixV,a_fixO,e_runF,k_Run,k_Rf,k_RfE,e_runMk,k_Mk,k_Mk1,k_MkR,k_MkE,e_Told,k_Td,k_TdE,k_Td1,e_Rng,e_Src,e_Walk,k_Wk,e_turn,k_Tn,k_TnT,k_TnF,k_Ty,e_Lc,k_Lc,k_Lc1,e_Ld0,e_Ld,k_Ld,k_LdT,e_sNil,e_sSeq,e_sExpr,k_X,e_sRet,e_sIf,k_IfT,k_IfF,e_sSet,k_Set,e_sAsg,k_Asg,e_sPar,k_Par2',k_Par3',k_Par4',k_Par5',e_sPar2,k_Par2,e_par2,e_sFor,k_For,e_for0,e_for1,k_F1,k_F2n,k_F2c,k_F2b,k_F2r,k_F2e,e_sForMv,k_Mv1,e_sRaise,k_Rs,e_chg,k_c1,k_c2,k_c3,e_sFld,k_Sf,e_App,k_a1,k_a2,k_a3,k_a4,e_sIx,k_ix,k_ix1,e_sAug,k_Au,k_Au1,k_Au2,k_Au3,e_quiet,e_tName,e_tTup,e_tNil,e_tCons,k_T,e_soOf,e_getP,k_gP,e_at0,e_at1,k_at,e_put0,e_putP',k_pu,e_getL,k_gL,k_L0,e_len0,e_lenV,e_lenO,k_L1,k_L2,k_L3,e_giv0,e_givV,e_givO,k_G1,a_isV,a_isO,e_rfR,e_rfN,e_rfE,e_bkT,e_bkN,e_bkF,e_bk0,e_wip0,e_wip1,e_kT,e_kF,c_int,c_bl,c_str,c_non,c_any,c_nd,c_nil,c_cons,f_int,f_bl,f_str,f_non,f_any,f_ndT,f_ndF,e_ptN,e_ptS,k_Pt,e_Sl,k_Sl1,k_Sl2,k_Sl3,e_srF,e_srC,e_srT,e_scr,c_scr,i_add,i_adI,i_adQ,i_sub,i_mul,i_fdv,i_mod,i_lt,i_le,i_gt,i_ge,i_neg,i_abs,i_int,i_intb,i_max,i_min,i_eq,i_ne,i_ixl,i_ixt,k_Map,k_St,i_set,at0,at1,at2,sl_0,sl_1,eq_00,eq_10,ixN30,ixN31,ixN32,lst0,k_Ob,i_tup1,i_lst1,i_tup2,i_lst2,i_tup3,i_lst3,i_tup4,i_lst4,i_tup5,i_lst5,i_tup6,i_lst6,List.getElem?_cons_zero,List.getElem?_cons_succ,List.getElem?_nil,List.set_cons_zero,List.set_cons_succ,List.set_nil,Bool.and_true,Bool.true_and,Bool.and_false,Bool.false_and,Bool.or_true,Bool.true_or,Bool.or_false,Bool.false_or,Bool.not_true,Bool.not_false,decide_true,decide_false,List.all_cons,List.all_nil,List.isEmpty_nil,List.isEmpty_cons,List.map_cons,List.map_nil,List.append_nil,List.nil_append,List.cons_append,List.length_cons,List.length_nil,Nat.zero_add,Nat.reduceAdd,Option.toList_some,Option.toList_none,Int.reduceEq,Int.reduceLT,Int.reduceLE,Int.reduceSub,Int.reduceAdd,Int.reduceNeg,Int.reduceMul,eq_self,e1,d_init,desk_fz]
theorem v_1 (sc : D) (a b c m : Int) (s3 s4 : Option D) : ∃ a1 b1 c1 r, 0 ≤ r ∧ r < 8 ∧ vroll [some (sc), some (diceD a b c), some (.int m), s3, s4, none, none] = .nx [some (sc), some (diceD a1 b1 c1), some (.int m), s3, s4, some (.int r), none] := by
  obtain ⟨r, a1, b1, c1, e1, i0, i1⟩ := roll_eq a b c (n := 8) (by decide) (by decide)
  refine ⟨a1, b1, c1, r, i0, i1, ?_⟩
  unfold vroll
  simp only [r_bo,r_be,r_bs,r_ao,r_ae,r_as,r_os,r_on,r_gt,r_gq,r_ge,r_so,r_se,s_nx,s_rt,s_bk,s_ct,s_er,e_Val,k_Of,k_Ok,e_Var,k_Var,e_Fz,k_Fz,k_Fz',e_Cold,k_Cold,e_2,k_2,e_Tru,e_Bl,k_Bl,e_B,k_B,e_Not,k_Not,e_And,k_AndT,k_AndF,e_Or,k_OrT,k_OrF,e_If,k_IfET,k_IfEF,e_True,e_Chain,k_Ch1,k_Ch2,k_Ch3T,k_Ch3F,e_Nil,e_Cons,k_Cons,k_Cons',e_vNil,e_vCons,k_vCons,e_Call,e_Neg,e_Fld,e_agNil,e_agVal,k_Ag,k_Ag1,k_Ag2,agT,agF,e_agPl,k_Pl,k_Pl1,k_Pl2,e_plVar,e_plFld,k_pF,k_pF1,k_pF2,e_rPl,k_rP,k_rP1,e_rVal,k_rV,k_rV1,e_Fn,e_Mk,e_Mt,k_Mt,k_Mt1,k_Mt2,a_fixV,a_fixO,e_runF,k_Run,k_Rf,k_RfE,e_runMk,k_Mk,k_Mk1,k_MkR,k_MkE,e_Told,k_Td,k_TdE,k_Td1,e_Rng,e_Src,e_Walk,k_Wk,e_turn,k_Tn,k_TnT,k_TnF,k_Ty,e_Lc,k_Lc,k_Lc1,e_Ld0,e_Ld,k_Ld,k_LdT,e_sNil,e_sSeq,e_sExpr,k_X,e_sRet,e_sIf,k_IfT,k_IfF,e_sSet,k_Set,e_sAsg,k_Asg,e_sPar,k_Par2',k_Par3',k_Par4',k_Par5',e_sPar2,k_Par2,e_par2,e_sFor,k_For,e_for0,e_for1,k_F1,k_F2n,k_F2c,k_F2b,k_F2r,k_F2e,e_sForMv,k_Mv1,e_sRaise,k_Rs,e_chg,k_c1,k_c2,k_c3,e_sFld,k_Sf,e_App,k_a1,k_a2,k_a3,k_a4,e_sIx,k_ix,k_ix1,e_sAug,k_Au,k_Au1,k_Au2,k_Au3,e_quiet,e_tName,e_tTup,e_tNil,e_tCons,k_T,e_soOf,e_getP,k_gP,e_at0,e_at1,k_at,e_put0,e_putP',k_pu,e_getL,k_gL,k_L0,e_len0,e_lenV,e_lenO,k_L1,k_L2,k_L3,e_giv0,e_givV,e_givO,k_G1,a_isV,a_isO,e_rfR,e_rfN,e_rfE,e_bkT,e_bkN,e_bkF,e_bk0,e_wip0,e_wip1,e_kT,e_kF,c_int,c_bl,c_str,c_non,c_any,c_nd,c_nil,c_cons,f_int,f_bl,f_str,f_non,f_any,f_ndT,f_ndF,e_ptN,e_ptS,k_Pt,e_Sl,k_Sl1,k_Sl2,k_Sl3,e_srF,e_srC,e_srT,e_scr,c_scr,i_add,i_adI,i_adQ,i_sub,i_mul,i_fdv,i_mod,i_lt,i_le,i_gt,i_ge,i_neg,i_abs,i_int,i_intb,i_max,i_min,i_eq,i_ne,i_ixl,i_ixt,k_Map,k_St,i_set,at0,at1,at2,sl_0,sl_1,eq_00,eq_10,ixN30,ixN31,ixN32,lst0,k_Ob,i_tup1,i_lst1,i_tup2,i_lst2,i_tup3,i_lst3,i_tup4,i_lst4,i_tup5,i_lst5,i_tup6,i_lst6,List.getElem?_cons_zero,List.getElem?_cons_succ,List.getElem?_nil,List.set_cons_zero,List.set_cons_succ,List.set_nil,Bool.and_true,Bool.true_and,Bool.and_false,Bool.false_and,Bool.or_true,Bool.true_or,Bool.or_false,Bool.false_or,Bool.not_true,Bool.not_false,decide_true,decide_false,List.all_cons,List.all_nil,List.isEmpty_nil,List.isEmpty_cons,List.map_cons,List.map_nil,List.append_nil,List.nil_append,List.cons_append,List.length_cons,List.length_nil,Nat.zero_add,Nat.reduceAdd,Option.toList_some,Option.toList_none,Int.reduceEq,Int.reduceLT,Int.reduceLE,Int.reduceSub,Int.reduceAdd,Int.reduceNeg,Int.reduceMul,eq_self,e1]
noncomputable def vbody : Sl → So := sSeq vpar (sUnd 4 vroll go)
theorem v_ok (sc : D) (a b c : Int) : ∃ Γ, vbody [some (sc), some (diceD a b c), none, none, none, none, none] = .nx Γ := by
  obtain ⟨a1, b1, c1, r, i0, i1, e0⟩ := v_0 sc a b c
  obtain ⟨a2, b2, c2, k, k0, k1, e1⟩ := v_1 sc a1 b1 c1 (1 + r) (some deskD) (some .any)
  refine ⟨slots sc (diceD a2 b2 c2) (1 + r) k none, seq_in e0 ?_⟩
  show (match vroll [some (sc), some (diceD a1 b1 c1), some (.int (1 + r)), some (deskD), some (.any), none, none] with | .nx Γ1 => go Γ1 | _ => .st) = _
  rw [e1]
  exact go_all sc (diceD a2 b2 c2) none i0 i1 k0 k1
theorem law_body : law_b = sSeq (sForMv (mFn law_rounds (agPl (plVar 0) (agVal (mCold (mVal (.int 1))) agNil))) (tgName 1 true) vbody) (sSeq (sRet (mVal (.bl true))) sNil) := rfl
theorem plain (ns : List Int) (_ : ns.length ≤ 63) (_ : ∀ z ∈ ns, Builtin.Int.intBits z ≤ 1048576) : ∃ bs, law [GL.scrD ns] = .rt (.bl true) bs := by
  have e : ∀ d0, law [d0] = (law_b [some (d0), none, none, none, none, none, none]).rf [true] := fun _ => rfl
  obtain ⟨a, b, c, bs, hr⟩ := rounds_eq ns
  obtain ⟨Γ, hb⟩ := v_ok (GL.scrD ns) a b c
  refine ⟨bkS [true] Γ, ?_⟩
  rw [e, law_body]
  refine seq_step (Γ' := Γ) ?_ ?_
  · generalize vbody = S at hb ⊢
    simp only [r_bo,r_be,r_bs,r_ao,r_ae,r_as,r_os,r_on,r_gt,r_gq,r_ge,r_so,r_se,s_nx,s_rt,s_bk,s_ct,s_er,e_Val,k_Of,k_Ok,e_Var,k_Var,e_Fz,k_Fz,k_Fz',e_Cold,k_Cold,e_2,k_2,e_Tru,e_Bl,k_Bl,e_B,k_B,e_Not,k_Not,e_And,k_AndT,k_AndF,e_Or,k_OrT,k_OrF,e_If,k_IfET,k_IfEF,e_True,e_Chain,k_Ch1,k_Ch2,k_Ch3T,k_Ch3F,e_Nil,e_Cons,k_Cons,k_Cons',e_vNil,e_vCons,k_vCons,e_Call,e_Neg,e_Fld,e_agNil,e_agVal,k_Ag,k_Ag1,k_Ag2,agT,agF,e_agPl,k_Pl,k_Pl1,k_Pl2,e_plVar,e_plFld,k_pF,k_pF1,k_pF2,e_rPl,k_rP,k_rP1,e_rVal,k_rV,k_rV1,e_Fn,e_Mk,e_Mt,k_Mt,k_Mt1,k_Mt2,a_fixV,a_fixO,e_runF,k_Run,k_Rf,k_RfE,e_runMk,k_Mk,k_Mk1,k_MkR,k_MkE,e_Told,k_Td,k_TdE,k_Td1,e_Rng,e_Src,e_Walk,k_Wk,e_turn,k_Tn,k_TnT,k_TnF,k_Ty,e_Lc,k_Lc,k_Lc1,e_Ld0,e_Ld,k_Ld,k_LdT,e_sNil,e_sSeq,e_sExpr,k_X,e_sRet,e_sIf,k_IfT,k_IfF,e_sSet,k_Set,e_sAsg,k_Asg,e_sPar,k_Par2',k_Par3',k_Par4',k_Par5',e_sPar2,k_Par2,e_par2,e_sFor,k_For,e_for0,e_for1,k_F1,k_F2n,k_F2c,k_F2b,k_F2r,k_F2e,e_sForMv,k_Mv1,e_sRaise,k_Rs,e_chg,k_c1,k_c2,k_c3,e_sFld,k_Sf,e_App,k_a1,k_a2,k_a3,k_a4,e_sIx,k_ix,k_ix1,e_sAug,k_Au,k_Au1,k_Au2,k_Au3,e_quiet,e_tName,e_tTup,e_tNil,e_tCons,k_T,e_soOf,e_getP,k_gP,e_at0,e_at1,k_at,e_put0,e_putP',k_pu,e_getL,k_gL,k_L0,e_len0,e_lenV,e_lenO,k_L1,k_L2,k_L3,e_giv0,e_givV,e_givO,k_G1,a_isV,a_isO,e_rfR,e_rfN,e_rfE,e_bkT,e_bkN,e_bkF,e_bk0,e_wip0,e_wip1,e_kT,e_kF,c_int,c_bl,c_str,c_non,c_any,c_nd,c_nil,c_cons,f_int,f_bl,f_str,f_non,f_any,f_ndT,f_ndF,e_ptN,e_ptS,k_Pt,e_Sl,k_Sl1,k_Sl2,k_Sl3,e_srF,e_srC,e_srT,e_scr,c_scr,i_add,i_adI,i_adQ,i_sub,i_mul,i_fdv,i_mod,i_lt,i_le,i_gt,i_ge,i_neg,i_abs,i_int,i_intb,i_max,i_min,i_eq,i_ne,i_ixl,i_ixt,k_Map,k_St,i_set,at0,at1,at2,sl_0,sl_1,eq_00,eq_10,ixN30,ixN31,ixN32,lst0,k_Ob,i_tup1,i_lst1,i_tup2,i_lst2,i_tup3,i_lst3,i_tup4,i_lst4,i_tup5,i_lst5,i_tup6,i_lst6,List.getElem?_cons_zero,List.getElem?_cons_succ,List.getElem?_nil,List.set_cons_zero,List.set_cons_succ,List.set_nil,Bool.and_true,Bool.true_and,Bool.and_false,Bool.false_and,Bool.or_true,Bool.true_or,Bool.or_false,Bool.false_or,Bool.not_true,Bool.not_false,decide_true,decide_false,List.all_cons,List.all_nil,List.isEmpty_nil,List.isEmpty_cons,List.map_cons,List.map_nil,List.append_nil,List.nil_append,List.cons_append,List.length_cons,List.length_nil,Nat.zero_add,Nat.reduceAdd,Option.toList_some,Option.toList_none,Int.reduceEq,Int.reduceLT,Int.reduceLE,Int.reduceSub,Int.reduceAdd,Int.reduceNeg,Int.reduceMul,eq_self,hr,hb,giv2]
  · simp only [r_bo,r_be,r_bs,r_ao,r_ae,r_as,r_os,r_on,r_gt,r_gq,r_ge,r_so,r_se,s_nx,s_rt,s_bk,s_ct,s_er,e_Val,k_Of,k_Ok,e_Var,k_Var,e_Fz,k_Fz,k_Fz',e_Cold,k_Cold,e_2,k_2,e_Tru,e_Bl,k_Bl,e_B,k_B,e_Not,k_Not,e_And,k_AndT,k_AndF,e_Or,k_OrT,k_OrF,e_If,k_IfET,k_IfEF,e_True,e_Chain,k_Ch1,k_Ch2,k_Ch3T,k_Ch3F,e_Nil,e_Cons,k_Cons,k_Cons',e_vNil,e_vCons,k_vCons,e_Call,e_Neg,e_Fld,e_agNil,e_agVal,k_Ag,k_Ag1,k_Ag2,agT,agF,e_agPl,k_Pl,k_Pl1,k_Pl2,e_plVar,e_plFld,k_pF,k_pF1,k_pF2,e_rPl,k_rP,k_rP1,e_rVal,k_rV,k_rV1,e_Fn,e_Mk,e_Mt,k_Mt,k_Mt1,k_Mt2,a_fixV,a_fixO,e_runF,k_Run,k_Rf,k_RfE,e_runMk,k_Mk,k_Mk1,k_MkR,k_MkE,e_Told,k_Td,k_TdE,k_Td1,e_Rng,e_Src,e_Walk,k_Wk,e_turn,k_Tn,k_TnT,k_TnF,k_Ty,e_Lc,k_Lc,k_Lc1,e_Ld0,e_Ld,k_Ld,k_LdT,e_sNil,e_sSeq,e_sExpr,k_X,e_sRet,e_sIf,k_IfT,k_IfF,e_sSet,k_Set,e_sAsg,k_Asg,e_sPar,k_Par2',k_Par3',k_Par4',k_Par5',e_sPar2,k_Par2,e_par2,e_sFor,k_For,e_for0,e_for1,k_F1,k_F2n,k_F2c,k_F2b,k_F2r,k_F2e,e_sForMv,k_Mv1,e_sRaise,k_Rs,e_chg,k_c1,k_c2,k_c3,e_sFld,k_Sf,e_App,k_a1,k_a2,k_a3,k_a4,e_sIx,k_ix,k_ix1,e_sAug,k_Au,k_Au1,k_Au2,k_Au3,e_quiet,e_tName,e_tTup,e_tNil,e_tCons,k_T,e_soOf,e_getP,k_gP,e_at0,e_at1,k_at,e_put0,e_putP',k_pu,e_getL,k_gL,k_L0,e_len0,e_lenV,e_lenO,k_L1,k_L2,k_L3,e_giv0,e_givV,e_givO,k_G1,a_isV,a_isO,e_rfR,e_rfN,e_rfE,e_bkT,e_bkN,e_bkF,e_bk0,e_wip0,e_wip1,e_kT,e_kF,c_int,c_bl,c_str,c_non,c_any,c_nd,c_nil,c_cons,f_int,f_bl,f_str,f_non,f_any,f_ndT,f_ndF,e_ptN,e_ptS,k_Pt,e_Sl,k_Sl1,k_Sl2,k_Sl3,e_srF,e_srC,e_srT,e_scr,c_scr,i_add,i_adI,i_adQ,i_sub,i_mul,i_fdv,i_mod,i_lt,i_le,i_gt,i_ge,i_neg,i_abs,i_int,i_intb,i_max,i_min,i_eq,i_ne,i_ixl,i_ixt,k_Map,k_St,i_set,at0,at1,at2,sl_0,sl_1,eq_00,eq_10,ixN30,ixN31,ixN32,lst0,k_Ob,i_tup1,i_lst1,i_tup2,i_lst2,i_tup3,i_lst3,i_tup4,i_lst4,i_tup5,i_lst5,i_tup6,i_lst6,List.getElem?_cons_zero,List.getElem?_cons_succ,List.getElem?_nil,List.set_cons_zero,List.set_cons_succ,List.set_nil,Bool.and_true,Bool.true_and,Bool.and_false,Bool.false_and,Bool.or_true,Bool.true_or,Bool.or_false,Bool.false_or,Bool.not_true,Bool.not_false,decide_true,decide_false,List.all_cons,List.all_nil,List.isEmpty_nil,List.isEmpty_cons,List.map_cons,List.map_nil,List.append_nil,List.nil_append,List.cons_append,List.length_cons,List.length_nil,Nat.zero_add,Nat.reduceAdd,Option.toList_some,Option.toList_none,Int.reduceEq,Int.reduceLT,Int.reduceLE,Int.reduceSub,Int.reduceAdd,Int.reduceNeg,Int.reduceMul,eq_self]
end GP
namespace GP
open PySem PySem.Spec PyProof.Rows L2
theorem run (w : World) : HandSHeadRun.RunEq R (PySem.W.view R.prog [36]) hk ob 12000 loose w := by
  intro os
  kernel_rfl
/-- the law, once its plain reading answers True -/
theorem law_at (plain : ∀ ns : List Int, ns.length ≤ 63 → (∀ z ∈ ns, Builtin.Int.intBits z ≤ 1048576) → ∃ bs, law [GL.scrD ns] = .rt (.bl true) bs) (w : World) (mg : Str → Option Value) (fa' : Addr) (h : Heap) (Y : hk.says w h) (NS : h.Ns mainGlobals mg) (hmg : mg ("law" : Str) = some (.ref fa')) :
    ∃ K : PySem.W.Frag, K.In h ∧ LamX.LawAtS PySem.Challenge.rw_glasshall_k21_refusals_apart w K (L2.CX PW w) 8 63 "script" mg fa' h := by
  obtain ⟨K, KX, C⟩ := Y
  have hfa := hmg.symm.trans (He.glo_ok KX NS (C.x.t.d.fact 11 (f := .glo "law") rfl))
  cases hfa
  obtain ⟨fd, F⟩ := C.x.t.d.def_ 56 (d := d57) rfl
  have F : FunD K "law" "law" (defArgs s57) (defBody s57) (defScope s57) [] [] (He.fAd K ("law", none)) fd := F
  have b := FunD.bindsA (ps := ["script"]) F fun _ _ _ _ _ _ us hl => match us, hl with | [_], _ => rfl
  refine ⟨K, KX, GL.law_in C.old KX F (fun s u => b s [u] rfl) plain fun base kb nb tb => law_core (C.env KX NS tb) F⟩
end GP
open PySem PySem.W PySem.Calls PyProof.Rows
theorem PySem.Challenge.cw_glasshall_k21_refusals_apart_holds : PySem.Challenge.rw_glasshall_k21_refusals_apart.Holds := by
  w_on; o_law
  refine HandSHeadRun.head_any (r := OpenLaw.row PySem.Challenge.rw_glasshall_k21_refusals_apart) (q := view (OpenLaw.row PySem.Challenge.rw_glasshall_k21_refusals_apart).prog [36]) (H := GP.hk) (ob := GP.ob) (M := 12000) (loose := GP.loose) (d := HandSHeadRun.topDef (OpenLaw.row PySem.Challenge.rw_glasshall_k21_refusals_apart).prog 36) (kwd := []) GP.ob_eq
    (by kernel_rfl) (fun s => by kernel_rfl) GP.run (by kernel_rfl) (by kernel_rfl) (by kernel_rfl) (by rfl) (by first | assumption | decide +kernel) (by decide +kernel) ⟨rfl, rfl, rfl, rfl, rfl, by decide +kernel⟩ ?hw ?hc
  case hw => w_witness2
  case hc =>
    refine LamX.walk_ofTsE (l := PySem.Challenge.rw_glasshall_k21_refusals_apart) (n := 63) (k := 8) (x := "script") (CX := fun w => L2.CX GP.PW w) rfl (by decide) (by kernel_rfl) ⟨rfl, by decide, by decide⟩ ?F (fun w H s e s' z => GL.cx_none z)
    intro w mg fa h Y G hmg0
    have hmg : mg ("law" : PySem.Str) = some (.ref fa) := by
      have e : (HandSHeadRun.topDef (OpenLaw.row PySem.Challenge.rw_glasshall_k21_refusals_apart).prog 36).name = ("law" : PySem.Str) := by kernel_rfl
      rw [← e]
      exact hmg0
    exact GP.law_at GP.plain w mg fa h Y G hmg
