import PyProof.Rows.All
import Wide.All
import OpenK.AllK
import Wide.FinOn
import HandS.ForMost
import HandS.Flow
import HandS.TupAny
import HandS.Style
import HandS.Deep
import KE.KTupSum
import HandS.SortInts
import PyProof.ReprReads
import PyProof.Rows.NestShow
import PyProof.CallFns
import KE.KIndexOf
import HandS.Strs
import HandS.Zip
import KE.GoesEnum
import HandS.Defaults
import HandS.Words
import HandS.HeadEnd
import HandS.Head0
import HandS.Head1
import HandS.Head2
import HandS.HeadHook1
import HandS.HeadHook2
import HandS.Conv
import HandS.IsInst
import HandS.TupSets
import PyProof.ReprBulk
import PySem.Challenge.RW_pairsandprices_k58_whole_lists_cut_short
set_option Elab.async false
set_option linter.all false
set_option maxRecDepth 100000
set_option maxHeartbeats 0
/-! Fw: a pure reading of the program's Python (values as trees, a store for what is mutated), tied to the hand layer's judgements. -/
namespace Fw
open PySem PySem.Spec PyProof.Rows L2

/-! ### values, store, outcomes -/
inductive D where
  | v (d : PyData)
  | ref (n : Nat)
  | scr (ns : List Int)
inductive O where
  | dead
  | lst (ds : List PyData)
  | dct (t : Bool) (kvs : List (PyData × D))
  | lck (t : Bool) (kvs : List (PyData × D))
abbrev Sto := List O
abbrev Ev := List (Option D)
/-- a value that holds no younger object than the n-th -/
def D.low (n : Nat) : D → Bool
  | .ref m => decide (m < n)
  | _ => true
def O.low (n : Nat) : O → Bool
  | .dct _ kvs => kvs.all fun p => p.2.low n
  | .lck _ kvs => kvs.all fun p => p.2.low n
  | _ => true
structure Exn where
  cls : Str
  fs : List (Str × PyData)
inductive Out (α : Type) where
  | ok (a : α) (st : Sto)
  | exn (e : Exn) (st : Sto)
  | stuck
def Out.bind {α β : Type} (x : Out α) (f : α → Sto → Out β) : Out β :=
  match x with
  | .ok a st => f a st
  | .exn e st => .exn e st
  | .stuck => .stuck
def Out.post {α : Type} (x : Out α) (P : α → Sto → Prop) (E : Exn → Sto → Prop) : Prop :=
  match x with
  | .ok a st => P a st
  | .exn e st => E e st
  | .stuck => False
theorem Out.post_bind {α β : Type} {x : Out α} {f : α → Sto → Out β} {P : β → Sto → Prop} {E : Exn → Sto → Prop}
    (h : (x.bind f).post P E) : x.post (fun a st => (f a st).post P E) E := by
  cases x <;> exact h
theorem Out.post_mono {α : Type} {x : Out α} {P P' : α → Sto → Prop} {E E' : Exn → Sto → Prop}
    (h : x.post P E) (hp : ∀ a st, P a st → P' a st) (he : ∀ e st, E e st → E' e st) : x.post P' E' := by
  cases x
  · exact hp _ _ h
  · exact he _ _ h
  · exact h
@[simp] theorem bind_ok {α β : Type} (a : α) (st : Sto) (f : α → Sto → Out β) : (Out.ok a st).bind f = f a st := rfl
@[simp] theorem bind_exn {α β : Type} (e : Exn) (st : Sto) (f : α → Sto → Out β) : (Out.exn e st : Out α).bind f = .exn e st := rfl
@[simp] theorem bind_stuck {α β : Type} (f : α → Sto → Out β) : (Out.stuck : Out α).bind f = .stuck := rfl

/-! ### how values lie in the abstract heap -/
/-- the store's addresses; lists that are being made, hidden from the store -/
structure Gh where
  ad : List Addr
  hid : List Addr
def Gh.psh (ι : Gh) (p : Addr) : Gh := ⟨ι.ad ++ [p], ι.hid⟩
def Gh.tk (ι : Gh) (k : Nat) : Gh := ⟨ι.ad.take k, ι.hid⟩
/-- a is no address of a living object of the store -/
def Frz (ι : Gh) (st : Sto) (a : Addr) : Prop := a ∉ ι.hid ∧ ∀ (n : Nat) (o : O), st[n]? = some o → ι.ad[n]? = some a → o = O.dead
def kD : Key → PyData
  | .inl i => .int i
  | .inr x => .str x
mutual
inductive Rp (F : Addr → Prop) (H : Hp) : V → PyData → Prop
  | non : Rp F H .non .none
  | bl (b : Bool) : Rp F H (.bl b) (.bool b)
  | int (i : Int) : Rp F H (.int i) (.int i)
  | str (x : Str) : Rp F H (.str x) (.str x)
  | lst {a : Addr} {xs : List V} {ds : List PyData} : H a = some (.lst xs) → F a → RpA F H xs ds → Rp F H (.ref a) (.list ds)
  | tup {a : Addr} {xs : List V} {ds : List PyData} {o : Obj} : H a = some (.frz o (.tup xs)) → o.dict = Option.none → F a → RpA F H xs ds → Rp F H (.ref a) (.tuple ds)
  | dcK {a : Addr} {xs : List (Key × V)} {ds : List (PyData × PyData)} : Rd H a (.dK xs) → F a → RpK F H xs ds → Rp F H (.ref a) (.dict ds)
  | dcT {a : Addr} {xs : List (List Key × V)} {ds : List (PyData × PyData)} : Rd H a (.dT xs) → F a → RpT F H xs ds → ds ≠ [] → Rp F H (.ref a) (.dict ds)
inductive RpA (F : Addr → Prop) (H : Hp) : List V → List PyData → Prop
  | nil : RpA F H [] []
  | cons {x : V} {xs : List V} {d : PyData} {ds : List PyData} : Rp F H x d → RpA F H xs ds → RpA F H (x :: xs) (d :: ds)
inductive RpK (F : Addr → Prop) (H : Hp) : List (Key × V) → List (PyData × PyData) → Prop
  | nil : RpK F H [] []
  | cons {k : Key} {x : V} {xs : List (Key × V)} {d : PyData} {ds : List (PyData × PyData)} : Rp F H x d → RpK F H xs ds → RpK F H ((k, x) :: xs) ((kD k, d) :: ds)
inductive RpT (F : Addr → Prop) (H : Hp) : List (List Key × V) → List (PyData × PyData) → Prop
  | nil : RpT F H [] []
  | cons {k : List Key} {x : V} {xs : List (List Key × V)} {d : PyData} {ds : List (PyData × PyData)} : Rp F H x d → RpT F H xs ds → RpT F H ((k, x) :: xs) ((.tuple (k.map kD), d) :: ds)
end

/-- what stood at a place stands there still (a dict may have been locked) -/
def Kp (u : HO) (x : Option HO) : Prop :=
  x = some u ∨ ((∃ kvs, u = .dK kvs) ∨ (∃ kvs, u = .dT kvs)) ∧ ∃ o, x = some (.frz o u)
structure Ext (ι : Gh) (st : Sto) (H : Hp) (ι' : Gh) (st' : Sto) (H' : Hp) : Prop where
  keep : ∀ q u, H q = some u → Frz ι st q → Frz ι' st' q ∧ H' q = some u
  pre : ∀ (n : Nat) (a : Addr), ι.ad[n]? = some a → ι'.ad[n]? = some a
  hid : ι'.hid = ι.hid
  keepZ : ∀ a, a ∈ ι.hid → H' a = H a
  lk : ∀ {n : Nat} {t : Bool} {kvs : List (PyData × D)} {a : Addr}, st[n]? = some (.lck t kvs) → ι.ad[n]? = some a → st'[n]? = some (.lck t kvs) ∧ H' a = H a
theorem Ext.refl {ι : Gh} {st : Sto} {H : Hp} : Ext ι st H ι st H := ⟨fun _ _ e f => ⟨f, e⟩, fun _ _ e => e, rfl, fun _ _ => rfl, fun h _ => ⟨h, rfl⟩⟩
theorem Ext.trans {ι ι1 ι2 : Gh} {st st1 st2 : Sto} {H H1 H2 : Hp} (a : Ext ι st H ι1 st1 H1) (b : Ext ι1 st1 H1 ι2 st2 H2) : Ext ι st H ι2 st2 H2 :=
  ⟨fun q u e f => let ⟨f1, k1⟩ := a.keep q u e f; b.keep q u k1 f1, fun n x e => b.pre n x (a.pre n x e), b.hid.trans a.hid, fun q h => (b.keepZ q (by rw [a.hid]; exact h)).trans (a.keepZ q h), fun h hi => let ⟨h1, e1⟩ := a.lk h hi; let ⟨h2, e2⟩ := b.lk h1 (a.pre _ _ hi); ⟨h2, e2.trans e1⟩⟩
theorem Kp.lst {xs : List V} {x : Option HO} (h : Kp (.lst xs) x) : x = some (.lst xs) := by
  rcases h with h | ⟨z | z, _⟩
  · exact h
  all_goals (obtain ⟨_, z⟩ := z; cases z)
theorem Kp.tup {xs : List V} {o : Obj} {x : Option HO} (h : Kp (.frz o (.tup xs)) x) : x = some (.frz o (.tup xs)) := by
  rcases h with h | ⟨z | z, _⟩
  · exact h
  all_goals (obtain ⟨_, z⟩ := z; cases z)
theorem rd_mv {F F' : Addr → Prop} {H H' : Hp} (hk : ∀ q u, H q = some u → F q → F' q ∧ Kp u (H' q)) {a : Addr} {u : HO} (hu : (∃ kvs, u = .dK kvs) ∨ (∃ kvs, u = .dT kvs)) (r : Rd H a u) (f : F a) : F' a ∧ Rd H' a u := by
  rcases r with r | ⟨o, r⟩
  · obtain ⟨f', k⟩ := hk _ _ r f
    rcases k with k | ⟨_, o, k⟩
    · exact ⟨f', .inl k⟩
    · exact ⟨f', .inr ⟨o, k⟩⟩
  · obtain ⟨f', k⟩ := hk _ _ r f
    rcases k with k | ⟨z, _⟩
    · exact ⟨f', .inr ⟨o, k⟩⟩
    · rcases z with ⟨_, z⟩ | ⟨_, z⟩ <;> cases z
section
variable {F F' : Addr → Prop} {H H' : Hp}
mutual
theorem Rp.mv (hk : ∀ q u, H q = some u → F q → F' q ∧ Kp u (H' q)) : ∀ {v : V} {d : PyData}, Rp F H v d → Rp F' H' v d
  | _, _, .non => .non
  | _, _, .bl b => .bl b
  | _, _, .int i => .int i
  | _, _, .str z => .str z
  | _, _, .lst e f r => .lst (hk _ _ e f).2.lst (hk _ _ e f).1 (RpA.mv hk r)
  | _, _, .tup e z f r => .tup (hk _ _ e f).2.tup z (hk _ _ e f).1 (RpA.mv hk r)
  | _, _, .dcK e f r => .dcK (rd_mv hk (.inl ⟨_, rfl⟩) e f).2 (rd_mv hk (.inl ⟨_, rfl⟩) e f).1 (RpK.mv hk r)
  | _, _, .dcT e f r z => .dcT (rd_mv hk (.inr ⟨_, rfl⟩) e f).2 (rd_mv hk (.inr ⟨_, rfl⟩) e f).1 (RpT.mv hk r) z
theorem RpA.mv (hk : ∀ q u, H q = some u → F q → F' q ∧ Kp u (H' q)) : ∀ {v : List V} {d : List PyData}, RpA F H v d → RpA F' H' v d
  | _, _, .nil => .nil
  | _, _, .cons h r => .cons (Rp.mv hk h) (RpA.mv hk r)
theorem RpK.mv (hk : ∀ q u, H q = some u → F q → F' q ∧ Kp u (H' q)) : ∀ {v : List (Key × V)} {d : List (PyData × PyData)}, RpK F H v d → RpK F' H' v d
  | _, _, .nil => .nil
  | _, _, .cons h r => .cons (Rp.mv hk h) (RpK.mv hk r)
theorem RpT.mv (hk : ∀ q u, H q = some u → F q → F' q ∧ Kp u (H' q)) : ∀ {v : List (List Key × V)} {d : List (PyData × PyData)}, RpT F H v d → RpT F' H' v d
  | _, _, .nil => .nil
  | _, _, .cons h r => .cons (Rp.mv hk h) (RpT.mv hk r)
end
end
section
variable {ι ι' : Gh} {st st' : Sto} {H H' : Hp}
theorem Rp.ext (x : Ext ι st H ι' st' H') {v : V} {d : PyData} (h : Rp (Frz ι st) H v d) : Rp (Frz ι' st') H' v d := Rp.mv (fun q u e f => let ⟨a, b⟩ := x.keep q u e f; ⟨a, .inl b⟩) h
theorem RpA.ext (x : Ext ι st H ι' st' H') {v : List V} {d : List PyData} (h : RpA (Frz ι st) H v d) : RpA (Frz ι' st') H' v d := RpA.mv (fun q u e f => let ⟨a, b⟩ := x.keep q u e f; ⟨a, .inl b⟩) h
theorem RpK.ext (x : Ext ι st H ι' st' H') {v : List (Key × V)} {d : List (PyData × PyData)} (h : RpK (Frz ι st) H v d) : RpK (Frz ι' st') H' v d := RpK.mv (fun q u e f => let ⟨a, b⟩ := x.keep q u e f; ⟨a, .inl b⟩) h
theorem RpT.ext (x : Ext ι st H ι' st' H') {v : List (List Key × V)} {d : List (PyData × PyData)} (h : RpT (Frz ι st) H v d) : RpT (Frz ι' st') H' v d := RpT.mv (fun q u e f => let ⟨a, b⟩ := x.keep q u e f; ⟨a, .inl b⟩) h
end
theorem RpA.length {F : Addr → Prop} {H : Hp} : ∀ {xs : List V} {ds : List PyData}, RpA F H xs ds → xs.length = ds.length
  | _, _, .nil => rfl
  | _, _, .cons _ r => by rw [List.length_cons, List.length_cons, RpA.length r]
theorem RpA.get {F : Addr → Prop} {H : Hp} : ∀ {xs : List V} {ds : List PyData} {i : Nat} {d : PyData}, RpA F H xs ds → ds[i]? = some d → ∃ x, xs[i]? = some x ∧ Rp F H x d
  | _, _, _, _, .nil, e => by simp at e
  | _, _, 0, _, .cons r _, e => by simp at e; subst e; exact ⟨_, rfl, r⟩
  | _, _, i + 1, d, .cons _ r, e => by
    obtain ⟨x, h1, h2⟩ := RpA.get (i := i) (d := d) r (by simpa using e)
    exact ⟨x, by simpa using h1, h2⟩
theorem RpA.append {F : Addr → Prop} {H : Hp} : ∀ {xs ys : List V} {ds es : List PyData}, RpA F H xs ds → RpA F H ys es → RpA F H (xs ++ ys) (ds ++ es)
  | _, _, _, _, .nil, s => s
  | _, _, _, _, .cons r t, s => .cons r (RpA.append t s)
theorem RpA.take {F : Addr → Prop} {H : Hp} : ∀ {xs : List V} {ds : List PyData} (n : Nat), RpA F H xs ds → RpA F H (xs.take n) (ds.take n)
  | _, _, 0, _ => .nil
  | _, _, _ + 1, .nil => .nil
  | _, _, n + 1, .cons r t => .cons r (RpA.take n t)
theorem RpA.drop {F : Addr → Prop} {H : Hp} : ∀ {xs : List V} {ds : List PyData} (n : Nat), RpA F H xs ds → RpA F H (xs.drop n) (ds.drop n)
  | _, _, 0, r => r
  | _, _, _ + 1, .nil => .nil
  | _, _, n + 1, .cons _ t => RpA.drop n t
theorem RpA.set {F : Addr → Prop} {H : Hp} {x : V} {d : PyData} (r : Rp F H x d) : ∀ {xs : List V} {ds : List PyData} (i : Nat), RpA F H xs ds → RpA F H (xs.set i x) (ds.set i d)
  | _, _, _, .nil => .nil
  | _, _, 0, .cons _ t => .cons r t
  | _, _, i + 1, .cons q t => .cons q (RpA.set r i t)
theorem RpA.erase {F : Addr → Prop} {H : Hp} : ∀ {xs : List V} {ds : List PyData} (i : Nat), RpA F H xs ds → RpA F H (xs.eraseIdx i) (ds.eraseIdx i)
  | _, _, _, .nil => .nil
  | _, _, 0, .cons _ t => t
  | _, _, i + 1, .cons q t => .cons q (RpA.erase i t)
theorem RpA.reverse {F : Addr → Prop} {H : Hp} : ∀ {xs : List V} {ds : List PyData}, RpA F H xs ds → RpA F H xs.reverse ds.reverse
  | _, _, .nil => .nil
  | _, _, .cons r t => by
    rw [List.reverse_cons, List.reverse_cons]
    exact (RpA.reverse t).append (.cons r .nil)
theorem RpA.dropLast {F : Addr → Prop} {H : Hp} {xs : List V} {ds : List PyData} (r : RpA F H xs ds) : RpA F H xs.dropLast ds.dropLast := by
  rw [List.dropLast_eq_take, List.dropLast_eq_take, r.length]
  exact r.take _
theorem RpA.rep {F : Addr → Prop} {H : Hp} {xs : List V} {ds : List PyData} (r : RpA F H xs ds) : ∀ k : Nat, RpA F H (List.replicate k xs).flatten (List.replicate k ds).flatten
  | 0 => .nil
  | k + 1 => by
    rw [List.replicate_succ, List.replicate_succ, List.flatten_cons, List.flatten_cons]
    exact r.append (RpA.rep r k)

/-- a list of the written part -/
def KL (K : PySem.W.Frag) (a : Addr) (xs : List V) : Prop :=
  ∃ (o : Obj) (its : Array Value) (n : Nat), K.lookup a = some o ∧ o.cls = .type "list" ∧ o.dict = none ∧ o.data = .seq its n ∧ its.size ≤ sizeLine ∧ Vals xs its.toList
/-- a value of the reading at a value of the hand layer -/
def RD (K : PySem.W.Frag) (ι : Gh) (st : Sto) (H : Hp) (x : V) : D → Prop
  | .v d => Rp (Frz ι st) H x d
  | .ref n => ∃ a, ι.ad[n]? = some a ∧ x = .ref a
  | .scr ns => ∃ a, x = .ref a ∧ (KL K a (ns.map V.int) ∨ ∃ o, H a = some (.frz o (.lst (ns.map V.int))) ∧ Frz ι st a)
section
variable {K : PySem.W.Frag} {ι ι' : Gh} {st st' : Sto} {H H' : Hp}
theorem RD.ext (e : Ext ι st H ι' st' H') {x : V} : ∀ {d : D}, RD K ι st H x d → RD K ι' st' H' x d
  | .v d, h => Rp.ext e h
  | .ref n, ⟨a, h1, h2⟩ => ⟨a, e.pre n a h1, h2⟩
  | .scr ns, ⟨a, h1, h2⟩ => by
    refine ⟨a, h1, ?_⟩
    rcases h2 with h2 | ⟨o, h2, f⟩
    · exact .inl h2
    · obtain ⟨f', k⟩ := e.keep _ _ h2 f
      exact .inr ⟨o, k, f'⟩
theorem RD.scr {x : V} {ns : List Int} (h : RD K ι st H x (.scr ns)) : ∃ a, x = .ref a ∧ SqL K H a (ns.map V.int) := by
  obtain ⟨a, h1, h2⟩ := h
  refine ⟨a, h1, ?_⟩
  rcases h2 with h2 | ⟨o, h2, _⟩
  · exact .inr h2
  · exact .inl (.inr ⟨o, h2⟩)
end
/-- a dict's pairs in the store -/
def RK (K : PySem.W.Frag) (ι : Gh) (st : Sto) (H : Hp) : List (PyData × D) → List (Key × V) → Prop := Paired fun p q => p.1 = kD q.1 ∧ RD K ι st H q.2 p.2
def RT (K : PySem.W.Frag) (ι : Gh) (st : Sto) (H : Hp) : List (PyData × D) → List (List Key × V) → Prop := Paired fun p q => p.1 = .tuple (q.1.map kD) ∧ RD K ι st H q.2 p.2
/-- an object of the store at its address -/
def RO (K : PySem.W.Frag) (ι : Gh) (st : Sto) (H : Hp) (a : Addr) : O → Prop
  | .dead => True
  | .lst ds => ∃ xs, H a = some (.lst xs) ∧ RpA (Frz ι st) H xs ds
  | .dct false kvs => ∃ xs, H a = some (.dK xs) ∧ RK K ι st H kvs xs
  | .dct true kvs => ∃ xs, H a = some (.dT xs) ∧ RT K ι st H kvs xs
  | .lck false kvs => ∃ xs o, H a = some (.frz o (.dK xs)) ∧ RK K ι st H kvs xs
  | .lck true kvs => ∃ xs o, H a = some (.frz o (.dT xs)) ∧ RT K ι st H kvs xs
/-- the sizes of what is tracked -/
def szOk : HO → Prop
  | .lst xs => xs.length ≤ sizeLine
  | .tup xs => xs.length ≤ sizeLine
  | .dK xs => xs.length ≤ sizeLine
  | .dT xs => xs.length ≤ sizeLine
  | .frz _ u => szOk u
  | _ => True
def HF (H : Hp) : Prop := ∀ a u, H a = some u → szOk u
/-- what may be hidden -/
def HdO : HO → Prop
  | .lst _ => True
  | .dK _ => True
  | .dT _ => True
  | _ => False
structure SRel (K : PySem.W.Frag) (ι : Gh) (st : Sto) (H : Hp) : Prop where
  len : ι.ad.length = st.length
  obj : ∀ (n : Nat) (o : O) (a : Addr), st[n]? = some o → ι.ad[n]? = some a → RO K ι st H a o
  inj : ∀ (m n : Nat) (a : Addr) (o u : O), ι.ad[m]? = some a → ι.ad[n]? = some a → st[m]? = some o → st[n]? = some u → o ≠ O.dead → u ≠ O.dead → m = n
  low : ∀ (n : Nat) (o : O), st[n]? = some o → o.low n = true
  hid : ∀ a, a ∈ ι.hid → (∃ u, H a = some u ∧ HdO u) ∧ ∀ (n : Nat) (o : O), st[n]? = some o → ι.ad[n]? = some a → o = O.dead
  hf : HF H
def EvR (K : PySem.W.Frag) (ι : Gh) (st : Sto) (H : Hp) (σ : L2.St) (env : Ev) : Prop :=
  σ.length = env.length ∧ ∀ (i : Nat) (d : D), env[i]? = some (some d) → ∃ x, σ[i]? = some (some x) ∧ RD K ι st H x d
section
variable {K : PySem.W.Frag} {ι ι' : Gh} {st st' : Sto} {H H' : Hp}
theorem EvR.ext (e : Ext ι st H ι' st' H') {σ : L2.St} {env : Ev} (h : EvR K ι st H σ env) : EvR K ι' st' H' σ env :=
  ⟨h.1, fun i d q => let ⟨x, h1, h2⟩ := h.2 i d q; ⟨x, h1, h2.ext e⟩⟩
theorem EvR.set {σ : L2.St} {env : Ev} (h : EvR K ι st H σ env) {x : V} {d : D} (r : RD K ι st H x d) (i : Nat) : EvR K ι st H (σ.set i (some x)) (env.set i (some d)) := by
  refine ⟨by rw [List.length_set, List.length_set]; exact h.1, fun j d' q => ?_⟩
  by_cases hj : i = j
  · subst hj
    by_cases hl : i < env.length
    · rw [List.getElem?_set_self hl] at q
      cases q
      exact ⟨x, by rw [List.getElem?_set_self (by rw [h.1]; exact hl)], r⟩
    · rw [List.getElem?_eq_none (by rw [List.length_set]; omega)] at q
      cases q
  · rw [List.getElem?_set_ne hj] at q
    obtain ⟨y, h1, h2⟩ := h.2 j d' q
    exact ⟨y, by rw [List.getElem?_set_ne hj]; exact h1, h2⟩
theorem EvR.none {σ : L2.St} {env : Ev} (h : EvR K ι st H σ env) (i : Nat) : EvR K ι st H (σ.set i Option.none) (env.set i Option.none) := by
  refine ⟨by rw [List.length_set, List.length_set]; exact h.1, fun j d' q => ?_⟩
  by_cases hj : i = j
  · subst hj
    by_cases hl : i < env.length
    · rw [List.getElem?_set_self hl] at q
      cases q
    · rw [List.getElem?_eq_none (by rw [List.length_set]; omega)] at q
      cases q
  · rw [List.getElem?_set_ne hj] at q
    obtain ⟨y, h1, h2⟩ := h.2 j d' q
    exact ⟨y, by rw [List.getElem?_set_ne hj]; exact h1, h2⟩
end
/-- the slots of a block's own names forgotten -/
def wipeE (env : Ev) : List Nat → Ev
  | [] => env
  | v :: vs => (wipeE env vs).set v none
theorem EvR.wipe {K : PySem.W.Frag} {ι : Gh} {st : Sto} {H : Hp} {σ : L2.St} {env : Ev} (h : EvR K ι st H σ env) : ∀ vs : List Nat, EvR K ι st H (L2.wipe σ vs) (wipeE env vs)
  | [] => h
  | v :: vs => (EvR.wipe h vs).none v

/-! ### the readings -/
abbrev XW := Exn → Gh → Sto → Hp → Prop
abbrev WF : XW := fun _ _ _ _ => False
abbrev ME := Ev → Sto → Out D
abbrev MT := Ev → Sto → Out Bool
abbrev MA := Ev → Sto → Out (List D)
def RDs (K : PySem.W.Frag) (ι : Gh) (st : Sto) (H : Hp) : List V → List D → Prop := Paired fun x d => RD K ι st H x d
theorem RDs.ext {K : PySem.W.Frag} {ι ι' : Gh} {st st' : Sto} {H H' : Hp} (e : Ext ι st H ι' st' H') : ∀ {xs : List V} {ds : List D}, RDs K ι st H xs ds → RDs K ι' st' H' xs ds
  | _, _, .nil => .nil
  | _, _, .cons h r => .cons (RD.ext e h) (RDs.ext e r)
/-- what is to be shown of an outcome: a value, a test, values -/
def PO1 (K : PySem.W.Frag) (ι : Gh) (st : Sto) (H : Hp) (Q : VK) (d : D) (st' : Sto) : Prop := ∀ ι' H' x, SRel K ι' st' H' → Ext ι st H ι' st' H' → RD K ι' st' H' x d → Q x H'
def PB1 (K : PySem.W.Frag) (ι : Gh) (st : Sto) (H : Hp) (Q : Bool → Hp → Prop) (b : Bool) (st' : Sto) : Prop := ∀ ι' H', SRel K ι' st' H' → Ext ι st H ι' st' H' → Q b H'
def PA1 (K : PySem.W.Frag) (ι : Gh) (st : Sto) (H : Hp) (Q : List V → Hp → Prop) (ds : List D) (st' : Sto) : Prop := ∀ ι' H' xs, SRel K ι' st' H' → Ext ι st H ι' st' H' → RDs K ι' st' H' xs ds → Q xs H'
def PX1 (K : PySem.W.Frag) (W : XW) (ι : Gh) (st : Sto) (H : Hp) (e : Exn) (st' : Sto) : Prop := ∀ ι' H', SRel K ι' st' H' → Ext ι st H ι' st' H' → W e ι' st' H'
def TEo (K : PySem.W.Frag) (W : XW) (m : ME) : TE := fun σ H Q => ∃ ι env st, SRel K ι st H ∧ EvR K ι st H σ env ∧ (m env st).post (PO1 K ι st H Q) (PX1 K W ι st H)
def TTo (K : PySem.W.Frag) (W : XW) (m : MT) : TT := fun σ H Q => ∃ ι env st, SRel K ι st H ∧ EvR K ι st H σ env ∧ (m env st).post (PB1 K ι st H Q) (PX1 K W ι st H)
def TAo (K : PySem.W.Frag) (W : XW) (m : MA) : TA := fun σ H Q => ∃ ι env st, SRel K ι st H ∧ EvR K ι st H σ env ∧ (m env st).post (PA1 K ι st H Q) (PX1 K W ι st H)

/-! ### what comes free: the sizes -/
section
variable {X : Cx} {pins : List (Addr × Obj)} {σ : L2.St} {H : Hp} {s : Shared}
theorem sz_of {P : Program} {w : World} {h : Heap} {a : Addr} {u : HO} (k : ObjOk P w H h a u) : szOk u := by
  induction u with
  | lst xs => exact k.1
  | tup xs => exact k.1
  | dK xs => exact k.1
  | dT xs => exact k.1
  | frz o u ih => exact ih k.2
  | _ => trivial
theorem hf_of (I : Inv X pins σ H s) : HF H := fun a u e => sz_of (I.hok a u e)
variable {K : PySem.W.Frag} {W : XW} {e : Expr} {es : List Expr}
theorem pe_wrap {t : TE} {m : ME} (h : PE X e t) (hi : ∀ σ H Q, TEo K W m σ H Q → t σ H (fun v H' => HF H' → Q v H')) : PE X e (TEo K W m) :=
  ⟨fun pins s σ H Q I q => thn (h.run pins s σ H _ I (hi σ H Q q)) fun _ _ ⟨v, H', I', r, q'⟩ => ⟨v, H', I', r, q' (hf_of I')⟩⟩
theorem pt_wrap {t : TT} {m : MT} (h : PT X e t) (hi : ∀ σ H Q, TTo K W m σ H Q → t σ H (fun v H' => HF H' → Q v H')) : PT X e (TTo K W m) :=
  ⟨fun pins s σ H Q I q => thn (h.run pins s σ H _ I (hi σ H Q q)) fun _ _ ⟨H', I', q'⟩ => ⟨H', I', q' (hf_of I')⟩⟩
theorem pw_wrap {t : TT} {m : MT} (h : PW X e t) (hi : ∀ σ H Q, TTo K W m σ H Q → t σ H (fun v H' => HF H' → Q v H')) : PW X e (TTo K W m) :=
  ⟨fun wh pins s σ H Q I q => thn (h.run wh pins s σ H _ I (hi σ H Q q)) fun _ _ ⟨H', I', q'⟩ => ⟨H', I', q' (hf_of I')⟩⟩
theorem pa_wrap {t : TA} {m : MA} (h : PA X es t) (hi : ∀ σ H Q, TAo K W m σ H Q → t σ H (fun v H' => HF H' → Q v H')) : PA X es (TAo K W m) :=
  ⟨fun pos pins s σ H Q I q => thn (h.run pos pins s σ H _ I (hi σ H Q q)) fun _ _ ⟨v, H', I', r, q'⟩ => ⟨v, H', I', r, q' (hf_of I')⟩⟩
end
end Fw

namespace Fw
open PySem PySem.Spec PyProof.Rows L2

/-! ### steps of the ghost state -/
section
variable {K : PySem.W.Frag} {ι ι' : Gh} {st st' : Sto} {H H' : Hp}
theorem PO1.ext {Q : VK} {d : D} {s2 : Sto} (h : PO1 K ι st H Q d s2) (e : Ext ι st H ι' st' H') : PO1 K ι' st' H' Q d s2 :=
  fun ι2 H2 x R E r => h ι2 H2 x R (e.trans E) r
theorem PB1.ext {Q : Bool → Hp → Prop} {b : Bool} {s2 : Sto} (h : PB1 K ι st H Q b s2) (e : Ext ι st H ι' st' H') : PB1 K ι' st' H' Q b s2 :=
  fun ι2 H2 R E => h ι2 H2 R (e.trans E)
theorem PA1.ext {Q : List V → Hp → Prop} {d : List D} {s2 : Sto} (h : PA1 K ι st H Q d s2) (e : Ext ι st H ι' st' H') : PA1 K ι' st' H' Q d s2 :=
  fun ι2 H2 x R E r => h ι2 H2 x R (e.trans E) r
theorem PX1.ext {W : XW} {x : Exn} {s2 : Sto} (h : PX1 K W ι st H x s2) (e : Ext ι st H ι' st' H') : PX1 K W ι' st' H' x s2 :=
  fun ι2 H2 R E => h ι2 H2 R (e.trans E)
theorem SRel.live (R : SRel K ι st H) {n : Nat} {o : O} {a : Addr} (h : st[n]? = some o) (hi : ι.ad[n]? = some a) (hl : o ≠ O.dead) : ∃ u, H a = some u ∧ ∀ xs, u ≠ .tup xs := by
  have q := R.obj n o a h hi
  cases o with
  | dead => exact absurd rfl hl
  | lst ds => obtain ⟨xs, e, _⟩ := q; exact ⟨_, e, fun _ z => nomatch z⟩
  | dct t kvs =>
    cases t with
    | false => obtain ⟨xs, e, _⟩ := q; exact ⟨_, e, fun _ z => nomatch z⟩
    | true => obtain ⟨xs, e, _⟩ := q; exact ⟨_, e, fun _ z => nomatch z⟩
  | lck t kvs =>
    cases t with
    | false => obtain ⟨xs, o, e, _⟩ := q; exact ⟨_, e, fun _ z => nomatch z⟩
    | true => obtain ⟨xs, o, e, _⟩ := q; exact ⟨_, e, fun _ z => nomatch z⟩
theorem SRel.hid_new (R : SRel K ι st H) {p : Addr} (hp : H p = none) : p ∉ ι.hid := fun z => by
  obtain ⟨⟨_, e, _⟩, _⟩ := R.hid p z
  rw [hp] at e
  cases e
theorem SRel.hid_frz (R : SRel K ι st H) {p : Addr} {o : Obj} {u : HO} (hp : H p = some (.frz o u)) : p ∉ ι.hid := fun z => by
  obtain ⟨⟨_, e, d⟩, _⟩ := R.hid p z
  rw [hp] at e
  cases e
  exact d
theorem SRel.frz_new (R : SRel K ι st H) {p : Addr} (hp : H p = none) : Frz ι st p := ⟨R.hid_new hp, fun n o h hi => by
  by_cases hd : o = O.dead
  · exact hd
  · obtain ⟨u, e, _⟩ := R.live h hi hd
    rw [hp] at e; cases e⟩
theorem RK.ext (e : Ext ι st H ι' st' H') : ∀ {kvs : List (PyData × D)} {xs : List (Key × V)}, RK K ι st H kvs xs → RK K ι' st' H' kvs xs
  | _, _, .nil => .nil
  | _, _, .cons h r => .cons ⟨h.1, h.2.ext e⟩ (RK.ext e r)
theorem RT.ext (e : Ext ι st H ι' st' H') : ∀ {kvs : List (PyData × D)} {xs : List (List Key × V)}, RT K ι st H kvs xs → RT K ι' st' H' kvs xs
  | _, _, .nil => .nil
  | _, _, .cons h r => .cons ⟨h.1, h.2.ext e⟩ (RT.ext e r)
/-- an object of the store where its own place did not change -/
theorem RO.ext (e : Ext ι st H ι' st' H') {a : Addr} (h : ∀ u, H a = some u → H' a = some u) : ∀ {o : O}, RO K ι st H a o → RO K ι' st' H' a o
  | .dead, _ => trivial
  | .lst _, ⟨xs, q, r⟩ => ⟨xs, h _ q, r.ext e⟩
  | .dct false _, ⟨xs, q, r⟩ => ⟨xs, h _ q, RK.ext e r⟩
  | .dct true _, ⟨xs, q, r⟩ => ⟨xs, h _ q, RT.ext e r⟩
  | .lck false _, ⟨xs, o, q, r⟩ => ⟨xs, o, h _ q, RK.ext e r⟩
  | .lck true _, ⟨xs, o, q, r⟩ => ⟨xs, o, h _ q, RT.ext e r⟩
/-- a new thing that nobody will change -/
theorem Ext.fresh (R : SRel K ι st H) {p : Addr} {u : HO} (hp : H p = none) : Ext ι st H ι st (upd H p u) :=
  ⟨fun q o e f => ⟨f, by rw [upd_ne (ne_of_none e hp)]; exact e⟩, fun _ _ e => e, rfl, fun q hq => upd_ne fun z => R.hid_new hp (z ▸ hq), fun h hi => ⟨h, upd_ne (let ⟨_, e, _⟩ := R.live h hi (fun z => nomatch z); ne_of_none e hp)⟩⟩
theorem SRel.fresh (R : SRel K ι st H) {p : Addr} {u : HO} (hp : H p = none) (hf : HF (upd H p u)) : SRel K ι st (upd H p u) :=
  ⟨R.len, fun n o a h hi => (R.obj n o a h hi).ext (Ext.fresh R hp) fun v e => by rw [upd_ne (ne_of_none e hp)]; exact e, R.inj, R.low, fun a h => ⟨let ⟨xs, e, d⟩ := (R.hid a h).1; ⟨xs, by rw [upd_ne (ne_of_none e hp)]; exact e, d⟩, (R.hid a h).2⟩, hf⟩
/-- a new thing of the store -/
theorem frz_push {p q : Addr} {o : O} (R : ι.ad.length = st.length) (f : Frz ι st q) (hq : q ≠ p) : Frz (ι.psh p) (st ++ [o]) q := ⟨f.1, fun n u h hi => by
  replace hi : (ι.ad ++ [p])[n]? = some q := hi
  by_cases hn : n < st.length
  · rw [List.getElem?_append_left hn] at h
    rw [List.getElem?_append_left (by rw [R]; exact hn)] at hi
    exact f.2 n u h hi
  · by_cases hn2 : n = st.length
    · subst hn2
      rw [← R, List.getElem?_append_right (Nat.le_refl _), Nat.sub_self] at hi
      exact absurd (Option.some.inj hi).symm hq
    · rw [List.getElem?_eq_none (by rw [List.length_append, List.length_singleton]; omega)] at h
      cases h⟩
theorem Ext.push {p : Addr} {u : HO} {o : O} (R : SRel K ι st H) (hp : H p = none) : Ext ι st H (ι.psh p) (st ++ [o]) (upd H p u) := by
  refine ⟨fun q v e f => ?_, fun n a e => ?_, rfl, fun q hq => upd_ne fun z => ?_, fun h hi => ⟨by rw [List.getElem?_append_left (List.getElem?_eq_some_iff.mp h).1]; exact h, upd_ne (let ⟨_, e, _⟩ := R.live h hi (fun z => nomatch z); ne_of_none e hp)⟩⟩
  · have nq := ne_of_none e hp
    exact ⟨frz_push R.len f nq, by rw [upd_ne nq]; exact e⟩
  · show (ι.ad ++ [p])[n]? = some a
    rw [List.getElem?_append_left (List.getElem?_eq_some_iff.mp e).1]
    exact e
  · obtain ⟨⟨_, e, _⟩, _⟩ := R.hid q hq
    rw [z, hp] at e
    cases e
theorem SRel.push (R : SRel K ι st H) {p : Addr} {u : HO} {o : O} (hp : H p = none) (hf : HF (upd H p u)) (ho : RO K (ι.psh p) (st ++ [o]) (upd H p u) p o) (hw : o.low st.length = true) : SRel K (ι.psh p) (st ++ [o]) (upd H p u) := by
  have old : ∀ {n : Nat} {v : O} {a : Addr}, (st ++ [o])[n]? = some v → (ι.ad ++ [p])[n]? = some a → (n < st.length ∧ st[n]? = some v ∧ ι.ad[n]? = some a) ∨ (n = st.length ∧ v = o ∧ a = p) := by
    intro n v a h hi
    by_cases hn : n < st.length
    · rw [List.getElem?_append_left hn] at h
      rw [List.getElem?_append_left (by rw [R.len]; exact hn)] at hi
      exact .inl ⟨hn, h, hi⟩
    · by_cases hn2 : n = st.length
      · subst hn2
        rw [List.getElem?_append_right (Nat.le_refl _), Nat.sub_self] at h
        rw [← R.len, List.getElem?_append_right (Nat.le_refl _), Nat.sub_self] at hi
        exact .inr ⟨rfl, (Option.some.inj h).symm, (Option.some.inj hi).symm⟩
      · rw [List.getElem?_eq_none (by rw [List.length_append, List.length_singleton]; omega)] at h
        cases h
  refine ⟨by show (ι.ad ++ [p]).length = _; rw [List.length_append, List.length_append, R.len]; rfl, fun n v a h hi => ?_, fun m n a v w hm hn h1 h2 l1 l2 => ?_, fun n v h => ?_, fun a ha => ⟨?_, fun n v h hi => ?_⟩, hf⟩
  · rcases old h hi with ⟨_, h1, h2⟩ | ⟨_, rfl, rfl⟩
    · exact (R.obj n v a h1 h2).ext (Ext.push R hp) fun z e => by rw [upd_ne (ne_of_none e hp)]; exact e
    · exact ho
  · rcases old h1 hm with ⟨_, a1, a2⟩ | ⟨e1, _, rfl⟩
    · rcases old h2 hn with ⟨_, b1, b2⟩ | ⟨_, _, rfl⟩
      · exact R.inj m n a v w a2 b2 a1 b1 l1 l2
      · exact absurd ((R.frz_new hp).2 m v a1 a2) l1
    · rcases old h2 hn with ⟨_, b1, b2⟩ | ⟨e2, _, _⟩
      · exact absurd ((R.frz_new hp).2 n w b1 b2) l2
      · rw [e1, e2]
  · by_cases hn : n < st.length
    · rw [List.getElem?_append_left hn] at h
      exact R.low n v h
    · by_cases hn2 : n = st.length
      · subst hn2
        rw [List.getElem?_append_right (Nat.le_refl _), Nat.sub_self] at h
        rw [← Option.some.inj h]
        exact hw
      · rw [List.getElem?_eq_none (by rw [List.length_append, List.length_singleton]; omega)] at h
        cases h
  · obtain ⟨xs, e, d⟩ := (R.hid a ha).1
    exact ⟨xs, by rw [upd_ne (ne_of_none e hp)]; exact e, d⟩
  · rcases old h hi with ⟨_, h1, h2⟩ | ⟨_, rfl, rfl⟩
    · exact (R.hid a ha).2 n v h1 h2
    · obtain ⟨xs, e, _⟩ := (R.hid a ha).1
      rw [hp] at e
      cases e
/-- a living object of the store is written -/
theorem frz_set {n : Nat} {o o' : O} {q : Addr} (h : st[n]? = some o) (hl : o ≠ O.dead) (f : Frz ι st q) : Frz ι (st.set n o') q := ⟨f.1, fun m u hm hi => by
  by_cases e : n = m
  · subst e
    exact absurd (f.2 n o h hi) hl
  · rw [List.getElem?_set_ne e] at hm
    exact f.2 m u hm hi⟩
theorem Ext.write (R : SRel K ι st H) {n : Nat} {o o' : O} {a : Addr} {u : HO} (h : st[n]? = some o) (hi : ι.ad[n]? = some a) (hl : o ≠ O.dead) (hk : ∀ t kvs, o ≠ .lck t kvs) : Ext ι st H ι (st.set n o') (upd H a u) := by
  refine ⟨fun q v e f => ⟨frz_set h hl f, ?_⟩, fun _ _ e => e, rfl, fun q hq => upd_ne fun z => ?_, fun {m t kvs b} hm hb => ?_⟩
  · have nq : q ≠ a := fun z => by subst z; exact hl (f.2 n o h hi)
    rw [upd_ne nq]
    exact e
  · subst z
    exact hl ((R.hid q hq).2 n o h hi)
  · have nm : n ≠ m := fun z => by subst z; rw [h] at hm; exact hk t kvs (Option.some.inj hm)
    exact ⟨by rw [List.getElem?_set_ne nm]; exact hm, upd_ne fun z => by subst z; exact nm (R.inj n m b o _ hi hb h hm hl (fun z => nomatch z))⟩
theorem SRel.write (R : SRel K ι st H) {n : Nat} {o o' : O} {a : Addr} {u : HO} (h : st[n]? = some o) (hi : ι.ad[n]? = some a) (hl : o ≠ O.dead) (hk : ∀ t kvs, o ≠ .lck t kvs) (hf : HF (upd H a u)) (ho : RO K ι (st.set n o') (upd H a u) a o') (hw : o'.low n = true) : SRel K ι (st.set n o') (upd H a u) := by
  refine ⟨by rw [List.length_set]; exact R.len, fun m v b hm hb => ?_, fun i j b v w hib hjb h1 h2 l1 l2 => ?_, fun m v hm => ?_, fun b hb => ⟨?_, fun m v hm hi' => ?_⟩, hf⟩
  · by_cases e : n = m
    · subst e
      rw [List.getElem?_set_self (List.getElem?_eq_some_iff.mp h).1] at hm
      cases hm
      rw [hi] at hb; cases hb
      exact ho
    · rw [List.getElem?_set_ne e] at hm
      by_cases ed : v = O.dead
      · subst ed; trivial
      · refine (R.obj m v b hm hb).ext (Ext.write R h hi hl hk) fun z q => ?_
        have nb : b ≠ a := fun z => by subst z; exact e (R.inj n m b o v hi hb h hm hl ed)
        rw [upd_ne nb]
        exact q
  · have live : ∀ {i : Nat} {v : O}, (st.set n o')[i]? = some v → v ≠ O.dead → ∃ v', st[i]? = some v' ∧ v' ≠ O.dead := fun {i v} q l => by
      by_cases e : n = i
      · subst e; exact ⟨o, h, hl⟩
      · rw [List.getElem?_set_ne e] at q
        exact ⟨v, q, l⟩
    obtain ⟨v', a1, a2⟩ := live h1 l1
    obtain ⟨w', b1, b2⟩ := live h2 l2
    exact R.inj i j b v' w' hib hjb a1 b1 a2 b2
  · by_cases e : n = m
    · subst e
      rw [List.getElem?_set_self (List.getElem?_eq_some_iff.mp h).1] at hm
      rw [← Option.some.inj hm]
      exact hw
    · rw [List.getElem?_set_ne e] at hm
      exact R.low m v hm
  · obtain ⟨xs, e, d⟩ := (R.hid b hb).1
    have nb : b ≠ a := fun z => by subst z; exact hl ((R.hid b hb).2 n o h hi)
    exact ⟨xs, by rw [upd_ne nb]; exact e, d⟩
  · by_cases e : n = m
    · subst e
      exact absurd ((R.hid b hb).2 n o h hi') hl
    · rw [List.getElem?_set_ne e] at hm
      exact (R.hid b hb).2 m v hm hi'
/-- a living object of the store is left as it is for ever -/
theorem Ext.kill {n : Nat} {o : O} (h : st[n]? = some o) (hk : ∀ t kvs, o ≠ .lck t kvs) : Ext ι st H ι (st.set n O.dead) H := by
  refine ⟨fun q v e f => ⟨⟨f.1, fun m u hm hi => ?_⟩, e⟩, fun _ _ e => e, rfl, fun _ _ => rfl, fun {m t kvs b} hm hb => ⟨by rw [List.getElem?_set_ne fun z => by subst z; rw [h] at hm; exact hk t kvs (Option.some.inj hm)]; exact hm, rfl⟩⟩
  by_cases z : n = m
  · subst z
    rw [List.getElem?_set_self (List.getElem?_eq_some_iff.mp h).1] at hm
    exact (Option.some.inj hm).symm
  · rw [List.getElem?_set_ne z] at hm
    exact f.2 m u hm hi
theorem SRel.kill (R : SRel K ι st H) {n : Nat} {o : O} (h : st[n]? = some o) (hk : ∀ t kvs, o ≠ .lck t kvs) : SRel K ι (st.set n O.dead) H := by
  refine ⟨by rw [List.length_set]; exact R.len, fun m v b hm hb => ?_, fun i j b v w hib hjb h1 h2 l1 l2 => ?_, fun m v hm => ?_, fun b hb => ⟨(R.hid b hb).1, fun m v hm hi' => ?_⟩, R.hf⟩
  · by_cases e : n = m
    · subst e
      rw [List.getElem?_set_self (List.getElem?_eq_some_iff.mp h).1] at hm
      cases hm
      trivial
    · rw [List.getElem?_set_ne e] at hm
      exact (R.obj m v b hm hb).ext (Ext.kill h hk) fun z q => q
  · have live : ∀ {i : Nat} {v : O}, (st.set n O.dead)[i]? = some v → v ≠ O.dead → st[i]? = some v := fun {i v} q l => by
      by_cases e : n = i
      · subst e
        rw [List.getElem?_set_self (List.getElem?_eq_some_iff.mp h).1] at q
        exact absurd (Option.some.inj q).symm l
      · rw [List.getElem?_set_ne e] at q
        exact q
    exact R.inj i j b v w hib hjb (live h1 l1) (live h2 l2) l1 l2
  · by_cases e : n = m
    · subst e
      rw [List.getElem?_set_self (List.getElem?_eq_some_iff.mp h).1] at hm
      rw [← Option.some.inj hm]
      rfl
    · rw [List.getElem?_set_ne e] at hm
      exact R.low m v hm
  · by_cases e : n = m
    · subst e
      rw [List.getElem?_set_self (List.getElem?_eq_some_iff.mp h).1] at hm
      exact (Option.some.inj hm).symm
    · rw [List.getElem?_set_ne e] at hm
      exact (R.hid b hb).2 m v hm hi'
theorem frz_kill (R : SRel K ι st H) {n : Nat} {o : O} {a : Addr} (h : st[n]? = some o) (hi : ι.ad[n]? = some a) (hl : o ≠ O.dead) : Frz ι (st.set n O.dead) a := ⟨fun z => hl ((R.hid a z).2 n o h hi), fun m v hm hb => by
  by_cases e : n = m
  · subst e
    rw [List.getElem?_set_self (List.getElem?_eq_some_iff.mp h).1] at hm
    exact (Option.some.inj hm).symm
  · rw [List.getElem?_set_ne e] at hm
    by_cases ed : v = O.dead
    · exact ed
    · exact absurd (R.inj n m a o v hi hb h hm hl ed) e⟩
/-- the store's end dropped -/
theorem frz_take {q : Addr} {k : Nat} (f : Frz ι st q) : Frz (ι.tk k) (st.take k) q := ⟨f.1, fun n o h hi => by
  replace hi : (ι.ad.take k)[n]? = some q := hi
  rw [List.getElem?_take] at h hi
  split at h
  · rename_i hn
    rw [if_pos hn] at hi
    exact f.2 n o h hi
  · cases h⟩
theorem frz_takeK {k : Nat} : ∀ q u, H q = some u → Frz ι st q → Frz (ι.tk k) (st.take k) q ∧ Kp u (H q) := fun _ _ e f => ⟨frz_take f, .inl e⟩
theorem D.low_mono {k n : Nat} (h : n ≤ k) : ∀ {d : D}, d.low n = true → d.low k = true
  | .v _, _ => rfl
  | .ref m, q => decide_eq_true (Nat.lt_of_lt_of_le (of_decide_eq_true q) h)
  | .scr _, _ => rfl
theorem RD.take {k : Nat} {x : V} : ∀ {d : D}, d.low k = true → RD K ι st H x d → RD K (ι.tk k) (st.take k) H x d
  | .v d, _, h => Rp.mv frz_takeK h
  | .ref n, hl, ⟨a, h1, h2⟩ => ⟨a, by show (ι.ad.take k)[n]? = _; rw [List.getElem?_take, if_pos (of_decide_eq_true hl)]; exact h1, h2⟩
  | .scr ns, _, ⟨a, h1, h2⟩ => ⟨a, h1, h2.imp id fun ⟨o, q, f⟩ => ⟨o, q, frz_take f⟩⟩
theorem RK.take {k : Nat} : ∀ {kvs : List (PyData × D)} {xs : List (Key × V)}, kvs.all (fun p => p.2.low k) = true → RK K ι st H kvs xs → RK K (ι.tk k) (st.take k) H kvs xs
  | _, _, _, .nil => .nil
  | _, _, hl, .cons h r => by
    rw [List.all_cons, Bool.and_eq_true] at hl
    exact .cons ⟨h.1, h.2.take hl.1⟩ (RK.take hl.2 r)
theorem RT.take {k : Nat} : ∀ {kvs : List (PyData × D)} {xs : List (List Key × V)}, kvs.all (fun p => p.2.low k) = true → RT K ι st H kvs xs → RT K (ι.tk k) (st.take k) H kvs xs
  | _, _, _, .nil => .nil
  | _, _, hl, .cons h r => by
    rw [List.all_cons, Bool.and_eq_true] at hl
    exact .cons ⟨h.1, h.2.take hl.1⟩ (RT.take hl.2 r)
theorem SRel.take (R : SRel K ι st H) (k : Nat) : SRel K (ι.tk k) (st.take k) H := by
  refine ⟨by show (ι.ad.take k).length = _; rw [List.length_take, List.length_take, R.len], fun n o a h hi => ?_, fun i j b v w hib hjb h1 h2 l1 l2 => ?_, fun n v h => ?_, fun b hb => ⟨(R.hid b hb).1, fun n v h hi => ?_⟩, R.hf⟩
  · replace hi : (ι.ad.take k)[n]? = some a := hi
    rw [List.getElem?_take] at h hi
    split at h
    · rename_i hn
      rw [if_pos hn] at hi
      have q := R.obj n o a h hi
      have lw := R.low n o h
      cases o with
      | dead => trivial
      | lst ds =>
        obtain ⟨xs, e, r⟩ := q
        exact ⟨xs, e, RpA.mv frz_takeK r⟩
      | dct t kvs =>
        have lw' : kvs.all (fun p => p.2.low k) = true := List.all_eq_true.mpr fun p hp => D.low_mono (Nat.le_of_lt hn) (List.all_eq_true.mp lw p hp)
        cases t with
        | false => obtain ⟨xs, e, r⟩ := q; exact ⟨xs, e, r.take lw'⟩
        | true => obtain ⟨xs, e, r⟩ := q; exact ⟨xs, e, r.take lw'⟩
      | lck t kvs =>
        have lw' : kvs.all (fun p => p.2.low k) = true := List.all_eq_true.mpr fun p hp => D.low_mono (Nat.le_of_lt hn) (List.all_eq_true.mp lw p hp)
        cases t with
        | false => obtain ⟨xs, o, e, r⟩ := q; exact ⟨xs, o, e, r.take lw'⟩
        | true => obtain ⟨xs, o, e, r⟩ := q; exact ⟨xs, o, e, r.take lw'⟩
    · cases h
  · replace hib : (ι.ad.take k)[i]? = some b := hib
    replace hjb : (ι.ad.take k)[j]? = some b := hjb
    rw [List.getElem?_take] at hib hjb h1 h2
    split at h1
    · split at h2
      · rename_i a1 a2
        rw [if_pos a1] at hib
        rw [if_pos a2] at hjb
        exact R.inj i j b v w hib hjb h1 h2 l1 l2
      · cases h2
    · cases h1
  · rw [List.getElem?_take] at h
    split at h
    · exact R.low n v h
    · cases h
  · replace hi : (ι.ad.take k)[n]? = some b := hi
    rw [List.getElem?_take] at h hi
    split at h
    · rename_i hn
      rw [if_pos hn] at hi
      exact (R.hid b hb).2 n v h hi
    · cases h
end
end Fw

namespace Fw
open PySem PySem.Spec PyProof.Rows L2

/-! ### what new things are worth -/
section
variable {K : PySem.W.Frag} {W : XW} {ι : Gh} {st : Sto} {H : Hp} {Q : VK}
theorem PO1.same (h : PO1 K ι st H Q d st) (R : SRel K ι st H) {x : V} (r : RD K ι st H x d) : Q x H := h ι H x R Ext.refl r
theorem PO1.newTup {xs : List V} {ds : List PyData} (h : PO1 K ι st H Q (.v (.tuple ds)) st) (R : SRel K ι st H) (r : RpA (Frz ι st) H xs ds) {p : Addr} (hp : H p = none) {o : Obj} (ho : o.dict = none) (hf : HF (upd H p (.frz o (.tup xs)))) : Q (.ref p) (upd H p (.frz o (.tup xs))) :=
  h ι _ _ (R.fresh hp hf) (Ext.fresh R hp) (.tup upd_same ho (R.frz_new hp) (r.ext (Ext.fresh R hp)))
/-- a tuple whose object is known, without a dict -/
def KTup (H : Hp) (a : Addr) (xs : List V) : Prop := ∃ o, H a = some (.frz o (.tup xs)) ∧ o.dict = none
theorem KTup.sq {K : PySem.W.Frag} {H : Hp} {a : Addr} {xs : List V} (h : KTup H a xs) : SqT K H a xs := let ⟨o, h, _⟩ := h; .inl (.inr ⟨o, h⟩)
/-- a new tuple: its object is known -/
def NewT (H : Hp) (xs : List V) (Q : VK) : Prop := ∀ p o, H p = none → o.dict = none → Q (.ref p) (upd H p (.frz o (.tup xs)))
theorem NewT.laid {X : Cx} {pins : List (Addr × Obj)} {σ : L2.St} {H : Hp} {s : Shared} {Q : VK} {xs : List V} {its : List Value} {t' : Nat} (I : Inv X pins σ H s) (hv : Vals xs its) (hz : xs.length ≤ sizeLine) (q : NewT H xs Q) :
    EP X pins σ Q (.ref s.heap.objs.size) { s with heap := s.heap.push { cls := .type "tuple", data := .seq its.toArray }, toks := t' } := by
  have hf : H s.heap.objs.size = none := I.hok.fresh (Nat.le_refl _)
  refine ⟨.ref s.heap.objs.size, upd H s.heap.objs.size (.frz { cls := .type "tuple", data := .seq its.toArray } (.tup xs)), I.laid (t' := t') (fun b u e => Heap.get?_push_of_some _ e) (Nat.le_refl _) ?_, rfl, q _ _ hf rfl⟩
  exact ⟨Heap.get?_push_size _ rfl, hz, its, hv, IsTup.new _ _⟩
theorem pe_tupN {X : Cx} {es : List Expr} {t : TA} {x1} {pos : Pos} (h : PA X es t) : PE X (.Tuple es x1 pos) (fun σ H Q => t σ H fun xs H1 => xs.length ≤ sizeLine ∧ NewT H1 xs Q) :=
  ⟨fun pins s σ H Q I hq => wpAny_Tuple_spliced (thn (h.run pos pins s σ H _ I hq) fun us s1 ⟨xs, H1, I1, r, z, q⟩ => ⟨by rw [← r.length]; exact z, q.laid (t' := s1.toks) I1 r z⟩)⟩
theorem PO1.newLst {xs : List V} {ds : List PyData} (h : PO1 K ι st H Q (.v (.list ds)) st) (R : SRel K ι st H) (r : RpA (Frz ι st) H xs ds) {p : Addr} (hp : H p = none) (hf : HF (upd H p (.lst xs))) : Q (.ref p) (upd H p (.lst xs)) :=
  h ι _ _ (R.fresh hp hf) (Ext.fresh R hp) (.lst upd_same (R.frz_new hp) (r.ext (Ext.fresh R hp)))
end

/-! ### views -/
def viewL (st : Sto) : D → Option (List PyData)
  | .v (.list xs) => some xs
  | .ref n => match st[n]? with
    | some (.lst xs) => some xs
    | _ => none
  | _ => none
/-- list or tuple -/
def viewS (st : Sto) : D → Option (List PyData)
  | .v (.tuple xs) => some xs
  | d => viewL st d
def viewP (st : Sto) : D → Option PyData
  | .v d => some d
  | d => (viewL st d).map .list
theorem viewL_at {K : PySem.W.Frag} {ι : Gh} {st : Sto} {H : Hp} (R : SRel K ι st H) {x : V} {d : D} {ds : List PyData} (e : viewL st d = some ds) (r : RD K ι st H x d) : ∃ a xs, x = .ref a ∧ H a = some (.lst xs) ∧ RpA (Frz ι st) H xs ds := by
  cases d with
  | v z =>
    cases z with
    | list zs =>
      have e' : zs = ds := Option.some.inj e
      subst e'
      have r' : Rp (Frz ι st) H x (.list zs) := r
      cases r' with
      | lst h _ t => exact ⟨_, _, rfl, h, t⟩
    | _ => cases e
  | scr ns => cases e
  | ref n =>
    obtain ⟨a, h1, h2⟩ := r
    cases q : st[n]? with
    | none =>
      simp only [viewL, q] at e
      cases e
    | some o =>
      simp only [viewL, q] at e
      cases o with
      | lst zs =>
        have e' : zs = ds := Option.some.inj e
        subst e'
        obtain ⟨xs, e1, r⟩ := R.obj n _ a q h1
        exact ⟨a, xs, h2, e1, r⟩
      | dead => cases e
      | dct _ _ => cases e
      | lck _ _ => cases e
theorem viewS_at {K : PySem.W.Frag} {ι : Gh} {st : Sto} {H : Hp} (R : SRel K ι st H) {x : V} {d : D} {ds : List PyData} (e : viewS st d = some ds) (r : RD K ι st H x d) :
    ∃ a xs, x = .ref a ∧ (H a = some (.lst xs) ∨ KTup H a xs) ∧ RpA (Frz ι st) H xs ds := by
  have other : viewL st d = some ds → ∃ a xs, x = .ref a ∧ (H a = some (.lst xs) ∨ KTup H a xs) ∧ RpA (Frz ι st) H xs ds := fun q =>
    let ⟨a, xs, h1, h2, h3⟩ := viewL_at R q r
    ⟨a, xs, h1, .inl h2, h3⟩
  cases d with
  | v z =>
    cases z with
    | tuple zs =>
      have e' : zs = ds := Option.some.inj e
      subst e'
      have r' : Rp (Frz ι st) H x (.tuple zs) := r
      cases r' with
      | tup h z _ t => exact ⟨_, _, rfl, .inr ⟨_, h, z⟩, t⟩
    | list _ => exact other e
    | _ => cases e
  | ref n => exact other e
  | scr ns => exact other e
mutual
theorem Rp.dp {K : PySem.W.Frag} {F : Addr → Prop} {H : Hp} : ∀ {x : V} {d : PyData}, Rp F H x d → d.hasDict = false → Dp K H x d
  | _, _, .non, _ => .non
  | _, _, .bl b, _ => .bl b
  | _, _, .int i, _ => .int i
  | _, _, .str z, _ => .str z
  | _, _, .lst h _ r, q => .lst (.of h) (RpA.dp r (by simpa [PyData.hasDict] using q))
  | _, _, .tup h _ _ r, q => .tup (.inl (.inr ⟨_, h⟩)) (RpA.dp r (by simpa [PyData.hasDict] using q))
  | _, _, .dcK _ _ _, q => by simp [PyData.hasDict] at q
  | _, _, .dcT _ _ _ _, q => by simp [PyData.hasDict] at q
theorem RpA.dp {K : PySem.W.Frag} {F : Addr → Prop} {H : Hp} : ∀ {xs : List V} {ds : List PyData}, RpA F H xs ds → PyData.hasDictAll ds = false → DpAll K H xs ds
  | _, _, .nil, _ => .nil
  | _, _, .cons h r, q => by
    have q' := q
    simp only [PyData.hasDictAll, Bool.or_eq_false_iff] at q'
    exact .cons (Rp.dp h q'.1) (RpA.dp r q'.2)
end
theorem viewP_at {K : PySem.W.Frag} {ι : Gh} {st : Sto} {H : Hp} (R : SRel K ι st H) {x : V} {d : D} {z : PyData} (e : viewP st d = some z) (r : RD K ι st H x d) (hn : z.hasDict = false) : Dp K H x z := by
  have other : (viewL st d).map PyData.list = some z → Dp K H x z := fun q => by
    obtain ⟨ds, q1, rfl⟩ := Option.map_eq_some_iff.mp q
    obtain ⟨a, xs, rfl, h2, h3⟩ := viewL_at R q1 r
    exact .lst (.of h2) (h3.dp (by simpa [PyData.hasDict] using hn))
  cases d with
  | v d =>
    cases e
    exact Rp.dp r hn
  | ref n => exact other e
  | scr ns => exact other e

/-! ### expressions in general -/
def mVar (i : Nat) : ME := fun env st => match env[i]? with
  | some (some d) => .ok d st
  | _ => .stuck
def mC (d : PyData) : ME := fun _ st => .ok (.v d) st
abbrev F1 := D → Sto → Out D
abbrev F2 := D → D → Sto → Out D
abbrev FA := List D → Sto → Out D
def mUn (f : F1) (ma : ME) : ME := fun env st => (ma env st).bind fun a s1 => f a s1
def mBin (f : F2) (ma mb : ME) : ME := fun env st => (ma env st).bind fun a s1 => (mb env s1).bind fun b s2 => f a b s2
def mArg (f : FA) (ma : MA) : ME := fun env st => (ma env st).bind fun ds s1 => f ds s1
def mNil : MA := fun _ st => .ok [] st
def mCons (ma : ME) (mr : MA) : MA := fun env st => (ma env st).bind fun a s1 => (mr env s1).bind fun ds s2 => .ok (a :: ds) s2
/-- an operation's rule answers what its plain function says -/
def Op1 (K : PySem.W.Frag) (W : XW) (r : V → Hp → VK → Prop) (f : F1) : Prop := ∀ (ι : Gh) (st : Sto) (H : Hp) (x : V) (a : D) (Q : VK), SRel K ι st H → RD K ι st H x a →
  (f a st).post (PO1 K ι st H Q) (PX1 K W ι st H) → r x H (fun v H' => HF H' → Q v H')
def Op2 (K : PySem.W.Frag) (W : XW) (r : R2) (f : F2) : Prop := ∀ (ι : Gh) (st : Sto) (H : Hp) (x y : V) (a b : D) (Q : VK), SRel K ι st H → RD K ι st H x a → RD K ι st H y b →
  (f a b st).post (PO1 K ι st H Q) (PX1 K W ι st H) → r x y H (fun v H' => HF H' → Q v H')
def OpA (K : PySem.W.Frag) (W : XW) (r : List V → Hp → VK → Prop) (f : FA) : Prop := ∀ (ι : Gh) (st : Sto) (H : Hp) (xs : List V) (ds : List D) (Q : VK), SRel K ι st H → RDs K ι st H xs ds →
  (f ds st).post (PO1 K ι st H Q) (PX1 K W ι st H) → r xs H (fun v H' => HF H' → Q v H')
section
variable {K : PySem.W.Frag} {W : XW} {σ : L2.St} {H : Hp} {Q : VK} {ma mb : ME}
theorem te_un {r : V → Hp → VK → Prop} {f : F1} (hf : Op1 K W r f) (h : TEo K W (mUn f ma) σ H Q) : TEo K W ma σ H fun x H1 => r x H1 (fun v H' => HF H' → Q v H') := by
  obtain ⟨ι, env, st, R, EV, p⟩ := h
  refine ⟨ι, env, st, R, EV, Out.post_mono (Out.post_bind p) (fun a s1 q ι1 H1 x R1 E1 ra => ?_) fun _ _ q => q⟩
  exact hf ι1 s1 H1 x a Q R1 ra (Out.post_mono q (fun _ _ z => z.ext E1) fun _ _ z => z.ext E1)
theorem te_bin {r : R2} {f : F2} (hf : Op2 K W r f) (h : TEo K W (mBin f ma mb) σ H Q) : tOp r (TEo K W ma) (TEo K W mb) σ H (fun v H' => HF H' → Q v H') := by
  obtain ⟨ι, env, st, R, EV, p⟩ := h
  refine ⟨ι, env, st, R, EV, Out.post_mono (Out.post_bind p) (fun a s1 q ι1 H1 x R1 E1 ra => ?_) fun _ _ q => q⟩
  refine ⟨ι1, env, s1, R1, EV.ext E1, Out.post_mono (Out.post_bind q) (fun b s2 q2 ι2 H2 y R2 E2 rb => ?_) fun _ _ z => z.ext E1⟩
  exact hf ι2 s2 H2 x y a b Q R2 (ra.ext E2) rb (Out.post_mono q2 (fun _ _ z => (z.ext E1).ext E2) fun _ _ z => (z.ext E1).ext E2)
theorem te_arg {r : List V → Hp → VK → Prop} {f : FA} {m : MA} (hf : OpA K W r f) (h : TEo K W (mArg f m) σ H Q) : TAo K W m σ H fun xs H1 => r xs H1 (fun v H' => HF H' → Q v H') := by
  obtain ⟨ι, env, st, R, EV, p⟩ := h
  refine ⟨ι, env, st, R, EV, Out.post_mono (Out.post_bind p) (fun a s1 q ι1 H1 x R1 E1 ra => ?_) fun _ _ q => q⟩
  exact hf ι1 s1 H1 x a Q R1 ra (Out.post_mono q (fun _ _ z => z.ext E1) fun _ _ z => z.ext E1)
end
section
variable {X : Cx} {W : XW} {a b e : Expr} {es : List Expr} {ma mb : ME} {pos : Pos}
theorem x_var (i : Nat) {x : Str} (h : PE X (.Name x pos) (tVar i)) : PE X (.Name x pos) (TEo X.K W (mVar i)) := pe_wrap h fun σ H Q q => by
  obtain ⟨ι, env, st, R, EV, p⟩ := q
  unfold mVar at p
  cases e : env[i]? with
  | none => rw [e] at p; exact p.elim
  | some o =>
    rw [e] at p
    cases o with
    | none => exact p.elim
    | some d =>
      obtain ⟨x, h1, h2⟩ := EV.2 i d e
      exact ⟨x, h1, fun _ => p ι H x R Ext.refl h2⟩
theorem x_const {v : V} {d : PyData} (h : PE X e (tC v)) (r : ∀ F H, Rp F H v d) : PE X e (TEo X.K W (mC d)) := pe_wrap h fun σ H Q q => by
  obtain ⟨ι, env, st, R, EV, p⟩ := q
  exact fun _ => p ι H v R Ext.refl (r _ _)
theorem x_int {i : Int} {j} : PE X (.Constant (.int i) j pos) (TEo X.K W (mC (.int i))) := x_const pe_int fun _ _ => .int i
theorem x_bl {i : Bool} {j} : PE X (.Constant (.bool i) j pos) (TEo X.K W (mC (.bool i))) := x_const pe_bl fun _ _ => .bl i
theorem x_non {j} : PE X (.Constant .none j pos) (TEo X.K W (mC .none)) := x_const pe_non fun _ _ => .non
theorem x_str {z : Str} {j} : PE X (.Constant (.str z) j pos) (TEo X.K W (mC (.str z))) := x_const pe_str fun _ _ => .str z
theorem x_op {op : Operator} {r : R2} {f : F2} (ho : OpR X (binaryOp op) r) (hf : Op2 X.K W r f) (ha : PE X a (TEo X.K W ma)) (hb : PE X b (TEo X.K W mb)) : PE X (.BinOp a op b pos) (TEo X.K W (mBin f ma mb)) :=
  pe_wrap (pe_op ho ha hb) fun σ H Q q => te_bin hf q
theorem x_un {op : UnaryOp} {r : V → Hp → VK → Prop} {f : F1} (ho : UnR X (unaryOp op) r) (hf : Op1 X.K W r f) (ha : PE X a (TEo X.K W ma)) : PE X (.UnaryOp op a pos) (TEo X.K W (mUn f ma)) :=
  pe_wrap (pe_un ho ha) fun σ H Q q => te_un hf q
theorem x_cmp {op : CmpOp} {r : R2} {f : F2} (ho : OpR X (compareOp op) r) (hf : Op2 X.K W r f) (ha : PE X a (TEo X.K W ma)) (hb : PE X b (TEo X.K W mb)) (hm : behindInMarks op b = false := by first | exact nomark _ | rfl) : PE X (.Compare a [op] [b] pos) (TEo X.K W (mBin f ma mb)) :=
  pe_wrap (pe_cmpR ho ha hb hm) fun σ H Q q => te_bin hf q
theorem xa_nil : PA X [] (TAo X.K W mNil) := pa_wrap pa_nil fun σ H Q q => by
  obtain ⟨ι, env, st, R, EV, p⟩ := q
  exact fun _ => p ι H [] R Ext.refl .nil
theorem xa_cons {mr : MA} (ha : PE X e (TEo X.K W ma)) (hr : PA X es (TAo X.K W mr)) (hs : starEach (e :: es) X.env = (false, eval e X.env) :: starEach es X.env := by rfl) : PA X (e :: es) (TAo X.K W (mCons ma mr)) :=
  pa_wrap (pa_cons ha hr hs) fun σ H Q q => by
    obtain ⟨ι, env, st, R, EV, p⟩ := q
    refine ⟨ι, env, st, R, EV, Out.post_mono (Out.post_bind p) (fun a s1 q ι1 H1 x R1 E1 ra => ?_) fun _ _ q => q⟩
    refine ⟨ι1, env, s1, R1, EV.ext E1, Out.post_mono (Out.post_bind q) (fun b s2 q2 ι2 H2 y R2 E2 rb => ?_) fun _ _ z => z.ext E1⟩
    exact fun _ => q2 ι2 H2 (x :: y) R2 (E1.trans E2) (.cons (ra.ext E2) rb)
theorem x_callB {id : String} {x : Str} {p : Pos} {r : List V → Hp → VK → Prop} {f : FA} {m : MA} (hc : CallR X (.builtin id) r) (hf : OpA X.K W r f) (hg : Gl X x) (hm : X.mg x = none) (hv : bootBuiltins x = some (.builtin id)) (ha : PA X (e :: es) (TAo X.K W m)) (hn : x ≠ "__name__" := by decide) (hdb : (x == ("__debug__" : Str)) = false := by decide)
    (he : starEach (e :: es) X.env = (false, eval e X.env) :: starEach es X.env := by rfl) (hpl : (backTo pos (starEach es X.env)).any (·.1) = false := by rfl) : PE X (.Call (.Name x p) (e :: es) [] pos) (TEo X.K W (mArg f m)) :=
  pe_wrap (pe_callB hc hg hm hv ha hn hdb he hpl) fun σ H Q q => te_arg hf q
theorem x_callT {T : String} {x : Str} {p : Pos} {r : List V → Hp → VK → Prop} {f : FA} {m : MA} (hc : CallR X (.type T) r) (hf : OpA X.K W r f) (hg : Gl X x) (hm : X.mg x = none) (hv : bootBuiltins x = some (.type T)) (ha : PA X (e :: es) (TAo X.K W m)) (hn : x ≠ "__name__" := by decide) (hdb : (x == ("__debug__" : Str)) = false := by decide)
    (he : starEach (e :: es) X.env = (false, eval e X.env) :: starEach es X.env := by rfl) (hpl : (backTo pos (starEach es X.env)).any (·.1) = false := by rfl) : PE X (.Call (.Name x p) (e :: es) [] pos) (TEo X.K W (mArg f m)) :=
  pe_wrap (pe_callTy hc hg hm hv ha hn hdb he hpl) fun σ H Q q => te_arg hf q
/-- a displayed tuple of values -/
def valsOf : List D → Option (List PyData)
  | [] => some []
  | .v d :: r => (valsOf r).map (d :: ·)
  | _ :: _ => none
def fTup : FA := fun ds st => match valsOf ds with
  | some zs => if zs.length ≤ 1000 then .ok (.v (.tuple zs)) st else .stuck
  | none => .stuck
def fLst : FA := fun ds st => match valsOf ds with
  | some zs => if zs.length ≤ 1000 then .ok (.v (.list zs)) st else .stuck
  | none => .stuck
theorem lim1000 {n : Nat} (h : n ≤ 1000) : n ≤ sizeLine := Nat.le_of_lt (small1000 h)
theorem valsOf_at {K : PySem.W.Frag} {ι : Gh} {st : Sto} {H : Hp} : ∀ {ds : List D} {zs : List PyData} {xs : List V}, valsOf ds = some zs → RDs K ι st H xs ds → RpA (Frz ι st) H xs zs
  | [], _, _, e, .nil => by cases e; exact .nil
  | .v d :: r, _, _, e, .cons h t => by
    obtain ⟨ws, e1, rfl⟩ := Option.map_eq_some_iff.mp (show (valsOf r).map (d :: ·) = _ from e)
    exact .cons h (valsOf_at e1 t)
theorem xs_len {F : Addr → Prop} {H : Hp} {xs : List V} {ds : List PyData} (r : RpA F H xs ds) {n : Nat} (h : ds.length ≤ n) : xs.length ≤ n := by
  rw [r.length]
  exact h
theorem opTup {K : PySem.W.Frag} {W : XW} : OpA K W (fun xs H Q => xs.length ≤ sizeLine ∧ NewT H xs Q) fTup := by
  intro ι st H xs ds Q R r p
  unfold fTup at p
  cases e : valsOf ds with
  | none => rw [e] at p; exact p.elim
  | some zs =>
    rw [e] at p
    have p : (if zs.length ≤ 1000 then Out.ok (D.v (.tuple zs)) st else .stuck).post (PO1 K ι st H Q) (PX1 K W ι st H) := p
    split at p
    · rename_i hl
      have ra := valsOf_at e r
      exact ⟨lim1000 (xs_len ra hl), fun q o hq ho hf => PO1.newTup p R ra hq ho hf⟩
    · exact p.elim
theorem opLst {K : PySem.W.Frag} {W : XW} : OpA K W (fun xs H Q => xs.length ≤ sizeLine ∧ ∀ p, H p = none → Q (.ref p) (upd H p (.lst xs))) fLst := by
  intro ι st H xs ds Q R r p
  unfold fLst at p
  cases e : valsOf ds with
  | none => rw [e] at p; exact p.elim
  | some zs =>
    rw [e] at p
    have p : (if zs.length ≤ 1000 then Out.ok (D.v (.list zs)) st else .stuck).post (PO1 K ι st H Q) (PX1 K W ι st H) := p
    split at p
    · rename_i hl
      have ra := valsOf_at e r
      exact ⟨lim1000 (xs_len ra hl), fun q hq hf => PO1.newLst p R ra hq hf⟩
    · exact p.elim
theorem x_tup {k : Nat} {m : MA} (h : PA X es (TAo X.K W m)) : PE X (.Tuple es k pos) (TEo X.K W (mArg fTup m)) := pe_wrap (pe_tupN h) fun σ H Q q => te_arg opTup q
theorem x_lst {m : MA} (h : PA X es (TAo X.K W m)) : PE X (.List es pos) (TEo X.K W (mArg fLst m)) := pe_wrap (pe_lst h) fun σ H Q q => te_arg opLst q
theorem RDs.length {K : PySem.W.Frag} {ι : Gh} {st : Sto} {H : Hp} {xs : List V} {ds : List D} (h : RDs K ι st H xs ds) : xs.length = ds.length := Paired.length h
end
end Fw

namespace Fw
open PySem PySem.Spec PyProof.Rows L2

/-! ### what a value is -/
def iOf : D → Option Int
  | .v (.int i) => some i
  | _ => none
def bOf : D → Option Bool
  | .v (.bool b) => some b
  | _ => none
def sOf : D → Option Str
  | .v (.str z) => some z
  | _ => none
def tOf : D → Option (List PyData)
  | .v (.tuple xs) => some xs
  | _ => none
def lim : Nat := 1000000
theorem lim_ok {n : Nat} (h : n ≤ lim) : n ≤ sizeLine := Nat.le_trans h (by decide)
section
variable {K : PySem.W.Frag} {W : XW} {ι : Gh} {st : Sto} {H : Hp} {x : V} {d : D}
theorem iOf_at {i : Int} (e : iOf d = some i) (r : RD K ι st H x d) : x = .int i := by
  cases d with
  | v z =>
    cases z with
    | int j =>
      have e' : j = i := Option.some.inj e
      subst e'
      have r' : Rp (Frz ι st) H x (.int j) := r
      cases r'
      rfl
    | _ => cases e
  | _ => cases e
theorem bOf_at {i : Bool} (e : bOf d = some i) (r : RD K ι st H x d) : x = .bl i := by
  cases d with
  | v z =>
    cases z with
    | bool j =>
      have e' : j = i := Option.some.inj e
      subst e'
      have r' : Rp (Frz ι st) H x (.bool j) := r
      cases r'
      rfl
    | _ => cases e
  | _ => cases e
theorem sOf_at {i : Str} (e : sOf d = some i) (r : RD K ι st H x d) : x = .str i := by
  cases d with
  | v z =>
    cases z with
    | str j =>
      have e' : j = i := Option.some.inj e
      subst e'
      have r' : Rp (Frz ι st) H x (.str j) := r
      cases r'
      rfl
    | _ => cases e
  | _ => cases e
theorem tOf_at {ds : List PyData} (e : tOf d = some ds) (r : RD K ι st H x d) : ∃ a xs, x = .ref a ∧ KTup H a xs ∧ RpA (Frz ι st) H xs ds := by
  cases d with
  | v z =>
    cases z with
    | tuple zs =>
      have e' : zs = ds := Option.some.inj e
      subst e'
      have r' : Rp (Frz ι st) H x (.tuple zs) := r
      cases r' with
      | tup h z _ t => exact ⟨_, _, rfl, ⟨_, h, z⟩, t⟩
    | _ => cases e
  | _ => cases e
theorem tOf_eq {ds : List PyData} (e : tOf d = some ds) : d = .v (.tuple ds) := by
  cases d with
  | v z =>
    cases z with
    | tuple zs =>
      have e' : zs = ds := Option.some.inj e
      subst e'
      rfl
    | _ => cases e
  | _ => cases e
end

/-! ### + - * // % -/
def addD : F2 := fun a b st =>
  match iOf a, iOf b with
  | some i, some j => .ok (.v (.int (i + j))) st
  | _, _ => match tOf a, tOf b with
    | some xs, some ys => if xs.length + ys.length ≤ lim then .ok (.v (.tuple (xs ++ ys))) st else .stuck
    | _, _ => match viewL st a, viewL st b with
      | some xs, some ys => if xs.length + ys.length ≤ lim then .ok (.v (.list (xs ++ ys))) st else .stuck
      | _, _ => match sOf a, sOf b with
        | some y, some z => if y.length + z.length ≤ lim then .ok (.v (.str (y ++ z))) st else .stuck
        | _, _ => .stuck
def rStrAdd : R2 := fun x y H Q => ∃ i j, x = .str i ∧ y = .str j ∧ i.length + j.length ≤ sizeLine ∧ Q (.str (i ++ j)) H
/-- t + u of tuples; an empty one gives the other one itself -/
def rCatN (K : PySem.W.Frag) : R2 := fun x y H Q => ∃ a b xs ys, x = .ref a ∧ y = .ref b ∧ SqT K H a xs ∧ SqT K H b ys ∧ xs.length + ys.length ≤ sizeLine ∧
  (xs = [] → Q (.ref b) H) ∧ (xs ≠ [] → ys = [] → Q (.ref a) H) ∧ (xs ≠ [] → ys ≠ [] → NewT H (xs ++ ys) Q)
theorem op_catN {X : Cx} : OpR X (binaryOp .Add) (rCatN X.K) := by
  intro pins s σ H x y v u Q I rx ry h
  obtain ⟨a, b, xs, ys, rfl, rfl, ha, hb, hz, q0, q1, q2⟩ := h
  cases rx
  cases ry
  obtain ⟨its, r1, p1, _⟩ := I.tuple ha
  obtain ⟨its2, r2, p2, _⟩ := I.tuple hb
  by_cases hx : xs = []
  · subst hx
    cases r1
    exact cat_tup0 p1 p2 ⟨.ref b, H, I, rfl, q0 rfl⟩
  · refine HT.cat_tup p1 p2 (fun z => hx (r1.nil_iff.mp z)) (fun z => ⟨.ref a, H, I, rfl, q1 hx (r2.nil_iff.mp z)⟩) (fun z => ?_) ?_
    · exact (q2 hx fun w => z (r2.nil_iff.mpr w)).laid (t' := s.toks) I (r1.append r2) (by rw [List.length_append]; exact hz)
    · rw [← r1.length, ← r2.length]
      exact hz
def rAddU (K : PySem.W.Frag) : R2 := fun x y H Q => rI0 (fun i j => .int (i + j)) x y H Q ∨ rCatN K x y H Q ∨ rCat x y H Q ∨ rStrAdd x y H Q
theorem or_addU {X : Cx} : OpR X (binaryOp .Add) (rAddU X.K) := op_add.or (op_catN.or (op_cat.or op_add_str))
theorem op2_add {K : PySem.W.Frag} {W : XW} : Op2 K W (rAddU K) addD := by
  intro ι st H x y a b Q R ra rb p
  unfold addD at p
  split at p
  · rename_i i j e1 e2
    exact .inl ⟨i, j, iOf_at e1 ra, iOf_at e2 rb, fun _ => p.same R (.int _)⟩
  · split at p
    · rename_i xs ys e1 e2
      split at p
      · rename_i hl
        obtain ⟨a1, us, rfl, h1, r1⟩ := tOf_at e1 ra
        obtain ⟨b1, vs, rfl, h2, r2⟩ := tOf_at e2 rb
        have hz : us.length + vs.length ≤ sizeLine := by rw [r1.length, r2.length]; exact lim_ok hl
        refine .inr (.inl ⟨a1, b1, us, vs, rfl, rfl, h1.sq, h2.sq, hz, fun z => ?_, fun _ z => ?_, fun _ _ q o hq ho hf => ?_⟩)
        · subst z
          cases r1
          intro _
          rw [tOf_eq e2] at rb
          exact p.same R rb
        · subst z
          cases r2
          intro _
          rw [tOf_eq e1] at ra
          rw [List.append_nil] at p
          exact p.same R ra
        · exact p.newTup R (r1.append r2) hq ho hf
      · exact p.elim
    · split at p
      · rename_i xs ys e1 e2
        split at p
        · rename_i hl
          obtain ⟨a1, us, rfl, h1, r1⟩ := viewL_at R e1 ra
          obtain ⟨b1, vs, rfl, h2, r2⟩ := viewL_at R e2 rb
          have hz : us.length + vs.length ≤ sizeLine := by rw [r1.length, r2.length]; exact lim_ok hl
          exact .inr (.inr (.inl ⟨a1, b1, us, vs, rfl, rfl, h1, h2, hz, fun q hq hf => p.newLst R (r1.append r2) hq hf⟩))
        · exact p.elim
      · split at p
        · rename_i y1 z1 e1 e2
          split at p
          · rename_i hl
            exact .inr (.inr (.inr ⟨y1, z1, sOf_at e1 ra, sOf_at e2 rb, lim_ok hl, fun _ => p.same R (.str _)⟩))
          · exact p.elim
        · exact p.elim
def intD (C : Int → Int → Bool) (g : Int → Int → PyData) : F2 := fun a b st => match iOf a, iOf b with
  | some i, some j => if C i j then .ok (.v (g i j)) st else .stuck
  | _, _ => .stuck
theorem op2_int {K : PySem.W.Frag} {W : XW} {C : Int → Int → Bool} {C' : Int → Int → Prop} {g : Int → Int → PyData} {g' : Int → Int → V} (hc : ∀ i j, C i j = true → C' i j) (hg : ∀ F H i j, Rp F H (g' i j) (g i j)) : Op2 K W (rI C' g') (intD C g) := by
  intro ι st H x y a b Q R ra rb p
  unfold intD at p
  split at p
  · rename_i i j e1 e2
    split at p
    · rename_i h
      exact ⟨i, j, iOf_at e1 ra, iOf_at e2 rb, hc i j h, fun _ => p.same R (hg _ _ i j)⟩
    · exact p.elim
  · exact p.elim
def intD0 (g : Int → Int → PyData) : F2 := fun a b st => match iOf a, iOf b with
  | some i, some j => .ok (.v (g i j)) st
  | _, _ => .stuck
theorem op2_int0 {K : PySem.W.Frag} {W : XW} {g : Int → Int → PyData} {g' : Int → Int → V} (hg : ∀ F H i j, Rp F H (g' i j) (g i j)) : Op2 K W (rI0 g') (intD0 g) := by
  intro ι st H x y a b Q R ra rb p
  unfold intD0 at p
  split at p
  · rename_i i j e1 e2
    exact ⟨i, j, iOf_at e1 ra, iOf_at e2 rb, fun _ => p.same R (hg _ _ i j)⟩
  · exact p.elim
abbrev subD : F2 := intD0 fun i j => .int (i - j)
def cMul (i j : Int) : Bool := (decide (-(2 ^ 64) < i) && decide (i < 2 ^ 64)) || (decide (-(2 ^ 64) < j) && decide (j < 2 ^ 64))
theorem cMul_ok {i j : Int} (h : cMul i j = true) : CMul i j := by
  unfold cMul at h
  simp only [Bool.or_eq_true, Bool.and_eq_true, decide_eq_true_eq] at h
  exact h
/-- i * j of ints, k copies of a list -/
def mulD : F2 := fun a b st => match iOf a, iOf b with
  | some i, some j => if cMul i j then .ok (.v (.int (i * j))) st else .stuck
  | _, _ => match viewL st a, iOf b with
    | some xs, some k => if -1000000 ≤ k ∧ k ≤ 1000000 ∧ xs.length * k.toNat ≤ lim then .ok (.v (.list (List.replicate k.toNat xs).flatten)) st else .stuck
    | _, _ => .stuck
theorem op2_mul {K : PySem.W.Frag} {W : XW} : Op2 K W (fun x y H Q => rI CMul (fun i j => .int (i * j)) x y H Q ∨ rRep x y H Q) mulD := by
  intro ι st H x y a b Q R ra rb p
  unfold mulD at p
  split at p
  · rename_i i j e1 e2
    split at p
    · rename_i h
      exact .inl ⟨i, j, iOf_at e1 ra, iOf_at e2 rb, cMul_ok h, fun _ => p.same R (.int _)⟩
    · exact p.elim
  · split at p
    · rename_i xs k e1 e2
      split at p
      · rename_i h
        obtain ⟨a1, us, rfl, h1, r1⟩ := viewL_at R e1 ra
        refine .inr ⟨a1, k, us, rfl, iOf_at e2 rb, h1, by omega, by omega, by rw [r1.length]; exact lim_ok h.2.2, fun q hq hf => p.newLst R (r1.rep _) hq hf⟩
      · exact p.elim
    · exact p.elim
def cDiv (i j : Int) : Bool := decide (j ≠ 0) && decide (j.natAbs < 1073741824)
theorem cDiv_ok {i j : Int} (h : cDiv i j = true) : CDivN i j := by
  unfold cDiv at h
  simp only [Bool.and_eq_true, decide_eq_true_eq] at h
  exact h
abbrev fdivD : F2 := intD cDiv fun i j => .int (i.fdiv j)
abbrev modD : F2 := intD (fun _ j => decide (j ≠ 0)) fun i j => .int (i.fmod j)
def cPow (i j : Int) : Bool := decide (0 ≤ j) && decide (j ≤ 1000000) && decide (i.natAbs < 2 ^ 64)
abbrev powD : F2 := intD cPow fun i j => .int (i ^ j.toNat)
section
variable {X : Cx} {W : XW} {a b e : Expr} {ma mb : ME} {pos : Pos}
theorem x_add (ha : PE X a (TEo X.K W ma)) (hb : PE X b (TEo X.K W mb)) : PE X (.BinOp a .Add b pos) (TEo X.K W (mBin addD ma mb)) := x_op or_addU op2_add ha hb
theorem x_sub (ha : PE X a (TEo X.K W ma)) (hb : PE X b (TEo X.K W mb)) : PE X (.BinOp a .Sub b pos) (TEo X.K W (mBin subD ma mb)) := x_op op_sub (op2_int0 fun _ _ _ _ => .int _) ha hb
theorem x_mul (ha : PE X a (TEo X.K W ma)) (hb : PE X b (TEo X.K W mb)) : PE X (.BinOp a .Mult b pos) (TEo X.K W (mBin mulD ma mb)) := x_op (op_mul.or op_rep) op2_mul ha hb
theorem x_fdiv (ha : PE X a (TEo X.K W ma)) (hb : PE X b (TEo X.K W mb)) : PE X (.BinOp a .FloorDiv b pos) (TEo X.K W (mBin fdivD ma mb)) := x_op op_fdivN (op2_int (fun _ _ => cDiv_ok) fun _ _ _ _ => .int _) ha hb
theorem x_mod (ha : PE X a (TEo X.K W ma)) (hb : PE X b (TEo X.K W mb)) : PE X (.BinOp a .Mod b pos) (TEo X.K W (mBin modD ma mb)) := x_op op_modN (op2_int (fun _ _ h => of_decide_eq_true h) fun _ _ _ _ => .int _) ha hb
theorem x_pow (ha : PE X a (TEo X.K W ma)) (hb : PE X b (TEo X.K W mb)) : PE X (.BinOp a .Pow b pos) (TEo X.K W (mBin powD ma mb)) := x_op op_pow (op2_int (fun i j h => by
  unfold cPow at h
  simp only [Bool.and_eq_true, decide_eq_true_eq] at h
  exact ⟨h.1.1, h.1.2, h.2⟩) fun _ _ _ _ => .int _) ha hb
end
def negD : F1 := fun a st => match iOf a with
  | some i => .ok (.v (.int (-i))) st
  | none => .stuck
theorem op1_neg {K : PySem.W.Frag} {W : XW} : Op1 K W (rU fun i => .int (-i)) negD := by
  intro ι st H x a Q R ra p
  unfold negD at p
  split at p
  · rename_i i e
    exact ⟨i, iOf_at e ra, fun _ => p.same R (.int _)⟩
  · exact p.elim
theorem x_neg {X : Cx} {W : XW} {a : Expr} {ma : ME} {pos : Pos} (ha : PE X a (TEo X.K W ma)) : PE X (.UnaryOp .USub a pos) (TEo X.K W (mUn negD ma)) := x_un un_neg op1_neg ha

/-! ### comparisons -/
abbrev ltD : F2 := intD0 fun i j => .bool (decide (i < j))
abbrev leD : F2 := intD0 fun i j => .bool (decide (i ≤ j))
abbrev gtD : F2 := intD0 fun i j => .bool (decide (j < i))
abbrev geD : F2 := intD0 fun i j => .bool (decide (j ≤ i))
/-- a == b of data without dicts -/
def eqT (st : Sto) (a b : D) : Option Bool := match viewP st a, viewP st b with
  | some x, some y => if SeqAt.shaped x && SeqAt.shaped y then some (PyData.eqv x y) else none
  | _, _ => none
/-- texts are compared as they are -/
def eqS (st : Sto) (a b : D) : Option Bool := match sOf a, sOf b with
  | some x, some y => some (decide (x = y))
  | _, _ => eqT st a b
def eqD : F2 := fun a b st => match eqS st a b with
  | some k => .ok (.v (.bool k)) st
  | none => .stuck
def neD : F2 := fun a b st => match eqS st a b with
  | some k => .ok (.v (.bool (!k))) st
  | none => .stuck
theorem noDict_of {z : PyData} (h : SeqAt.shaped z = true) : z.hasDict = false := PyData.hasDict_of_canLay _ (SeqAt.canLay_of_shaped h)
theorem eqT_at {K : PySem.W.Frag} {ι : Gh} {st : Sto} {H : Hp} (R : SRel K ι st H) {a b : D} {x y : V} {k : Bool} (e : eqT st a b = some k) (ra : RD K ι st H x a) (rb : RD K ι st H y b) :
    ∃ d e, Dp K H x d ∧ Dp K H y e ∧ SeqAt.shaped d = true ∧ SeqAt.shaped e = true ∧ PyData.eqv d e = k := by
  unfold eqT at e
  split at e
  · rename_i z w e1 e2
    split at e
    · rename_i h
      rw [Bool.and_eq_true] at h
      exact ⟨z, w, viewP_at R e1 ra (noDict_of h.1), viewP_at R e2 rb (noDict_of h.2), h.1, h.2, Option.some.inj e⟩
    · cases e
  · cases e
theorem eqS_at {K : PySem.W.Frag} {ι : Gh} {st : Sto} {H : Hp} (R : SRel K ι st H) {a b : D} {x y : V} {k : Bool} (e : eqS st a b = some k) (ra : RD K ι st H x a) (rb : RD K ι st H y b) :
    (scal x y = true ∧ decide (x = y) = k) ∨ ∃ d e, Dp K H x d ∧ Dp K H y e ∧ SeqAt.shaped d = true ∧ SeqAt.shaped e = true ∧ PyData.eqv d e = k := by
  unfold eqS at e
  split at e
  · rename_i z w e1 e2
    have q1 := sOf_at e1 ra
    have q2 := sOf_at e2 rb
    subst q1 q2
    refine .inl ⟨rfl, ?_⟩
    rw [dec_str, ← Option.some.inj e]
    by_cases h : z = w
    · subst h; simp
    · rw [decide_eq_false h]; exact beq_eq_false_iff_ne.mpr h
  · exact .inr (eqT_at R e ra rb)
def rEqU (K : PySem.W.Frag) : R2 := fun x y H Q => rEq x y H Q ∨ rEqD K x y H Q
def rNeU (K : PySem.W.Frag) : R2 := fun x y H Q => rNe x y H Q ∨ rNeD K x y H Q
theorem op2_eq {K : PySem.W.Frag} {W : XW} : Op2 K W (rEqU K) eqD := by
  intro ι st H x y a b Q R ra rb p
  unfold eqD at p
  split at p
  · rename_i k e
    rcases eqS_at R e ra rb with ⟨h1, h2⟩ | ⟨d, e', h1, h2, h3, h4, h5⟩
    · exact .inl ⟨h1, fun _ => by rw [h2]; exact p.same R (.bl _)⟩
    · exact .inr ⟨d, e', h1, h2, h3, h4, fun _ => by rw [h5]; exact p.same R (.bl _)⟩
  · exact p.elim
theorem op2_ne {K : PySem.W.Frag} {W : XW} : Op2 K W (rNeU K) neD := by
  intro ι st H x y a b Q R ra rb p
  unfold neD at p
  split at p
  · rename_i k e
    rcases eqS_at R e ra rb with ⟨h1, h2⟩ | ⟨d, e', h1, h2, h3, h4, h5⟩
    · exact .inl ⟨h1, fun _ => by rw [h2]; exact p.same R (.bl _)⟩
    · exact .inr ⟨d, e', h1, h2, h3, h4, fun _ => by rw [h5]; exact p.same R (.bl _)⟩
  · exact p.elim
/-- is of None and of bools -/
def isS : D → D → Option Bool
  | .v (.bool a), .v (.bool b) => some (decide (a = b))
  | a, .v .none => some (match a with | .v .none => true | _ => false)
  | _, _ => none
def isD : F2 := fun a b st => match isS a b with
  | some k => .ok (.v (.bool k)) st
  | none => .stuck
def isNotD : F2 := fun a b st => match isS a b with
  | some k => .ok (.v (.bool (!k))) st
  | none => .stuck
def rIsU : R2 := fun x y H Q => rIsB x y H Q ∨ (y = .non ∧ Q (.bl (decide (x = .non))) H)
def rIsNotU : R2 := fun x y H Q => rNotB x y H Q ∨ (y = .non ∧ Q (.bl (!decide (x = .non))) H)
theorem isNone_at {K : PySem.W.Frag} {ι : Gh} {st : Sto} {H : Hp} {x : V} : ∀ {d : D}, RD K ι st H x d → decide (x = .non) = (match d with | .v .none => true | _ => false)
  | .v z, r => by
    have r' : Rp (Frz ι st) H x z := r
    cases r' <;> rfl
  | .ref n, ⟨a, _, h⟩ => by rw [h]; rfl
  | .scr ns, ⟨a, h, _⟩ => by rw [h]; rfl
theorem isS_at {K : PySem.W.Frag} {ι : Gh} {st : Sto} {H : Hp} {a b : D} {x y : V} {k : Bool} (e : isS a b = some k) (ra : RD K ι st H x a) (rb : RD K ι st H y b) :
    (∃ i j : Bool, x = .bl i ∧ y = .bl j ∧ decide (i = j) = k) ∨ (y = .non ∧ decide (x = .non) = k) := by
  unfold isS at e
  split at e
  · rename_i i j
    exact .inl ⟨i, j, bOf_at rfl ra, bOf_at rfl rb, Option.some.inj e⟩
  · have rb' : Rp (Frz ι st) H y .none := rb
    cases rb'
    exact .inr ⟨rfl, (isNone_at ra).trans (Option.some.inj e)⟩
  · cases e
theorem op2_is {K : PySem.W.Frag} {W : XW} : Op2 K W rIsU isD := by
  intro ι st H x y a b Q R ra rb p
  unfold isD at p
  split at p
  · rename_i k e
    rcases isS_at e ra rb with ⟨i, j, h1, h2, h3⟩ | ⟨h1, h2⟩
    · exact .inl ⟨i, j, h1, h2, fun _ => by rw [h3]; exact p.same R (.bl _)⟩
    · exact .inr ⟨h1, fun _ => by rw [h2]; exact p.same R (.bl _)⟩
  · exact p.elim
theorem op2_isNot {K : PySem.W.Frag} {W : XW} : Op2 K W rIsNotU isNotD := by
  intro ι st H x y a b Q R ra rb p
  unfold isNotD at p
  split at p
  · rename_i k e
    rcases isS_at e ra rb with ⟨i, j, h1, h2, h3⟩ | ⟨h1, h2⟩
    · exact .inl ⟨i, j, h1, h2, fun _ => by rw [h3]; exact p.same R (.bl _)⟩
    · exact .inr ⟨h1, fun _ => by rw [h2]; exact p.same R (.bl _)⟩
  · exact p.elim
/-- x in a list or tuple of plain values -/
def flatP : PyData → Bool
  | .list _ | .tuple _ | .dict _ => false
  | _ => true
def inS (st : Sto) (a b : D) : Option Bool := match a, viewS st b with
  | .v x, some ys => if flatP x && ys.all flatP then some (ys.any fun y => PyData.eqv y x)
      else match viewL st b with
        | some _ => if SeqAt.shaped x && SeqAt.shaped (.list ys) then some (ys.any fun y => PyData.eqv y x) else none
        | none => if SeqAt.shaped x && SeqAt.shaped (.tuple ys) then some (ys.any fun y => PyData.eqv y x) else none
  | _, _ => none
def inD : F2 := fun a b st => match inS st a b with
  | some k => .ok (.v (.bool k)) st
  | none => .stuck
def notInD : F2 := fun a b st => match inS st a b with
  | some k => .ok (.v (.bool (!k))) st
  | none => .stuck
theorem flat_of {F : Addr → Prop} {H : Hp} {x : V} {d : PyData} (r : Rp F H x d) (h : flatP d = true) : flatV x = true := by
  cases r <;> first | rfl | exact absurd h Bool.false_ne_true
theorem flatAll_of {F : Addr → Prop} {H : Hp} : ∀ {xs : List V} {ds : List PyData}, RpA F H xs ds → ds.all flatP = true → xs.all flatV = true
  | _, _, .nil, _ => rfl
  | _, _, .cons r t, h => by
    rw [List.all_cons, Bool.and_eq_true] at h
    rw [List.all_cons, flat_of r h.1, flatAll_of t h.2]
    rfl
theorem eqV_of {F : Addr → Prop} {H : Hp} {x y : V} {d e : PyData} (r : Rp F H x d) (q : Rp F H y e) (h : flatP d = true) (h' : flatP e = true) : eqV x y = PyData.eqv d e := by
  cases r <;> first
    | exact absurd h Bool.false_ne_true
    | (cases q <;> first
        | exact absurd h' Bool.false_ne_true
        | rfl
        | simp [eqV, PyData.eqv])
theorem inV_of {F : Addr → Prop} {H : Hp} {x : V} {d : PyData} (r : Rp F H x d) (h : flatP d = true) : ∀ {xs : List V} {ds : List PyData}, RpA F H xs ds → ds.all flatP = true → inV x xs = ds.any fun y => PyData.eqv y d
  | _, _, .nil, _ => rfl
  | _, _, .cons q t, h' => by
    rw [List.all_cons, Bool.and_eq_true] at h'
    have ih := inV_of r h t h'.2
    unfold inV at ih ⊢
    rw [List.any_cons, List.any_cons, ih, eqV_of q r h'.1 h]
theorem inS_at {K : PySem.W.Frag} {ι : Gh} {st : Sto} {H : Hp} (R : SRel K ι st H) {a b : D} {x y : V} {k : Bool} (e : inS st a b = some k) (ra : RD K ι st H x a) (rb : RD K ι st H y b) :
    (∃ p xs, y = .ref p ∧ (SqL K H p xs ∨ SqT K H p xs) ∧ flatV x = true ∧ xs.all flatV = true ∧ inV x xs = k) ∨
    (∃ d ds, Dp K H x d ∧ Dp K H y (.list ds) ∧ SeqAt.shaped d = true ∧ SeqAt.shaped (.list ds) = true ∧ (ds.any fun z => PyData.eqv z d) = k) ∨
    ∃ d ds, Dp K H x d ∧ Dp K H y (.tuple ds) ∧ SeqAt.shaped d = true ∧ SeqAt.shaped (.tuple ds) = true ∧ (ds.any fun z => PyData.eqv z d) = k := by
  unfold inS at e
  split at e
  · rename_i d ys e1
    obtain ⟨p, xs, rfl, h1, h2⟩ := viewS_at R e1 rb
    split at e
    · rename_i hf
      rw [Bool.and_eq_true] at hf
      exact .inl ⟨p, xs, rfl, h1.imp .of KTup.sq, flat_of ra hf.1, flatAll_of h2 hf.2, (inV_of ra hf.1 h2 hf.2).trans (Option.some.inj e)⟩
    · split at e
      · rename_i zs e2
        split at e
        · rename_i hs
          rw [Bool.and_eq_true] at hs
          refine .inr (.inl ⟨d, ys, viewP_at R rfl ra (noDict_of hs.1), ?_, hs.1, hs.2, Option.some.inj e⟩)
          obtain ⟨a2, us, e3, h3, h4⟩ := viewL_at R e2 rb
          cases e3
          have eq : ys = zs := by
            have : viewS st b = viewL st b := by
              cases b with
              | v w =>
                cases w with
                | tuple _ => cases e2
                | _ => rfl
              | _ => rfl
            rw [this, e2] at e1
            exact (Option.some.inj e1).symm
          subst eq
          exact .lst (.of h3) (h4.dp (by simpa [PyData.hasDict] using noDict_of hs.2))
        · cases e
      · rename_i e2
        split at e
        · rename_i hs
          rw [Bool.and_eq_true] at hs
          have eb : b = .v (.tuple ys) := by
            cases b with
            | v w =>
              cases w with
              | tuple zs => cases e1; rfl
              | _ => exact absurd (e2.symm.trans e1) (fun z => nomatch z)
            | _ => exact absurd (e2.symm.trans e1) (fun z => nomatch z)
          subst eb
          exact .inr (.inr ⟨d, ys, viewP_at R rfl ra (noDict_of hs.1), viewP_at R rfl rb (noDict_of hs.2), hs.1, hs.2, Option.some.inj e⟩)
        · cases e
  · cases e
/-- x in t, t a tuple of data -/
def rInDT (K : PySem.W.Frag) : R2 := fun x y H Q => ∃ d ds, Dp K H x d ∧ Dp K H y (.tuple ds) ∧ SeqAt.shaped d = true ∧ SeqAt.shaped (.tuple ds) = true ∧ Q (.bl (ds.any fun z => PyData.eqv z d)) H
def rNotInDT (K : PySem.W.Frag) : R2 := fun x y H Q => ∃ d ds, Dp K H x d ∧ Dp K H y (.tuple ds) ∧ SeqAt.shaped d = true ∧ SeqAt.shaped (.tuple ds) = true ∧ Q (.bl (!(ds.any fun z => PyData.eqv z d))) H
theorem op_inDT {X : Cx} (hu : X.A.units + 65 < cLine) : OpR X (compareOp .In) (rInDT X.K) := by
  rintro pins s σ H x y v u Q I rx ry ⟨d, ds, hd, he, sd, se, q⟩
  obtain ⟨as, r1⟩ := Dp.reads I d x v hd rx
  obtain ⟨bs, r2⟩ := Dp.reads I (.tuple ds) y u he ry
  exact SeqAt.in_tuple_reads r2 r1 (SeqAt.canLay_of_shaped se) (SeqAt.canLay_of_shaped sd) (room_in_shaped sd hu) ⟨.bl _, H, I, rfl, q⟩
theorem op_notInDT {X : Cx} (hu : X.A.units + 65 < cLine) : OpR X (compareOp .NotIn) (rNotInDT X.K) := by
  rintro pins s σ H x y v u Q I rx ry ⟨d, ds, hd, he, sd, se, q⟩
  obtain ⟨as, r1⟩ := Dp.reads I d x v hd rx
  obtain ⟨bs, r2⟩ := Dp.reads I (.tuple ds) y u he ry
  exact SeqAt.notIn_tuple_reads r2 r1 (SeqAt.canLay_of_shaped se) (SeqAt.canLay_of_shaped sd) (room_in_shaped sd hu) ⟨.bl _, H, I, rfl, q⟩
def rInU (K : PySem.W.Frag) : R2 := fun x y H Q => rIn K false x y H Q ∨ rInD K x y H Q ∨ rInDT K x y H Q
def rNotInU (K : PySem.W.Frag) : R2 := fun x y H Q => rIn K true x y H Q ∨ rNotInD K x y H Q ∨ rNotInDT K x y H Q
theorem op2_in {K : PySem.W.Frag} {W : XW} : Op2 K W (rInU K) inD := by
  intro ι st H x y a b Q R ra rb p
  unfold inD at p
  split at p
  · rename_i k e
    rcases inS_at R e ra rb with ⟨q, xs, h1, h2, h3, h4, h5⟩ | ⟨d, ds, h1, h2, h3, h4, h5⟩ | ⟨d, ds, h1, h2, h3, h4, h5⟩
    · refine .inl ⟨q, xs, h1, h2, h3, h4, fun _ => ?_⟩
      rw [if_neg Bool.false_ne_true, h5]
      exact p.same R (.bl _)
    · exact .inr (.inl ⟨d, ds, h1, h2, h3, h4, fun _ => by rw [h5]; exact p.same R (.bl _)⟩)
    · exact .inr (.inr ⟨d, ds, h1, h2, h3, h4, fun _ => by rw [h5]; exact p.same R (.bl _)⟩)
  · exact p.elim
theorem op2_notIn {K : PySem.W.Frag} {W : XW} : Op2 K W (rNotInU K) notInD := by
  intro ι st H x y a b Q R ra rb p
  unfold notInD at p
  split at p
  · rename_i k e
    rcases inS_at R e ra rb with ⟨q, xs, h1, h2, h3, h4, h5⟩ | ⟨d, ds, h1, h2, h3, h4, h5⟩ | ⟨d, ds, h1, h2, h3, h4, h5⟩
    · refine .inl ⟨q, xs, h1, h2, h3, h4, fun _ => ?_⟩
      rw [if_pos rfl, h5]
      exact p.same R (.bl _)
    · exact .inr (.inl ⟨d, ds, h1, h2, h3, h4, fun _ => by rw [h5]; exact p.same R (.bl _)⟩)
    · exact .inr (.inr ⟨d, ds, h1, h2, h3, h4, fun _ => by rw [h5]; exact p.same R (.bl _)⟩)
  · exact p.elim
end Fw

namespace Fw
open PySem PySem.Spec PyProof.Rows L2

/-- where one stands: nothing is being handled, no repr is under way, there is room -/
structure Gd (X : Cx) : Prop where
  calm : X.calm = true
  gu : X.A.guards = some []
  un : X.A.units + 150 < cLine

/-! ### one of two rules for an expression -/
theorem pe_or {X : Cx} {e : Expr} {t u : TE} (h : PE X e t) (h' : PE X e u) : PE X e (fun σ H Q => t σ H Q ∨ u σ H Q) :=
  ⟨fun pins s σ H Q I q => q.elim (h.run pins s σ H Q I) (h'.run pins s σ H Q I)⟩
theorem te_or {K : PySem.W.Frag} {W : XW} {σ : L2.St} {H : Hp} {Q : VK} {ma mb : ME} {f g h : F2} (hc : ∀ a b st, h a b st = f a b st ∨ h a b st = g a b st) (q : TEo K W (mBin h ma mb) σ H Q) : TEo K W (mBin f ma mb) σ H Q ∨ TEo K W (mBin g ma mb) σ H Q := by
  obtain ⟨ι, env, st, R, EV, p⟩ := q
  have key : mBin h ma mb env st = mBin f ma mb env st ∨ mBin h ma mb env st = mBin g ma mb env st := by
    unfold mBin
    cases ma env st with
    | ok a s1 =>
      cases e : mb env s1 with
      | ok b s2 =>
        simp only [bind_ok, e]
        exact hc a b s2
      | exn _ _ => exact .inl (by simp only [bind_ok, e, bind_exn])
      | stuck => exact .inl (by simp only [bind_ok, e, bind_stuck])
    | exn _ _ => exact .inl rfl
    | stuck => exact .inl rfl
  rcases key with e | e <;> rw [e] at p
  · exact .inl ⟨ι, env, st, R, EV, p⟩
  · exact .inr ⟨ι, env, st, R, EV, p⟩

/-! ### keys -/
def key1 : PyData → Option Key
  | .int i => some (.inl i)
  | .str z => some (.inr z)
  | _ => none
def keysT : List PyData → Option (List Key)
  | [] => some []
  | d :: r => match key1 d, keysT r with
    | some k, some ks => some (k :: ks)
    | _, _ => none
def keyT : PyData → Option (List Key)
  | .tuple ds => keysT ds
  | _ => none
/-- the same key, of the one kind or the other -/
def keq (t : Bool) (a b : PyData) : Bool := if t then decide (keyT a = keyT b) else decide (key1 a = key1 b)
def getK (t : Bool) (kvs : List (PyData × D)) (k : PyData) : Option D := (kvs.find? fun p => keq t p.1 k).map (·.2)
def isTK : List (PyData × PyData) → Bool
  | (.tuple _, _) :: _ => true
  | _ => false
def viewK (st : Sto) : D → Option (Bool × List (PyData × D))
  | .v (.dict kvs) => some (isTK kvs, kvs.map fun p => (p.1, .v p.2))
  | .ref n => match st[n]? with
    | some (.dct t kvs) => some (t, kvs)
    | some (.lck t kvs) => some (t, kvs)
    | _ => none
  | _ => none
theorem key1_kD (k : Key) : key1 (kD k) = some k := by cases k <;> rfl
theorem keysT_kD : ∀ ks : List Key, keysT (ks.map kD) = some ks
  | [] => rfl
  | k :: r => by
    rw [List.map_cons]
    unfold keysT
    rw [key1_kD, keysT_kD r]
theorem kD_of {d : PyData} {k : Key} (h : key1 d = some k) : d = kD k := by
  cases d with
  | int i => cases h; rfl
  | str z => cases h; rfl
  | _ => cases h
theorem kDs_of : ∀ {ds : List PyData} {ks : List Key}, keysT ds = some ks → ds = ks.map kD
  | [], ks, h => by cases h; rfl
  | d :: r, ks, h => by
    unfold keysT at h
    split at h
    · rename_i k kr e1 e2
      have e := Option.some.inj h
      subst e
      rw [List.map_cons, kD_of e1, kDs_of e2]
    · cases h
theorem kV_of {F : Addr → Prop} {H : Hp} {x : V} {k : Key} (r : Rp F H x (kD k)) : x = kV k := by
  cases k <;> (cases r; rfl)
theorem kVs_of {F : Addr → Prop} {H : Hp} : ∀ {ks : List Key} {xs : List V}, RpA F H xs (ks.map kD) → xs = ks.map kV
  | [], _, .nil => rfl
  | k :: r, _, .cons h t => by rw [List.map_cons, kV_of h, kVs_of t]
section
variable {K : PySem.W.Frag} {ι : Gh} {st : Sto} {H : Hp}
/-- what is found on both sides -/
def ROpt (K : PySem.W.Frag) (ι : Gh) (st : Sto) (H : Hp) : Option D → Option V → Prop
  | some d, some x => RD K ι st H x d
  | none, none => True
  | _, _ => False
theorem RK.get {kd : PyData} {k : Key} (hk : key1 kd = some k) : ∀ {kvs : List (PyData × D)} {xs : List (Key × V)}, RK K ι st H kvs xs → ROpt K ι st H (getK false kvs kd) (valV xs k)
  | _, _, .nil => trivial
  | _, _, .cons (a := p) (b := q) h t => by
    have ih := RK.get hk t
    unfold getK at ih ⊢
    by_cases e : q.1 = k
    · rw [valV_pos e]
      have e2 : keq false p.1 kd = true := by
        unfold keq
        rw [if_neg Bool.false_ne_true, h.1, key1_kD, hk, e, decide_eq_true rfl]
      rw [List.find?_cons, e2]
      exact h.2
    · rw [valV_neg e]
      have e2 : keq false p.1 kd = false := by
        unfold keq
        rw [if_neg Bool.false_ne_true, h.1, key1_kD, hk]
        exact decide_eq_false fun z => e (Option.some.inj z)
      rw [List.find?_cons, e2]
      exact ih
theorem RT.get {kd : PyData} {k : List Key} (hk : keyT kd = some k) : ∀ {kvs : List (PyData × D)} {xs : List (List Key × V)}, RT K ι st H kvs xs → ROpt K ι st H (getK true kvs kd) (valV xs k)
  | _, _, .nil => trivial
  | _, _, .cons (a := p) (b := q) h t => by
    have ih := RT.get hk t
    unfold getK at ih ⊢
    have kt : keyT p.1 = some q.1 := by rw [h.1]; exact keysT_kD q.1
    by_cases e : q.1 = k
    · rw [valV_pos e]
      have e2 : keq true p.1 kd = true := by
        unfold keq
        rw [if_pos rfl, kt, hk, e, decide_eq_true rfl]
      rw [List.find?_cons, e2]
      exact h.2
    · rw [valV_neg e]
      have e2 : keq true p.1 kd = false := by
        unfold keq
        rw [if_pos rfl, kt, hk]
        exact decide_eq_false fun z => e (Option.some.inj z)
      rw [List.find?_cons, e2]
      exact ih
theorem RpK.rk : ∀ {xs : List (Key × V)} {ds : List (PyData × PyData)}, RpK (Frz ι st) H xs ds → RK K ι st H (ds.map fun p => (p.1, D.v p.2)) xs
  | _, _, .nil => .nil
  | _, _, .cons h r => .cons ⟨rfl, h⟩ (RpK.rk r)
theorem RpT.rt : ∀ {xs : List (List Key × V)} {ds : List (PyData × PyData)}, RpT (Frz ι st) H xs ds → RT K ι st H (ds.map fun p => (p.1, D.v p.2)) xs
  | _, _, .nil => .nil
  | _, _, .cons h r => .cons ⟨rfl, h⟩ (RpT.rt r)
theorem RpK.kind : ∀ {xs : List (Key × V)} {ds : List (PyData × PyData)}, RpK (Frz ι st) H xs ds → isTK ds = false
  | _, _, .nil => rfl
  | _, _, .cons (k := k) h r => by cases k <;> rfl
theorem RpT.kind : ∀ {xs : List (List Key × V)} {ds : List (PyData × PyData)}, RpT (Frz ι st) H xs ds → ds ≠ [] → isTK ds = true
  | _, _, .nil, h => absurd rfl h
  | _, _, .cons _ _, _ => rfl
theorem viewK_at (R : SRel K ι st H) {x : V} {d : D} {t : Bool} {kvs : List (PyData × D)} (e : viewK st d = some (t, kvs)) (r : RD K ι st H x d) :
    ∃ a, x = .ref a ∧ ((t = false ∧ ∃ xs, Rd H a (.dK xs) ∧ RK K ι st H kvs xs) ∨ (t = true ∧ ∃ xs, Rd H a (.dT xs) ∧ RT K ι st H kvs xs)) := by
  cases d with
  | v z =>
    cases z with
    | dict zs =>
      have e' := Option.some.inj e
      injection e' with e1 e2
      subst e1 e2
      have r' : Rp (Frz ι st) H x (.dict zs) := r
      cases r' with
      | dcK h _ q => exact ⟨_, rfl, .inl ⟨q.kind, _, h, q.rk⟩⟩
      | dcT h _ q z => exact ⟨_, rfl, .inr ⟨q.kind z, _, h, q.rt⟩⟩
    | _ => cases e
  | scr ns => cases e
  | ref n =>
    obtain ⟨a, h1, h2⟩ := r
    cases q : st[n]? with
    | none => simp only [viewK, q] at e; cases e
    | some o =>
      simp only [viewK, q] at e
      have ro := R.obj n o a q h1
      cases o with
      | dct t' kvs' =>
        have e' := Option.some.inj e
        injection e' with e1 e2
        subst e1 e2
        cases t' with
        | false => obtain ⟨xs, h3, h4⟩ := ro; exact ⟨a, h2, .inl ⟨rfl, xs, .inl h3, h4⟩⟩
        | true => obtain ⟨xs, h3, h4⟩ := ro; exact ⟨a, h2, .inr ⟨rfl, xs, .inl h3, h4⟩⟩
      | lck t' kvs' =>
        have e' := Option.some.inj e
        injection e' with e1 e2
        subst e1 e2
        cases t' with
        | false => obtain ⟨xs, o, h3, h4⟩ := ro; exact ⟨a, h2, .inl ⟨rfl, xs, .inr ⟨o, h3⟩, h4⟩⟩
        | true => obtain ⟨xs, o, h3, h4⟩ := ro; exact ⟨a, h2, .inr ⟨rfl, xs, .inr ⟨o, h3⟩, h4⟩⟩
      | _ => cases e
end
/-- what a dict holds: none: no such look; some none: nothing there -/
def findS (st : Sto) (a b : D) : Option (Option D) := match viewK st a, b with
  | some (false, kvs), .v kd => match key1 kd with
    | some _ => some (getK false kvs kd)
    | none => none
  | _, _ => none
theorem findS_at {K : PySem.W.Frag} {ι : Gh} {st : Sto} {H : Hp} (R : SRel K ι st H) {a b : D} {x y : V} {o : Option D} (e : findS st a b = some o) (ra : RD K ι st H x a) (rb : RD K ι st H y b) :
    ∃ p r, x = .ref p ∧ DGet H p y r ∧ ROpt K ι st H o r := by
  unfold findS at e
  split at e
  · rename_i kvs kd e1
    split at e
    · rename_i k e2
      obtain ⟨p, rfl, ⟨_, xs, h1, h2⟩ | ⟨z, _⟩⟩ := viewK_at R e1 ra
      · have rb' : Rp (Frz ι st) H y kd := rb
        rw [kD_of e2] at rb'
        rw [← Option.some.inj e]
        exact ⟨p, valV xs k, rfl, .inl ⟨xs, k, h1, kV_of rb', rfl⟩, RK.get e2 h2⟩
      · cases z
    · cases e
  · cases e
/-- d[k] -/
def lookD : F2 := fun a b st => match findS st a b with
  | some (some d) => .ok d st
  | _ => .stuck
def rDGet : R2 := fun x y H Q => ∃ a v, x = .ref a ∧ DGet H a y (some v) ∧ Q v H
theorem op2_look {K : PySem.W.Frag} {W : XW} : Op2 K W rDGet lookD := by
  intro ι st H x y a b Q R ra rb p
  unfold lookD at p
  split at p
  · rename_i d e
    obtain ⟨q, r, h1, h2, h3⟩ := findS_at R e ra rb
    cases r with
    | none => exact h3.elim
    | some v => exact ⟨q, v, h1, h2, fun _ => p.same R h3⟩
  · exact p.elim
/-- xs[i], t[i], s[i] -/
def ixD : F2 := fun a b st => match viewS st a, iOf b with
  | some xs, some i => match atI xs i with
    | some d => .ok (.v d) st
    | none => .stuck
  | _, _ => match sOf a, iOf b with
    | some z, some i => if z.length ≤ lim then match atI z.cps.toList i with
        | some c => .ok (.v (.str ⟨#[c]⟩)) st
        | none => .stuck
      else .stuck
    | _, _ => .stuck
theorem atI_rp {F : Addr → Prop} {H : Hp} {xs : List V} {ds : List PyData} (r : RpA F H xs ds) {i : Int} {d : PyData} (h : atI ds i = some d) : ∃ x, atI xs i = some x ∧ Rp F H x d := by
  unfold atI at h ⊢
  obtain ⟨j, h1, h2⟩ := Option.bind_eq_some_iff.mp h
  obtain ⟨x, h3, h4⟩ := r.get h2
  exact ⟨x, Option.bind_eq_some_iff.mpr ⟨j, by rw [r.length]; exact h1, h3⟩, h4⟩
theorem op2_ix {K : PySem.W.Frag} {W : XW} : Op2 K W (rIx K) ixD := by
  intro ι st H x y a b Q R ra rb p
  unfold ixD at p
  split at p
  · rename_i xs i e1 e2
    split at p
    · rename_i d e3
      obtain ⟨q, us, rfl, h1, h2⟩ := viewS_at R e1 ra
      obtain ⟨z, h3, h4⟩ := atI_rp h2 e3
      rcases h1 with h1 | h1
      · exact .inl ⟨q, us, i, z, rfl, iOf_at e2 rb, .of h1, h3, fun _ => p.same R h4⟩
      · exact .inr (.inl ⟨q, us, i, z, rfl, iOf_at e2 rb, h1.sq, h3, fun _ => p.same R h4⟩)
    · exact p.elim
  · split at p
    · rename_i z i e1 e2
      split at p
      · rename_i hl
        split at p
        · rename_i c e3
          exact .inr (.inr ⟨z, i, c, sOf_at e1 ra, iOf_at e2 rb, lim_ok hl, e3, fun _ => p.same R (.str _)⟩)
        · exact p.elim
      · exact p.elim
    · exact p.elim
def subsD : F2 := fun a b st => match viewK st a with
  | some _ => lookD a b st
  | none => ixD a b st
section
variable {X : Cx} {W : XW} {a b e : Expr} {ma mb : ME} {pos : Pos}
theorem x_sub' (g : Gd X) (ha : PE X a (TEo X.K W ma)) (hb : PE X b (TEo X.K W mb)) (hs : PlainIx b := by exact fun _ _ => rfl) : PE X (.Subscript a b pos) (TEo X.K W (mBin subsD ma mb)) := by
  have h1 := pe_dget (pos := pos) (by have := g.un; omega) ha hb hs
  have h2 := pe_ix (pos := pos) ix_seq ha hb hs
  refine pe_wrap (pe_or h1 h2) fun σ H Q q => ?_
  have q' := te_or (f := lookD) (g := ixD) (fun a b st => by
    unfold subsD
    cases viewK st a <;> simp) q
  exact q'.imp (fun z => te_bin op2_look z) fun z => te_bin op2_ix z
/-- k in d, x in xs -/
def dinD : F2 := fun a b st => match findS st b a with
  | some o => .ok (.v (.bool o.isSome)) st
  | none => .stuck
def dnotinD : F2 := fun a b st => match findS st b a with
  | some o => .ok (.v (.bool (!o.isSome))) st
  | none => .stuck
def rDIn : R2 := fun y x H Q => ∃ a o, x = .ref a ∧ DGet H a y o ∧ Q (.bl o.isSome) H
def rDNotIn : R2 := fun y x H Q => ∃ a o, x = .ref a ∧ DGet H a y o ∧ Q (.bl (!o.isSome)) H
theorem ROpt.isSome {K : PySem.W.Frag} {ι : Gh} {st : Sto} {H : Hp} : ∀ {o : Option D} {r : Option V}, ROpt K ι st H o r → r.isSome = o.isSome
  | some _, some _, _ => rfl
  | none, none, _ => rfl
  | some _, none, h => h.elim
  | none, some _, h => h.elim
theorem op2_din {K : PySem.W.Frag} : Op2 K W rDIn dinD := by
  intro ι st H x y a b Q R ra rb p
  unfold dinD at p
  split at p
  · rename_i o e
    obtain ⟨q, r, h1, h2, h3⟩ := findS_at R e rb ra
    exact ⟨q, r, h1, h2, fun _ => by rw [h3.isSome]; exact p.same R (.bl _)⟩
  · exact p.elim
theorem op2_dnotin {K : PySem.W.Frag} : Op2 K W rDNotIn dnotinD := by
  intro ι st H x y a b Q R ra rb p
  unfold dnotinD at p
  split at p
  · rename_i o e
    obtain ⟨q, r, h1, h2, h3⟩ := findS_at R e rb ra
    exact ⟨q, r, h1, h2, fun _ => by rw [h3.isSome]; exact p.same R (.bl _)⟩
  · exact p.elim
def inU : F2 := fun a b st => match viewK st b with
  | some _ => dinD a b st
  | none => inD a b st
def notInU : F2 := fun a b st => match viewK st b with
  | some _ => dnotinD a b st
  | none => notInD a b st
/-! comparisons: one rule for value and test -/
theorem pc_wrap {op : CmpOp} {t : TE} {m : ME} (h : PC X op a b t) (hi : ∀ σ H Q, TEo X.K W m σ H Q → t σ H (fun v H' => HF H' → Q v H')) : PC X op a b (TEo X.K W m) :=
  ⟨fun pins s σ H Q I q => thn (h.run pins s σ H _ I (hi σ H Q q)) fun _ _ h1 => thn h1 fun _ _ h2 => thn h2 fun _ _ ⟨v, H', I', r, q'⟩ => ⟨v, H', I', r, q' (hf_of I')⟩⟩
theorem pc_R {op : CmpOp} {r : R2} {ta tb : TE} (ho : OpR X (compareOp op) r) (ha : PE X a ta) (hb : PE X b tb) : PC X op a b (tOp r ta tb) :=
  ⟨fun pins s σ H Q I h => binT ha hb I h fun v u s2 x y H2 I2 rx ry q => ho pins s2 σ H2 x y v u Q I2 rx ry q⟩
theorem pc_or {op : CmpOp} {t u : TE} (h : PC X op a b t) (h' : PC X op a b u) : PC X op a b (fun σ H Q => t σ H Q ∨ u σ H Q) :=
  ⟨fun pins s σ H Q I q => q.elim (h.run pins s σ H Q I) (h'.run pins s σ H Q I)⟩
theorem c_op {op : CmpOp} {r : R2} {f : F2} (ho : OpR X (compareOp op) r) (hf : Op2 X.K W r f) (ha : PE X a (TEo X.K W ma)) (hb : PE X b (TEo X.K W mb)) : PC X op a b (TEo X.K W (mBin f ma mb)) :=
  pc_wrap (pc_R ho ha hb) fun σ H Q q => te_bin hf q
theorem c_in (g : Gd X) (ha : PE X a (TEo X.K W ma)) (hb : PE X b (TEo X.K W mb)) : PC X .In a b (TEo X.K W (mBin inU ma mb)) := by
  have un := g.un
  refine pc_wrap (pc_or (pc_din (X := X) (by omega) ha hb) (pc_R (op_in_seq.or ((op_inD (X := X) (by omega)).or (op_inDT (X := X) (by omega)))) ha hb)) fun σ H Q q => ?_
  have q' := te_or (f := dinD) (g := inD) (fun a b st => by
    unfold inU
    cases viewK st b <;> simp) q
  exact q'.imp (fun z => te_bin op2_din z) fun z => te_bin op2_in z
theorem c_notIn (g : Gd X) (ha : PE X a (TEo X.K W ma)) (hb : PE X b (TEo X.K W mb)) : PC X .NotIn a b (TEo X.K W (mBin notInU ma mb)) := by
  have un := g.un
  refine pc_wrap (pc_or (pc_dnotin (X := X) (by omega) ha hb) (pc_R (op_notIn_seq.or ((op_notInD (X := X) (by omega)).or (op_notInDT (X := X) (by omega)))) ha hb)) fun σ H Q q => ?_
  have q' := te_or (f := dnotinD) (g := notInD) (fun a b st => by
    unfold notInU
    cases viewK st b <;> simp) q
  exact q'.imp (fun z => te_bin op2_dnotin z) fun z => te_bin op2_notIn z
theorem c_lt (ha : PE X a (TEo X.K W ma)) (hb : PE X b (TEo X.K W mb)) : PC X .Lt a b (TEo X.K W (mBin ltD ma mb)) := c_op op_lt (op2_int0 fun _ _ _ _ => .bl _) ha hb
theorem c_le (ha : PE X a (TEo X.K W ma)) (hb : PE X b (TEo X.K W mb)) : PC X .LtE a b (TEo X.K W (mBin leD ma mb)) := c_op op_le (op2_int0 fun _ _ _ _ => .bl _) ha hb
theorem c_gt (ha : PE X a (TEo X.K W ma)) (hb : PE X b (TEo X.K W mb)) : PC X .Gt a b (TEo X.K W (mBin gtD ma mb)) := c_op op_gt (op2_int0 fun _ _ _ _ => .bl _) ha hb
theorem c_ge (ha : PE X a (TEo X.K W ma)) (hb : PE X b (TEo X.K W mb)) : PC X .GtE a b (TEo X.K W (mBin geD ma mb)) := c_op op_ge (op2_int0 fun _ _ _ _ => .bl _) ha hb
theorem c_eq (g : Gd X) (ha : PE X a (TEo X.K W ma)) (hb : PE X b (TEo X.K W mb)) : PC X .Eq a b (TEo X.K W (mBin eqD ma mb)) := c_op (op_eq.or (op_eqD (by have := g.un; omega))) op2_eq ha hb
theorem c_ne (g : Gd X) (ha : PE X a (TEo X.K W ma)) (hb : PE X b (TEo X.K W mb)) : PC X .NotEq a b (TEo X.K W (mBin neD ma mb)) := c_op (op_ne.or (op_neD (by have := g.un; omega))) op2_ne ha hb
theorem c_is (ha : PE X a (TEo X.K W ma)) (hb : PE X b (TEo X.K W mb)) : PC X .Is a b (TEo X.K W (mBin isD ma mb)) := c_op (op_isBl.or op_isN) op2_is ha hb
theorem c_isNot (ha : PE X a (TEo X.K W ma)) (hb : PE X b (TEo X.K W mb)) : PC X .IsNot a b (TEo X.K W (mBin isNotD ma mb)) := c_op (op_notBl.or op_notN) op2_isNot ha hb
end

/-! ### calls of built-ins -/
def fLen : FA := fun ds st => match ds with
  | [d] => match viewS st d with
    | some xs => .ok (.v (.int xs.length)) st
    | none => match sOf d with
      | some z => if z.length ≤ lim then .ok (.v (.int z.length)) st else .stuck
      | none => .stuck
  | _ => .stuck
theorem RDs.one {K : PySem.W.Frag} {ι : Gh} {st : Sto} {H : Hp} {xs : List V} {d : D} (r : RDs K ι st H xs [d]) : ∃ x, xs = [x] ∧ RD K ι st H x d := by
  cases r with
  | cons h t => cases t; exact ⟨_, rfl, h⟩
theorem RDs.two {K : PySem.W.Frag} {ι : Gh} {st : Sto} {H : Hp} {xs : List V} {d e : D} (r : RDs K ι st H xs [d, e]) : ∃ x y, xs = [x, y] ∧ RD K ι st H x d ∧ RD K ι st H y e := by
  cases r with
  | cons h t =>
    obtain ⟨y, rfl, r2⟩ := RDs.one t
    exact ⟨_, y, rfl, h, r2⟩
theorem opA_len {K : PySem.W.Frag} {W : XW} : OpA K W (fun xs H Q => ∃ x n, xs = [x] ∧ LenV K x H n ∧ Q (.int n) H) fLen := by
  intro ι st H xs ds Q R r p
  unfold fLen at p
  split at p
  · rename_i d
    obtain ⟨x, rfl, r1⟩ := r.one
    split at p
    · rename_i zs e
      obtain ⟨q, us, rfl, h1, h2⟩ := viewS_at R e r1
      refine ⟨_, zs.length, rfl, h1.imp (fun h => ⟨us, .of h, h2.length.symm⟩) (fun h => ⟨us, h.sq, h2.length.symm⟩), fun _ => p.same R (.int _)⟩
    · split at p
      · rename_i z e
        split at p
        · rename_i hl
          have e2 := sOf_at e r1
          subst e2
          exact ⟨_, z.length, rfl, ⟨lim_ok hl, rfl⟩, fun _ => p.same R (.int _)⟩
        · exact p.elim
      · exact p.elim
  · exact p.elim
def fAbs : FA := fun ds st => match ds with
  | [d] => match iOf d with
    | some i => .ok (.v (.int (if i < 0 then -i else i))) st
    | none => .stuck
  | _ => .stuck
theorem opA_abs {K : PySem.W.Frag} {W : XW} : OpA K W (fun xs H Q => ∃ i, xs = [.int i] ∧ Q (.int (if i < 0 then -i else i)) H) fAbs := by
  intro ι st H xs ds Q R r p
  unfold fAbs at p
  split at p
  · obtain ⟨x, rfl, r1⟩ := r.one
    split at p
    · rename_i i e
      have e2 := iOf_at e r1
      subst e2
      exact ⟨i, rfl, fun _ => p.same R (.int _)⟩
    · exact p.elim
  · exact p.elim
def fInt : FA := fun ds st => match ds with
  | [d] => match iOf d with
    | some i => .ok (.v (.int i)) st
    | none => match bOf d with
      | some k => .ok (.v (.int (if k then 1 else 0))) st
      | none => .stuck
  | _ => .stuck
theorem opA_int {K : PySem.W.Frag} {W : XW} : OpA K W (fun xs H Q => (∃ i, xs = [.int i] ∧ Q (.int i) H) ∨ ∃ k, xs = [.bl k] ∧ Q (.int (if k then 1 else 0)) H) fInt := by
  intro ι st H xs ds Q R r p
  unfold fInt at p
  split at p
  · obtain ⟨x, rfl, r1⟩ := r.one
    split at p
    · rename_i i e
      have e2 := iOf_at e r1
      subst e2
      exact .inl ⟨i, rfl, fun _ => p.same R (.int _)⟩
    · split at p
      · rename_i i e
        have e2 := bOf_at e r1
        subst e2
        exact .inr ⟨i, rfl, fun _ => p.same R (.int _)⟩
      · exact p.elim
  · exact p.elim
def f2I (g : Int → Int → Int) : FA := fun ds st => match ds with
  | [a, b] => match iOf a, iOf b with
    | some i, some j => .ok (.v (.int (g i j))) st
    | _, _ => .stuck
  | _ => .stuck
theorem opA_2I {K : PySem.W.Frag} {W : XW} {g : Int → Int → Int} : OpA K W (fun xs H Q => ∃ i j, xs = [.int i, .int j] ∧ Q (.int (g i j)) H) (f2I g) := by
  intro ι st H xs ds Q R r p
  unfold f2I at p
  split at p
  · obtain ⟨x, y, rfl, r1, r2⟩ := r.two
    split at p
    · rename_i i j e1 e2
      have q1 := iOf_at e1 r1
      have q2 := iOf_at e2 r2
      subst q1 q2
      exact ⟨i, j, rfl, fun _ => p.same R (.int _)⟩
    · exact p.elim
  · exact p.elim
def intMax (i j : Int) : Int := if j > i then j else i
def intMin (i j : Int) : Int := if j < i then j else i
/-- all ints, all bools of a list -/
def intsOf : List PyData → Option (List Int)
  | [] => some []
  | .int i :: r => (intsOf r).map (i :: ·)
  | _ :: _ => none
def bolsOf : List PyData → Option (List Bool)
  | [] => some []
  | .bool i :: r => (bolsOf r).map (i :: ·)
  | _ :: _ => none
theorem intsOf_at {F : Addr → Prop} {H : Hp} : ∀ {ds : List PyData} {ns : List Int} {xs : List V}, intsOf ds = some ns → RpA F H xs ds → xs = ns.map V.int
  | [], ns, _, e, .nil => by cases e; rfl
  | d :: r, ns, _, e, .cons h t => by
    cases d with
    | int i =>
      obtain ⟨ms, e1, rfl⟩ := Option.map_eq_some_iff.mp (show (intsOf r).map (i :: ·) = some ns from e)
      cases h
      rw [intsOf_at e1 t]
      rfl
    | _ => cases e
theorem bolsOf_at {F : Addr → Prop} {H : Hp} : ∀ {ds : List PyData} {ns : List Bool} {xs : List V}, bolsOf ds = some ns → RpA F H xs ds → xs = ns.map V.bl
  | [], ns, _, e, .nil => by cases e; rfl
  | d :: r, ns, _, e, .cons h t => by
    cases d with
    | bool i =>
      obtain ⟨ms, e1, rfl⟩ := Option.map_eq_some_iff.mp (show (bolsOf r).map (i :: ·) = some ns from e)
      cases h
      rw [bolsOf_at e1 t]
      rfl
    | _ => cases e
end Fw

namespace Fw
open PySem PySem.Spec PyProof.Rows L2

/-! ### more calls -/
def fSum : FA := fun ds st => match ds with
  | [d] => match viewS st d with
    | some xs => match intsOf xs with
      | some ns => .ok (.v (.int ns.sum)) st
      | none => .stuck
    | none => .stuck
  | _ => .stuck
def rSumT (K : PySem.W.Frag) : List V → Hp → VK → Prop := fun vs H Q => ∃ (a : Addr) (ns : List Int), vs = [V.ref a] ∧ SqT K H a (ns.map V.int) ∧ Q (.int ns.sum) H
theorem cr_sumT {X : Cx} (hc : X.calm = true) : CallR X (.builtin "sum") (rSumT X.K) := by
  intro pins s σ H vs us Q I r h
  obtain ⟨a, ns, rfl, hs, q⟩ := h
  obtain ⟨its, rv, hl, _⟩ := I.tuple hs
  rw [Vals.ref1 r]
  obtain ⟨o, e1, e2, n, e3⟩ := hl
  obtain ⟨xs, hx⟩ := rv.ints.allInts.items
  have hn : numsOf its.toArray.toList = ns := rv.ints.numsOf
  have ht : s.heap.IsTuple a its.toArray := ⟨o, e1, e2, n, e3⟩
  rw [hx] at ht hn
  rw [nums_intItems] at hn
  refine PySem.W.ktm_sumG (I.ok.hd hc) ht fun h' tk t' hk => ?_
  rw [preSum_eq, List.take_of_length_le (by simp), hn]
  exact ⟨.int _, H, I.kept hk, ⟨_, rfl⟩, q⟩
theorem opA_sum {K : PySem.W.Frag} {W : XW} : OpA K W (fun xs H Q => rSum K xs H Q ∨ rSumT K xs H Q) fSum := by
  intro ι st H xs ds Q R r p
  unfold fSum at p
  split at p
  · obtain ⟨x, rfl, r1⟩ := r.one
    split at p
    · rename_i zs e
      split at p
      · rename_i ns e2
        obtain ⟨q, us, rfl, h1, h2⟩ := viewS_at R e r1
        have h3 := intsOf_at e2 h2
        subst h3
        rcases h1 with h1 | h1
        · exact .inl ⟨q, ns, rfl, .of h1, fun _ => p.same R (.int _)⟩
        · exact .inr ⟨q, ns, rfl, h1.sq, fun _ => p.same R (.int _)⟩
      · exact p.elim
    · exact p.elim
  · exact p.elim
def lstMax : List Int → Int
  | [] => 0
  | [a] => a
  | a :: r => max a (lstMax r)
def lstMin : List Int → Int
  | [] => 0
  | [a] => a
  | a :: r => min a (lstMin r)
theorem lstMax_uniq : ∀ {ns : List Int} {m : Int}, m ∈ ns → (∀ y ∈ ns, y ≤ m) → m = lstMax ns
  | [], _, h, _ => by cases h
  | [a], m, h, _ => by simpa [lstMax] using h
  | a :: b :: r, m, h, hm => by
    have e : lstMax (a :: b :: r) = max a (lstMax (b :: r)) := rfl
    rw [e]
    have key : ∀ (l : List Int), l ≠ [] → lstMax l ∈ l ∧ ∀ y ∈ l, y ≤ lstMax l := by
      intro l
      induction l with
      | nil => intro h; exact absurd rfl h
      | cons x t ih =>
        intro _
        cases t with
        | nil => simp [lstMax]
        | cons y t =>
          obtain ⟨i1, i2⟩ := ih (by simp)
          have e : lstMax (x :: y :: t) = max x (lstMax (y :: t)) := rfl
          rw [e]
          constructor
          · by_cases hx : x ≤ lstMax (y :: t)
            · rw [Int.max_eq_right hx]; exact List.mem_cons_of_mem _ i1
            · rw [Int.max_eq_left (by omega)]; exact List.mem_cons_self
          · intro z hz
            rcases List.mem_cons.mp hz with rfl | hz
            · omega
            · have := i2 z hz; omega
    obtain ⟨k1, k2⟩ := key (b :: r) (by simp)
    rcases List.mem_cons.mp h with rfl | h
    · have := hm _ (List.mem_cons_of_mem _ k1)
      omega
    · have h1 := k2 m h
      have h2 := hm _ (List.mem_cons_of_mem _ k1)
      have h3 := hm a List.mem_cons_self
      omega
theorem lstMin_uniq : ∀ {ns : List Int} {m : Int}, m ∈ ns → (∀ y ∈ ns, m ≤ y) → m = lstMin ns
  | [], _, h, _ => by cases h
  | [a], m, h, _ => by simpa [lstMin] using h
  | a :: b :: r, m, h, hm => by
    have e : lstMin (a :: b :: r) = min a (lstMin (b :: r)) := rfl
    rw [e]
    have key : ∀ (l : List Int), l ≠ [] → lstMin l ∈ l ∧ ∀ y ∈ l, lstMin l ≤ y := by
      intro l
      induction l with
      | nil => intro h; exact absurd rfl h
      | cons x t ih =>
        intro _
        cases t with
        | nil => simp [lstMin]
        | cons y t =>
          obtain ⟨i1, i2⟩ := ih (by simp)
          have e : lstMin (x :: y :: t) = min x (lstMin (y :: t)) := rfl
          rw [e]
          constructor
          · by_cases hx : x ≤ lstMin (y :: t)
            · rw [Int.min_eq_left hx]; exact List.mem_cons_self
            · rw [Int.min_eq_right (by omega)]; exact List.mem_cons_of_mem _ i1
          · intro z hz
            rcases List.mem_cons.mp hz with rfl | hz
            · omega
            · have := i2 z hz; omega
    obtain ⟨k1, k2⟩ := key (b :: r) (by simp)
    rcases List.mem_cons.mp h with rfl | h
    · have := hm _ (List.mem_cons_of_mem _ k1)
      omega
    · have h1 := k2 m h
      have h2 := hm _ (List.mem_cons_of_mem _ k1)
      have h3 := hm a List.mem_cons_self
      omega
def fIntsL (g : List Int → Int) : FA := fun ds st => match ds with
  | [d] => match viewL st d with
    | some xs => match intsOf xs with
      | some ns => if 0 < ns.length then .ok (.v (.int (g ns))) st else .stuck
      | none => .stuck
    | none => .stuck
  | _ => .stuck
theorem opA_maxL {K : PySem.W.Frag} {W : XW} : OpA K W (rMax K) (fIntsL lstMax) := by
  intro ι st H xs ds Q R r p
  unfold fIntsL at p
  split at p
  · obtain ⟨x, rfl, r1⟩ := r.one
    split at p
    · rename_i zs e
      split at p
      · rename_i ns e2
        split at p
        · rename_i hl
          obtain ⟨q, us, rfl, h1, h2⟩ := viewL_at R e r1
          have h3 := intsOf_at e2 h2
          subst h3
          exact ⟨q, ns, rfl, .of h1, hl, fun m h4 h5 _ => by rw [lstMax_uniq h4 h5]; exact p.same R (.int _)⟩
        · exact p.elim
      · exact p.elim
    · exact p.elim
  · exact p.elim
theorem opA_minL {K : PySem.W.Frag} {W : XW} : OpA K W (rMin K) (fIntsL lstMin) := by
  intro ι st H xs ds Q R r p
  unfold fIntsL at p
  split at p
  · obtain ⟨x, rfl, r1⟩ := r.one
    split at p
    · rename_i zs e
      split at p
      · rename_i ns e2
        split at p
        · rename_i hl
          obtain ⟨q, us, rfl, h1, h2⟩ := viewL_at R e r1
          have h3 := intsOf_at e2 h2
          subst h3
          exact ⟨q, ns, rfl, .of h1, hl, fun m h4 h5 _ => by rw [lstMin_uniq h4 h5]; exact p.same R (.int _)⟩
        · exact p.elim
      · exact p.elim
    · exact p.elim
  · exact p.elim
def fBools (g : List Bool → Bool) : FA := fun ds st => match ds with
  | [d] => match viewL st d with
    | some xs => match bolsOf xs with
      | some ns => .ok (.v (.bool (g ns))) st
      | none => .stuck
    | none => .stuck
  | _ => .stuck
theorem opA_bools {K : PySem.W.Frag} {W : XW} {g : List Bool → Bool} : OpA K W (fun vs H Q => ∃ (a : Addr) (bs : List Bool), vs = [V.ref a] ∧ SqL K H a (bs.map V.bl) ∧ Q (.bl (g bs)) H) (fBools g) := by
  intro ι st H xs ds Q R r p
  unfold fBools at p
  split at p
  · obtain ⟨x, rfl, r1⟩ := r.one
    split at p
    · rename_i zs e
      split at p
      · rename_i ns e2
        obtain ⟨q, us, rfl, h1, h2⟩ := viewL_at R e r1
        have h3 := bolsOf_at e2 h2
        subst h3
        exact ⟨q, ns, rfl, .of h1, fun _ => p.same R (.bl _)⟩
      · exact p.elim
    · exact p.elim
  · exact p.elim
abbrev fAny : FA := fBools fun bs => bs.any id
abbrev fAll : FA := fBools fun bs => bs.all id
/-- tuple(x) -/
def fTuple : FA := fun ds st => match ds with
  | [d] => match viewS st d with
    | some xs => .ok (.v (.tuple xs)) st
    | none => .stuck
  | _ => .stuck
theorem call_tupleN {X : Cx} : CallR X (.type "tuple") (fun xs H Q => ∃ p ys, xs = [.ref p] ∧ ((SqL X.K H p ys ∧ NewT H ys Q) ∨ (SqT X.K H p ys ∧ Q (.ref p) H))) := by
  intro pins s σ H xs us Q I r h
  obtain ⟨p, ys, rfl, h⟩ := h
  obtain ⟨u, rfl, rx⟩ := vals1 r
  cases rx
  rcases h with ⟨hq, q⟩ | ⟨hq, q⟩
  · obtain ⟨its, rv, pl, hz⟩ := I.list hq
    have hlen := rv.length
    refine call_tuple_list pl.isList (fun h2 kp => ?_) (by rw [List.size_toArray]; omega)
    exact q.laid (t' := s.toks) (I.kept (t' := s.toks) kp) rv hz
  · obtain ⟨its, _, pl, _⟩ := I.tuple hq
    exact call_tuple_same pl ⟨.ref p, H, I, rfl, q⟩
theorem opA_tuple {K : PySem.W.Frag} {W : XW} : OpA K W (fun xs H Q => ∃ p ys, xs = [.ref p] ∧ ((SqL K H p ys ∧ NewT H ys Q) ∨ (SqT K H p ys ∧ Q (.ref p) H))) fTuple := by
  intro ι st H xs ds Q R r p
  unfold fTuple at p
  split at p
  · rename_i d
    obtain ⟨x, rfl, r1⟩ := r.one
    split at p
    · rename_i zs e
      obtain ⟨q, us, rfl, h1, h2⟩ := viewS_at R e r1
      rcases h1 with h1 | ⟨o, h1, h3⟩
      · exact ⟨q, us, rfl, .inl ⟨.of h1, fun a o ha ho hf => p.newTup R h2 ha ho hf⟩⟩
      · exact ⟨q, us, rfl, .inr ⟨.inl (.inr ⟨o, h1⟩), fun _ => p.same R (.tup h1 h3 ⟨R.hid_frz h1, fun n u hn hi => by
          by_cases hd : u = O.dead
          · exact hd
          · obtain ⟨w, e4, e5⟩ := R.live hn hi hd
            have ro := R.obj n u q hn hi
            rw [h1] at e4
            cases u with
            | dead => exact absurd rfl hd
            | lst _ => obtain ⟨_, e6, _⟩ := ro; rw [h1] at e6; cases e6
            | dct t _ => cases t <;> (obtain ⟨_, e6, _⟩ := ro; rw [h1] at e6; cases e6)
            | lck t _ => cases t <;> (obtain ⟨_, _, e6, _⟩ := ro; rw [h1] at e6; cases e6)⟩ h2)⟩⟩
    · exact p.elim
  · exact p.elim
/-- repr(x) of data without dicts -/
def fRepr : FA := fun ds st => match ds with
  | [d] => match viewP st d with
    | some z => if z.showable && !z.hasDict && decide (z.depth ≤ 60) && decide (z.shown.length ≤ lim) then .ok (.v (.str z.shown)) st else .stuck
    | none => .stuck
  | _ => .stuck
def rRepr (K : PySem.W.Frag) : List V → Hp → VK → Prop := fun xs H Q => ∃ x z, xs = [x] ∧ Dp K H x z ∧ z.showable = true ∧ z.hasDict = false ∧ z.depth ≤ 60 ∧ z.shown.length ≤ sizeLine ∧ Q (.str z.shown) H
theorem call_reprN {X : Cx} (g : Gd X) : CallR X (.builtin "repr") (rRepr X.K) := by
  intro pins s σ H xs us Q I r h
  obtain ⟨x, z, rfl, hd, h1, h2, h3, h4, q⟩ := h
  obtain ⟨u, rfl, ru⟩ := vals1 r
  obtain ⟨as, rd⟩ := Dp.reads I z x u hd ru
  cases z with
  | none =>
    cases rd
    exact PySem.P.repr_of_none ⟨.str _, H, I.tok _, ⟨_, rfl⟩, by simpa only [PyData.shown] using q⟩
  | bool b =>
    cases rd
    exact PySem.P.repr_of_bool ⟨.str _, H, I.tok _, ⟨_, rfl⟩, by simpa only [PyData.shown] using q⟩
  | int i =>
    cases rd
    exact PySem.P.repr_of_int (by simpa [PyData.showable] using h1) ⟨.str _, H, I.tok _, ⟨_, rfl⟩, by simpa only [PyData.shown] using q⟩
  | str y =>
    cases rd
    exact PySem.P.repr_of_str ⟨.str _, H, I.tok _, ⟨_, rfl⟩, by simpa only [PyData.shown] using q⟩ (by simpa only [PyData.shown] using h4)
  | list zs =>
    cases rd with
    | list e1 e2 e3 e4 =>
      refine repr_of_reads' (Reads.list e1 e2 e3 e4) h1 (PyData.noDict_hsm h2) g.gu (by have := g.un; omega) (fun _ _ e => e) (fun h' u tk hk => ⟨.str _, H, I.kept hk, ⟨_, rfl⟩, q⟩) h4
  | tuple zs =>
    cases rd with
    | tuple e1 e2 e3 e4 =>
      refine repr_of_reads' (Reads.tuple e1 e2 e3 e4) h1 (PyData.noDict_hsm h2) g.gu (by have := g.un; omega) (fun _ _ e => e) (fun h' u tk hk => ⟨.str _, H, I.kept hk, ⟨_, rfl⟩, q⟩) h4
  | dict zs => simp [PyData.hasDict] at h2
theorem opA_repr {K : PySem.W.Frag} {W : XW} : OpA K W (rRepr K) fRepr := by
  intro ι st H xs ds Q R r p
  unfold fRepr at p
  split at p
  · obtain ⟨x, rfl, r1⟩ := r.one
    split at p
    · rename_i z e
      split at p
      · rename_i h
        simp only [Bool.and_eq_true, Bool.not_eq_true', decide_eq_true_eq] at h
        exact ⟨x, z, rfl, viewP_at R e r1 h.1.1.2, h.1.1.1, h.1.1.2, h.1.2, lim_ok h.2, fun _ => p.same R (.str _)⟩
      · exact p.elim
    · exact p.elim
  · exact p.elim

/-! ### fresh lists: read, or put into the store -/
abbrev MF := Ev → Sto → Out (List PyData)
def PF1 (K : PySem.W.Frag) (ι : Gh) (st : Sto) (H : Hp) (Q : VK) (zs : List PyData) (st' : Sto) : Prop :=
  ∀ ι' H' xs p, SRel K ι' st' H' → Ext ι st H ι' st' H' → RpA (Frz ι' st') H' xs zs → H' p = none → HF (upd H' p (.lst xs)) → Q (.ref p) (upd H' p (.lst xs))
def TFo (K : PySem.W.Frag) (W : XW) (m : MF) : TE := fun σ H Q => ∃ ι env st, SRel K ι st H ∧ EvR K ι st H σ env ∧ (m env st).post (PF1 K ι st H Q) (PX1 K W ι st H)
def mFrz (m : MF) : ME := fun env st => (m env st).bind fun zs s1 => .ok (.v (.list zs)) s1
def mNew (m : MF) : ME := fun env st => (m env st).bind fun zs s1 => .ok (.ref s1.length) (s1 ++ [.lst zs])
section
variable {X : Cx} {W : XW} {e : Expr}
theorem pf_wrap {t : TE} {m : MF} (h : PE X e t) (hi : ∀ σ H Q, TFo X.K W m σ H Q → t σ H (fun v H' => HF H' → Q v H')) : PE X e (TFo X.K W m) :=
  ⟨fun pins s σ H Q I q => thn (h.run pins s σ H _ I (hi σ H Q q)) fun _ _ ⟨v, H', I', r, q'⟩ => ⟨v, H', I', r, q' (hf_of I')⟩⟩
theorem x_frz {m : MF} (h : PE X e (TFo X.K W m)) : PE X e (TEo X.K W (mFrz m)) := pe_wrap h fun σ H Q q => by
  obtain ⟨ι, env, st, R, EV, p⟩ := q
  refine ⟨ι, env, st, R, EV, Out.post_mono (Out.post_bind p) (fun zs s1 q ι1 H1 xs a R1 E1 ra ha hf _ => ?_) fun _ _ q => q⟩
  exact q ι1 _ _ (R1.fresh ha hf) (E1.trans (Ext.fresh R1 ha)) (.lst upd_same (R1.frz_new ha) (ra.ext (Ext.fresh R1 ha)))
theorem x_new {m : MF} (h : PE X e (TFo X.K W m)) : PE X e (TEo X.K W (mNew m)) := pe_wrap h fun σ H Q q => by
  obtain ⟨ι, env, st, R, EV, p⟩ := q
  refine ⟨ι, env, st, R, EV, Out.post_mono (Out.post_bind p) (fun zs s1 q ι1 H1 xs a R1 E1 ra ha hf _ => ?_) fun _ _ q => q⟩
  have E2 : Ext ι1 s1 H1 (ι1.psh a) (s1 ++ [.lst zs]) (upd H1 a (.lst xs)) := Ext.push R1 ha
  refine q (ι1.psh a) _ _ (R1.push ha hf ⟨xs, upd_same, ra.ext E2⟩ rfl) (E1.trans E2) ⟨a, ?_, rfl⟩
  show (ι1.ad ++ [a])[s1.length]? = _
  rw [← R1.len, List.getElem?_append_right (Nat.le_refl _), Nat.sub_self]
  rfl
end
/-- an operation with a fresh list -/
abbrev GA := List D → Sto → Out (List PyData)
def mfArg (f : GA) (ma : MA) : MF := fun env st => (ma env st).bind fun ds s1 => f ds s1
def mfBin (f : D → D → Sto → Out (List PyData)) (ma mb : ME) : MF := fun env st => (ma env st).bind fun a s1 => (mb env s1).bind fun b s2 => f a b s2
/-- the rule's wish at a new list -/
def NewL (H : Hp) (xs : List V) (Q : VK) : Prop := ∀ p, H p = none → Q (.ref p) (upd H p (.lst xs))
theorem PF1.new {K : PySem.W.Frag} {ι : Gh} {st : Sto} {H : Hp} {Q : VK} {zs : List PyData} (h : PF1 K ι st H Q zs st) (R : SRel K ι st H) {xs : List V} (r : RpA (Frz ι st) H xs zs) : NewL H xs (fun v H' => HF H' → Q v H') :=
  fun p hp hf => h ι H xs p R Ext.refl r hp hf
theorem PF1.ext {K : PySem.W.Frag} {ι ι' : Gh} {st st' s2 : Sto} {H H' : Hp} {Q : VK} {zs : List PyData} (h : PF1 K ι st H Q zs s2) (e : Ext ι st H ι' st' H') : PF1 K ι' st' H' Q zs s2 :=
  fun ι2 H2 xs p R E r => h ι2 H2 xs p R (e.trans E) r
def OpFA (K : PySem.W.Frag) (W : XW) (r : List V → Hp → VK → Prop) (f : GA) : Prop := ∀ (ι : Gh) (st : Sto) (H : Hp) (xs : List V) (ds : List D) (Q : VK), SRel K ι st H → RDs K ι st H xs ds →
  (f ds st).post (PF1 K ι st H Q) (PX1 K W ι st H) → r xs H (fun v H' => HF H' → Q v H')
def OpF2 (K : PySem.W.Frag) (W : XW) (r : R2) (f : D → D → Sto → Out (List PyData)) : Prop := ∀ (ι : Gh) (st : Sto) (H : Hp) (x y : V) (a b : D) (Q : VK), SRel K ι st H → RD K ι st H x a → RD K ι st H y b →
  (f a b st).post (PF1 K ι st H Q) (PX1 K W ι st H) → r x y H (fun v H' => HF H' → Q v H')
section
variable {K : PySem.W.Frag} {W : XW} {σ : L2.St} {H : Hp} {Q : VK} {ma mb : ME}
theorem tf_arg {r : List V → Hp → VK → Prop} {f : GA} {m : MA} (hf : OpFA K W r f) (h : TFo K W (mfArg f m) σ H Q) : TAo K W m σ H fun xs H1 => r xs H1 (fun v H' => HF H' → Q v H') := by
  obtain ⟨ι, env, st, R, EV, p⟩ := h
  refine ⟨ι, env, st, R, EV, Out.post_mono (Out.post_bind p) (fun a s1 q ι1 H1 x R1 E1 ra => ?_) fun _ _ q => q⟩
  exact hf ι1 s1 H1 x a Q R1 ra (Out.post_mono q (fun _ _ z => z.ext E1) fun _ _ z => z.ext E1)
theorem tf_bin {r : R2} {f : D → D → Sto → Out (List PyData)} (hf : OpF2 K W r f) (h : TFo K W (mfBin f ma mb) σ H Q) : tOp r (TEo K W ma) (TEo K W mb) σ H (fun v H' => HF H' → Q v H') := by
  obtain ⟨ι, env, st, R, EV, p⟩ := h
  refine ⟨ι, env, st, R, EV, Out.post_mono (Out.post_bind p) (fun a s1 q ι1 H1 x R1 E1 ra => ?_) fun _ _ q => q⟩
  refine ⟨ι1, env, s1, R1, EV.ext E1, Out.post_mono (Out.post_bind q) (fun b s2 q2 ι2 H2 y R2 E2 rb => ?_) fun _ _ z => z.ext E1⟩
  exact hf ι2 s2 H2 x y a b Q R2 (ra.ext E2) rb (Out.post_mono q2 (fun _ _ z => (z.ext E1).ext E2) fun _ _ z => (z.ext E1).ext E2)
end
/-- [a, b, ..] -/
def gDisp : GA := fun ds st => match valsOf ds with
  | some zs => if zs.length ≤ 1000 then .ok zs st else .stuck
  | none => .stuck
theorem opF_disp {K : PySem.W.Frag} {W : XW} : OpFA K W (fun xs H Q => xs.length ≤ sizeLine ∧ NewL H xs Q) gDisp := by
  intro ι st H xs ds Q R r p
  unfold gDisp at p
  split at p
  · rename_i zs e
    split at p
    · rename_i hl
      have ra := valsOf_at e r
      exact ⟨lim1000 (xs_len ra hl), p.new R ra⟩
    · exact p.elim
  · exact p.elim
/-- list(x) -/
def gList : GA := fun ds st => match ds with
  | [d] => match viewS st d with
    | some xs => .ok xs st
    | none => .stuck
  | _ => .stuck
theorem opF_list {K : PySem.W.Frag} {W : XW} : OpFA K W (fun xs H Q => ∃ p ys, xs = [.ref p] ∧ (SqL K H p ys ∨ SqT K H p ys) ∧ ∀ l, H l = none → Q (.ref l) (upd H l (.lst ys))) gList := by
  intro ι st H xs ds Q R r p
  unfold gList at p
  split at p
  · obtain ⟨x, rfl, r1⟩ := r.one
    split at p
    · rename_i zs e
      obtain ⟨q, us, rfl, h1, h2⟩ := viewS_at R e r1
      exact ⟨q, us, rfl, h1.imp .of KTup.sq, p.new R h2⟩
    · exact p.elim
  · exact p.elim
/-- sorted(x), x of ints -/
def insI (a : Int) : List Int → List Int
  | [] => [a]
  | b :: r => if a ≤ b then a :: b :: r else b :: insI a r
def sortI : List Int → List Int
  | [] => []
  | a :: r => insI a (sortI r)
theorem insI_perm (a : Int) : ∀ l : List Int, (insI a l).Perm (a :: l)
  | [] => .refl _
  | b :: r => by
    unfold insI
    split
    · exact .refl _
    · exact ((insI_perm a r).cons b).trans (.swap a b r)
theorem sortI_perm : ∀ l : List Int, (sortI l).Perm l
  | [] => .refl _
  | a :: r => (insI_perm a (sortI r)).trans ((sortI_perm r).cons a)
theorem insI_sorted (a : Int) : ∀ l : List Int, l.Pairwise (· ≤ ·) → (insI a l).Pairwise (· ≤ ·)
  | [], _ => by simp [insI]
  | b :: r, h => by
    unfold insI
    split
    · rename_i hab
      refine List.pairwise_cons.mpr ⟨fun c hc => ?_, h⟩
      rcases List.mem_cons.mp hc with rfl | hc
      · exact hab
      · exact Int.le_trans hab ((List.pairwise_cons.mp h).1 c hc)
    · rename_i hab
      refine List.pairwise_cons.mpr ⟨fun c hc => ?_, insI_sorted a r (List.pairwise_cons.mp h).2⟩
      rcases List.mem_cons.mp ((insI_perm a r).mem_iff.mp hc) with rfl | hc
      · omega
      · exact (List.pairwise_cons.mp h).1 c hc
theorem sortI_sorted : ∀ l : List Int, (sortI l).Pairwise (· ≤ ·)
  | [] => .nil
  | a :: r => insI_sorted a _ (sortI_sorted r)
theorem sorted_uniq : ∀ {l m : List Int}, l.Perm m → l.Pairwise (· ≤ ·) → m.Pairwise (· ≤ ·) → l = m
  | [], m, h, _, _ => (h.symm.eq_nil).symm ▸ rfl
  | a :: r, [], h, _, _ => by cases h.eq_nil
  | a :: r, b :: t, h, h1, h2 => by
    have ha : a ∈ b :: t := h.mem_iff.mp List.mem_cons_self
    have hb : b ∈ a :: r := h.mem_iff.mpr List.mem_cons_self
    have e : a = b := by
      rcases List.mem_cons.mp ha with e | ha
      · exact e
      · rcases List.mem_cons.mp hb with e | hb
        · exact e.symm
        · have q1 := (List.pairwise_cons.mp h1).1 b hb
          have q2 := (List.pairwise_cons.mp h2).1 a ha
          omega
    subst e
    rw [sorted_uniq (List.Perm.cons_inv h) (List.pairwise_cons.mp h1).2 (List.pairwise_cons.mp h2).2]
def gSortI : GA := fun ds st => match ds with
  | [d] => match viewL st d with
    | some xs => match intsOf xs with
      | some ns => .ok ((sortI ns).map .int) st
      | none => .stuck
    | none => .stuck
  | _ => .stuck
theorem rpA_ints {F : Addr → Prop} {H : Hp} : ∀ ns : List Int, RpA F H (ns.map V.int) (ns.map PyData.int)
  | [] => .nil
  | n :: r => .cons (.int n) (rpA_ints r)
theorem opF_sortI {K : PySem.W.Frag} {W : XW} : OpFA K W (rSortedI K) gSortI := by
  intro ι st H xs ds Q R r p
  unfold gSortI at p
  split at p
  · obtain ⟨x, rfl, r1⟩ := r.one
    split at p
    · rename_i zs e
      split at p
      · rename_i ns e2
        obtain ⟨q, us, rfl, h1, h2⟩ := viewL_at R e r1
        have h3 := intsOf_at e2 h2
        subst h3
        refine ⟨q, ns, rfl, .of h1, fun ns' a hp hs ha hf => ?_⟩
        have e3 : ns' = sortI ns := sorted_uniq (hp.trans (sortI_perm ns).symm) hs (sortI_sorted ns)
        subst e3
        exact p.new R (rpA_ints _) a ha hf
      · exact p.elim
    · exact p.elim
  · exact p.elim
/-- xs + ys, xs * k of lists -/
def gCat : D → D → Sto → Out (List PyData) := fun a b st => match viewL st a, viewL st b with
  | some xs, some ys => if xs.length + ys.length ≤ lim then .ok (xs ++ ys) st else .stuck
  | _, _ => .stuck
theorem opF_cat {K : PySem.W.Frag} {W : XW} : OpF2 K W rCat gCat := by
  intro ι st H x y a b Q R ra rb p
  unfold gCat at p
  split at p
  · rename_i xs ys e1 e2
    split at p
    · rename_i hl
      obtain ⟨a1, us, rfl, h1, r1⟩ := viewL_at R e1 ra
      obtain ⟨b1, vs, rfl, h2, r2⟩ := viewL_at R e2 rb
      have hz : us.length + vs.length ≤ sizeLine := by rw [r1.length, r2.length]; exact lim_ok hl
      exact ⟨a1, b1, us, vs, rfl, rfl, h1, h2, hz, p.new R (r1.append r2)⟩
    · exact p.elim
  · exact p.elim
def gRep : D → D → Sto → Out (List PyData) := fun a b st => match viewL st a, iOf b with
  | some xs, some k => if -1000000 ≤ k ∧ k ≤ 1000000 ∧ xs.length * k.toNat ≤ lim then .ok (List.replicate k.toNat xs).flatten st else .stuck
  | _, _ => .stuck
theorem opF_rep {K : PySem.W.Frag} {W : XW} : OpF2 K W rRep gRep := by
  intro ι st H x y a b Q R ra rb p
  unfold gRep at p
  split at p
  · rename_i xs k e1 e2
    split at p
    · rename_i h
      obtain ⟨a1, us, rfl, h1, r1⟩ := viewL_at R e1 ra
      exact ⟨a1, k, us, rfl, iOf_at e2 rb, h1, by omega, by omega, by rw [r1.length]; exact lim_ok h.2.2, p.new R (r1.rep _)⟩
    · exact p.elim
  · exact p.elim
section
variable {X : Cx} {W : XW} {a b e : Expr} {es : List Expr} {ma mb : ME} {m : MA} {pos p : Pos}
theorem xf_disp (h : PA X es (TAo X.K W m)) : PE X (.List es pos) (TFo X.K W (mfArg gDisp m)) := pf_wrap (pe_lst h) fun σ H Q q => tf_arg opF_disp q
theorem xf_list {x : Str} (hg : Gl X x) (hm : X.mg x = none) (hv : bootBuiltins x = some (.type "list")) (ha : PA X (e :: es) (TAo X.K W m)) (hn : x ≠ "__name__" := by decide) (hdb : (x == ("__debug__" : Str)) = false := by decide)
    (he : starEach (e :: es) X.env = (false, eval e X.env) :: starEach es X.env := by rfl) (hpl : (backTo pos (starEach es X.env)).any (·.1) = false := by rfl) : PE X (.Call (.Name x p) (e :: es) [] pos) (TFo X.K W (mfArg gList m)) :=
  pf_wrap (pe_callTy call_list_of hg hm hv ha hn hdb he hpl) fun σ H Q q => tf_arg opF_list q
theorem xf_sortI {x : Str} (hg : Gl X x) (hm : X.mg x = none) (hv : bootBuiltins x = some (.builtin "sorted")) (ha : PA X (e :: es) (TAo X.K W m)) (hn : x ≠ "__name__" := by decide) (hdb : (x == ("__debug__" : Str)) = false := by decide)
    (he : starEach (e :: es) X.env = (false, eval e X.env) :: starEach es X.env := by rfl) (hpl : (backTo pos (starEach es X.env)).any (·.1) = false := by rfl) : PE X (.Call (.Name x p) (e :: es) [] pos) (TFo X.K W (mfArg gSortI m)) :=
  pf_wrap (pe_callB cr_sortedI hg hm hv ha hn hdb he hpl) fun σ H Q q => tf_arg opF_sortI q
theorem xf_cat (ha : PE X a (TEo X.K W ma)) (hb : PE X b (TEo X.K W mb)) : PE X (.BinOp a .Add b pos) (TFo X.K W (mfBin gCat ma mb)) := pf_wrap (pe_op op_cat ha hb) fun σ H Q q => tf_bin opF_cat q
theorem xf_rep (ha : PE X a (TEo X.K W ma)) (hb : PE X b (TEo X.K W mb)) : PE X (.BinOp a .Mult b pos) (TFo X.K W (mfBin gRep ma mb)) := pf_wrap (pe_op op_rep ha hb) fun σ H Q q => tf_bin opF_rep q
end
end Fw

namespace Fw
open PySem PySem.Spec PyProof.Rows L2

/-! ### slices -/
abbrev MO := Ev → Sto → Out (Option Int)
def PO2 (K : PySem.W.Frag) (ι : Gh) (st : Sto) (H : Hp) (Q : Option Int → Hp → Prop) (b : Option Int) (st' : Sto) : Prop := ∀ ι' H', SRel K ι' st' H' → Ext ι st H ι' st' H' → Q b H'
theorem PO2.ext {K : PySem.W.Frag} {ι ι' : Gh} {st st' s2 : Sto} {H H' : Hp} {Q : Option Int → Hp → Prop} {b : Option Int} (h : PO2 K ι st H Q b s2) (e : Ext ι st H ι' st' H') : PO2 K ι' st' H' Q b s2 :=
  fun ι2 H2 R E => h ι2 H2 R (e.trans E)
def TOo (K : PySem.W.Frag) (W : XW) (m : MO) : TO := fun σ H Q => ∃ ι env st, SRel K ι st H ∧ EvR K ι st H σ env ∧ (m env st).post (PO2 K ι st H Q) (PX1 K W ι st H)
def moNone : MO := fun _ st => .ok none st
def moSome (m : ME) : MO := fun env st => (m env st).bind fun d s1 => match iOf d with
  | some i => .ok (some i) s1
  | none => .stuck
section
variable {X : Cx} {W : XW} {e : Expr}
theorem po_wrap {o : Option Expr} {t : TO} {m : MO} (h : PO X o t) (hi : ∀ σ H Q, TOo X.K W m σ H Q → t σ H (fun v H' => HF H' → Q v H')) : PO X o (TOo X.K W m) :=
  ⟨fun pins s σ H Q I q => thn (h.run pins s σ H _ I (hi σ H Q q)) fun _ _ ⟨v, H', I', r, q'⟩ => ⟨v, H', I', r, q' (hf_of I')⟩⟩
theorem xo_none : PO X none (TOo X.K W moNone) := po_wrap po_none fun σ H Q q => by
  obtain ⟨ι, env, st, R, EV, p⟩ := q
  exact fun _ => p ι H R Ext.refl
theorem xo_some {m : ME} (h : PE X e (TEo X.K W m)) : PO X (some e) (TOo X.K W (moSome m)) := po_wrap (po_some h) fun σ H Q q => by
  obtain ⟨ι, env, st, R, EV, p⟩ := q
  refine ⟨ι, env, st, R, EV, Out.post_mono (Out.post_bind p) (fun d s1 q ι1 H1 x R1 E1 ra => ?_) fun _ _ q => q⟩
  split at q
  · rename_i i e
    exact ⟨i, iOf_at e ra, fun _ => q ι1 H1 R1 E1⟩
  · exact q.elim
end
def cutP {α : Type} (xs : List α) (lo hi : Option Int) : List α := (xs.drop (HT.sIx xs.length 0 lo)).take (HT.sIx xs.length xs.length hi - HT.sIx xs.length 0 lo)
theorem RpA.cut {F : Addr → Prop} {H : Hp} {xs : List V} {ds : List PyData} (r : RpA F H xs ds) (lo hi : Option Int) : RpA F H (cutV xs lo hi) (cutP ds lo hi) := by
  unfold cutV cutP
  rw [r.length]
  exact (r.drop _).take _
def rSlN (K : PySem.W.Frag) : V → Option Int → Option Int → Hp → VK → Prop := fun x lo hi H Q => ∃ a xs, x = .ref a ∧ SqT K H a xs ∧
  (HT.sIx xs.length 0 lo = 0 ∧ HT.sIx xs.length xs.length hi = xs.length → Q (.ref a) H) ∧ (¬ (HT.sIx xs.length 0 lo = 0 ∧ HT.sIx xs.length xs.length hi = xs.length) → NewT H (cutV xs lo hi) Q)
theorem sl_tupN {X : Cx} : SlR X (rSlN X.K) := by
  intro pins s σ H x v vl vu lo hi sl Q I rx hs pl pu h
  obtain ⟨a, xs, rfl, hx, q1, q2⟩ := h
  cases rx
  obtain ⟨its, r, ht, hz⟩ := I.tuple hx
  have hlen : its.toArray.size = xs.length := by rw [List.size_toArray]; exact r.length.symm
  refine ⟨"tuple", _, PyProof.Rows.slot_tuple_getitem.lookup, ht.typeIs, ?_⟩
  by_cases hw : HT.sIx xs.length 0 lo = 0 ∧ HT.sIx xs.length xs.length hi = xs.length
  · refine getItem_tuple_whole ht hs pl pu ?_ ⟨.ref a, H, I, rfl, q1 hw⟩
    rw [hlen]
    exact hw
  · refine HT.getItem_tuple_cut ht hs pl pu ?_ ?_ ?_
    · rw [hlen]
      exact hw
    · rw [hlen]
      refine (q2 hw).laid (t' := s.toks) I ?_ (Nat.le_trans (cutV_length xs lo hi) hz)
      exact (r.drop _).take _
    · rw [hlen]
      exact hz
def slD (a : D) (lo hi : Option Int) : Sto → Out D := fun st => match viewL st a with
  | some xs => .ok (.v (.list (cutP xs lo hi))) st
  | none => match tOf a with
    | some xs => .ok (.v (.tuple (cutP xs lo hi))) st
    | none => match sOf a with
      | some z => if z.length ≤ lim then .ok (.v (.str (cutS z lo hi))) st else .stuck
      | none => .stuck
def mSl (m : ME) (lo hi : MO) : ME := fun env st => (m env st).bind fun a s1 => (lo env s1).bind fun l s2 => (hi env s2).bind fun h s3 => slD a l h s3
def mfSl (m : ME) (lo hi : MO) : MF := fun env st => (m env st).bind fun a s1 => (lo env s1).bind fun l s2 => (hi env s2).bind fun h s3 => match viewL s3 a with
  | some xs => .ok (cutP xs l h) s3
  | none => .stuck
theorem cut_whole {α : Type} {xs : List α} {lo hi : Option Int} (h1 : HT.sIx xs.length 0 lo = 0) (h2 : HT.sIx xs.length xs.length hi = xs.length) : cutP xs lo hi = xs := by
  unfold cutP
  rw [h1, h2, List.drop_zero, Nat.sub_zero, List.take_length]
section
variable {X : Cx} {W : XW} {e : Expr} {m : ME} {lo hi : Option Expr} {ml mh : MO} {pos p2 : Pos}
theorem x_slice (he : PE X e (TEo X.K W m)) (hl : PO X lo (TOo X.K W ml)) (hu : PO X hi (TOo X.K W mh)) : PE X (.Subscript e (.Slice lo hi none p2) pos) (TEo X.K W (mSl m ml mh)) := by
  refine pe_wrap (pe_slice (sl_list.or (sl_tupN.or sl_str)) he hl hu) fun σ H Q q => ?_
  obtain ⟨ι, env, st, R, EV, p⟩ := q
  refine ⟨ι, env, st, R, EV, Out.post_mono (Out.post_bind p) (fun a s1 q ι1 H1 x R1 E1 ra => ?_) fun _ _ q => q⟩
  refine ⟨ι1, env, s1, R1, EV.ext E1, Out.post_mono (Out.post_bind q) (fun l s2 q2 ι2 H2 R2 E2 => ?_) fun _ _ z => z.ext E1⟩
  refine ⟨ι2, env, s2, R2, (EV.ext E1).ext E2, Out.post_mono (Out.post_bind q2) (fun u s3 q3 ι3 H3 R3 E3 => ?_) fun _ _ z => (z.ext E1).ext E2⟩
  have ra3 := (ra.ext E2).ext E3
  have q4 : (slD a l u s3).post (PO1 X.K ι3 s3 H3 Q) (PX1 X.K W ι3 s3 H3) := Out.post_mono q3 (fun _ _ z => ((z.ext E1).ext E2).ext E3) fun _ _ z => ((z.ext E1).ext E2).ext E3
  unfold slD at q4
  split at q4
  · rename_i xs e1
    obtain ⟨b, us, rfl, h1, h2⟩ := viewL_at R3 e1 ra3
    exact .inl ⟨b, us, rfl, .of h1, fun p hp hf => q4.newLst R3 (h2.cut l u) hp hf⟩
  · split at q4
    · rename_i xs e1
      obtain ⟨b, us, rfl, h1, h2⟩ := tOf_at e1 ra3
      refine .inr (.inl ⟨b, us, rfl, h1.sq, fun hw _ => ?_, fun _ p o hp ho hf => q4.newTup R3 (h2.cut l u) hp ho hf⟩)
      rw [h2.length] at hw
      rw [cut_whole hw.1 hw.2] at q4
      rw [tOf_eq e1] at ra3
      exact q4.same R3 ra3
    · split at q4
      · rename_i z e1
        split at q4
        · rename_i hz
          exact .inr (.inr ⟨z, sOf_at e1 ra3, lim_ok hz, fun _ => q4.same R3 (.str _)⟩)
        · exact q4.elim
      · exact q4.elim
theorem xf_slice (he : PE X e (TEo X.K W m)) (hl : PO X lo (TOo X.K W ml)) (hu : PO X hi (TOo X.K W mh)) : PE X (.Subscript e (.Slice lo hi none p2) pos) (TFo X.K W (mfSl m ml mh)) := by
  refine pf_wrap (pe_slice sl_list he hl hu) fun σ H Q q => ?_
  obtain ⟨ι, env, st, R, EV, p⟩ := q
  refine ⟨ι, env, st, R, EV, Out.post_mono (Out.post_bind p) (fun a s1 q ι1 H1 x R1 E1 ra => ?_) fun _ _ q => q⟩
  refine ⟨ι1, env, s1, R1, EV.ext E1, Out.post_mono (Out.post_bind q) (fun l s2 q2 ι2 H2 R2 E2 => ?_) fun _ _ z => z.ext E1⟩
  refine ⟨ι2, env, s2, R2, (EV.ext E1).ext E2, Out.post_mono (Out.post_bind q2) (fun u s3 q3 ι3 H3 R3 E3 => ?_) fun _ _ z => (z.ext E1).ext E2⟩
  have ra3 := (ra.ext E2).ext E3
  split at q3
  · rename_i xs e1
    obtain ⟨b, us, rfl, h1, h2⟩ := viewL_at R3 e1 ra3
    exact ⟨b, us, rfl, .of h1, (((q3.ext E1).ext E2).ext E3).new R3 (h2.cut l u)⟩
  · exact q3.elim
/-- xs[::-1] of a list -/
def mfRev (m : ME) : MF := fun env st => (m env st).bind fun a s1 => match viewL s1 a with
  | some xs => .ok xs.reverse s1
  | none => .stuck
theorem xf_rev {k : Nat} {p1 p2 p3 : Pos} (he : PE X e (TEo X.K W m)) : PE X (.Subscript e (.Slice none none (some (.UnaryOp .USub (.Constant (.int 1) k p1) p2)) p3) pos) (TFo X.K W (mfRev m)) := by
  refine pf_wrap (pe_revL he) fun σ H Q q => ?_
  obtain ⟨ι, env, st, R, EV, p⟩ := q
  refine ⟨ι, env, st, R, EV, Out.post_mono (Out.post_bind p) (fun a s1 q ι1 H1 x R1 E1 ra => ?_) fun _ _ q => q⟩
  split at q
  · rename_i xs e1
    obtain ⟨b, us, rfl, h1, h2⟩ := viewL_at R1 e1 ra
    exact ⟨b, us, rfl, .of h1, (q.ext E1).new R1 h2.reverse⟩
  · exact q.elim
end

/-! ### a thing of the store that nobody changes any more -/
def frzO : O → Option PyData
  | .lst zs => some (.list zs)
  | .dct false kvs => (valsOf (kvs.map (·.2))).map fun vs => .dict ((kvs.map (·.1)).zip vs)
  | _ => none
def frz1 : F1 := fun d st => match d with
  | .ref n => match st[n]? with
    | some o => match frzO o with
      | some z => .ok (.v z) (st.set n .dead)
      | none => .stuck
    | none => .stuck
  | d => .ok d st
theorem RK.vals {K : PySem.W.Frag} {ι : Gh} {st : Sto} {H : Hp} : ∀ {kvs : List (PyData × D)} {xs : List (Key × V)} {vs : List PyData}, RK K ι st H kvs xs → valsOf (kvs.map (·.2)) = some vs → RpK (Frz ι st) H xs ((kvs.map (·.1)).zip vs)
  | _, _, _, .nil, e => by cases e; exact .nil
  | _, _, vs, .cons (a := p) (b := q) h t, e => by
    obtain ⟨k, d⟩ := p
    obtain ⟨kk, x⟩ := q
    cases d with
    | v d =>
      obtain ⟨ws, e1, rfl⟩ := Option.map_eq_some_iff.mp (show (valsOf _).map (d :: ·) = some vs from e)
      have hk : k = kD kk := h.1
      subst hk
      exact .cons h.2 (RK.vals t e1)
    | _ => cases e
theorem x_kill {X : Cx} {W : XW} {e : Expr} {m : ME} (he : PE X e (TEo X.K W m)) : PE X e (TEo X.K W (mUn frz1 m)) := pe_wrap he fun σ H Q q => by
  obtain ⟨ι, env, st, R, EV, p⟩ := q
  refine ⟨ι, env, st, R, EV, Out.post_mono (Out.post_bind p) (fun a s1 q ι1 H1 x R1 E1 ra _ => ?_) fun _ _ q => q⟩
  unfold frz1 at q
  split at q
  · rename_i n
    obtain ⟨b, h1, rfl⟩ := ra
    split at q
    · rename_i o eo
      split at q
      · rename_i z ez
        have ro := R1.obj n o b eo h1
        have hd : o ≠ O.dead := fun z => by subst z; cases ez
        have hk : ∀ t kvs, o ≠ .lck t kvs := fun t kvs z => by subst z; cases ez
        have Ek : Ext ι1 s1 H1 ι1 (s1.set n .dead) H1 := Ext.kill eo hk
        refine q ι1 H1 _ (R1.kill eo hk) (E1.trans Ek) ?_
        cases o with
        | lst zs =>
          cases ez
          obtain ⟨xs, h2, h3⟩ := ro
          exact .lst h2 (frz_kill R1 eo h1 hd) (h3.ext Ek)
        | dct t kvs =>
          cases t with
          | false =>
            obtain ⟨vs, e1, rfl⟩ := Option.map_eq_some_iff.mp (show (valsOf (kvs.map (·.2))).map _ = some z from ez)
            obtain ⟨xs, h2, h3⟩ := ro
            exact .dcK (.inl h2) (frz_kill R1 eo h1 hd) ((h3.vals e1).ext Ek)
          | true => cases ez
        | dead => cases ez
        | lck _ _ => cases ez
      · exact q.elim
    · exact q.elim
  · exact q ι1 H1 x R1 E1 ra

/-! ### methods of lists -/
abbrev FM := D → List D → Sto → Out D
def isL (st : Sto) (d : D) : Bool := (viewL st d).isSome
def mM0 (f : FM) (mo : ME) : ME := fun env st => (mo env st).bind fun o s1 => if isL s1 o then f o [] s1 else .stuck
def mM (f : FM) (mo : ME) (ma : MA) : ME := fun env st => (mo env st).bind fun o s1 => if isL s1 o then (ma env s1).bind fun ds s2 => f o ds s2 else .stuck
def OpM (K : PySem.W.Frag) (W : XW) (r : V → List V → Hp → VK → Prop) (f : FM) : Prop := ∀ (ι : Gh) (st : Sto) (H : Hp) (x : V) (xs : List V) (o : D) (ds : List D) (Q : VK), SRel K ι st H → RD K ι st H x o → RDs K ι st H xs ds →
  (f o ds st).post (PO1 K ι st H Q) (PX1 K W ι st H) → r x xs H (fun v H' => HF H' → Q v H')
section
variable {X : Cx} {W : XW} {o e : Expr} {es : List Expr} {mo : ME} {ma : MA} {name : Str} {apos cpos : Pos} {id : String} {r : V → List V → Hp → VK → Prop} {f : FM}
theorem isL_ty {K : PySem.W.Frag} {ι : Gh} {st : Sto} {H : Hp} (R : SRel K ι st H) {d : D} {x : V} (h : isL st d = true) (r : RD K ι st H x d) : tyV K "list" x H := by
  obtain ⟨ds, e⟩ := Option.isSome_iff_exists.mp h
  obtain ⟨a, xs, rfl, h1, _⟩ := viewL_at R e r
  exact .inl ⟨rfl, xs, .of h1⟩
theorem x_m0 (pa : PlainAttrs "list") (slot : Slot "list" name id) (hty : typeOf (.builtin id) = pure (.type "method_descriptor")) (hm : MtR X id r) (hf : OpM X.K W r f) (ho : PE X o (TEo X.K W mo))
    (hbase : attributeBase o name X.env (eval o X.env) = eval o X.env := by rfl) (hline : (apos.endLine == cpos.line) = true := by rfl) : PE X (.Call (.Attribute o name apos) [] [] cpos) (TEo X.K W (mM0 f mo)) :=
  pe_wrap (pe_bm0 pa slot hty hm ho hbase hline) fun σ H Q q => by
    obtain ⟨ι, env, st, R, EV, p⟩ := q
    refine ⟨ι, env, st, R, EV, Out.post_mono (Out.post_bind p) (fun a s1 q ι1 H1 x R1 E1 ra => ?_) fun _ _ q => q⟩
    split at q
    · rename_i h
      exact ⟨isL_ty R1 h ra, hf ι1 s1 H1 x [] a [] Q R1 ra .nil (Out.post_mono q (fun _ _ z => z.ext E1) fun _ _ z => z.ext E1)⟩
    · exact q.elim
theorem x_m (pa : PlainAttrs "list") (slot : Slot "list" name id) (hty : typeOf (.builtin id) = pure (.type "method_descriptor")) (hm : MtR X id r) (hf : OpM X.K W r f) (ho : PE X o (TEo X.K W mo)) (ha : PA X (e :: es) (TAo X.K W ma))
    (hbase : attributeBase o name X.env (eval o X.env) = eval o X.env := by rfl)
    (hfew : ((backTo cpos (starEach (e :: es) X.env)).all (fun x => !x.1) && (backToKw cpos (keywordEach [] X.env)).all (fun x => x.1.isSome)
      && decide ((e :: es).length + ([] : List Keyword).length + (if ([] : List Keyword).isEmpty then 0 else 1) < 30)) = true := by rfl)
    (hline : (apos.endLine == cpos.line) = true := by rfl) (hs : starEach (e :: es) X.env = (false, eval e X.env) :: starEach es X.env := by rfl) (hplain : (backTo cpos (starEach es X.env)).any (·.1) = false := by rfl) :
    PE X (.Call (.Attribute o name apos) (e :: es) [] cpos) (TEo X.K W (mM f mo ma)) :=
  pe_wrap (pe_bm pa slot hty hm ho ha hbase hfew hline hs hplain) fun σ H Q q => by
    obtain ⟨ι, env, st, R, EV, p⟩ := q
    refine ⟨ι, env, st, R, EV, Out.post_mono (Out.post_bind p) (fun a s1 q ι1 H1 x R1 E1 ra => ?_) fun _ _ q => q⟩
    split at q
    · rename_i h
      refine ⟨isL_ty R1 h ra, ι1, env, s1, R1, EV.ext E1, Out.post_mono (Out.post_bind q) (fun ds s2 q2 ι2 H2 xs R2 E2 rb => ?_) fun _ _ z => z.ext E1⟩
      exact hf ι2 s2 H2 x xs a ds Q R2 (ra.ext E2) rb (Out.post_mono q2 (fun _ _ z => (z.ext E1).ext E2) fun _ _ z => (z.ext E1).ext E2)
    · exact q.elim
end
/-- the list in the store at a reference -/
def lAt (st : Sto) : D → Option (Nat × List PyData)
  | .ref n => match st[n]? with
    | some (.lst zs) => some (n, zs)
    | _ => none
  | _ => none
theorem lAt_at {K : PySem.W.Frag} {ι : Gh} {st : Sto} {H : Hp} (R : SRel K ι st H) {x : V} {d : D} {n : Nat} {ds : List PyData} (e : lAt st d = some (n, ds)) (r : RD K ι st H x d) :
    ∃ a xs, x = .ref a ∧ H a = some (.lst xs) ∧ RpA (Frz ι st) H xs ds ∧ st[n]? = some (.lst ds) ∧ ι.ad[n]? = some a := by
  cases d with
  | ref k =>
    obtain ⟨a, h1, h2⟩ := r
    cases q : st[k]? with
    | none => simp only [lAt, q] at e; cases e
    | some o =>
      cases o with
      | lst zs =>
        simp only [lAt, q, Option.some.injEq, Prod.mk.injEq] at e
        obtain ⟨rfl, rfl⟩ := e
        obtain ⟨xs, e1, r⟩ := R.obj k _ a q h1
        exact ⟨a, xs, h2, e1, r, q, h1⟩
      | _ => simp only [lAt, q] at e; cases e
  | _ => cases e
/-- the list at a reference is written -/
theorem PO1.wrote {K : PySem.W.Frag} {ι : Gh} {st : Sto} {H : Hp} {Q : VK} {d : D} {n : Nat} {ds es : List PyData} {a : Addr} {ys : List V} {v : V} (p : PO1 K ι st H Q d (st.set n (.lst es))) (R : SRel K ι st H) (h1 : st[n]? = some (.lst ds)) (h2 : ι.ad[n]? = some a)
    (r : RpA (Frz ι st) H ys es) (hv : ∀ ι' st' H', Ext ι st H ι' st' H' → RD K ι' st' H' v d) (hf : HF (upd H a (.lst ys))) : Q v (upd H a (.lst ys)) := by
  have E : Ext ι st H ι (st.set n (.lst es)) (upd H a (.lst ys)) := Ext.write R h1 h2 (fun z => nomatch z) (fun _ _ z => nomatch z)
  exact p ι _ v (R.write h1 h2 (fun z => nomatch z) (fun _ _ z => nomatch z) hf ⟨ys, upd_same, r.ext E⟩ rfl) E (hv _ _ _ E)
def fmAppend : FM := fun o ds st => match lAt st o, ds with
  | some (n, zs), [.v d] => if zs.length < lim then .ok (.v .none) (st.set n (.lst (zs ++ [d]))) else .stuck
  | _, _ => .stuck
theorem opM_append {K : PySem.W.Frag} {W : XW} : OpM K W rAppend fmAppend := by
  intro ι st H x xs o ds Q R ro rd p
  unfold fmAppend at p
  split at p
  · rename_i n zs d e
    split at p
    · rename_i hl
      obtain ⟨a, us, rfl, h1, h2, h3, h4⟩ := lAt_at R e ro
      obtain ⟨y, rfl, ry⟩ := rd.one
      refine ⟨a, us, y, rfl, rfl, h1, by rw [h2.length]; exact Nat.lt_of_lt_of_le hl (lim_ok (Nat.le_refl _)), fun hf => ?_⟩
      exact p.wrote R h3 h4 (h2.append (.cons ry .nil)) (fun _ _ _ _ => .non) hf
    · exact p.elim
  · exact p.elim
def fmPop : FM := fun o ds st => match lAt st o, ds with
  | some (n, zs), [] => match zs[zs.length - 1]? with
    | some d => .ok (.v d) (st.set n (.lst zs.dropLast))
    | none => .stuck
  | _, _ => .stuck
theorem opM_pop {K : PySem.W.Frag} {W : XW} : OpM K W rPop fmPop := by
  intro ι st H x xs o ds Q R ro rd p
  unfold fmPop at p
  split at p
  · rename_i n zs e
    split at p
    · rename_i d ed
      obtain ⟨a, us, rfl, h1, h2, h3, h4⟩ := lAt_at R e ro
      cases rd
      obtain ⟨y, h5, h6⟩ := h2.get ed
      refine ⟨a, us, y, rfl, rfl, h1, by rw [h2.length]; exact h5, fun hf => ?_⟩
      exact p.wrote R h3 h4 h2.dropLast (fun _ _ _ E => h6.ext E) hf
    · exact p.elim
  · exact p.elim
def fmPopAt : FM := fun o ds st => match lAt st o, ds with
  | some (n, zs), [.v (.int i)] => if -1000000 ≤ i ∧ i ≤ 1000000 then match seqIndex? i zs.length with
      | some k => match zs[k]? with
        | some d => .ok (.v d) (st.set n (.lst (zs.eraseIdx k)))
        | none => .stuck
      | none => .stuck
    else .stuck
  | _, _ => .stuck
theorem opM_popAt {K : PySem.W.Frag} {W : XW} : OpM K W rPopAt fmPopAt := by
  intro ι st H x xs o ds Q R ro rd p
  unfold fmPopAt at p
  split at p
  · rename_i n zs i e
    split at p
    · rename_i hb
      split at p
      · rename_i k ek
        split at p
        · rename_i d ed
          obtain ⟨a, us, rfl, h1, h2, h3, h4⟩ := lAt_at R e ro
          obtain ⟨y, rfl, ry⟩ := rd.one
          have ey := iOf_at (d := .v (.int i)) rfl ry
          subst ey
          obtain ⟨y, h5, h6⟩ := h2.get ed
          refine ⟨a, us, i, k, y, rfl, rfl, h1, by omega, by omega, by rw [h2.length]; exact ek, h5, fun hf => ?_⟩
          exact p.wrote R h3 h4 (h2.erase k) (fun _ _ _ E => h6.ext E) hf
        · exact p.elim
      · exact p.elim
    · exact p.elim
  · exact p.elim
/-- the first place of an equal flat one -/
def idxP (y : PyData) : List PyData → Option Nat
  | [] => none
  | z :: r => if PyData.eqv z y then some 0 else (idxP y r).map (· + 1)
def fmIndex : FM := fun o ds st => match viewS st o, ds with
  | some zs, [.v d] => if flatP d && zs.all flatP then match idxP d zs with
      | some k => .ok (.v (.int (k : Nat))) st
      | none => .stuck
    else .stuck
  | _, _ => .stuck
theorem idxP_at {F : Addr → Prop} {H : Hp} {y : V} {d : PyData} (ry : Rp F H y d) (hd : flatP d = true) : ∀ {xs : List V} {ds : List PyData} {k : Nat}, RpA F H xs ds → ds.all flatP = true → idxP d ds = some k →
    ∃ z, xs[k]? = some z ∧ eqV z y = true ∧ ∀ (m : Nat) (z' : V), m < k → xs[m]? = some z' → eqV z' y = false
  | _, _, _, .nil, _, h => by cases h
  | _, _, k, .cons (x := x) (d := d') r t, hf, h => by
    rw [List.all_cons, Bool.and_eq_true] at hf
    unfold idxP at h
    split at h
    · rename_i e
      cases h
      exact ⟨x, rfl, by rw [eqV_of r ry hf.1 hd]; exact e, fun m _ hm => absurd hm (Nat.not_lt_zero _)⟩
    · rename_i e
      obtain ⟨j, h1, rfl⟩ := Option.map_eq_some_iff.mp h
      obtain ⟨z, h2, h3, h4⟩ := idxP_at ry hd t hf.2 h1
      refine ⟨z, by simpa using h2, h3, fun m z' hm hz => ?_⟩
      cases m with
      | zero =>
        have : x = z' := by simpa using hz
        subst this
        rw [eqV_of r ry hf.1 hd]
        simpa using e
      | succ m => exact h4 m z' (by omega) (by simpa using hz)
theorem viewS_L {st : Sto} {o : D} {zs ws : List PyData} (e : viewS st o = some zs) (ew : viewL st o = some ws) : zs = ws := by
  have : viewS st o = viewL st o := by
    cases o with
    | v w =>
      cases w with
      | tuple _ => cases ew
      | _ => rfl
    | _ => rfl
  rw [this, ew] at e
  exact (Option.some.inj e).symm
theorem opM_index {K : PySem.W.Frag} {W : XW} : OpM K W (rIndex K) (fun o ds st => if isL st o then fmIndex o ds st else .stuck) := by
  intro ι st H x xs o ds Q R ro rd p
  replace p : (if isL st o then fmIndex o ds st else .stuck).post (PO1 K ι st H Q) (PX1 K W ι st H) := p
  split at p
  · rename_i hL
    unfold fmIndex at p
    split at p
    · rename_i zs d e
      split at p
      · rename_i hf
        rw [Bool.and_eq_true] at hf
        split at p
        · rename_i k ek
          obtain ⟨ws, ew⟩ := Option.isSome_iff_exists.mp hL
          obtain ⟨a, us, rfl, h1, h2⟩ := viewL_at R ew ro
          have eq := viewS_L e ew
          subst eq
          obtain ⟨y, rfl, ry⟩ := rd.one
          obtain ⟨z, h3, h4, h5⟩ := idxP_at ry hf.1 h2 hf.2 ek
          exact ⟨a, us, y, k, z, rfl, rfl, .of h1, flat_of ry hf.1, flatAll_of h2 hf.2, h3, h4, h5, fun _ => p.same R (.int _)⟩
        · exact p.elim
      · exact p.elim
    · exact p.elim
  · exact p.elim
/-! ### t.index(x) of a tuple -/
def rIndexT (H0 : Hp → Prop) (K : PySem.W.Frag) : V → List V → Hp → VK → Prop := fun x xs H Q => ∃ (a : Addr) (ys : List V) (y : V) (j : Nat) (z : V), x = V.ref a ∧ xs = [y] ∧ SqT K H a ys ∧ flatV y = true ∧ ys.all flatV = true ∧ ys[j]? = some z ∧ eqV z y = true ∧
  (∀ (m : Nat) (z' : V), m < j → ys[m]? = some z' → eqV z' y = false) ∧ Q (.int (j : Nat)) H
theorem mt_indexT {X : Cx} : MtR X "tuple.index" (rIndexT (fun _ => True) X.K) := by
  intro pins s σ H x xs v us Q I rx rxs h
  obtain ⟨a, ys, y, j, z, rfl, rfl, hl, fy, fys, hz, hzj, hno, q⟩ := h
  cases rx
  obtain ⟨uy, rfl, ry⟩ := vals1 rxs
  obtain ⟨its, rv, pl, hlen⟩ := I.tuple hl
  obtain ⟨⟨cls, dd, data, sls⟩, ho, hc, n, hdt⟩ := pl
  simp only at hc hdt
  subst hc hdt
  have hvl := rv.length
  obtain ⟨hjd, _⟩ := List.getElem?_eq_some_iff.mp hz
  have hj : j < its.toArray.size := by
    rw [List.size_toArray]
    omega
  have at_ : ∀ (m : Nat) (hm : m < its.toArray.size) (w : V), ys[m]? = some w → eqU y its.toArray[m] = eqV w y := fun m hm w hw => by
    obtain ⟨u, h1, h2⟩ := rv.get hw
    have e : its.toArray[m] = u := by
      have h3 := (List.getElem?_eq_some_iff.mp h1).2
      simpa using h3
    rw [e]
    exact eqU_of h2 (flat_at fys hw)
  refine call_meets PySem.F.slot_tuple_index ⟨_, ho, rfl⟩ PySem.F.entry_tuple_index (PySem.F.args_tuple_index_2 _ _)
    (TI.tuple_indexAt a its.toArray n dd sls uy (eqU y) j hj ?_ ?_) ⟨ho, fun w hw => mem_eqAt ry fy rv fys w (by simpa using hw), ⟨.int (j : Nat), H, I.tok _, ⟨_, rfl⟩, q⟩⟩
  · rw [at_ j hj z hz]
    exact hzj
  · intro m hm hmj
    have hmd : m < ys.length := by
      rw [List.size_toArray] at hm
      omega
    rw [at_ m hm _ (List.getElem?_eq_getElem hmd)]
    exact hno m _ hmj (List.getElem?_eq_getElem hmd)
def isT (d : D) : Bool := (tOf d).isSome
def mMT (f : FM) (mo : ME) (ma : MA) : ME := fun env st => (mo env st).bind fun o s1 => if isT o then (ma env s1).bind fun ds s2 => f o ds s2 else .stuck
theorem opM_indexT {K : PySem.W.Frag} {W : XW} : OpM K W (rIndexT (fun _ => True) K) (fun o ds st => if isT o then fmIndex o ds st else .stuck) := by
  intro ι st H x xs o ds Q R ro rd p
  replace p : (if isT o then fmIndex o ds st else .stuck).post (PO1 K ι st H Q) (PX1 K W ι st H) := p
  split at p
  · rename_i hL
    unfold fmIndex at p
    split at p
    · rename_i zs d e
      split at p
      · rename_i hf
        rw [Bool.and_eq_true] at hf
        split at p
        · rename_i k ek
          obtain ⟨ws, ew⟩ := Option.isSome_iff_exists.mp hL
          obtain ⟨a, us, rfl, h1, h2⟩ := tOf_at ew ro
          have eq : zs = ws := by
            rw [tOf_eq ew] at e
            exact (Option.some.inj e).symm
          subst eq
          obtain ⟨y, rfl, ry⟩ := rd.one
          obtain ⟨z, h3, h4, h5⟩ := idxP_at ry hf.1 h2 hf.2 ek
          exact ⟨a, us, y, k, z, rfl, rfl, h1.sq, flat_of ry hf.1, flatAll_of h2 hf.2, h3, h4, h5, fun _ => p.same R (.int _)⟩
        · exact p.elim
      · exact p.elim
    · exact p.elim
  · exact p.elim
section
variable {X : Cx} {W : XW} {o e : Expr} {es : List Expr} {mo : ME} {ma : MA} {to : TE} {t : TA} {name : Str} {apos cpos : Pos} {id : String} {r : V → List V → Hp → VK → Prop} {f : FM}
/-- a method of a tuple whose object is known -/
theorem pe_bmT (pa : PlainAttrs "tuple") (slot : Slot "tuple" name id) (hty : typeOf (.builtin id) = pure (.type "method_descriptor")) (hm : MtR X id r) (ho : PE X o to) (ha : PA X (e :: es) t)
    (hbase : attributeBase o name X.env (eval o X.env) = eval o X.env)
    (hfew : ((backTo cpos (starEach (e :: es) X.env)).all (fun x => !x.1) && (backToKw cpos (keywordEach [] X.env)).all (fun x => x.1.isSome)
      && decide ((e :: es).length + ([] : List Keyword).length + (if ([] : List Keyword).isEmpty then 0 else 1) < 30)) = true)
    (hline : (apos.endLine == cpos.line) = true) (hs : starEach (e :: es) X.env = (false, eval e X.env) :: starEach es X.env) (hplain : (backTo cpos (starEach es X.env)).any (·.1) = false) :
    PE X (.Call (.Attribute o name apos) (e :: es) [] cpos) (fun σ H Q => to σ H fun x H1 => (∃ a xs, x = .ref a ∧ KTup H1 a xs) ∧ t σ H1 fun xs H2 => r x xs H2 Q) := by
  refine ⟨fun pins s σ H Q I h => ?_⟩
  refine wpAny_Call_method_late hbase hfew hline rfl (thn (ho.run pins s σ H _ I h) fun v s1 hv => ?_)
  obtain ⟨x, H1, I1, r1, ⟨a, xs, rfl, o1, ha1, hd1⟩, q1⟩ := hv
  cases r1
  obtain ⟨hob, hto⟩ := I1.hok a _ ha1
  obtain ⟨_, _, _, ob2, hob2, hcl, _⟩ := hto
  rw [hob] at hob2
  cases hob2
  refine ⟨"tuple", id, pa, slot, hty, ⟨o1, hob, hcl⟩, fun b hb => ?_, ?_⟩
  · cases hb
    exact ⟨o1, hob, hd1⟩
  · have hA := ha.run cpos pins s1 σ H1 _ I1 q1
    rw [hs] at hA ⊢
    refine Calls.callWith_builtin ?_ (Calls.evalArgs_plain ?_)
    · show (false || (backTo cpos (starEach es X.env)).any (·.1)) = false
      rw [hplain]
      rfl
    · exact thn hA fun us s2 ⟨vs, H2, I2, r2, q2⟩ => hm pins s2 σ H2 (.ref a) vs (.ref a) us Q I2 rfl r2 q2
theorem x_mT (pa : PlainAttrs "tuple") (slot : Slot "tuple" name id) (hty : typeOf (.builtin id) = pure (.type "method_descriptor")) (hm : MtR X id r) (hf : OpM X.K W r f) (ho : PE X o (TEo X.K W mo)) (ha : PA X (e :: es) (TAo X.K W ma))
    (hbase : attributeBase o name X.env (eval o X.env) = eval o X.env := by rfl)
    (hfew : ((backTo cpos (starEach (e :: es) X.env)).all (fun x => !x.1) && (backToKw cpos (keywordEach [] X.env)).all (fun x => x.1.isSome)
      && decide ((e :: es).length + ([] : List Keyword).length + (if ([] : List Keyword).isEmpty then 0 else 1) < 30)) = true := by rfl)
    (hline : (apos.endLine == cpos.line) = true := by rfl) (hs : starEach (e :: es) X.env = (false, eval e X.env) :: starEach es X.env := by rfl) (hplain : (backTo cpos (starEach es X.env)).any (·.1) = false := by rfl) :
    PE X (.Call (.Attribute o name apos) (e :: es) [] cpos) (TEo X.K W (mMT f mo ma)) :=
  pe_wrap (pe_bmT pa slot hty hm ho ha hbase hfew hline hs hplain) fun σ H Q q => by
    obtain ⟨ι, env, st, R, EV, p⟩ := q
    refine ⟨ι, env, st, R, EV, Out.post_mono (Out.post_bind p) (fun a s1 q ι1 H1 x R1 E1 ra => ?_) fun _ _ q => q⟩
    split at q
    · rename_i h
      obtain ⟨ws, ew⟩ := Option.isSome_iff_exists.mp h
      obtain ⟨b, us, rfl, h1, h2⟩ := tOf_at ew ra
      refine ⟨⟨b, us, rfl, h1⟩, ι1, env, s1, R1, EV.ext E1, Out.post_mono (Out.post_bind q) (fun ds s2 q2 ι2 H2 xs R2 E2 rb => ?_) fun _ _ z => z.ext E1⟩
      exact hf ι2 s2 H2 _ xs a ds Q R2 (ra.ext E2) rb (Out.post_mono q2 (fun _ _ z => (z.ext E1).ext E2) fun _ _ z => (z.ext E1).ext E2)
    · exact q.elim
theorem fmIndex_L {o : D} {ds : List D} {st : Sto} (h : isT o = false) : (if isL st o then fmIndex o ds st else .stuck) = fmIndex o ds st := by
  by_cases hl : isL st o = true
  · rw [if_pos hl]
  · rw [if_neg hl]
    have e : viewS st o = none := by
      have e1 : viewL st o = none := by
        cases q : viewL st o with
        | none => rfl
        | some z =>
          unfold isL at hl
          rw [q] at hl
          exact absurd rfl hl
      cases o with
      | v w =>
        cases w with
        | tuple _ => cases h
        | _ => exact e1
      | _ => exact e1
    unfold fmIndex
    rw [e]
/-- o.index(x), o a list or a tuple -/
def mIndex (mo : ME) (ma : MA) : ME := fun env st => (mo env st).bind fun o s1 => if isL s1 o || isT o then (ma env s1).bind fun ds s2 => fmIndex o ds s2 else .stuck
theorem x_index (ho : PE X o (TEo X.K W mo)) (ha : PA X (e :: es) (TAo X.K W ma))
    (hbase : attributeBase o "index" X.env (eval o X.env) = eval o X.env := by rfl)
    (hfew : ((backTo cpos (starEach (e :: es) X.env)).all (fun x => !x.1) && (backToKw cpos (keywordEach [] X.env)).all (fun x => x.1.isSome)
      && decide ((e :: es).length + ([] : List Keyword).length + (if ([] : List Keyword).isEmpty then 0 else 1) < 30)) = true := by rfl)
    (hline : (apos.endLine == cpos.line) = true := by rfl) (hs : starEach (e :: es) X.env = (false, eval e X.env) :: starEach es X.env := by rfl) (hplain : (backTo cpos (starEach es X.env)).any (·.1) = false := by rfl) :
    PE X (.Call (.Attribute o "index" apos) (e :: es) [] cpos) (TEo X.K W (mIndex mo ma)) := by
  have hL := x_m (X := X) (W := W) PySem.F.plainAttrs_list PySem.F.slot_list_index PySem.F.type_list_index mt_index opM_index ho ha hbase hfew hline hs hplain
  have hT := x_mT (X := X) (W := W) PySem.F.plainAttrs_tuple PySem.F.slot_tuple_index PySem.F.type_tuple_index mt_indexT opM_indexT ho ha hbase hfew hline hs hplain
  refine pe_wrap (pe_or hL hT) fun σ H Q q => ?_
  obtain ⟨ι, env, st, R, EV, p⟩ := q
  have lift : ∀ {m : ME}, (m env st).post (PO1 X.K ι st H Q) (PX1 X.K W ι st H) → TEo X.K W m σ H (fun v H' => HF H' → Q v H') := fun z =>
    ⟨ι, env, st, R, EV, Out.post_mono z (fun _ _ w ι' H' x R' E' r _ => w ι' H' x R' E' r) fun _ _ w => w⟩
  have p2 := Out.post_bind p
  cases e1 : mo env st with
  | stuck => rw [e1] at p2; exact p2.elim
  | exn x s1 =>
    refine .inl (lift ?_)
    show (mM _ mo ma env st).post _ _
    unfold mM
    unfold mIndex at p
    rw [e1] at p ⊢
    exact p
  | ok o1 s1 =>
    unfold mIndex at p
    rw [e1, bind_ok] at p
    split at p
    · rename_i hc
      by_cases hl : isT o1 = true
      · refine .inr (lift ?_)
        show (mMT _ mo ma env st).post _ _
        unfold mMT
        rw [e1, bind_ok, if_pos hl]
        simp only [hl, if_true]
        exact p
      · have hf : isT o1 = false := by simpa using hl
        refine .inl (lift ?_)
        show (mM _ mo ma env st).post _ _
        unfold mM
        have h2 : isL s1 o1 = true := by simpa [hf] using hc
        rw [e1, bind_ok, if_pos h2]
        simp only [fmIndex_L hf]
        exact p
    · exact p.elim
end
end Fw

namespace Fw
open PySem PySem.Spec PyProof.Rows L2

/-! ### tests -/
/-- a value's truth -/
def truS (st : Sto) (d : D) : Option Bool := match viewS st d with
  | some xs => some (!xs.isEmpty)
  | none => match d with
    | .v .none => some false
    | .v (.bool b) => some b
    | .v (.int i) => some (i != 0)
    | .v (.str z) => if z.length ≤ lim then some ((z.length : Int) != 0) else none
    | d => match viewK st d with
      | some (false, kvs) => some (!kvs.isEmpty)
      | _ => none
def mTru (m : ME) : MT := fun env st => (m env st).bind fun d s1 => match truS s1 d with
  | some k => .ok k s1
  | none => .stuck
/-- a value that is a bool -/
def mTB (m : ME) : MT := fun env st => (m env st).bind fun d s1 => match bOf d with
  | some k => .ok k s1
  | none => .stuck
theorem emp_of {F : Addr → Prop} {H : Hp} {xs : List V} {ds : List PyData} (r : RpA F H xs ds) : xs.isEmpty = ds.isEmpty := by cases r <;> rfl
theorem RK.emp {K : PySem.W.Frag} {ι : Gh} {st : Sto} {H : Hp} {kvs : List (PyData × D)} {xs : List (Key × V)} (r : RK K ι st H kvs xs) : xs.isEmpty = kvs.isEmpty := by cases r <;> rfl
theorem RK.len {K : PySem.W.Frag} {ι : Gh} {st : Sto} {H : Hp} {kvs : List (PyData × D)} {xs : List (Key × V)} (r : RK K ι st H kvs xs) : xs.length = kvs.length := (Paired.length r).symm
/-- a dict in the store as it is (not locked) -/
def kAt (st : Sto) (d : D) : Option (List (PyData × D)) := match d with
  | .ref n => match st[n]? with
    | some (.dct false kvs) => some kvs
    | _ => none
  | _ => none
theorem kAt_at {K : PySem.W.Frag} {ι : Gh} {st : Sto} {H : Hp} (R : SRel K ι st H) {x : V} {d : D} {kvs : List (PyData × D)} (e : kAt st d = some kvs) (r : RD K ι st H x d) :
    ∃ n a xs, d = .ref n ∧ x = .ref a ∧ st[n]? = some (.dct false kvs) ∧ ι.ad[n]? = some a ∧ H a = some (.dK xs) ∧ RK K ι st H kvs xs := by
  cases d with
  | ref k =>
    obtain ⟨a, h1, h2⟩ := r
    cases q : st[k]? with
    | none => simp only [kAt, q] at e; cases e
    | some o =>
      cases o with
      | dct t zs =>
        cases t with
        | false =>
          simp only [kAt, q, Option.some.injEq] at e
          subst e
          obtain ⟨xs, e1, r⟩ := R.obj k _ a q h1
          exact ⟨k, a, xs, rfl, h2, q, h1, e1, r⟩
        | true => simp only [kAt, q] at e; cases e
      | _ => simp only [kAt, q] at e; cases e
  | _ => cases e
def truS' (st : Sto) (d : D) : Option Bool := match viewS st d with
  | some xs => some (!xs.isEmpty)
  | none => match d with
    | .v .none => some false
    | .v (.bool b) => some b
    | .v (.int i) => some (i != 0)
    | .v (.str z) => if z.length ≤ lim then some ((z.length : Int) != 0) else none
    | d => (kAt st d).map fun kvs => !kvs.isEmpty
def mTru' (m : ME) : MT := fun env st => (m env st).bind fun d s1 => match truS' s1 d with
  | some k => .ok k s1
  | none => .stuck
theorem truS_at {K : PySem.W.Frag} {ι : Gh} {st : Sto} {H : Hp} (R : SRel K ι st H) {d : D} {x : V} {k : Bool} (e : truS' st d = some k) (r : RD K ι st H x d) : TruV K x H k := by
  unfold truS' at e
  split at e
  · rename_i xs e1
    obtain ⟨a, us, rfl, h1, h2⟩ := viewS_at R e1 r
    rw [← Option.some.inj e, ← emp_of h2]
    rcases h1 with h1 | h1
    · exact .inl ⟨us, .of h1, rfl⟩
    · exact .inr (.inl ⟨us, h1.sq, rfl⟩)
  · split at e
    · have r' : Rp (Frz ι st) H x .none := r
      cases r'
      exact (Option.some.inj e).symm
    · rename_i b _
      have r' : Rp (Frz ι st) H x (.bool b) := r
      cases r'
      exact (Option.some.inj e).symm
    · rename_i i _
      have r' : Rp (Frz ι st) H x (.int i) := r
      cases r'
      exact (Option.some.inj e).symm
    · rename_i z _
      have r' : Rp (Frz ι st) H x (.str z) := r
      cases r'
      split at e
      · rename_i hl
        exact ⟨lim_ok hl, (Option.some.inj e).symm⟩
      · cases e
    · obtain ⟨kvs, e1, rfl⟩ := Option.map_eq_some_iff.mp e
      obtain ⟨n, a, xs, _, rfl, _, _, h1, h2⟩ := kAt_at R e1 r
      exact .inr (.inr ⟨xs, h1, by rw [h2.emp]⟩)
section
variable {X : Cx} {W : XW} {a b c e : Expr} {es rest : List Expr} {m ma mb mc : ME} {pos : Pos}
theorem tt_tb {σ : L2.St} {H : Hp} {Q : Bool → Hp → Prop} (q : TTo X.K W (mTB m) σ H Q) : TEo X.K W m σ H (fun x H1 => ∃ c, x = .bl c ∧ Q c H1) := by
  obtain ⟨ι, env, st, R, EV, p⟩ := q
  refine ⟨ι, env, st, R, EV, Out.post_mono (Out.post_bind p) (fun d s1 q ι1 H1 x R1 E1 ra => ?_) fun _ _ q => q⟩
  split at q
  · rename_i k e
    exact ⟨k, bOf_at e ra, q ι1 H1 R1 E1⟩
  · exact q.elim
/-- a comparison as a value, as a test -/
theorem x_c {op : CmpOp} (h : PC X op a b (TEo X.K W m)) (h1 : behindInMarks op b = false := by first | exact nobehind _ (by decide) (by decide) | rfl) : PE X (.Compare a [op] [b] pos) (TEo X.K W m) := pe_cmp h h1
theorem t_c {op : CmpOp} (h : PC X op a b (TEo X.K W m)) (h1 : behindInMarks op b = false := by first | exact nobehind _ (by decide) (by decide) | rfl) : PT X (.Compare a [op] [b] pos) (TTo X.K W (mTB m)) :=
  ⟨fun pins s σ H Q I q => (pt_cmp h h1).run pins s σ H Q I (tt_tb q)⟩
/-- any other expression by its value's truth -/
theorem t_v (h : PE X e (TEo X.K W m)) (he : ∀ whole, isTrue e X.env whole = (do let v ← whole; standAt e.pos; holding [v] (truthy v)) := by intro _; rfl) : PT X e (TTo X.K W (mTru' m)) :=
  pt_wrap (pt_truth h he) fun σ H Q q => by
    obtain ⟨ι, env, st, R, EV, p⟩ := q
    refine ⟨ι, env, st, R, EV, Out.post_mono (Out.post_bind p) (fun d s1 q ι1 H1 x R1 E1 ra => ?_) fun _ _ q => q⟩
    split at q
    · rename_i k e
      exact ⟨k, truS_at R1 e ra, fun _ => q ι1 H1 R1 E1⟩
    · exact q.elim
def mNotT (m : MT) : MT := fun env st => (m env st).bind fun k s1 => .ok (!k) s1
def mAndT (m n : MT) : MT := fun env st => (m env st).bind fun k s1 => if k then n env s1 else .ok false s1
def mOrT (m n : MT) : MT := fun env st => (m env st).bind fun k s1 => if k then .ok true s1 else n env s1
variable {t u : MT}
theorem t_not (h : PT X a (TTo X.K W t)) : PT X (.UnaryOp .Not a pos) (TTo X.K W (mNotT t)) := pt_wrap (pt_not h) fun σ H Q q => by
  obtain ⟨ι, env, st, R, EV, p⟩ := q
  exact ⟨ι, env, st, R, EV, Out.post_mono (Out.post_bind p) (fun k s1 q ι1 H1 R1 E1 _ => q ι1 H1 R1 E1) fun _ _ q => q⟩
theorem t_and1 (h : PT X a (TTo X.K W t)) : PW X (.BoolOp .And [a] pos) (TTo X.K W t) := pw_and1 h
theorem t_or1 (h : PT X a (TTo X.K W t)) : PW X (.BoolOp .Or [a] pos) (TTo X.K W t) := pw_or1 h
theorem t_and (h : PT X a (TTo X.K W t)) (h2 : PW X (.BoolOp .And (b :: rest) pos) (TTo X.K W u)) : PW X (.BoolOp .And (a :: b :: rest) pos) (TTo X.K W (mAndT t u)) :=
  pw_wrap (pw_and h h2) fun σ H Q q => by
    obtain ⟨ι, env, st, R, EV, p⟩ := q
    refine ⟨ι, env, st, R, EV, Out.post_mono (Out.post_bind p) (fun k s1 q ι1 H1 R1 E1 => ?_) fun _ _ q => q⟩
    cases k with
    | true =>
      rw [if_pos rfl]
      exact ⟨ι1, env, s1, R1, EV.ext E1, Out.post_mono q (fun _ _ z ι' H' R' E' _ => z.ext E1 ι' H' R' E') fun _ _ z => z.ext E1⟩
    | false =>
      rw [if_neg Bool.false_ne_true]
      exact fun _ => q ι1 H1 R1 E1
theorem t_or (h : PT X a (TTo X.K W t)) (h2 : PW X (.BoolOp .Or (b :: rest) pos) (TTo X.K W u)) : PW X (.BoolOp .Or (a :: b :: rest) pos) (TTo X.K W (mOrT t u)) :=
  pw_wrap (pw_or h h2) fun σ H Q q => by
    obtain ⟨ι, env, st, R, EV, p⟩ := q
    refine ⟨ι, env, st, R, EV, Out.post_mono (Out.post_bind p) (fun k s1 q ι1 H1 R1 E1 => ?_) fun _ _ q => q⟩
    cases k with
    | false =>
      rw [if_neg Bool.false_ne_true]
      exact ⟨ι1, env, s1, R1, EV.ext E1, Out.post_mono q (fun _ _ z ι' H' R' E' _ => z.ext E1 ι' H' R' E') fun _ _ z => z.ext E1⟩
    | true =>
      rw [if_pos rfl]
      exact fun _ => q ι1 H1 R1 E1
/-- a and b, a or b, not a as values -/
def mAndV (ma mb : ME) : ME := fun env st => (ma env st).bind fun d s1 => match truS' s1 d with
  | some true => mb env s1
  | some false => .ok d s1
  | none => .stuck
def mOrV (ma mb : ME) : ME := fun env st => (ma env st).bind fun d s1 => match truS' s1 d with
  | some false => mb env s1
  | some true => .ok d s1
  | none => .stuck
def mNotV (ma : ME) : ME := fun env st => (ma env st).bind fun d s1 => match truS' s1 d with
  | some k => .ok (.v (.bool (!k))) s1
  | none => .stuck
theorem x_one {op} (h : PE X a (TEo X.K W m)) : PE X (.BoolOp op [a] pos) (TEo X.K W m) := pe_one h
theorem x_and (ha : PE X a (TEo X.K W ma)) (hb : PE X (.BoolOp .And (b :: rest) pos) (TEo X.K W mb)) : PE X (.BoolOp .And (a :: b :: rest) pos) (TEo X.K W (mAndV ma mb)) :=
  pe_wrap (pe_andT ha hb) fun σ H Q q => by
    obtain ⟨ι, env, st, R, EV, p⟩ := q
    refine ⟨ι, env, st, R, EV, Out.post_mono (Out.post_bind p) (fun d s1 q ι1 H1 x R1 E1 ra => ?_) fun _ _ q => q⟩
    split at q
    · rename_i e
      refine ⟨true, truS_at R1 e ra, ?_⟩
      rw [if_pos rfl]
      exact ⟨ι1, env, s1, R1, EV.ext E1, Out.post_mono q (fun _ _ z ι' H' x' R' E' r' _ => z.ext E1 ι' H' x' R' E' r') fun _ _ z => z.ext E1⟩
    · rename_i e
      refine ⟨false, truS_at R1 e ra, ?_⟩
      rw [if_neg Bool.false_ne_true]
      exact fun _ => q ι1 H1 x R1 E1 ra
    · exact q.elim
theorem x_or (ha : PE X a (TEo X.K W ma)) (hb : PE X (.BoolOp .Or (b :: rest) pos) (TEo X.K W mb)) : PE X (.BoolOp .Or (a :: b :: rest) pos) (TEo X.K W (mOrV ma mb)) :=
  pe_wrap (pe_orT ha hb) fun σ H Q q => by
    obtain ⟨ι, env, st, R, EV, p⟩ := q
    refine ⟨ι, env, st, R, EV, Out.post_mono (Out.post_bind p) (fun d s1 q ι1 H1 x R1 E1 ra => ?_) fun _ _ q => q⟩
    split at q
    · rename_i e
      refine ⟨false, truS_at R1 e ra, ?_⟩
      rw [if_neg Bool.false_ne_true]
      exact ⟨ι1, env, s1, R1, EV.ext E1, Out.post_mono q (fun _ _ z ι' H' x' R' E' r' _ => z.ext E1 ι' H' x' R' E' r') fun _ _ z => z.ext E1⟩
    · rename_i e
      refine ⟨true, truS_at R1 e ra, ?_⟩
      rw [if_pos rfl]
      exact fun _ => q ι1 H1 x R1 E1 ra
    · exact q.elim
theorem x_not (ha : PE X a (TEo X.K W ma)) : PE X (.UnaryOp .Not a pos) (TEo X.K W (mNotV ma)) :=
  pe_wrap (pe_notT ha) fun σ H Q q => by
    obtain ⟨ι, env, st, R, EV, p⟩ := q
    refine ⟨ι, env, st, R, EV, Out.post_mono (Out.post_bind p) (fun d s1 q ι1 H1 x R1 E1 ra => ?_) fun _ _ q => q⟩
    split at q
    · rename_i k e
      exact ⟨k, truS_at R1 e ra, fun _ => q ι1 H1 _ R1 E1 (.bl _)⟩
    · exact q.elim
def mIte (t : MT) (ma mb : ME) : ME := fun env st => (t env st).bind fun k s1 => if k then ma env s1 else mb env s1
theorem x_ite (hc : PT X c (TTo X.K W t)) (ha : PE X a (TEo X.K W ma)) (hb : PE X b (TEo X.K W mb)) : PE X (.IfExp c a b pos) (TEo X.K W (mIte t ma mb)) :=
  pe_wrap (pe_ifExp hc ha hb) fun σ H Q q => by
    obtain ⟨ι, env, st, R, EV, p⟩ := q
    refine ⟨ι, env, st, R, EV, Out.post_mono (Out.post_bind p) (fun k s1 q ι1 H1 R1 E1 => ?_) fun _ _ q => q⟩
    have q' : ∀ {mm : ME}, (mm env s1).post (PO1 X.K ι st H Q) (PX1 X.K W ι st H) → TEo X.K W mm σ H1 (fun v H' => HF H' → Q v H') := fun z =>
      ⟨ι1, env, s1, R1, EV.ext E1, Out.post_mono z (fun _ _ z ι' H' x' R' E' r' _ => z.ext E1 ι' H' x' R' E' r') fun _ _ z => z.ext E1⟩
    cases k with
    | true => exact iteT (q' q)
    | false => exact iteF (q' q)
/-- a op b op' c -/
def mChain (f f' : F2) (ma mb mc : ME) : ME := fun env st => (ma env st).bind fun a s1 => (mb env s1).bind fun b s2 => (f a b s2).bind fun z s3 => match bOf z with
  | some true => (mc env s3).bind fun c s4 => f' b c s4
  | some false => .ok (.v (.bool false)) s3
  | none => .stuck
theorem x_chain {op op' : CmpOp} {r r' : R2} {f f' : F2} (ho : OpR X (compareOp op) r) (ho' : OpR X (compareOp op') r') (hf : Op2 X.K W r f) (hf' : Op2 X.K W r' f') (ha : PE X a (TEo X.K W ma)) (hb : PE X b (TEo X.K W mb)) (hc : PE X c (TEo X.K W mc))
    (hm : lastMarks [op, op'] [b, c] = false := by with_unfolding_all rfl) : PE X (.Compare a [op, op'] [b, c] pos) (TEo X.K W (mChain f f' ma mb mc)) := by
  refine ⟨fun pins s σ H Q I q => ?_⟩
  refine (pe_chain (X := X) (pos := pos) (r := fun x y H Q => r x y H (fun v H' => HF H' → Q v H')) (r' := fun x y H Q => r' x y H (fun v H' => HF H' → Q v H')) ?_ ?_ ha hb hc hm).run pins s σ H Q I ?_
  · exact fun pins s σ H x y v u Q I rx ry h => thn (ho pins s σ H x y v u _ I rx ry h) fun _ _ ⟨v, H', I', r, q'⟩ => ⟨v, H', I', r, q' (hf_of I')⟩
  · exact fun pins s σ H x y v u Q I rx ry h => thn (ho' pins s σ H x y v u _ I rx ry h) fun _ _ ⟨v, H', I', r, q'⟩ => ⟨v, H', I', r, q' (hf_of I')⟩
  · obtain ⟨ι, env, st, R, EV, p⟩ := q
    refine ⟨ι, env, st, R, EV, Out.post_mono (Out.post_bind p) (fun a s1 q ι1 H1 x R1 E1 ra => ?_) fun _ _ q => q⟩
    refine ⟨ι1, env, s1, R1, EV.ext E1, Out.post_mono (Out.post_bind q) (fun b s2 q2 ι2 H2 y R2 E2 rb => ?_) fun _ _ z => z.ext E1⟩
    refine hf ι2 s2 H2 x y a b _ R2 (ra.ext E2) rb (Out.post_mono (Out.post_bind q2) (fun z s3 q3 ι3 H3 w R3 E3 rz => ?_) fun _ _ z => (z.ext E1).ext E2)
    have E13 := E1.trans (E2.trans E3)
    split at q3
    · rename_i e
      refine ⟨true, bOf_at e rz, iteT ?_⟩
      refine ⟨ι3, env, s3, R3, EV.ext E13, Out.post_mono (Out.post_bind q3) (fun c s4 q4 ι4 H4 w' R4 E4 rc => ?_) fun _ _ z => z.ext E13⟩
      exact hf' ι4 s4 H4 y w' b c Q R4 ((rb.ext E3).ext E4) rc (Out.post_mono q4 (fun _ _ z => (z.ext E13).ext E4) fun _ _ z => (z.ext E13).ext E4)
    · rename_i e
      exact ⟨false, bOf_at e rz, iteF (q3 ι3 H3 _ R3 E13 (.bl _))⟩
    · exact q3.elim
theorem t_chain {op op' : CmpOp} {r r' : R2} {f f' : F2} (ho : OpR X (compareOp op) r) (ho' : OpR X (compareOp op') r') (hf : Op2 X.K W r f) (hf' : Op2 X.K W r' f') (ha : PE X a (TEo X.K W ma)) (hb : PE X b (TEo X.K W mb)) (hc : PE X c (TEo X.K W mc))
    (hm : lastMarks [op, op'] [b, c] = false := by with_unfolding_all rfl) : PT X (.Compare a [op, op'] [b, c] pos) (TTo X.K W (mTB (mChain f f' ma mb mc))) := by
  refine ⟨fun pins s σ H Q I q => ?_⟩
  refine (pt_chain (X := X) (pos := pos) (r := fun x y H Q => r x y H (fun v H' => HF H' → Q v H')) (r' := fun x y H Q => r' x y H (fun v H' => HF H' → Q v H')) ?_ ?_ ha hb hc hm).run pins s σ H Q I ?_
  · exact fun pins s σ H x y v u Q I rx ry h => thn (ho pins s σ H x y v u _ I rx ry h) fun _ _ ⟨v, H', I', r, q'⟩ => ⟨v, H', I', r, q' (hf_of I')⟩
  · exact fun pins s σ H x y v u Q I rx ry h => thn (ho' pins s σ H x y v u _ I rx ry h) fun _ _ ⟨v, H', I', r, q'⟩ => ⟨v, H', I', r, q' (hf_of I')⟩
  · obtain ⟨ι, env, st, R, EV, p⟩ := tt_tb q
    refine ⟨ι, env, st, R, EV, Out.post_mono (Out.post_bind p) (fun a s1 q ι1 H1 x R1 E1 ra => ?_) fun _ _ q => q⟩
    refine ⟨ι1, env, s1, R1, EV.ext E1, Out.post_mono (Out.post_bind q) (fun b s2 q2 ι2 H2 y R2 E2 rb => ?_) fun _ _ z => z.ext E1⟩
    refine hf ι2 s2 H2 x y a b _ R2 (ra.ext E2) rb (Out.post_mono (Out.post_bind q2) (fun z s3 q3 ι3 H3 w R3 E3 rz => ?_) fun _ _ z => (z.ext E1).ext E2)
    have E13 := E1.trans (E2.trans E3)
    split at q3
    · rename_i e
      refine ⟨true, bOf_at e rz, iteT ?_⟩
      refine ⟨ι3, env, s3, R3, EV.ext E13, Out.post_mono (Out.post_bind q3) (fun c s4 q4 ι4 H4 w' R4 E4 rc => ?_) fun _ _ z => z.ext E13⟩
      exact hf' ι4 s4 H4 y w' b c _ R4 ((rb.ext E3).ext E4) rc (Out.post_mono q4 (fun _ _ z => (z.ext E13).ext E4) fun _ _ z => (z.ext E13).ext E4)
    · rename_i e
      exact ⟨false, bOf_at e rz, iteF (q3 ι3 H3 _ R3 E13 (.bl _))⟩
    · exact q3.elim
end
end Fw

namespace Fw
open PySem PySem.Spec PyProof.Rows L2

/-! ### statements -/
inductive SO where
  | nx (env : Ev) (st : Sto)
  | rt (d : D) (st : Sto)
  | bk (env : Ev) (st : Sto)
  | ct (env : Ev) (st : Sto)
  | exn (e : Exn) (st : Sto)
  | stuck
abbrev MS := Ev → Sto → SO
def SO.post (K : PySem.W.Frag) (W : XW) (ι : Gh) (st : Sto) (H : Hp) (D : Ends) : SO → Prop
  | .nx env s1 => ∀ ι' H' σ', SRel K ι' s1 H' → Ext ι st H ι' s1 H' → EvR K ι' s1 H' σ' env → D.nx σ' H'
  | .rt d s1 => ∀ ι' H' x, SRel K ι' s1 H' → Ext ι st H ι' s1 H' → RD K ι' s1 H' x d → D.rt x H'
  | .bk env s1 => ∀ ι' H' σ', SRel K ι' s1 H' → Ext ι st H ι' s1 H' → EvR K ι' s1 H' σ' env → D.bk σ' H'
  | .ct env s1 => ∀ ι' H' σ', SRel K ι' s1 H' → Ext ι st H ι' s1 H' → EvR K ι' s1 H' σ' env → D.ct σ' H'
  | .exn e s1 => PX1 K W ι st H e s1
  | .stuck => False
def TSo (K : PySem.W.Frag) (W : XW) (m : MS) : TS := fun D σ H => ∃ ι env st, SRel K ι st H ∧ EvR K ι st H σ env ∧ (m env st).post K W ι st H D
def Out.thn {α : Type} (x : Out α) (f : α → Sto → SO) : SO := match x with
  | .ok a st => f a st
  | .exn e st => .exn e st
  | .stuck => .stuck
@[simp] theorem thn_ok {α : Type} (a : α) (st : Sto) (f : α → Sto → SO) : (Out.ok a st).thn f = f a st := rfl
@[simp] theorem thn_stuck {α : Type} (f : α → Sto → SO) : (Out.stuck : Out α).thn f = .stuck := rfl
@[simp] theorem thn_exn {α : Type} (e : Exn) (st : Sto) (f : α → Sto → SO) : (Out.exn e st : Out α).thn f = .exn e st := rfl
def SO.seq (x : SO) (f : MS) : SO := match x with
  | .nx env st => f env st
  | o => o
@[simp] theorem seq_nx (env : Ev) (st : Sto) (f : MS) : (SO.nx env st).seq f = f env st := rfl
@[simp] theorem seq_rt (d : D) (st : Sto) (f : MS) : (SO.rt d st).seq f = .rt d st := rfl
@[simp] theorem seq_bk (env : Ev) (st : Sto) (f : MS) : (SO.bk env st).seq f = .bk env st := rfl
@[simp] theorem seq_ct (env : Ev) (st : Sto) (f : MS) : (SO.ct env st).seq f = .ct env st := rfl
@[simp] theorem seq_exn (e : Exn) (st : Sto) (f : MS) : (SO.exn e st).seq f = .exn e st := rfl
@[simp] theorem seq_stuck (f : MS) : SO.stuck.seq f = .stuck := rfl
section
variable {K : PySem.W.Frag} {W : XW} {ι ι' : Gh} {st st' : Sto} {H H' : Hp}
theorem SO.post_ext {D : Ends} (E : Ext ι st H ι' st' H') : ∀ {o : SO}, o.post K W ι st H D → o.post K W ι' st' H' D
  | .nx _ _, h => fun i1 h1 s1 R1 E1 r => h i1 h1 s1 R1 (E.trans E1) r
  | .rt _ _, h => fun i1 h1 s1 R1 E1 r => h i1 h1 s1 R1 (E.trans E1) r
  | .bk _ _, h => fun i1 h1 s1 R1 E1 r => h i1 h1 s1 R1 (E.trans E1) r
  | .ct _ _, h => fun i1 h1 s1 R1 E1 r => h i1 h1 s1 R1 (E.trans E1) r
  | .exn _ _, h => PX1.ext h E
  | .stuck, h => h
theorem SO.post_mono {D D' : Ends} (h1 : ∀ σ H, D.nx σ H → D'.nx σ H) (h2 : ∀ x H, D.rt x H → D'.rt x H) (h3 : ∀ σ H, D.bk σ H → D'.bk σ H) (h4 : ∀ σ H, D.ct σ H → D'.ct σ H) : ∀ {o : SO}, o.post K W ι st H D → o.post K W ι st H D'
  | .nx _ _, h => fun i1 g s1 R1 E1 r => h1 _ _ (h i1 g s1 R1 E1 r)
  | .rt _ _, h => fun i1 g s1 R1 E1 r => h2 _ _ (h i1 g s1 R1 E1 r)
  | .bk _ _, h => fun i1 g s1 R1 E1 r => h3 _ _ (h i1 g s1 R1 E1 r)
  | .ct _ _, h => fun i1 g s1 R1 E1 r => h4 _ _ (h i1 g s1 R1 E1 r)
  | .exn _ _, h => h
  | .stuck, h => h
theorem thn_post {α : Type} {x : Out α} {f : α → Sto → SO} {D : Ends} (h : (x.thn f).post K W ι st H D) : x.post (fun a s1 => (f a s1).post K W ι st H D) (PX1 K W ι st H) := by
  cases x <;> exact h
end
/-- the ends with the sizes told -/
def hfE (D : Ends) : Ends := ⟨fun σ H => HF H → D.nx σ H, fun v H => HF H → D.rt v H, fun σ H => HF H → D.bk σ H, fun σ H => HF H → D.ct σ H⟩
theorem hf_SP {X : Cx} {pins : List (Addr × Obj)} {D : Ends} {f : Flow} {s' : Shared} (h : SP X pins (hfE D) f s') : SP X pins D f s' := by
  cases f with
  | next => obtain ⟨σ', H', I, q⟩ := h; exact ⟨σ', H', I, q (hf_of I)⟩
  | brk => obtain ⟨σ', H', I, q⟩ := h; exact ⟨σ', H', I, q (hf_of I)⟩
  | cont => obtain ⟨σ', H', I, q⟩ := h; exact ⟨σ', H', I, q (hf_of I)⟩
  | ret u => obtain ⟨v, σ', H', I, r, q⟩ := h; exact ⟨v, σ', H', I, r, q (hf_of I)⟩
theorem post_hf {K : PySem.W.Frag} {W : XW} {ι : Gh} {st : Sto} {H : Hp} {D : Ends} {o : SO} (h : o.post K W ι st H D) : o.post K W ι st H (hfE D) :=
  SO.post_mono (fun _ _ q _ => q) (fun _ _ q _ => q) (fun _ _ q _ => q) (fun _ _ q _ => q) h
section
variable {X : Cx} {W : XW} {s : Stmt} {ss rest : List Stmt} {e c : Expr} {m : ME} {t : MT} {a b : MS} {pos : Pos}
theorem ps_wrap {tt : TS} {m : MS} (h : PS X s tt) (hi : ∀ D σ H, TSo X.K W m D σ H → tt (hfE D) σ H) : PS X s (TSo X.K W m) :=
  ⟨fun pins s σ H D I q => thn (h.run pins s σ H _ I (hi D σ H q)) fun _ _ z => hf_SP z⟩
theorem pss_wrap {tt : TS} {m : MS} (h : PSs X ss tt) (hi : ∀ D σ H, TSo X.K W m D σ H → tt (hfE D) σ H) : PSs X ss (TSo X.K W m) :=
  ⟨fun pins s σ H D I q => thn (h.run pins s σ H _ I (hi D σ H q)) fun _ _ z => hf_SP z⟩
def sNil : MS := fun env st => .nx env st
def sSeq (a b : MS) : MS := fun env st => (a env st).seq b
theorem ss_nil : PSs X [] (TSo X.K W sNil) := pss_wrap pss_nil fun D σ H q => by
  obtain ⟨ι, env, st, R, EV, p⟩ := q
  exact fun _ => p ι H σ R Ext.refl EV
theorem ss_one (h : PS X s (TSo X.K W a)) : PSs X [s] (TSo X.K W a) := pss_one h
theorem ss_cons (h : PS X s (TSo X.K W a)) (h2 : PSs X rest (TSo X.K W b)) : PSs X (s :: rest) (TSo X.K W (sSeq a b)) := by
  refine ⟨fun pins sh σ H D I q => (pss_cons h h2).run pins sh σ H D I ?_⟩
  obtain ⟨ι, env, st, R, EV, p⟩ := q
  refine ⟨ι, env, st, R, EV, ?_⟩
  unfold sSeq at p
  cases e : a env st with
  | nx env1 s1 =>
    rw [e] at p
    exact fun ι1 H1 σ1 R1 E1 EV1 => ⟨ι1, env1, s1, R1, EV1, SO.post_ext E1 p⟩
  | rt d s1 => rw [e] at p; exact p
  | bk e1 s1 => rw [e] at p; exact p
  | ct e1 s1 => rw [e] at p; exact p
  | exn e1 s1 => rw [e] at p; exact p
  | stuck => rw [e] at p; exact p
def sRet (m : ME) : MS := fun env st => (m env st).thn fun d s1 => .rt d s1
def sRetN : MS := fun _ st => .rt (.v .none) st
def sExp (m : ME) : MS := fun env st => (m env st).thn fun _ s1 => .nx env s1
def sIf (t : MT) (a b : MS) : MS := fun env st => (t env st).thn fun k s1 => if k then a env s1 else b env s1
def sBreak : MS := fun env st => .bk env st
def sCont : MS := fun env st => .ct env st
theorem s_ret (h : PE X e (TEo X.K W m)) : PS X (.Return (some e) pos) (TSo X.K W (sRet m)) := ps_wrap (ps_ret h) fun D σ H q => by
  obtain ⟨ι, env, st, R, EV, p⟩ := q
  exact ⟨ι, env, st, R, EV, Out.post_mono (thn_post p) (fun d s1 q ι1 H1 x R1 E1 ra _ => q ι1 H1 x R1 E1 ra) fun _ _ q => q⟩
theorem s_retN : PS X (.Return none pos) (TSo X.K W sRetN) := ps_wrap ps_retN fun D σ H q => by
  obtain ⟨ι, env, st, R, EV, p⟩ := q
  exact fun _ => p ι H .non R Ext.refl .non
theorem s_expr (h : PE X e (TEo X.K W m)) (hs : swapsWith e none pos.line X.env = pure false := by rfl) : PS X (.Expr e pos) (TSo X.K W (sExp m)) := ps_wrap (ps_expr h hs) fun D σ H q => by
  obtain ⟨ι, env, st, R, EV, p⟩ := q
  exact ⟨ι, env, st, R, EV, Out.post_mono (thn_post p) (fun d s1 q ι1 H1 x R1 E1 ra _ => q ι1 H1 σ R1 E1 (EV.ext E1)) fun _ _ q => q⟩
theorem s_pass : PS X (.Pass pos) (TSo X.K W sNil) := ps_wrap ps_pass fun D σ H q => by
  obtain ⟨ι, env, st, R, EV, p⟩ := q
  exact fun _ => p ι H σ R Ext.refl EV
theorem s_break : PS X (.Break pos) (TSo X.K W sBreak) := ps_wrap ps_break fun D σ H q => by
  obtain ⟨ι, env, st, R, EV, p⟩ := q
  exact fun _ => p ι H σ R Ext.refl EV
theorem s_cont : PS X (.Continue pos) (TSo X.K W sCont) := ps_wrap ps_continue fun D σ H q => by
  obtain ⟨ι, env, st, R, EV, p⟩ := q
  exact fun _ => p ι H σ R Ext.refl EV
theorem s_if {p q : List Stmt} (hc : PT X c (TTo X.K W t)) (ha : PSs X p (TSo X.K W a)) (hb : PSs X q (TSo X.K W b)) : PS X (.If c p q pos) (TSo X.K W (sIf t a b)) := ps_wrap (ps_if hc ha hb) fun D σ H q => by
  obtain ⟨ι, env, st, R, EV, p⟩ := q
  refine ⟨ι, env, st, R, EV, Out.post_mono (thn_post p) (fun k s1 q ι1 H1 R1 E1 => ?_) fun _ _ q => q⟩
  cases k with
  | true => exact iteT ⟨ι1, env, s1, R1, EV.ext E1, post_hf (SO.post_ext E1 q)⟩
  | false => exact iteF ⟨ι1, env, s1, R1, EV.ext E1, post_hf (SO.post_ext E1 q)⟩
end

/-! ### targets -/
/-- what is stored: a value, or a new tuple's items -/
inductive Itm where
  | one (d : D)
  | many (ds : List D)
def RI (K : PySem.W.Frag) (ι : Gh) (st : Sto) (H : Hp) (x : V) : Itm → Prop
  | .one d => RD K ι st H x d
  | .many ds => ∃ a xs, x = .ref a ∧ Rd H a (.tup xs) ∧ Frz ι st a ∧ RDs K ι st H xs ds
theorem RI.ext {K : PySem.W.Frag} {ι ι' : Gh} {st st' : Sto} {H H' : Hp} (E : Ext ι st H ι' st' H') {x : V} : ∀ {d : Itm}, RI K ι st H x d → RI K ι' st' H' x d
  | .one _, h => RD.ext E h
  | .many _, ⟨a, xs, h1, h2, h3, h4⟩ => by
    rcases h2 with h2 | ⟨o, h2⟩
    · obtain ⟨f, k⟩ := E.keep _ _ h2 h3
      exact ⟨a, xs, h1, .inl k, f, RDs.ext E h4⟩
    · obtain ⟨f, k⟩ := E.keep _ _ h2 h3
      exact ⟨a, xs, h1, .inr ⟨o, k⟩, f, RDs.ext E h4⟩
abbrev MG := Itm → Ev → Sto → Out Ev
abbrev MGs := List D → Ev → Sto → Out Ev
/-- within a block: no other slots are changed than the block's own -/
def Wp (vs : Option (List Nat)) (σ σ' : L2.St) : Prop := match vs with
  | none => True
  | some vs => L2.wipe σ' vs = L2.wipe σ vs
theorem Wp.refl {vs : Option (List Nat)} {σ : L2.St} : Wp vs σ σ := by cases vs <;> trivial
theorem Wp.trans {vs : Option (List Nat)} {σ σ' σ2 : L2.St} (a : Wp vs σ σ') (b : Wp vs σ' σ2) : Wp vs σ σ2 := by
  cases vs with
  | none => trivial
  | some vs => exact Eq.trans b a
theorem wipe_set {i : Nat} {v : V} : ∀ {vs : List Nat} {σ : L2.St}, i ∈ vs → L2.wipe (σ.set i (some v)) vs = L2.wipe σ vs
  | j :: vs, σ, h => by
    unfold L2.wipe
    by_cases e : i ∈ vs
    · rw [wipe_set e]
    · have hj : i = j := by
        rcases List.mem_cons.mp h with h | h
        · exact h
        · exact absurd h e
      subst hj
      have key : ∀ (ws : List Nat), i ∉ ws → L2.wipe (σ.set i (some v)) ws = (L2.wipe σ ws).set i (some v) := by
        intro ws
        induction ws with
        | nil => intro _; rfl
        | cons k ws ih =>
          intro hk
          rw [List.mem_cons, not_or] at hk
          unfold L2.wipe
          rw [ih hk.2, List.set_comm _ _ hk.1]
      rw [key vs e, List.set_set]
theorem Wp.set {vs : Option (List Nat)} {i : Nat} (h : ∀ ws, vs = some ws → i ∈ ws) {σ : L2.St} {v : V} : Wp vs σ (σ.set i (some v)) := by
  cases vs with
  | none => trivial
  | some ws => exact wipe_set (h ws rfl)
def PG1 (K : PySem.W.Frag) (vs : Option (List Nat)) (σ : L2.St) (ι : Gh) (st : Sto) (H : Hp) (Q : L2.St → Hp → Prop) (env : Ev) (st' : Sto) : Prop := ∀ ι' H' σ', SRel K ι' st' H' → Ext ι st H ι' st' H' → EvR K ι' st' H' σ' env → Wp vs σ σ' → Q σ' H'
theorem PG1.ext {K : PySem.W.Frag} {vs : Option (List Nat)} {σ σ1 : L2.St} {ι ι' : Gh} {st st' s2 : Sto} {H H' : Hp} {Q : L2.St → Hp → Prop} {env : Ev} (h : PG1 K vs σ ι st H Q env s2) (e : Ext ι st H ι' st' H') (w : Wp vs σ σ1) : PG1 K vs σ1 ι' st' H' Q env s2 :=
  fun i g σ R E r z => h i g σ R (e.trans E) r (w.trans z)
def TGo (K : PySem.W.Frag) (W : XW) (m : MG) (vs : Option (List Nat) := none) : TG := fun x σ H Q => ∃ ι env st d, SRel K ι st H ∧ EvR K ι st H σ env ∧ RI K ι st H x d ∧ (m d env st).post (PG1 K vs σ ι st H Q) (PX1 K W ι st H)
def TGso (K : PySem.W.Frag) (W : XW) (m : MGs) (vs : Option (List Nat) := none) : TGs := fun xs σ H Q => ∃ ι env st ds, SRel K ι st H ∧ EvR K ι st H σ env ∧ RDs K ι st H xs ds ∧ (m ds env st).post (PG1 K vs σ ι st H Q) (PX1 K W ι st H)
def gNm (i : Nat) : MG := fun x env st => match x with
  | .one d => .ok (env.set i (some d)) st
  | .many _ => .stuck
def gNone : MGs := fun ds env st => match ds with
  | [] => .ok env st
  | _ => .stuck
def gMore (g : MG) (r : MGs) : MGs := fun ds env st => match ds with
  | d :: t => (g (.one d) env st).bind fun e1 s1 => r t e1 s1
  | _ => .stuck
/-- a tuple of n targets -/
def gTp (n : Nat) (gs : MGs) : MG := fun x env st => match x with
  | .many ds => if ds.length = n then gs ds env st else .stuck
  | .one d => match tOf d with
    | some zs => if zs.length = n then gs (zs.map .v) env st else .stuck
    | none => .stuck
section
variable {X : Cx} {W : XW} {tg e : Expr} {ts : List Expr} {g : MG} {gs : MGs} {pos : Pos} {vs : Option (List Nat)}
theorem pg_wrap {t : TG} (h : PG X tg t) (hi : ∀ x σ H Q, TGo X.K W g vs x σ H Q → t x σ H (fun σ' H' => HF H' → Q σ' H')) : PG X tg (TGo X.K W g vs) :=
  ⟨fun pins s σ H v u Q I r q => thn (h.run pins s σ H v u _ I r (hi v σ H Q q)) fun _ _ ⟨σ', H', I', q'⟩ => ⟨σ', H', I', q' (hf_of I')⟩⟩
theorem pgs_wrap {t : TGs} (h : PGs X ts t) (hi : ∀ x σ H Q, TGso X.K W gs vs x σ H Q → t x σ H (fun σ' H' => HF H' → Q σ' H')) : PGs X ts (TGso X.K W gs vs) :=
  ⟨fun pins s σ H v u Q I r q => thn (h.run pins s σ H v u _ I r (hi v σ H Q q)) fun _ _ ⟨σ', H', I', q'⟩ => ⟨σ', H', I', q' (hf_of I')⟩⟩
theorem g_name (i : Nat) {x : Str} (h : PG X (.Name x pos) (gName i)) (hv : ∀ ws, vs = some ws → i ∈ ws := by first | exact fun _ z => nomatch z | (intro ws z; cases z; decide)) : PG X (.Name x pos) (TGo X.K W (gNm i) vs) := pg_wrap h fun x σ H Q q => by
  obtain ⟨ι, env, st, d, R, EV, r, p⟩ := q
  cases d with
  | one d => exact fun _ => p ι H _ R Ext.refl (EV.set r i) (Wp.set hv)
  | many _ => exact p.elim
theorem gs_nil : PGs X [] (TGso X.K W gNone vs) := pgs_wrap pgs_nil fun xs σ H Q q => by
  obtain ⟨ι, env, st, ds, R, EV, r, p⟩ := q
  cases r with
  | nil => exact ⟨rfl, fun _ => p ι H σ R Ext.refl EV Wp.refl⟩
  | cons _ _ => exact p.elim
theorem gs_cons (h : PG X e (TGo X.K W g vs)) (h2 : PGs X ts (TGso X.K W gs vs)) (hs : (assignEach (e :: ts) X.env).map (·.2) = assign e X.env :: (assignEach ts X.env).map (·.2) := by rfl) : PGs X (e :: ts) (TGso X.K W (gMore g gs) vs) :=
  pgs_wrap (pgs_cons h h2 hs) fun xs σ H Q q => by
    obtain ⟨ι, env, st, ds, R, EV, r, p⟩ := q
    cases r with
    | nil => exact p.elim
    | cons h1 t =>
      rename_i _ d _ ds
      refine ⟨_, _, rfl, ι, env, st, .one d, R, EV, h1, Out.post_mono (Out.post_bind p) (fun e1 s1 q ι1 H1 σ1 R1 E1 EV1 w1 => ?_) fun _ _ q => q⟩
      exact ⟨ι1, e1, s1, ds, R1, EV1, RDs.ext E1 t, Out.post_mono q (fun _ _ z i g σ' R' E' r' w' _ => z.ext E1 w1 i g σ' R' E' r' w') fun _ _ z => z.ext E1⟩
theorem rds_vals {K : PySem.W.Frag} {ι : Gh} {st : Sto} {H : Hp} : ∀ {xs : List V} {zs : List PyData}, RpA (Frz ι st) H xs zs → RDs K ι st H xs (zs.map .v)
  | _, _, .nil => .nil
  | _, _, .cons h t => .cons h (rds_vals t)
theorem g_tup {k n : Nat} (hc : X.calm = true) (h : PGs X ts (TGso X.K W gs vs)) (hst : PG X (.Tuple ts k pos) (gTup X.K n (TGso X.K W gs vs))) : PG X (.Tuple ts k pos) (TGo X.K W (gTp n gs) vs) := pg_wrap hst fun x σ H Q q => by
  obtain ⟨ι, env, st, d, R, EV, r, p⟩ := q
  have up : ∀ {ds : List D} {xs : List V}, RDs X.K ι st H xs ds → (gs ds env st).post (PG1 X.K vs σ ι st H Q) (PX1 X.K W ι st H) → TGso X.K W gs vs xs σ H (fun σ' H' => HF H' → Q σ' H') := fun r q =>
    ⟨ι, env, st, _, R, EV, r, Out.post_mono q (fun _ _ z i g σ' R' E' r' w' _ => z i g σ' R' E' r' w') fun _ _ z => z⟩
  cases d with
  | many ds =>
    obtain ⟨a, xs, rfl, h1, h2, h3⟩ := r
    replace p : (if ds.length = n then gs ds env st else .stuck).post (PG1 X.K vs σ ι st H Q) (PX1 X.K W ι st H) := p
    split at p
    · rename_i hl
      exact ⟨a, xs, rfl, .inl h1, by rw [h3.length]; exact hl, up h3 p⟩
    · exact p.elim
  | one d =>
    unfold gTp at p
    simp only at p
    split at p
    · rename_i zs e
      split at p
      · rename_i hl
        obtain ⟨a, xs, rfl, h1, h2⟩ := tOf_at e r
        exact ⟨a, xs, rfl, h1.sq, by rw [h2.length]; exact hl, up (rds_vals h2) p⟩
      · exact p.elim
    · exact p.elim
end

/-! ### assignments -/
theorem hf_upd {H : Hp} (h : HF H) {p : Addr} {u : HO} (hu : szOk u) : HF (upd H p u) := fun a v e => by
  by_cases ha : a = p
  · subst ha
    rw [upd_same] at e
    cases e
    exact hu
  · rw [upd_ne ha] at e
    exact h a v e
theorem hf_tup {H : Hp} (h : HF H) {p : Addr} {xs : List V} (hl : xs.length ≤ sizeLine) : HF (upd H p (.tup xs)) := hf_upd h hl
theorem hf_lst {H : Hp} (h : HF H) {p : Addr} {xs : List V} (hl : xs.length ≤ sizeLine) : HF (upd H p (.lst xs)) := hf_upd h hl
def sAsg (m : ME) (g : MG) : MS := fun env st => (m env st).thn fun d s1 => (g (.one d) env s1).thn fun e1 s2 => .nx e1 s2
def sAsgT (n : Nat) (m : MA) (gs : MGs) : MS := fun env st => (m env st).thn fun ds s1 => if ds.length = n ∧ n ≤ 1000 then (gs ds env s1).thn fun e1 s2 => .nx e1 s2 else .stuck
def sPar2 (i j : Nat) (m : MA) : MS := fun env st => (m env st).thn fun ds s1 => match ds with
  | [a, b] => .nx ((env.set i (some a)).set j (some b)) s1
  | _ => .stuck
def sPar3 (i j l : Nat) (m : MA) : MS := fun env st => (m env st).thn fun ds s1 => match ds with
  | [a, b, c] => .nx (((env.set i (some a)).set j (some b)).set l (some c)) s1
  | _ => .stuck
/-- a dict's pairs with one put in -/
def putD (kvs : List (PyData × D)) (k : PyData) (d : D) : List (PyData × D) :=
  if (kvs.any fun p => keq false p.1 k) = true then kvs.map (fun p => if keq false p.1 k then (p.1, d) else p) else kvs ++ [(k, d)]
def setU (o i d : D) (st : Sto) : Out Unit := match lAt st o, i, d with
  | some (n, zs), .v (.int k), .v z => match ixN zs.length k with
    | some j => .ok () (st.set n (.lst (zs.set j z)))
    | none => .stuck
  | some _, _, _ => .stuck
  | none, .v kd, d => match o, kAt st o, key1 kd with
    | .ref n, some kvs, some _ => if kvs.length < lim ∧ d.low n = true then .ok () (st.set n (.dct false (putD kvs kd d))) else .stuck
    | _, _, _ => .stuck
  | none, _, _ => .stuck
def sSub (m mo mi : ME) : MS := fun env st => (m env st).thn fun d s1 => (mo env s1).thn fun o s2 => (mi env s2).thn fun i s3 => (setU o i d s3).thn fun _ s4 => .nx env s4
section
variable {K : PySem.W.Frag} {ι : Gh} {st : Sto} {H : Hp}
theorem keq_kD {kd : PyData} {k : Key} (hk : key1 kd = some k) (k' : Key) : keq false (kD k') kd = decide (k' = k) := by
  unfold keq
  rw [if_neg Bool.false_ne_true, key1_kD, hk]
  by_cases e : k' = k
  · subst e; simp
  · rw [decide_eq_false e, decide_eq_false fun z => e (Option.some.inj z)]
theorem RK.any {kd : PyData} {k : Key} (hk : key1 kd = some k) : ∀ {kvs : List (PyData × D)} {xs : List (Key × V)}, RK K ι st H kvs xs → (xs.any fun kv => decide (kv.1 = k)) = kvs.any fun p => keq false p.1 kd
  | _, _, .nil => rfl
  | _, _, .cons (a := p) (b := q) h t => by
    rw [List.any_cons, List.any_cons, RK.any hk t, h.1, keq_kD hk]
theorem RK.repl {kd : PyData} {k : Key} (hk : key1 kd = some k) {d : D} {y : V} (r : RD K ι st H y d) : ∀ {kvs : List (PyData × D)} {xs : List (Key × V)}, RK K ι st H kvs xs →
    RK K ι st H (kvs.map fun p => if keq false p.1 kd then (p.1, d) else p) (xs.map fun kv => if kv.1 = k then (kv.1, y) else kv)
  | _, _, .nil => .nil
  | _, _, .cons (a := p) (b := q) h t => by
    rw [List.map_cons, List.map_cons]
    refine .cons ?_ (RK.repl hk r t)
    rw [h.1, keq_kD hk]
    by_cases e : q.1 = k
    · rw [if_pos (decide_eq_true e), if_pos e]
      exact ⟨rfl, r⟩
    · rw [if_neg (by simpa using e), if_neg e]
      exact h
theorem RK.app : ∀ {kvs kvs2 : List (PyData × D)} {xs ys : List (Key × V)}, RK K ι st H kvs xs → RK K ι st H kvs2 ys → RK K ι st H (kvs ++ kvs2) (xs ++ ys)
  | _, _, _, _, .nil, s => s
  | _, _, _, _, .cons h t, s => .cons h (RK.app t s)
theorem RK.put {kd : PyData} {k : Key} (hk : key1 kd = some k) {d : D} {y : V} (r : RD K ι st H y d) {kvs : List (PyData × D)} {xs : List (Key × V)} (h : RK K ι st H kvs xs) : RK K ι st H (putD kvs kd d) (putK xs k y) := by
  unfold putD putK
  rw [RK.any hk h]
  split
  · exact RK.repl hk r h
  · exact h.app (.cons ⟨kD_of hk, r⟩ .nil)
theorem putD_low {n : Nat} {kvs : List (PyData × D)} {kd : PyData} {d : D} (h : (kvs.all fun p => p.2.low n) = true) (hd : d.low n = true) : ((putD kvs kd d).all fun p => p.2.low n) = true := by
  unfold putD
  split
  · rw [List.all_map]
    refine List.all_eq_true.mpr fun p hp => ?_
    show (if keq false p.1 kd = true then (p.1, d) else p).2.low n = true
    split
    · exact hd
    · exact List.all_eq_true.mp h p hp
  · rw [List.all_append, h]
    simp [hd]
end
section
variable {X : Cx} {W : XW} {tg e o i : Expr} {ts es : List Expr} {m mo mi : ME} {ma : MA} {g : MG} {gs : MGs} {pos pos' : Pos}
theorem s_asg (he : PE X e (TEo X.K W m)) (hg : PG X tg (TGo X.K W g)) (hs : swapsWithSole [tg] e pos.line X.env = pure false := by rfl) (hw : swappedStores [tg] e X.env = pure none := by rfl) (h1 : (assignEach [tg] X.env).map (·.2) = [assign tg X.env] := by rfl) : PS X (.Assign [tg] e pos) (TSo X.K W (sAsg m g)) :=
  ps_wrap (ps_asg he hg hs hw h1) fun D σ H q => by
    obtain ⟨ι, env, st, R, EV, p⟩ := q
    refine ⟨ι, env, st, R, EV, Out.post_mono (thn_post p) (fun d s1 q ι1 H1 x R1 E1 ra => ?_) fun _ _ q => q⟩
    exact ⟨ι1, env, s1, .one d, R1, EV.ext E1, ra, Out.post_mono (thn_post q) (fun e1 s2 q2 i2 h2 σ2 R2 E2 EV2 _ _ => q2 i2 h2 σ2 R2 (E1.trans E2) EV2) fun _ _ z => z.ext E1⟩
theorem s_asgT {n k k' : Nat} {p1 p2 : Pos} (ha : PA X es (TAo X.K W ma)) (hg : PG X (.Tuple ts k p1) (gTup X.K n (TGso X.K W gs))) (hs : swapsWithSole [.Tuple ts k p1] (.Tuple es k' p2) pos.line X.env = pure false := by rfl)
    (hw : swappedStores [.Tuple ts k p1] (.Tuple es k' p2) X.env = pure none := by rfl) : PS X (.Assign [.Tuple ts k p1] (.Tuple es k' p2) pos) (TSo X.K W (sAsgT n ma gs)) :=
  ps_wrap (ps_asg (pe_tup ha) hg hs hw) fun D σ H q => by
    obtain ⟨ι, env, st, R, EV, p⟩ := q
    refine ⟨ι, env, st, R, EV, Out.post_mono (thn_post p) (fun ds s1 q ι1 H1 xs R1 E1 ra => ?_) fun _ _ q => q⟩
    split at q
    · rename_i hl
      have hx : xs.length ≤ sizeLine := by rw [ra.length, hl.1]; exact lim1000 hl.2
      refine ⟨hx, fun a hn => ⟨a, xs, rfl, .of upd_same, by rw [ra.length]; exact hl.1, ?_⟩⟩
      have E2 : Ext ι1 s1 H1 ι1 s1 (upd H1 a (.tup xs)) := Ext.fresh R1 hn
      have E12 := E1.trans E2
      exact ⟨ι1, env, s1, ds, R1.fresh hn (hf_tup R1.hf hx), EV.ext E12, RDs.ext E2 ra, Out.post_mono (thn_post q) (fun e1 s2 q2 i2 h2 σ2 R2 E2 EV2 _ _ => q2 i2 h2 σ2 R2 (E12.trans E2) EV2) fun _ _ z => z.ext E12⟩
    · exact q.elim
theorem s_par2 {i j : Nat} (ha : PA X es (TAo X.K W ma)) {stm : Stmt} (h : PS X stm (tPar i j (TAo X.K W ma))) : PS X stm (TSo X.K W (sPar2 i j ma)) := ps_wrap h fun D σ H q => by
  obtain ⟨ι, env, st, R, EV, p⟩ := q
  refine ⟨ι, env, st, R, EV, Out.post_mono (thn_post p) (fun ds s1 q ι1 H1 xs R1 E1 ra => ?_) fun _ _ q => q⟩
  split at q
  · obtain ⟨x, y, rfl, r1, r2⟩ := ra.two
    exact ⟨x, y, rfl, fun _ => q ι1 H1 _ R1 E1 (((EV.ext E1).set r1 _).set r2 _)⟩
  · exact q.elim
theorem s_par3 {i j l : Nat} (ha : PA X es (TAo X.K W ma)) {stm : Stmt} (h : PS X stm (tPar3 i j l (TAo X.K W ma))) : PS X stm (TSo X.K W (sPar3 i j l ma)) := ps_wrap h fun D σ H q => by
  obtain ⟨ι, env, st, R, EV, p⟩ := q
  refine ⟨ι, env, st, R, EV, Out.post_mono (thn_post p) (fun ds s1 q ι1 H1 xs R1 E1 ra => ?_) fun _ _ q => q⟩
  split at q
  · cases ra with
    | cons r1 t =>
      obtain ⟨y, z, rfl, r2, r3⟩ := RDs.two t
      exact ⟨_, y, z, rfl, fun _ => q ι1 H1 _ R1 E1 ((((EV.ext E1).set r1 _).set r2 _).set r3 _)⟩
  · exact q.elim
theorem s_sub (gd : Gd X) (he : PE X e (TEo X.K W m)) (ho : PE X o (TEo X.K W mo)) (hi : PE X i (TEo X.K W mi)) (hsL : PG X (.Subscript o i pos') (gSub (TEo X.K W mo) (TEo X.K W mi) rSetL)) (hs1 : swapsWithSole [.Subscript o i pos'] e pos.line X.env = pure false := by rfl)
    (hw : swappedStores [.Subscript o i pos'] e X.env = pure none := by rfl) (hs : swapsWith e (some (.Subscript o i pos')) pos.line X.env = pure false := by rfl) : PS X (.Assign [.Subscript o i pos'] e pos) (TSo X.K W (sSub m mo mi)) := by
  have h1 := ps_asg (pos := pos) he hsL hs1 hw
  have h2 := ps_dput (pos := pos) (pos' := pos') (by have := gd.un; omega) ho hi he hs
  have h : PS X (.Assign [.Subscript o i pos'] e pos) (fun D σ H => tAsg (TEo X.K W m) (gSub (TEo X.K W mo) (TEo X.K W mi) rSetL) D σ H ∨ sDPut (TEo X.K W mo) (TEo X.K W mi) (TEo X.K W m) D σ H) :=
    ⟨fun pins s σ H D I q => q.elim (h1.run pins s σ H D I) (h2.run pins s σ H D I)⟩
  refine ps_wrap h fun D σ H q => ?_
  obtain ⟨ι, env, st, R, EV, p⟩ := q
  unfold sSub at p
  cases e1 : m env st with
  | stuck => rw [e1] at p; exact p.elim
  | exn x s1 => rw [e1] at p; exact .inl ⟨ι, env, st, R, EV, by rw [e1]; exact p⟩
  | ok d s1 =>
    rw [e1, thn_ok] at p
    cases e2 : mo env s1 with
    | stuck => rw [e2] at p; exact p.elim
    | exn x s2 =>
      rw [e2] at p
      refine .inl ⟨ι, env, st, R, EV, ?_⟩
      rw [e1]
      exact fun ι1 H1 x R1 E1 ra => ⟨ι1, env, s1, R1, EV.ext E1, by rw [e2]; exact PX1.ext p E1⟩
    | ok o1 s2 =>
      rw [e2, thn_ok] at p
      cases e3 : mi env s2 with
      | stuck => rw [e3] at p; exact p.elim
      | exn x s3 =>
        rw [e3] at p
        refine .inl ⟨ι, env, st, R, EV, ?_⟩
        rw [e1]
        refine fun ι1 H1 x R1 E1 ra => ⟨ι1, env, s1, R1, EV.ext E1, ?_⟩
        rw [e2]
        exact fun ι2 H2 y R2 E2 rb => ⟨ι2, env, s2, R2, (EV.ext E1).ext E2, by rw [e3]; exact PX1.ext (PX1.ext p E1) E2⟩
      | ok i1 s3 =>
        rw [e3, thn_ok] at p
        cases e4 : setU o1 i1 d s3 with
        | stuck => rw [e4] at p; exact p.elim
        | exn x s4 =>
          unfold setU at e4
          split at e4
          · split at e4 <;> cases e4
          · cases e4
          · split at e4
            · split at e4 <;> cases e4
            · cases e4
          · cases e4
        | ok _ s4 =>
          rw [e4, thn_ok] at p
          replace p : ∀ ι' H' σ', SRel X.K ι' s4 H' → Ext ι st H ι' s4 H' → EvR X.K ι' s4 H' σ' env → D.nx σ' H' := p
          unfold setU at e4
          split at e4
          · rename_i n zs k z hL
            split at e4
            · rename_i j hj
              cases e4
              refine .inl ⟨ι, env, st, R, EV, ?_⟩
              rw [e1]
              refine fun ι1 H1 x R1 E1 ra => ⟨ι1, env, s1, R1, EV.ext E1, ?_⟩
              rw [e2]
              refine fun ι2 H2 y R2 E2 rb => ⟨ι2, env, s2, R2, (EV.ext E1).ext E2, ?_⟩
              rw [e3]
              refine fun ι3 H3 w R3 E3 rc => ?_
              obtain ⟨a, us, rfl, h1, h2, h3, h4⟩ := lAt_at R3 hL (rb.ext E3)
              have ew := iOf_at (d := .v (.int k)) rfl rc
              subst ew
              refine ⟨a, us, k, j, rfl, rfl, h1, by rw [h2.length]; exact hj, fun hf => ?_⟩
              have E4 : Ext ι3 s3 H3 ι3 (s3.set n (.lst (zs.set j z))) (upd H3 a (.lst (us.set j x))) := Ext.write R3 h3 h4 (fun z => nomatch z) (fun _ _ z => nomatch z)
              have E := E1.trans (E2.trans (E3.trans E4))
              have rx : Rp (Frz ι3 s3) H3 x z := Rp.ext (E2.trans E3) ra
              exact p ι3 _ σ (R3.write h3 h4 (fun z => nomatch z) (fun _ _ z => nomatch z) hf ⟨_, upd_same, (h2.set rx j).ext E4⟩ rfl) E (EV.ext E)
            · cases e4
          · cases e4
          · rename_i d _ _ _ kd hL
            split at e4
            · rename_i n kvs k hk hK
              split at e4
              · rename_i hc
                cases e4
                refine .inr ⟨ι, env, st, R, EV, ?_⟩
                rw [e1]
                refine fun ι1 H1 x R1 E1 ra => ⟨ι1, env, s1, R1, EV.ext E1, ?_⟩
                rw [e2]
                refine fun ι2 H2 y R2 E2 rb => ⟨ι2, env, s2, R2, (EV.ext E1).ext E2, ?_⟩
                rw [e3]
                refine fun ι3 H3 w R3 E3 rc => ?_
                obtain ⟨n', a, us, en, rfl, h3, h4, h1, h2⟩ := kAt_at R3 hK (rb.ext E3)
                cases en
                have rc' : Rp (Frz ι3 s3) H3 w kd := rc
                rw [kD_of hk] at rc'
                have ew := kV_of rc'
                subst ew
                have hl : us.length < sizeLine := by rw [h2.len]; exact Nat.lt_of_lt_of_le hc.1 (lim_ok (Nat.le_refl _))
                refine ⟨a, _, rfl, DPut.k h1 hl, fun hf => ?_⟩
                have E4 : Ext ι3 s3 H3 ι3 (s3.set n (.dct false (putD kvs kd d))) (upd H3 a (.dK (putK us k x))) := Ext.write R3 h3 h4 (fun z => nomatch z) (fun _ _ z => nomatch z)
                have E := E1.trans (E2.trans (E3.trans E4))
                have rx : RD X.K ι3 s3 H3 x d := ra.ext (E2.trans E3)
                refine p ι3 _ σ (R3.write h3 h4 (fun z => nomatch z) (fun _ _ z => nomatch z) hf ⟨_, upd_same, RK.ext E4 (RK.put hk rx h2)⟩ (putD_low (R3.low n _ h3) hc.2)) E (EV.ext E)
              · cases e4
            · cases e4
          · cases e4
end
end Fw

namespace Fw
open PySem PySem.Spec PyProof.Rows L2

/-! ### moving along -/
section
variable {K : PySem.W.Frag} {ι ι' : Gh} {st st' : Sto} {H H' : Hp}
/-- what is known moves along where the frozen things stay -/
structure Mv (ι : Gh) (st : Sto) (H : Hp) (ι' : Gh) (st' : Sto) (H' : Hp) : Prop where
  keep : ∀ q u, H q = some u → Frz ι st q → Frz ι' st' q ∧ H' q = some u
  pre : ∀ (n : Nat) (a : Addr), ι.ad[n]? = some a → ι'.ad[n]? = some a
  lk : ∀ {n : Nat} {t : Bool} {kvs : List (PyData × D)} {a : Addr}, st[n]? = some (.lck t kvs) → ι.ad[n]? = some a → st'[n]? = some (.lck t kvs) ∧ H' a = H a
theorem Mv.rp (m : Mv ι st H ι' st' H') {v : V} {d : PyData} (h : Rp (Frz ι st) H v d) : Rp (Frz ι' st') H' v d := Rp.mv (fun q u e f => let ⟨a, b⟩ := m.keep q u e f; ⟨a, .inl b⟩) h
theorem Mv.rpA (m : Mv ι st H ι' st' H') {v : List V} {d : List PyData} (h : RpA (Frz ι st) H v d) : RpA (Frz ι' st') H' v d := RpA.mv (fun q u e f => let ⟨a, b⟩ := m.keep q u e f; ⟨a, .inl b⟩) h
theorem Mv.rd (m : Mv ι st H ι' st' H') {x : V} : ∀ {d : D}, RD K ι st H x d → RD K ι' st' H' x d
  | .v d, h => m.rp h
  | .ref n, ⟨a, h1, h2⟩ => ⟨a, m.pre n a h1, h2⟩
  | .scr ns, ⟨a, h1, h2⟩ => ⟨a, h1, h2.imp id fun ⟨o, h, f⟩ => let ⟨a, b⟩ := m.keep _ _ h f; ⟨o, b, a⟩⟩
theorem Mv.ev (m : Mv ι st H ι' st' H') {σ : L2.St} {env : Ev} (h : EvR K ι st H σ env) : EvR K ι' st' H' σ env := ⟨h.1, fun i d q => let ⟨x, h1, h2⟩ := h.2 i d q; ⟨x, h1, m.rd h2⟩⟩
theorem Mv.rk (m : Mv ι st H ι' st' H') : ∀ {kvs : List (PyData × D)} {xs : List (Key × V)}, RK K ι st H kvs xs → RK K ι' st' H' kvs xs
  | _, _, .nil => .nil
  | _, _, .cons h r => .cons ⟨h.1, m.rd h.2⟩ (Mv.rk m r)
theorem Mv.rt (m : Mv ι st H ι' st' H') : ∀ {kvs : List (PyData × D)} {xs : List (List Key × V)}, RT K ι st H kvs xs → RT K ι' st' H' kvs xs
  | _, _, .nil => .nil
  | _, _, .cons h r => .cons ⟨h.1, m.rd h.2⟩ (Mv.rt m r)
theorem Mv.ro (m : Mv ι st H ι' st' H') {a : Addr} (h : ∀ u, H a = some u → H' a = some u) : ∀ {o : O}, RO K ι st H a o → RO K ι' st' H' a o
  | .dead, _ => trivial
  | .lst _, ⟨xs, q, r⟩ => ⟨xs, h _ q, m.rpA r⟩
  | .dct false _, ⟨xs, q, r⟩ => ⟨xs, h _ q, m.rk r⟩
  | .dct true _, ⟨xs, q, r⟩ => ⟨xs, h _ q, m.rt r⟩
  | .lck false _, ⟨xs, o, q, r⟩ => ⟨xs, o, h _ q, m.rk r⟩
  | .lck true _, ⟨xs, o, q, r⟩ => ⟨xs, o, h _ q, m.rt r⟩
theorem Ext.mv (e : Ext ι st H ι' st' H') : Mv ι st H ι' st' H' := ⟨e.keep, e.pre, e.lk⟩
end

/-! ### what is walked -/
/-- what a walk leans on: a list of the store that must stay as it is -/
abbrev Wt := Option (Nat × List PyData)
def chk (w : Wt) (st : Sto) : Prop := match w with
  | none => True
  | some (n, zs) => st[n]? = some (.lst zs)
def eqL : O → List PyData → Bool := fun _ _ => true
structure Wlk (K : PySem.W.Frag) (ds : List Itm) (w : Wt) (J : It) (ι : Gh) (st : Sto) (H : Hp) : Prop where
  go : ∀ (i : Nat) (d : Itm) ι' st' H', ds[i]? = some d → SRel K ι' st' H' → Mv ι st H ι' st' H' → chk w st' → J.go i H' ∧ ∀ x H2, J.yld i H' x H2 → SRel K ι' st' H2 ∧ Ext ι' st' H' ι' st' H2 ∧ RI K ι' st' H2 x d
  stop : ∀ ι' st' H', SRel K ι' st' H' → Mv ι st H ι' st' H' → chk w st' → J.stop ds.length H'
  len : ds.length ≤ sizeLine
/-- a walk's items: the list whose staying is to be watched is the one at the reference -/
abbrev MI := Ev → Sto → Out (List Itm × Wt)
def PI1 (K : PySem.W.Frag) (ι : Gh) (st : Sto) (H : Hp) (R : It → Hp → Prop) (r : List Itm × Wt) (st' : Sto) : Prop := ∀ ι' H' J, SRel K ι' st' H' → Ext ι st H ι' st' H' → Wlk K r.1 r.2 J ι' st' H' → R J H'
def TIo (K : PySem.W.Frag) (W : XW) (m : MI) : TI := fun σ H R => ∃ ι env st, SRel K ι st H ∧ EvR K ι st H σ env ∧ (m env st).post (PI1 K ι st H R) (PX1 K W ι st H)
section
variable {X : Cx} {W : XW} {tg it e : Expr} {m : ME}
theorem pi_wrap {t : TI} {m : MI} (h : PI X tg it t) (hi : ∀ σ H R, TIo X.K W m σ H R → t σ H (fun J H' => HF H' → R J H')) : PI X tg it (TIo X.K W m) :=
  ⟨fun pins s σ H R I q => thn (h.run pins s σ H _ I (hi σ H R q)) fun _ _ z => thn z fun _ _ ⟨a, fp, tn, J, H', e1, I', T, st0, hfp, q'⟩ => ⟨a, fp, tn, J, H', e1, I', T, st0, hfp, q' (hf_of I')⟩⟩
theorem pi_or {t u : TI} (h : PI X tg it t) (h' : PI X tg it u) : PI X tg it (fun σ H R => t σ H R ∨ u σ H R) :=
  ⟨fun pins s σ H R I q => q.elim (h.run pins s σ H R I) (h'.run pins s σ H R I)⟩
/-- the items of a list or tuple, watched if they stand in the store -/
def seqI (st : Sto) (d : D) : Option (List PyData × Wt) := match lAt st d with
  | some (n, zs) => some (zs, some (n, zs))
  | none => (viewS st d).map fun zs => (zs, none)
theorem viewS_frz {K : PySem.W.Frag} {ι : Gh} {st : Sto} {H : Hp} {x : V} {d : D} {ds : List PyData} (hn : lAt st d = none) (e : viewS st d = some ds) (r : RD K ι st H x d) :
    ∃ a xs, x = .ref a ∧ ((H a = some (.lst xs) ∧ Frz ι st a) ∨ (∃ o, H a = some (.frz o (.tup xs)) ∧ Frz ι st a)) ∧ RpA (Frz ι st) H xs ds := by
  cases d with
  | v z =>
    cases z with
    | list zs =>
      have e' : zs = ds := Option.some.inj e
      subst e'
      have r' : Rp (Frz ι st) H x (.list zs) := r
      cases r' with
      | lst h f t => exact ⟨_, _, rfl, .inl ⟨h, f⟩, t⟩
    | tuple zs =>
      have e' : zs = ds := Option.some.inj e
      subst e'
      have r' : Rp (Frz ι st) H x (.tuple zs) := r
      cases r' with
      | tup h _ f t => exact ⟨_, _, rfl, .inr ⟨_, h, f⟩, t⟩
    | _ => cases e
  | scr ns => cases e
  | ref n =>
    simp only [viewS, viewL] at e
    cases q : st[n]? with
    | none => rw [q] at e; cases e
    | some o =>
      rw [q] at e
      cases o with
      | lst zs => simp only [lAt, q] at hn; cases hn
      | _ => cases e
theorem wlk_list {K : PySem.W.Frag} {ι : Gh} {st : Sto} {H : Hp} {a : Addr} {xs : List V} {ds : List PyData} {w : Wt} (hz : ds.length ≤ sizeLine) (r : RpA (Frz ι st) H xs ds) (hq : ∀ ι' st' H', SRel K ι' st' H' → Mv ι st H ι' st' H' → chk w st' → SqL K H' a xs) :
    Wlk K (ds.map fun d => .one (.v d)) w (Itl K a) ι st H := by
  refine ⟨fun i d ι' st' H' hi R E hc => ?_, fun ι' st' H' R E hc => ?_, by rw [List.length_map]; exact hz⟩
  · rw [List.getElem?_map] at hi
    obtain ⟨z, h1, rfl⟩ := Option.map_eq_some_iff.mp hi
    obtain ⟨x, h2, h3⟩ := r.get h1
    have q := hq ι' st' H' R E hc
    refine ⟨⟨xs, x, q, h2⟩, fun y H2 hy => ?_⟩
    obtain ⟨e1, e2⟩ := hy
    subst e1
    have e3 := e2 xs q
    rw [h2] at e3
    rw [← Option.some.inj e3]
    exact ⟨R, Ext.refl, E.rp h3⟩
  · rw [List.length_map, ← r.length]
    exact ⟨xs, hq ι' st' H' R E hc, Nat.le_refl _⟩
theorem wlk_tup {K : PySem.W.Frag} {ι : Gh} {st : Sto} {H : Hp} {a : Addr} {xs : List V} {ds : List PyData} {w : Wt} (hz : ds.length ≤ sizeLine) (r : RpA (Frz ι st) H xs ds) (hq : ∀ ι' st' H', SRel K ι' st' H' → Mv ι st H ι' st' H' → chk w st' → SqT K H' a xs) :
    Wlk K (ds.map fun d => .one (.v d)) w (Itt K a) ι st H := by
  refine ⟨fun i d ι' st' H' hi R E hc => ?_, fun ι' st' H' R E hc => ?_, by rw [List.length_map]; exact hz⟩
  · rw [List.getElem?_map] at hi
    obtain ⟨z, h1, rfl⟩ := Option.map_eq_some_iff.mp hi
    obtain ⟨x, h2, h3⟩ := r.get h1
    have q := hq ι' st' H' R E hc
    refine ⟨⟨xs, x, q, h2⟩, fun y H2 hy => ?_⟩
    obtain ⟨e1, e2⟩ := hy
    subst e1
    have e3 := e2 xs q
    rw [h2] at e3
    rw [← Option.some.inj e3]
    exact ⟨R, Ext.refl, E.rp h3⟩
  · rw [List.length_map, ← r.length]
    exact ⟨xs, hq ι' st' H' R E hc, Nat.le_refl _⟩
/-- a list that stands where it stands: frozen, or watched -/
theorem stand_ref {K : PySem.W.Frag} {ι : Gh} {st : Sto} {H : Hp} {n : Nat} {a : Addr} {zs : List PyData} {xs : List V} (hi : ι.ad[n]? = some a) (r : RpA (Frz ι st) H xs zs) (h : H a = some (.lst xs)) :
    ∀ ι' st' H', SRel K ι' st' H' → Mv ι st H ι' st' H' → chk (some (n, zs)) st' → ∃ ys, H' a = some (.lst ys) ∧ RpA (Frz ι' st') H' ys zs := fun ι' st' H' R E hc => by
  obtain ⟨ys, h1, h2⟩ := R.obj n (.lst zs) a hc (E.pre n a hi)
  exact ⟨ys, h1, h2⟩
theorem wlk_ref {K : PySem.W.Frag} {ι : Gh} {st : Sto} {H : Hp} {n : Nat} {a : Addr} {zs : List PyData} {xs : List V} (hz : zs.length ≤ sizeLine) (hi : ι.ad[n]? = some a) (r : RpA (Frz ι st) H xs zs) (h : H a = some (.lst xs)) :
    Wlk K (zs.map fun d => .one (.v d)) (some (n, zs)) (Itl K a) ι st H := by
  refine ⟨fun i d ι' st' H' hi' R E hc => ?_, fun ι' st' H' R E hc => ?_, by rw [List.length_map]; exact hz⟩
  · rw [List.getElem?_map] at hi'
    obtain ⟨z, h1, rfl⟩ := Option.map_eq_some_iff.mp hi'
    obtain ⟨ys, h2, h3⟩ := stand_ref hi r h ι' st' H' R E hc
    obtain ⟨x, h4, h5⟩ := h3.get h1
    refine ⟨⟨ys, x, .of h2, h4⟩, fun y H2 hy => ?_⟩
    obtain ⟨e1, e2⟩ := hy
    subst e1
    have e3 := e2 ys (.of h2)
    rw [h4] at e3
    rw [← Option.some.inj e3]
    exact ⟨R, Ext.refl, h5⟩
  · rw [List.length_map]
    obtain ⟨ys, h2, h3⟩ := stand_ref hi r h ι' st' H' R E hc
    exact ⟨ys, .of h2, by rw [h3.length]; exact Nat.le_refl _⟩
def miSeq (m : ME) : MI := fun env st => (m env st).bind fun d s1 => match d with
  | .scr ns => .ok (ns.map fun n => .one (.v (.int n)), none) s1
  | d => match seqI s1 d with
    | some (zs, w) => .ok (zs.map fun z => .one (.v z), w) s1
    | none => .stuck
theorem rpA_int {F : Addr → Prop} {H : Hp} : ∀ ns : List Int, RpA F H (ns.map V.int) (ns.map PyData.int) := rpA_ints
theorem i_seq (he : PE X e (TEo X.K W m)) : PI X tg e (TIo X.K W (miSeq m)) := pi_wrap (pi_or (pi_list he) (pi_tup he)) fun σ H Rr q => by
  obtain ⟨ι, env, st, R, EV, p⟩ := q
  unfold miSeq at p
  cases e1 : m env st with
  | stuck => rw [e1] at p; exact p.elim
  | exn x s1 => rw [e1] at p; exact .inl ⟨ι, env, st, R, EV, by rw [e1]; exact p⟩
  | ok d s1 =>
    rw [e1, bind_ok] at p
    split at p
    · rename_i ns
      refine .inl ⟨ι, env, st, R, EV, ?_⟩
      rw [e1]
      refine fun ι1 H1 x R1 E1 ra => ?_
      obtain ⟨a, rfl, h2⟩ := ra
      have hq : SqL X.K H1 a (ns.map V.int) := h2.elim .inr fun ⟨o, h, _⟩ => .inl (.inr ⟨o, h⟩)
      refine ⟨a, rfl, ⟨_, hq⟩, fun _ => p ι1 H1 _ R1 E1 ?_⟩
      have hz : (ns.map PyData.int).length ≤ sizeLine := by
        rw [List.length_map]
        rcases h2 with ⟨o, its, n, _, _, _, _, h5, h6⟩ | ⟨o, h, _⟩
        · have e6 := h6.length
          simp only [List.length_map, Array.length_toList] at e6
          omega
        · have q : (ns.map V.int).length ≤ sizeLine := R1.hf a _ h
          rw [List.length_map] at q
          exact q
      have hw := wlk_list (K := X.K) (a := a) (w := none) hz (rpA_ints (F := Frz ι1 s1) (H := H1) ns) fun ι' st' H' R' E' _ => by
        rcases h2 with h2 | ⟨o, h, f⟩
        · exact .inr h2
        · exact .inl (.inr ⟨o, (E'.keep _ _ h f).2⟩)
      rw [List.map_map] at hw
      exact hw
    · split at p
      · rename_i zs w e2
        unfold seqI at e2
        split at e2
        · rename_i n ws hL
          simp only [Option.some.injEq, Prod.mk.injEq] at e2
          obtain ⟨rfl, rfl⟩ := e2
          refine .inl ⟨ι, env, st, R, EV, ?_⟩
          rw [e1]
          refine fun ι1 H1 x R1 E1 ra => ?_
          obtain ⟨a, us, rfl, h1, h2, h3, h4⟩ := lAt_at R1 hL ra
          exact ⟨a, rfl, ⟨us, .of h1⟩, fun _ => p ι1 H1 _ R1 E1 (wlk_ref (by rw [← h2.length]; exact R1.hf a _ h1) h4 h2 h1)⟩
        · rename_i hL
          obtain ⟨ws, ev, e3⟩ := Option.map_eq_some_iff.mp e2
          simp only [Prod.mk.injEq] at e3
          obtain ⟨rfl, rfl⟩ := e3
          by_cases hT : isT d = true
          · refine .inr ⟨ι, env, st, R, EV, ?_⟩
            rw [e1]
            refine fun ι1 H1 x R1 E1 ra => ?_
            obtain ⟨vs, et⟩ := Option.isSome_iff_exists.mp hT
            have ed := tOf_eq et
            subst ed
            obtain ⟨a, us, rfl, h1 | ⟨o, h1, f⟩, h2⟩ := viewS_frz hL ev ra
            · have ra' : Rp (Frz ι1 s1) H1 (.ref a) (.tuple vs) := ra
              cases ra' with
              | tup h3 _ _ _ => rw [h1.1] at h3; cases h3
            · refine ⟨a, rfl, ⟨us, .inl (.inr ⟨o, h1⟩)⟩, fun _ => p ι1 H1 _ R1 E1 (wlk_tup (by rw [← h2.length]; exact R1.hf a _ h1) h2 fun ι' st' H' R' E' _ => ?_)⟩
              exact .inl (.inr ⟨o, (E'.keep _ _ h1 f).2⟩)
          · refine .inl ⟨ι, env, st, R, EV, ?_⟩
            rw [e1]
            refine fun ι1 H1 x R1 E1 ra => ?_
            obtain ⟨a, us, rfl, ⟨h1, f⟩ | ⟨o, h1, f⟩, h2⟩ := viewS_frz hL ev ra
            · refine ⟨a, rfl, ⟨us, .of h1⟩, fun _ => p ι1 H1 _ R1 E1 (wlk_list (by rw [← h2.length]; exact R1.hf a _ h1) h2 fun ι' st' H' R' E' _ => ?_)⟩
              exact .of (E'.keep _ _ h1 f).2
            · exfalso
              cases d with
              | v z =>
                cases z with
                | tuple _ => exact hT rfl
                | list _ =>
                  have ra' : Rp (Frz ι1 s1) H1 (.ref a) (.list _) := ra
                  cases ra' with
                  | lst h3 _ _ => rw [h1] at h3; cases h3
                | _ => cases ev
              | scr _ => cases ev
              | ref n =>
                simp only [viewS, viewL] at ev
                cases q : s1[n]? with
                | none => rw [q] at ev; cases ev
                | some o =>
                  rw [q] at ev
                  cases o with
                  | lst zs => simp only [lAt, q] at hL; cases hL
                  | _ => cases ev
      · exact p.elim
end

/-! ### for, while -/
open Classical in
noncomputable def forL (w : Wt) (g : MG) (body : MS) : List Itm → MS
  | [] => fun env st => if chk w st then .nx env st else .stuck
  | d :: r => fun env st => if chk w st then (g d env st).thn fun e1 s1 => match body e1 s1 with
      | .nx e2 s2 => forL w g body r e2 s2
      | .ct e2 s2 => forL w g body r e2 s2
      | .bk e2 s2 => .nx e2 s2
      | .rt d s2 => .rt d s2
      | .exn e s2 => .exn e s2
      | .stuck => .stuck
    else .stuck
noncomputable def sFor (mi : MI) (g : MG) (body : MS) : MS := fun env st => (mi env st).thn fun r s1 => forL r.2 g body r.1 env s1
section
variable {X : Cx} {tg it c : Expr} {body : List Stmt} {mi : MI} {g : MG} {b : MS} {t : MT} {pos : Pos}
/-- no exception leaves: loops pass on none -/
theorem s_for {W : XW} (gd : Gd X) (hp : PassesOwn (model X.prog X.w) X.A X.env X.xe) (hi : PI X tg it (TIo X.K W mi)) (hg : PG X tg (TGo X.K W g)) (hb : PSs X body (TSo X.K W b)) (hs : ∀ x, foldedSetIterable it X.env x = pure x := by intro _; rfl) :
    PS X (.For tg it body [] pos) (TSo X.K W (sFor mi g b)) := ps_wrap (ps_for hp gd.calm hi hg hb hs) fun D σ H q => by
  obtain ⟨ι, env, st, R, EV, p⟩ := q
  refine ⟨ι, env, st, R, EV, Out.post_mono (thn_post p) (fun r s1 q ι1 H1 J R1 E1 hW => ?_) fun _ _ q => q⟩
  obtain ⟨ds, w⟩ := r
  let Inv (i m : Nat) (σ : L2.St) (H : Hp) : Prop := m + i = ds.length ∧ ∃ ι' env' st', SRel X.K ι' st' H ∧ Ext ι1 s1 H1 ι' st' H ∧ EvR X.K ι' st' H σ env' ∧ (forL w g b (ds.drop i) env' st').post X.K W ι1 s1 H1 D
  refine ⟨Inv, ⟨ds.length, by show _ + 0 = _; omega, ι1, env, s1, R1, Ext.refl, EV.ext E1, ?_⟩, ?_⟩
  · exact SO.post_ext E1 q
  rintro i m σ2 H2 ⟨hm, ι2, env2, s2, R2, E2, EV2, p2⟩
  by_cases hi : i < ds.length
  · right
    have hd : ds.drop i = ds[i] :: ds.drop (i + 1) := List.drop_eq_getElem_cons hi
    rw [hd] at p2
    unfold forL at p2
    split at p2
    · rename_i hc
      obtain ⟨hgo, hy⟩ := hW.go i ds[i] ι2 s2 H2 (List.getElem?_eq_getElem hi) R2 E2.mv hc
      refine ⟨hgo, Inv (i + 1) (m - 1), fun σ' H' hN => ⟨m - 1, by omega, hN⟩, fun x H3 hyl => ?_⟩
      obtain ⟨R3, E3, ri⟩ := hy x H3 hyl
      refine ⟨ι2, env2, s2, ds[i], R3, EV2.ext E3, ri, Out.post_mono (thn_post p2) (fun e1 s4 q4 ι4 H4 σ4 R4 E4 EV4 _ => ?_) fun _ _ z => (PX1.ext z E2).ext E3⟩
      have E14 := E2.trans (E3.trans E4)
      refine ⟨ι4, e1, s4, R4, EV4, ?_⟩
      cases eb : b e1 s4 with
      | nx e5 s5 =>
        rw [eb] at q4
        exact fun ι5 H5 σ5 R5 E5 EV5 => ⟨by omega, ι5, e5, s5, R5, E14.trans E5, EV5, q4⟩
      | ct e5 s5 =>
        rw [eb] at q4
        exact fun ι5 H5 σ5 R5 E5 EV5 => ⟨by omega, ι5, e5, s5, R5, E14.trans E5, EV5, q4⟩
      | bk e5 s5 =>
        rw [eb] at q4
        exact fun ι5 H5 σ5 R5 E5 EV5 hf => q4 ι5 H5 σ5 R5 (E14.trans E5) EV5
      | rt d5 s5 =>
        rw [eb] at q4
        exact fun ι5 H5 x5 R5 E5 r5 hf => q4 ι5 H5 x5 R5 (E14.trans E5) r5
      | exn e5 s5 =>
        rw [eb] at q4
        exact PX1.ext q4 E14
      | stuck => rw [eb] at q4; exact q4.elim
    · exact p2.elim
  · left
    have hd : ds.drop i = [] := List.drop_eq_nil_of_le (by omega)
    rw [hd] at p2
    unfold forL at p2
    split at p2
    · rename_i hc
      have e : i = ds.length := by omega
      subst e
      exact ⟨hW.stop ι2 s2 H2 R2 E2.mv hc, fun _ => p2 ι2 H2 σ2 R2 E2 EV2⟩
    · exact p2.elim
def whileL (t : MT) (body : MS) : Nat → MS
  | 0 => fun _ _ => .stuck
  | n + 1 => fun env st => (t env st).thn fun k s1 => if k then (match body env s1 with
      | .nx e2 s2 => whileL t body n e2 s2
      | .ct e2 s2 => whileL t body n e2 s2
      | .bk e2 s2 => .nx e2 s2
      | .rt d s2 => .rt d s2
      | .exn e s2 => .exn e s2
      | .stuck => .stuck) else .nx env s1
theorem s_while {W : XW} (n : Nat) (hp : PassesOwn (model X.prog X.w) X.A X.env X.xe) (hc : PT X c (TTo X.K W t)) (hb : PSs X body (TSo X.K W b)) : PS X (.While c body [] pos) (TSo X.K W (whileL t b n)) := ps_wrap (ps_while hp hc hb) fun D σ H q => by
  obtain ⟨ι, env, st, R, EV, p⟩ := q
  let Inv (m : Nat) (σ1 : L2.St) (H1 : Hp) : Prop := ∃ ι' env' st', SRel X.K ι' st' H1 ∧ Ext ι st H ι' st' H1 ∧ EvR X.K ι' st' H1 σ1 env' ∧ (whileL t b m env' st').post X.K W ι st H D
  refine ⟨Inv, ⟨n, ι, env, st, R, Ext.refl, EV, p⟩, ?_⟩
  rintro m σ2 H2 ⟨ι2, env2, s2, R2, E2, EV2, p2⟩
  cases m with
  | zero => exact p2.elim
  | succ m =>
    unfold whileL at p2
    refine ⟨ι2, env2, s2, R2, EV2, Out.post_mono (thn_post p2) (fun k s3 q3 ι3 H3 R3 E3 => ?_) fun _ _ z => PX1.ext z E2⟩
    have E13 := E2.trans E3
    cases k with
    | false => exact iteF fun _ => q3 ι3 H3 σ2 R3 E13 (EV2.ext E3)
    | true =>
      refine iteT ⟨Inv m, fun σ' H' hN => ⟨m, Nat.lt_succ_self m, hN⟩, ?_⟩
      refine ⟨ι3, env2, s3, R3, EV2.ext E3, ?_⟩
      rw [if_pos rfl] at q3
      cases eb : b env2 s3 with
      | nx e5 s5 =>
        rw [eb] at q3
        exact fun ι5 H5 σ5 R5 E5 EV5 => ⟨ι5, e5, s5, R5, E13.trans E5, EV5, q3⟩
      | ct e5 s5 =>
        rw [eb] at q3
        exact fun ι5 H5 σ5 R5 E5 EV5 => ⟨ι5, e5, s5, R5, E13.trans E5, EV5, q3⟩
      | bk e5 s5 =>
        rw [eb] at q3
        exact fun ι5 H5 σ5 R5 E5 EV5 hf => q3 ι5 H5 σ5 R5 (E13.trans E5) EV5
      | rt d5 s5 =>
        rw [eb] at q3
        exact fun ι5 H5 x5 R5 E5 r5 hf => q3 ι5 H5 x5 R5 (E13.trans E5) r5
      | exn e5 s5 =>
        rw [eb] at q3
        exact PX1.ext q3 E13
      | stuck => rw [eb] at q3; exact q3.elim
end
/-! ### ranges, enumerate, zip -/
def rngI (lo : Int) (n : Nat) : List Itm := (List.range n).map fun i => .one (.v (.int (lo + (i : Nat))))
theorem rngI_get {lo : Int} {n i : Nat} {d : Itm} (h : (rngI lo n)[i]? = some d) : i < n ∧ d = .one (.v (.int (lo + (i : Nat)))) := by
  unfold rngI at h
  rw [List.getElem?_map] at h
  obtain ⟨j, h1, rfl⟩ := Option.map_eq_some_iff.mp h
  obtain ⟨h2, h3⟩ := List.getElem?_eq_some_iff.mp h1
  rw [List.getElem_range] at h3
  subst h3
  rw [List.length_range] at h2
  exact ⟨h2, rfl⟩
theorem wlk_range {K : PySem.W.Frag} {ι : Gh} {st : Sto} {H : Hp} (lo : Int) (n : Nat) (hz : n ≤ sizeLine) : Wlk K (rngI lo n) none (Itr lo n) ι st H := by
  refine ⟨fun i d ι' st' H' hi R E _ => ?_, fun ι' st' H' R E _ => ?_, by unfold rngI; rw [List.length_map, List.length_range]; exact hz⟩
  · obtain ⟨h1, rfl⟩ := rngI_get hi
    refine ⟨h1, fun x H2 hy => ?_⟩
    obtain ⟨rfl, rfl⟩ := hy
    exact ⟨R, Ext.refl, .int _⟩
  · show n ≤ (rngI lo n).length
    unfold rngI
    rw [List.length_map, List.length_range]
    exact Nat.le_refl _
def miR1 (m : MA) : MI := fun env st => (m env st).bind fun ds s1 => match ds with
  | [d] => match iOf d with
    | some j => if -1000000 ≤ j ∧ j ≤ 1000000 then .ok (rngI 0 j.toNat, none) s1 else .stuck
    | none => .stuck
  | _ => .stuck
def miR2 (m : MA) : MI := fun env st => (m env st).bind fun ds s1 => match ds with
  | [a, b] => match iOf a, iOf b with
    | some i, some j => if -1000000 ≤ i ∧ i ≤ 1000000 ∧ -1000000 ≤ j ∧ j ≤ 1000000 then .ok (rngI i (j - i).toNat, none) s1 else .stuck
    | _, _ => .stuck
  | _ => .stuck
section
variable {X : Cx} {W : XW} {tg a b e : Expr} {m : MA} {p pos : Pos}
theorem i_range1 (hg : Gl X "range") (hm : X.mg "range" = none) (ha : PA X [a] (TAo X.K W m)) (hs : starEach [a] X.env = [(false, eval a X.env)] := by rfl) : PI X tg (.Call (.Name "range" p) [a] [] pos) (TIo X.K W (miR1 m)) :=
  pi_wrap (pi_range1 hg hm ha hs) fun σ H Rr q => by
    obtain ⟨ι, env, st, R, EV, p⟩ := q
    refine ⟨ι, env, st, R, EV, Out.post_mono (Out.post_bind p) (fun ds s1 q ι1 H1 xs R1 E1 ra => ?_) fun _ _ q => q⟩
    split at q
    · obtain ⟨x, rfl, r1⟩ := ra.one
      split at q
      · rename_i j e1
        split at q
        · rename_i hb
          have ex := iOf_at e1 r1
          subst ex
          exact ⟨j, rfl, by omega, by omega, fun _ => q ι1 H1 _ R1 E1 (wlk_range 0 j.toNat (Nat.le_trans (show j.toNat ≤ 1000000 by omega) (by decide)))⟩
        · exact q.elim
      · exact q.elim
    · exact q.elim
theorem i_range2 (hg : Gl X "range") (hm : X.mg "range" = none) (ha : PA X [a, b] (TAo X.K W m)) (hs : starEach [a, b] X.env = [(false, eval a X.env), (false, eval b X.env)] := by rfl) (hs2 : starEach [b] X.env = [(false, eval b X.env)] := by rfl) : PI X tg (.Call (.Name "range" p) [a, b] [] pos) (TIo X.K W (miR2 m)) :=
  pi_wrap (pi_range2 hg hm ha hs hs2) fun σ H Rr q => by
    obtain ⟨ι, env, st, R, EV, p⟩ := q
    refine ⟨ι, env, st, R, EV, Out.post_mono (Out.post_bind p) (fun ds s1 q ι1 H1 xs R1 E1 ra => ?_) fun _ _ q => q⟩
    split at q
    · obtain ⟨x, y, rfl, r1, r2⟩ := ra.two
      split at q
      · rename_i i j e1 e2
        split at q
        · rename_i hb
          have ex := iOf_at e1 r1
          have ey := iOf_at e2 r2
          subst ex ey
          exact ⟨i, j, rfl, ⟨by omega, by omega, by omega, by omega⟩, fun _ => q ι1 H1 _ R1 E1 (wlk_range i _ (Nat.le_trans (show (j - i).toNat ≤ 2000000 by omega) (by decide)))⟩
        · exact q.elim
      · exact q.elim
    · exact q.elim
end
/-! enumerate and zip of what stands frozen (a list of the store is watched) -/
def enumI (zs : List PyData) : List Itm := zs.zipIdx.map fun p => .many [.v (.int (p.2 : Nat)), .v p.1]
theorem enumI_get {zs : List PyData} {i : Nat} {d : Itm} (h : (enumI zs)[i]? = some d) : ∃ z, zs[i]? = some z ∧ d = .many [.v (.int (i : Nat)), .v z] := by
  unfold enumI at h
  rw [List.getElem?_map] at h
  obtain ⟨⟨z, j⟩, h1, rfl⟩ := Option.map_eq_some_iff.mp h
  rw [List.getElem?_zipIdx] at h1
  obtain ⟨w, h2, h3⟩ := Option.map_eq_some_iff.mp h1
  simp only [Prod.mk.injEq] at h3
  obtain ⟨rfl, rfl⟩ := h3
  exact ⟨w, h2, by simp⟩
/-- a new tuple of known values, at a turn -/
theorem ri_new {K : PySem.W.Frag} {ι : Gh} {st : Sto} {H : Hp} (R : SRel K ι st H) {T : Addr} (hT : H T = none) {xs : List V} {ds : List D} (hl : xs.length ≤ 3) (r : RDs K ι st H xs ds) :
    SRel K ι st (upd H T (.tup xs)) ∧ Ext ι st H ι st (upd H T (.tup xs)) ∧ RI K ι st (upd H T (.tup xs)) (.ref T) (.many ds) := by
  have E : Ext ι st H ι st (upd H T (.tup xs)) := Ext.fresh R hT
  exact ⟨R.fresh hT (hf_tup R.hf (lim1000 (by omega))), E, T, xs, rfl, .inl upd_same, R.frz_new hT, RDs.ext E r⟩
/-- where a sequence stands: how it is read at any later turn -/
structure Stands (K : PySem.W.Frag) (zs : List PyData) (w : Wt) (sq : Hp → List V → Prop) (ι : Gh) (st : Sto) (H : Hp) : Prop where
  len : zs.length ≤ sizeLine
  at_ : ∀ ι' st' H', SRel K ι' st' H' → Mv ι st H ι' st' H' → chk w st' → ∃ ys, sq H' ys ∧ RpA (Frz ι' st') H' ys zs
theorem stands_frz {K : PySem.W.Frag} {ι : Gh} {st : Sto} {H : Hp} {a : Addr} {xs : List V} {zs : List PyData} {w : Wt} (h : H a = some (.lst xs)) (f : Frz ι st a) (r : RpA (Frz ι st) H xs zs) (hf : HF H) : Stands K zs w (fun H' ys => SqL K H' a ys) ι st H :=
  ⟨by rw [← r.length]; exact hf a _ h, fun ι' st' H' R E _ => ⟨xs, .of (E.keep _ _ h f).2, E.rpA r⟩⟩
theorem stands_tup {K : PySem.W.Frag} {ι : Gh} {st : Sto} {H : Hp} {a : Addr} {o : Obj} {xs : List V} {zs : List PyData} {w : Wt} (h : H a = some (.frz o (.tup xs))) (f : Frz ι st a) (r : RpA (Frz ι st) H xs zs) (hf : HF H) : Stands K zs w (fun H' ys => SqT K H' a ys) ι st H :=
  ⟨by rw [← r.length]; exact hf a _ h, fun ι' st' H' R E _ => ⟨xs, .inl (.inr ⟨o, (E.keep _ _ h f).2⟩), E.rpA r⟩⟩
theorem stands_ref {K : PySem.W.Frag} {ι : Gh} {st : Sto} {H : Hp} {n : Nat} {a : Addr} {xs : List V} {zs : List PyData} (hi : ι.ad[n]? = some a) (r : RpA (Frz ι st) H xs zs) (h : H a = some (.lst xs)) (hf : HF H) : Stands K zs (some (n, zs)) (fun H' ys => SqL K H' a ys) ι st H :=
  ⟨by rw [← r.length]; exact hf a _ h, fun ι' st' H' R E hc => let ⟨ys, h1, h2⟩ := stand_ref hi r h ι' st' H' R E hc; ⟨ys, .of h1, h2⟩⟩
end Fw

namespace Fw
open PySem PySem.Spec PyProof.Rows L2

/-! ### enumerate(t) of a tuple -/
theorem meets_enumT (t : Addr) (items : Array Value) : Meets (Builtin.«enumerate.__new__» ⟨[.type "enumerate", .ref t], []⟩) (fun _ R s => s.heap.IsTuple t items ∧
    R (.ok (.ret (.ref (s.heap.push { cls := .type "tuple_iterator", data := .fields #[.ref t, .int 0 0] }).objs.size)))
      { s with heap := (s.heap.push { cls := .type "tuple_iterator", data := .fields #[.ref t, .int 0 0] }).push { cls := .type "enumerate", data := .fields #[.none, .bool false, .ref s.heap.objs.size, rawInt 0, .none, .none] } }) :=
  .of_wp fun prog w A R s h => by
    obtain ⟨hp, g, d, tk, os⟩ := s
    obtain ⟨h1, h⟩ := h
    have hsub := sub_enumerate
    have q1 : ∀ {A' : Around} {E : Value → Shared → Prop} {Q : Value → Shared → Prop}, Q (.ref hp.objs.size) ⟨hp.push { cls := .type "tuple_iterator", data := .fields #[.ref t, .int 0 0] }, g, d, tk, os⟩ → wpAny (model prog w) A' (pyIter (.ref t)) Q E ⟨hp, g, d, tk, os⟩ :=
      fun q => (begins_tuple t items).iter prog w _ _ ⟨hp, g, d, tk, os⟩ _ h1 q
    wp_walk using q1
    refine wpAny_stack_any fun st => wpAny_pure ?_
    split
    · rename_i c _ _ _ _ _
      cases (c == Value.type "enumerate") <;>
        (wp_walk using q1
         exact ⟨_, rfl, h⟩)
    · wp_walk using q1
      exact ⟨_, rfl, h⟩
section
variable {prog : Program} {w : World} {A : Around} {E : Value → Shared → Prop} {s : Shared}
theorem call_enumT {t : Addr} {items : Array Value} {Q : Value → Shared → Prop} (ht : s.heap.IsTuple t items)
    (h : ∀ h', IsEnum h' (s.heap.objs.size + 1) s.heap.objs.size 0 .none → h'.IsTupleIter s.heap.objs.size t 0 →
      (∀ b o, s.heap.get? b = some o → h'.get? b = some o) → Q (.ref (s.heap.objs.size + 1)) { s with heap := h' }) :
    wpAny (model prog w) A (call (.type "enumerate") [.ref t]) Q E s := by
  refine callType_new F.called_enumerate (by decide) (F.typeCall_enumerate_1 _) (F.newCall_enumerate_1 _) (fun obj => F.args_object_init_2 obj _) F.entry_enumerate_new (meets_enumT t items) ⟨ht, ?_⟩
  have hz : (s.heap.push { cls := .type "tuple_iterator", data := .fields #[.ref t, .int 0 0] }).objs.size = s.heap.objs.size + 1 := Heap.size_push ..
  show _ ∧ _
  rw [hz]
  have he : IsEnum ((s.heap.push { cls := .type "tuple_iterator", data := .fields #[.ref t, .int 0 0] }).push { cls := .type "enumerate", data := .fields #[.none, .bool false, .ref s.heap.objs.size, rawInt 0, .none, .none] })
      (s.heap.objs.size + 1) s.heap.objs.size 0 .none := by
    have q := Heap.get?_push_size (s.heap.push { cls := .type "tuple_iterator", data := .fields #[.ref t, .int 0 0] }) (o := { cls := .type "enumerate", data := .fields #[.none, .bool false, .ref s.heap.objs.size, rawInt 0, .none, .none] }) rfl
    rw [hz] at q
    exact q
  exact ⟨⟨_, he, rfl⟩, h _ he ⟨_, Heap.get?_push_of_some _ (Heap.get?_push_size _ rfl), rfl, rfl⟩ fun b o x => Heap.get?_push_of_some _ (Heap.get?_push_of_some _ x)⟩
end
/-- the tuple at a as it stands at each turn, each item in a new pair -/
def IteT (K : PySem.W.Frag) (a : Addr) : It :=
  ⟨fun i H => ∃ (xs : List V) (x : V), SqT K H a xs ∧ xs[i]? = some x, fun i H v H' => ∃ T x, v = .ref T ∧ H T = none ∧ H' = upd H T (.tup [.int (i : Nat), x]) ∧ ∀ xs, SqT K H a xs → xs[i]? = some x, fun i H => ∃ xs : List V, SqT K H a xs ∧ xs.length = i⟩
theorem turn_enumT {P : Program} {w : World} {K : PySem.W.Frag} {elts : List Expr} {kk : Nat} {tpos : Pos} (a e it : Addr) :
    Turn P w K (.Tuple elts kk tpos) (IteT K a) [e, it] e (fun i h => (∃ old, IsEnum h e it ((i : Nat) : Int) old) ∧ h.IsTupleIter it a i ∧ e ≠ it) where
  mem := List.mem_cons_self
  obj := fun i h st b hb => by
    obtain ⟨⟨old, he⟩, ⟨o, ho, hc, hd⟩, _⟩ := st
    have hb' : b = e ∨ b = it := by simpa using hb
    rcases hb' with z | z <;> rw [z]
    · exact ⟨_, he, fun v q => nomatch q⟩
    · exact ⟨o, ho, fun v q => by rw [hd] at q; cases q⟩
  keep := fun i h h' st k => by
    obtain ⟨⟨old, he⟩, hi, hne⟩ := st
    exact ⟨⟨old, k e (by simp) _ he⟩, hi.at fun o q => k it (by simp) o q, hne⟩
  item := by
    intro X hP hw hK hc i pins s σ H E I hf st hg
    subst hP hw hK
    obtain ⟨⟨old, he⟩, hit, hne⟩ := st
    obtain ⟨xs, x, hq, hx⟩ := hg
    obtain ⟨its, rv, p, hz⟩ := I.tuple hq
    obtain ⟨u, hu, ru⟩ := rv.get hx
    have hel : e < s.heap.objs.size := Heap.lt_size he
    have hit0 := id hit
    obtain ⟨oi, hoi, hci, _⟩ := hit0
    obtain ⟨ot, hot, hct, nt, hdt⟩ := p
    have ht : s.heap.IsTuple a its.toArray := ⟨ot, hot, hct, nt, hdt⟩
    have hai : a ≠ it := fun z => by
      rw [z, hoi] at hot
      cases hot
      rw [hci] at hct
      exact absurd hct (by decide)
    have hae : a ≠ e := fun z => by
      rw [z] at hot
      have he' : s.heap.get? e = _ := he
      rw [he'] at hot
      have hcls := congrArg (fun o => (Option.map Obj.cls o)) hot
      rw [Option.map_some, Option.map_some, hct] at hcls
      exact absurd hcls (by intro z; injection z with z; injection z with z; exact absurd z (by decide))
    have Dr := Draws.tuple (prog := X.prog) (w := X.w) (A := X.A.in1) (I.ok.hd hc) it a hai its.toArray
    have hlt : i < its.toArray.size := by
      have := (List.getElem?_eq_some_iff.mp hu).1
      simpa using this
    refine wpAny_pyNext_enum_itemD Dr he ⟨hit, ht⟩ hlt hne (by simp [hne, Ne.symm hae]) fun u' h' tk hP ho hit' hT hsz hk => ?_
    have eu : u' = u := by
      have hP' : its.toArray[i]? = some u' := hP
      have : its[i]? = some u' := by simpa using hP'
      rw [hu] at this
      exact (Option.some.inj this).symm
    subst eu
    refine ⟨_, rfl, wpAny_letOwnedTupleGo_enum (s := { s with heap := h', toks := tk + 1 }) ho fun h2 he2 sb => ?_⟩
    have hT2 : h2.get? s.heap.objs.size = some { cls := .type "tuple", data := .seq #[.int i tk, u'] } := (sb.2 _ (Nat.ne_of_gt hel)).trans hT
    have new : ObjOk X.prog X.w (upd H s.heap.objs.size (.tup [.int (i : Nat), x])) h2 s.heap.objs.size (.tup [.int (i : Nat), x]) :=
      ⟨lim1000 (show 2 ≤ 1000 by decide), [.int i tk, u'], .cons ⟨_, rfl⟩ (.cons ru .nil), ⟨_, hT2, rfl, _, rfl⟩⟩
    have I1 : Inv X pins σ (upd H s.heap.objs.size (.tup [.int (i : Nat), x])) { s with heap := h2, toks := tk + 1 } :=
      I.turnedNew (ch := [e, it]) (fun b ob hb q => (sb.2 b fun z => hb (by simp [z])).trans (hk b ob (fun z => hb (by simp [z])) (fun z => hb (by simp [z])) q)) hf (Nat.le_refl _) new
    refine ⟨.ref s.heap.objs.size, _, I1, rfl, ⟨_, x, rfl, I.hok.fresh (Nat.le_refl _), rfl, fun ys hy => by rw [I.tuple_inj hy hq]; exact hx⟩, ⟨⟨u', ?_⟩, hit'.1.at fun o q => (sb.2 it (Ne.symm hne)).trans q, hne⟩, fun b hb => ?_⟩
    · have e1 : ((i + 1 : Nat) : Int) = (i : Int) + 1 := by omega
      rw [e1]
      exact he2
    · have hb' : b < s.heap.objs.size := by
        have q : b = e ∨ b = it := by simpa using hb
        rcases q with z | z <;> rw [z]
        · exact hel
        · exact Heap.lt_size hoi
      rw [upd_ne (Nat.ne_of_lt hb')]
      exact (hf b hb).1
  done := by
    intro X hP hw hK hc i pins s σ H E I hf st hg
    subst hP hw hK
    obtain ⟨⟨old, he⟩, hit, hne⟩ := st
    obtain ⟨xs, hq, hx⟩ := hg
    obtain ⟨its, rv, p, hz⟩ := I.tuple hq
    have hl := rv.length
    obtain ⟨f0, f1, f2, f3, f4, f5⟩ := hf it (by simp)
    have hit0 := id hit
    obtain ⟨oi, hoi, hci, hdi⟩ := hit0
    obtain ⟨ot, hot, hct, nt, hdt⟩ := p
    have ht : s.heap.IsTuple a its.toArray := ⟨ot, hot, hct, nt, hdt⟩
    have hai : a ≠ it := fun z => by
      rw [z, hoi] at hot
      cases hot
      rw [hci] at hct
      exact absurd hct (by decide)
    have Dr := Draws.tuple (prog := X.prog) (w := X.w) (A := X.A.in1) (I.ok.hd hc) it a hai its.toArray
    have ei : i = its.toArray.size := by
      rw [List.size_toArray]
      omega
    rw [ei] at hit
    exact wpAny_pyNext_enum_endD Dr he ⟨hit, ht⟩ fun h' eb => ⟨rfl, I.turned (t' := s.toks) (fun b o hb q => eb b o hb q) f0 f1 f3 f4 f5⟩
  self := fun A i s Q E st h => let ⟨⟨_, he⟩, _⟩ := st; wpAny_pyIter_enum he h
def iEnumA (K : PySem.W.Frag) (ta : TA) : TI := fun σ H R => ta σ H fun vs H1 => ∃ a xs, vs = [.ref a] ∧ ((SqL K H1 a xs ∧ R (Ite K a) H1) ∨ (SqT K H1 a xs ∧ R (IteT K a) H1))
theorem pi_enumA {X : Cx} {e : Expr} {ta : TA} {p pos tpos : Pos} {elts : List Expr} {kk : Nat} (hg : Gl X "enumerate") (hm : X.mg "enumerate" = none) (ha : PA X [e] ta) (hs : starEach [e] X.env = [(false, eval e X.env)] := by rfl) :
    PI X (.Tuple elts kk tpos) (.Call (.Name "enumerate" p) [e] [] pos) (iEnumA X.K ta) := by
  refine ⟨fun pins s σ H R I h => ?_⟩
  refine Call_ (ld_blt I hg hm boot_enumerate (PyProof.Rows.callWith_type1 (thn (ha.run pos pins s σ H _ I h) fun us s1 hh => ?_) hs rfl))
  obtain ⟨vs, H1, I1, r1, a, xs, ex, q⟩ := hh
  subst ex
  obtain ⟨u, rfl, ru⟩ := vals1 r1
  cases ru
  have fr : ∀ b ∈ [s1.heap.objs.size + 1, s1.heap.objs.size], FpOk X pins H1 b := fun b hb => by
    have q : b = s1.heap.objs.size + 1 ∨ b = s1.heap.objs.size := by simpa using hb
    have hle : s1.heap.objs.size ≤ b := by rcases q with z | z <;> rw [z] <;> first | exact Nat.le_add_right _ _ | exact Nat.le_refl _
    exact I1.fpOk hle (I1.hok.fresh hle)
  rcases q with ⟨hq, q⟩ | ⟨hq, q⟩
  · obtain ⟨its, rv, pl, hz⟩ := I1.list hq
    refine call_enumerate_list pl.isList fun h' he hit hsz hk => wpAny_pyIter_enum he ?_
    exact ⟨s1.heap.objs.size + 1, _, _, _, H1, rfl, I1.kept (t' := s1.toks) hk, turn_enum a (s1.heap.objs.size + 1) s1.heap.objs.size, ⟨⟨.none, he⟩, hit, Nat.succ_ne_self _⟩, fr, q⟩
  · obtain ⟨its, rv, ⟨ot, hot, hct, nt, hdt⟩, hz⟩ := I1.tuple hq
    refine call_enumT (items := its.toArray) ⟨ot, hot, hct, nt, hdt⟩ fun h' he hit hk => wpAny_pyIter_enum he ?_
    exact ⟨s1.heap.objs.size + 1, _, _, _, H1, rfl, I1.kept (t' := s1.toks) hk, turn_enumT a (s1.heap.objs.size + 1) s1.heap.objs.size, ⟨⟨.none, he⟩, hit, Nat.succ_ne_self _⟩, fr, q⟩
/-- two readings of one thing at one heap are one -/
theorem RpA.at {K : PySem.W.Frag} {ι : Gh} {st : Sto} {H : Hp} {xs : List V} {zs : List PyData} (r : RpA (Frz ι st) H xs zs) {i : Nat} {z : PyData} (h : zs[i]? = some z) : ∃ x, xs[i]? = some x ∧ Rp (Frz ι st) H x z := r.get h
theorem wlk_enumL {K : PySem.W.Frag} {ι : Gh} {st : Sto} {H : Hp} {a : Addr} {zs : List PyData} {w : Wt} (S : Stands K zs w (fun H' ys => SqL K H' a ys) ι st H) : Wlk K (enumI zs) w (Ite K a) ι st H := by
  refine ⟨fun i d ι' st' H' hi R E hc => ?_, fun ι' st' H' R E hc => ?_, by unfold enumI; rw [List.length_map, List.length_zipIdx]; exact S.len⟩
  · obtain ⟨z, h1, rfl⟩ := enumI_get hi
    obtain ⟨ys, h2, h3⟩ := S.at_ ι' st' H' R E hc
    obtain ⟨x, h4, h5⟩ := h3.get h1
    refine ⟨⟨ys, x, h2, h4⟩, fun v H2 hy => ?_⟩
    obtain ⟨T, x', rfl, hT, rfl, hx⟩ := hy
    have e := hx ys h2
    rw [h4] at e
    cases e
    exact ri_new R hT (show 2 ≤ 3 by decide) (.cons (.int _) (.cons h5 .nil))
  · obtain ⟨ys, h2, h3⟩ := S.at_ ι' st' H' R E hc
    refine ⟨ys, h2, ?_⟩
    rw [h3.length]
    unfold enumI
    rw [List.length_map, List.length_zipIdx]
    exact Nat.le_refl _
theorem wlk_enumT {K : PySem.W.Frag} {ι : Gh} {st : Sto} {H : Hp} {a : Addr} {zs : List PyData} {w : Wt} (S : Stands K zs w (fun H' ys => SqT K H' a ys) ι st H) : Wlk K (enumI zs) w (IteT K a) ι st H := by
  refine ⟨fun i d ι' st' H' hi R E hc => ?_, fun ι' st' H' R E hc => ?_, by unfold enumI; rw [List.length_map, List.length_zipIdx]; exact S.len⟩
  · obtain ⟨z, h1, rfl⟩ := enumI_get hi
    obtain ⟨ys, h2, h3⟩ := S.at_ ι' st' H' R E hc
    obtain ⟨x, h4, h5⟩ := h3.get h1
    refine ⟨⟨ys, x, h2, h4⟩, fun v H2 hy => ?_⟩
    obtain ⟨T, x', rfl, hT, rfl, hx⟩ := hy
    have e := hx ys h2
    rw [h4] at e
    cases e
    exact ri_new R hT (show 2 ≤ 3 by decide) (.cons (.int _) (.cons h5 .nil))
  · obtain ⟨ys, h2, h3⟩ := S.at_ ι' st' H' R E hc
    refine ⟨ys, h2, ?_⟩
    rw [h3.length]
    unfold enumI
    rw [List.length_map, List.length_zipIdx]
/-- how a sequence stands: a list (frozen or watched), or a tuple -/
theorem stands_of {K : PySem.W.Frag} {ι : Gh} {st : Sto} {H : Hp} (R : SRel K ι st H) {d : D} {zs : List PyData} {w : Wt} (e : seqI st d = some (zs, w)) {x : V} (r : RD K ι st H x d) :
    ∃ a, x = .ref a ∧ ((∃ xs, SqL K H a xs ∧ Stands K zs w (fun H' ys => SqL K H' a ys) ι st H) ∨ (∃ xs, SqT K H a xs ∧ Stands K zs w (fun H' ys => SqT K H' a ys) ι st H)) := by
  unfold seqI at e
  split at e
  · rename_i n ws hL
    simp only [Option.some.injEq, Prod.mk.injEq] at e
    obtain ⟨rfl, rfl⟩ := e
    obtain ⟨a, us, rfl, h1, h2, h3, h4⟩ := lAt_at R hL r
    exact ⟨a, rfl, .inl ⟨us, .of h1, stands_ref h4 h2 h1 R.hf⟩⟩
  · rename_i hL
    obtain ⟨ws, ev, e3⟩ := Option.map_eq_some_iff.mp e
    simp only [Prod.mk.injEq] at e3
    obtain ⟨rfl, rfl⟩ := e3
    obtain ⟨a, us, rfl, ⟨h1, f⟩ | ⟨o, h1, f⟩, h2⟩ := viewS_frz hL ev r
    · exact ⟨a, rfl, .inl ⟨us, .of h1, stands_frz h1 f h2 R.hf⟩⟩
    · exact ⟨a, rfl, .inr ⟨us, .inl (.inr ⟨o, h1⟩), stands_tup h1 f h2 R.hf⟩⟩
def miEnum (m : MA) : MI := fun env st => (m env st).bind fun ds s1 => match ds with
  | [d] => match seqI s1 d with
    | some (zs, w) => .ok (enumI zs, w) s1
    | none => .stuck
  | _ => .stuck
theorem i_enum {X : Cx} {W : XW} {e : Expr} {m : MA} {p pos tpos : Pos} {elts : List Expr} {kk : Nat} (hg : Gl X "enumerate") (hm : X.mg "enumerate" = none) (ha : PA X [e] (TAo X.K W m)) (hs : starEach [e] X.env = [(false, eval e X.env)] := by rfl) :
    PI X (.Tuple elts kk tpos) (.Call (.Name "enumerate" p) [e] [] pos) (TIo X.K W (miEnum m)) := pi_wrap (pi_enumA hg hm ha hs) fun σ H Rr q => by
  obtain ⟨ι, env, st, R, EV, p⟩ := q
  refine ⟨ι, env, st, R, EV, Out.post_mono (Out.post_bind p) (fun ds s1 q ι1 H1 xs R1 E1 ra => ?_) fun _ _ q => q⟩
  split at q
  · obtain ⟨x, rfl, r1⟩ := ra.one
    split at q
    · rename_i zs w e1
      obtain ⟨a, rfl, ⟨us, h1, S⟩ | ⟨us, h1, S⟩⟩ := stands_of R1 e1 r1
      · exact ⟨a, us, rfl, .inl ⟨h1, fun _ => q ι1 H1 _ R1 E1 (wlk_enumL S)⟩⟩
      · exact ⟨a, us, rfl, .inr ⟨h1, fun _ => q ι1 H1 _ R1 E1 (wlk_enumT S)⟩⟩
    · exact q.elim
  · exact q.elim
/-! zip of two lists, of two tuples -/
def zip2I (xs ys : List PyData) : List Itm := (xs.zip ys).map fun p => .many [.v p.1, .v p.2]
def mW (w w' : Wt) : Option Wt := match w, w' with
  | none, w' => some w'
  | w, none => some w
  | _, _ => none
def isLs (st : Sto) (d : D) : Bool := isL st d
def miZip (m : MA) : MI := fun env st => (m env st).bind fun ds s1 => match ds with
  | [a, b] => match seqI s1 a, seqI s1 b with
    | some (xs, none), some (ys, none) => if isT a == isT b then .ok (zip2I xs ys, none) s1 else .stuck
    | _, _ => .stuck
  | _ => .stuck
theorem seqI_T {st : Sto} {d : D} {zs : List PyData} {K : PySem.W.Frag} {ι : Gh} {H : Hp} (R : SRel K ι st H) (e : seqI st d = some (zs, none)) {x : V} (r : RD K ι st H x d) :
    ∃ a xs, x = .ref a ∧ ((isT d = false ∧ H a = some (.lst xs) ∧ Frz ι st a) ∨ (isT d = true ∧ ∃ o, H a = some (.frz o (.tup xs)) ∧ Frz ι st a)) ∧ RpA (Frz ι st) H xs zs := by
  unfold seqI at e
  split at e
  · cases e
  · rename_i hL
    obtain ⟨ws, ev, e3⟩ := Option.map_eq_some_iff.mp e
    simp only [Prod.mk.injEq] at e3
    obtain ⟨rfl, _⟩ := e3
    obtain ⟨a, us, rfl, h, h2⟩ := viewS_frz hL ev r
    refine ⟨a, us, rfl, ?_, h2⟩
    cases hT : isT d with
    | true =>
      obtain ⟨vs, et⟩ := Option.isSome_iff_exists.mp hT
      rcases h with ⟨h1, f⟩ | ⟨o, h1, f⟩
      · rw [tOf_eq et] at r
        have r' : Rp (Frz ι st) H (.ref a) (.tuple vs) := r
        cases r' with
        | tup h3 _ _ _ => rw [h1] at h3; cases h3
      · exact .inr ⟨rfl, o, h1, f⟩
    | false =>
      rcases h with ⟨h1, f⟩ | ⟨o, h1, f⟩
      · exact .inl ⟨rfl, h1, f⟩
      · exfalso
        cases d with
        | v z =>
          cases z with
          | tuple _ => cases hT
          | list _ =>
            have r' : Rp (Frz ι st) H (.ref a) (.list _) := r
            cases r' with
            | lst h3 _ _ => rw [h1] at h3; cases h3
          | _ => cases ev
        | scr _ => cases ev
        | ref n =>
          simp only [viewS, viewL] at ev
          cases q : st[n]? with
          | none => rw [q] at ev; cases ev
          | some o2 =>
            rw [q] at ev
            cases o2 with
            | lst zs => simp only [lAt, q] at hL; cases hL
            | _ => cases ev
theorem zip2I_get {xs ys : List PyData} {i : Nat} {d : Itm} (h : (zip2I xs ys)[i]? = some d) : ∃ x y, xs[i]? = some x ∧ ys[i]? = some y ∧ d = .many [.v x, .v y] := by
  unfold zip2I at h
  rw [List.getElem?_map] at h
  obtain ⟨⟨x, y⟩, h1, rfl⟩ := Option.map_eq_some_iff.mp h
  obtain ⟨h2, h3⟩ := List.getElem?_zip_eq_some.mp h1
  exact ⟨x, y, h2, h3, rfl⟩
theorem zip2I_len {xs ys : List PyData} : (zip2I xs ys).length = min xs.length ys.length := by
  unfold zip2I
  rw [List.length_map, List.length_zip]
theorem i_zip {X : Cx} {W : XW} {e e2 : Expr} {m : MA} {p pos tpos : Pos} {elts : List Expr} {kk : Nat} (hg : Gl X "zip") (hm : X.mg "zip" = none) (ha : PA X [e, e2] (TAo X.K W m)) (hs : starEach [e, e2] X.env = (false, eval e X.env) :: starEach [e2] X.env := by rfl) (hpl : (backTo pos (starEach [e2] X.env)).any (·.1) = false := by rfl) :
    PI X (.Tuple elts kk tpos) (.Call (.Name "zip" p) [e, e2] [] pos) (TIo X.K W (miZip m)) := pi_wrap (RZ.pi_zipA hg hm ha hs hpl) fun σ H Rr q => by
  obtain ⟨ι, env, st, R, EV, p⟩ := q
  refine ⟨ι, env, st, R, EV, Out.post_mono (Out.post_bind p) (fun ds s1 q ι1 H1 xs R1 E1 ra => ?_) fun _ _ q => q⟩
  split at q
  · rename_i da db
    obtain ⟨x, y, rfl, r1, r2⟩ := ra.two
    split at q
    · rename_i us vs e1 e2
      split at q
      · rename_i hT
        obtain ⟨a, xs, rfl, h1, h2⟩ := seqI_T R1 e1 r1
        obtain ⟨b, ys, rfl, h3, h4⟩ := seqI_T R1 e2 r2
        have hT : isT da = isT db := by simpa using hT
        refine ⟨a, b, xs, ys, rfl, ?_⟩
        rcases h1 with ⟨t1, h1, f1⟩ | ⟨t1, o1, h1, f1⟩
        · rcases h3 with ⟨t3, h3, f3⟩ | ⟨t3, o3, h3, f3⟩
          · refine .inl ⟨.of h1, .of h3, fun _ => q ι1 H1 _ R1 E1 ⟨fun i d ι' st' H' hi R' E' _ => ?_, fun ι' st' H' R' E' _ => ?_, by rw [zip2I_len, ← h2.length]; exact Nat.le_trans (Nat.min_le_left _ _) (R1.hf a _ h1)⟩⟩
            · obtain ⟨zx, zy, g1, g2, rfl⟩ := zip2I_get hi
              obtain ⟨u, g3, g4⟩ := h2.get g1
              obtain ⟨v, g5, g6⟩ := h4.get g2
              have k1 : SqL X.K H' a xs := .of (E'.keep _ _ h1 f1).2
              have k2 : SqL X.K H' b ys := .of (E'.keep _ _ h3 f3).2
              refine ⟨⟨xs, ys, u, v, k1, k2, g3, g5⟩, fun w H2 hy => ?_⟩
              obtain ⟨T, u', v', rfl, hT', rfl, hx, hy'⟩ := hy
              have e3 := hx xs k1
              have e4 := hy' ys k2
              rw [g3] at e3
              rw [g5] at e4
              cases e3
              cases e4
              exact ri_new R' hT' (show 2 ≤ 3 by decide) (.cons (E'.rp g4) (.cons (E'.rp g6) .nil))
            · have k1 : SqL X.K H' a xs := .of (E'.keep _ _ h1 f1).2
              have k2 : SqL X.K H' b ys := .of (E'.keep _ _ h3 f3).2
              refine ⟨xs, ys, k1, k2, ?_⟩
              rw [h2.length, h4.length, zip2I_len]
              omega
          · rw [t1, t3] at hT; cases hT
        · rcases h3 with ⟨t3, h3, f3⟩ | ⟨t3, o3, h3, f3⟩
          · rw [t1, t3] at hT; cases hT
          · refine .inr ⟨.inl (.inr ⟨o1, h1⟩), .inl (.inr ⟨o3, h3⟩), fun _ => q ι1 H1 _ R1 E1 ⟨fun i d ι' st' H' hi R' E' _ => ?_, fun ι' st' H' R' E' _ => ?_, by rw [zip2I_len, ← h2.length]; exact Nat.le_trans (Nat.min_le_left _ _) (R1.hf a _ h1)⟩⟩
            · obtain ⟨zx, zy, g1, g2, rfl⟩ := zip2I_get hi
              obtain ⟨u, g3, g4⟩ := h2.get g1
              obtain ⟨v, g5, g6⟩ := h4.get g2
              have k1 : SqT X.K H' a xs := .inl (.inr ⟨o1, (E'.keep _ _ h1 f1).2⟩)
              have k2 : SqT X.K H' b ys := .inl (.inr ⟨o3, (E'.keep _ _ h3 f3).2⟩)
              refine ⟨⟨xs, ys, u, v, k1, k2, g3, g5⟩, fun w H2 hy => ?_⟩
              obtain ⟨T, u', v', rfl, hT', rfl, hx, hy'⟩ := hy
              have e3 := hx xs k1
              have e4 := hy' ys k2
              rw [g3] at e3
              rw [g5] at e4
              cases e3
              cases e4
              exact ri_new R' hT' (show 2 ≤ 3 by decide) (.cons (E'.rp g4) (.cons (E'.rp g6) .nil))
            · have k1 : SqT X.K H' a xs := .inl (.inr ⟨o1, (E'.keep _ _ h1 f1).2⟩)
              have k2 : SqT X.K H' b ys := .inl (.inr ⟨o3, (E'.keep _ _ h3 f3).2⟩)
              refine ⟨xs, ys, k1, k2, ?_⟩
              rw [h2.length, h4.length, zip2I_len]
              omega
      · exact q.elim
    · exact q.elim
  · exact q.elim
end Fw

namespace Fw
open PySem PySem.Spec PyProof.Rows L2

/-! ### a list that is being made: hidden -/
def Gh.hide (ι : Gh) (p : Addr) : Gh := ⟨ι.ad, p :: ι.hid⟩
def del (H : Hp) (p : Addr) : Hp := fun b => if b = p then none else H b
theorem del_ne {H : Hp} {p b : Addr} (h : b ≠ p) : del H p b = H b := by unfold del; rw [if_neg h]
theorem del_same {H : Hp} {p : Addr} : del H p p = none := by unfold del; rw [if_pos rfl]
theorem upd_del {H : Hp} {p : Addr} {u : HO} (h : H p = some u) : upd (del H p) p u = H := by
  funext b
  by_cases e : b = p
  · subst e; rw [upd_same, h]
  · rw [upd_ne e, del_ne e]
section
variable {K : PySem.W.Frag} {ι ι' : Gh} {st st' : Sto} {H H' : Hp} {p : Addr}
theorem frz_hide (f : Frz ι st q) (h : q ≠ p) : Frz (ι.hide p) st q := ⟨fun z => by
  rcases List.mem_cons.mp z with z | z
  · exact h z
  · exact f.1 z, f.2⟩
theorem frz_show (f : Frz (ι.hide p) st q) : Frz ι st q ∧ q ≠ p := ⟨⟨fun z => f.1 (List.mem_cons_of_mem _ z), f.2⟩, fun z => f.1 (by rw [z]; exact List.mem_cons_self)⟩
theorem mv_hide (R : SRel K ι st H) (hp : H p = none) {u : HO} : Mv ι st H (ι.hide p) st (upd H p u) :=
  ⟨fun q v e f => ⟨frz_hide f (ne_of_none e hp), by rw [upd_ne (ne_of_none e hp)]; exact e⟩, fun _ _ e => e, fun h hi => ⟨h, upd_ne (let ⟨_, e, _⟩ := R.live h hi (fun z => nomatch z); ne_of_none e hp)⟩⟩
theorem SRel.hide (R : SRel K ι st H) (hp : H p = none) {u : HO} (hd : HdO u) (hl : HF (upd H p u)) : SRel K (ι.hide p) st (upd H p u) := by
  have m := mv_hide (u := u) R hp
  refine ⟨R.len, fun n o a h hi => m.ro (fun v e => by rw [upd_ne (ne_of_none e hp)]; exact e) (R.obj n o a h hi), R.inj, R.low, fun a ha => ?_, hl⟩
  rcases List.mem_cons.mp ha with rfl | ha
  · exact ⟨⟨u, upd_same, hd⟩, (R.frz_new hp).2⟩
  · obtain ⟨⟨ys, e, d⟩, h2⟩ := R.hid a ha
    exact ⟨⟨ys, by rw [upd_ne (ne_of_none e hp)]; exact e, d⟩, h2⟩
theorem mv_show (R : SRel K (ι.hide p) st H) : Mv (ι.hide p) st H ι st (del H p) :=
  ⟨fun q v e f => let ⟨a, b⟩ := frz_show f; ⟨a, by rw [del_ne b]; exact e⟩, fun _ _ e => e, fun h hi => ⟨h, del_ne fun z => by subst z; exact nomatch (R.hid _ List.mem_cons_self).2 _ _ h hi⟩⟩
theorem SRel.unhide (R : SRel K (ι.hide p) st H) (hp : p ∉ ι.hid) : SRel K ι st (del H p) := by
  have m := mv_show R
  refine ⟨R.len, fun n o a h hi => ?_, R.inj, R.low, fun a ha => ?_, fun a u e => ?_⟩
  · by_cases hd : o = O.dead
    · subst hd; trivial
    · have na : a ≠ p := fun z => by subst z; exact hd ((R.hid a List.mem_cons_self).2 n o h hi)
      exact m.ro (fun v e => by rw [del_ne na]; exact e) (R.obj n o a h hi)
  · obtain ⟨⟨ys, e, d⟩, h2⟩ := R.hid a (List.mem_cons_of_mem _ ha)
    have na : a ≠ p := fun z => hp (by rw [← z]; exact ha)
    exact ⟨⟨ys, by rw [del_ne na]; exact e, d⟩, h2⟩
  · by_cases na : a = p
    · subst na
      rw [del_same] at e
      cases e
    · rw [del_ne na] at e
      exact R.hf a u e
theorem mv_hset {u : HO} (R : SRel K ι st H) (hp : p ∈ ι.hid) : Mv ι st H ι st (upd H p u) :=
  ⟨fun q v e f => ⟨f, by rw [upd_ne (fun z => f.1 (by rw [z]; exact hp))]; exact e⟩, fun _ _ e => e, fun h hi => ⟨h, upd_ne fun z => by subst z; exact nomatch (R.hid _ hp).2 _ _ h hi⟩⟩
theorem SRel.hset (R : SRel K ι st H) (hp : p ∈ ι.hid) {u : HO} (hd : HdO u) (hl : HF (upd H p u)) : SRel K ι st (upd H p u) := by
  have m := mv_hset (u := u) R hp
  refine ⟨R.len, fun n o a h hi => ?_, R.inj, R.low, fun a ha => ?_, hl⟩
  · by_cases hx : o = O.dead
    · subst hx; trivial
    · have na : a ≠ p := fun z => by subst z; exact hx ((R.hid a hp).2 n o h hi)
      exact m.ro (fun v e => by rw [upd_ne na]; exact e) (R.obj n o a h hi)
  · by_cases na : a = p
    · subst na
      exact ⟨⟨u, upd_same, hd⟩, (R.hid a hp).2⟩
    · obtain ⟨⟨ys, e, d⟩, h2⟩ := R.hid a ha
      exact ⟨⟨ys, by rw [upd_ne na]; exact e, d⟩, h2⟩
end

/-! ### comprehensions -/
/-- what may raise nothing -/
def Out.noX {α : Type} (x : Out α) : Out α := match x with
  | .exn _ _ => .stuck
  | o => o
@[simp] theorem noX_ok {α : Type} (a : α) (st : Sto) : (Out.ok a st).noX = .ok a st := rfl
@[simp] theorem noX_stuck {α : Type} : (Out.stuck : Out α).noX = .stuck := rfl
@[simp] theorem noX_exn {α : Type} (e : Exn) (st : Sto) : (Out.exn e st : Out α).noX = .stuck := rfl
theorem noX_post {α : Type} {x : Out α} {P : α → Sto → Prop} {E E' : Exn → Sto → Prop} (h : x.noX.post P E) : x.post P E' := by
  cases x with
  | ok a s => exact h
  | exn e s => exact h.elim
  | stuck => exact h.elim
open Classical in
noncomputable def lcL (w : Wt) (g : MG) (t : MT) (m : ME) (env0 : Ev) : List Itm → Sto → Out (List PyData)
  | [] => fun st => if chk w st then .ok [] st else .stuck
  | d :: r => fun st => if chk w st then (g d env0 st).noX.bind fun e1 s1 => (t e1 s1).noX.bind fun k s2 =>
      if k then (m e1 s2).noX.bind fun v s3 => match v with
        | .v z => (lcL w g t m env0 r s3).bind fun zs s4 => .ok (z :: zs) s4
        | _ => .stuck
      else lcL w g t m env0 r s2
    else .stuck
theorem noX_bind {α β : Type} {x : Out α} {f : α → Sto → Out β} (h : ∀ a s, (f a s).noX = f a s) : (x.noX.bind f).noX = x.noX.bind f := by
  cases x with
  | ok a s => exact h a s
  | exn e s => rfl
  | stuck => rfl
theorem lcL_noX (w : Wt) (g : MG) (t : MT) (m : ME) (env0 : Ev) : ∀ (ds : List Itm) (st : Sto), (lcL w g t m env0 ds st).noX = lcL w g t m env0 ds st
  | [], st => by
    unfold lcL
    split <;> rfl
  | d :: r, st => by
    unfold lcL
    split
    · refine noX_bind fun e1 s1 => noX_bind fun k s2 => ?_
      split
      · refine noX_bind fun v s3 => ?_
        split
        · rw [← lcL_noX w g t m env0 r s3]
          exact noX_bind fun _ _ => rfl
        · rfl
      · exact lcL_noX w g t m env0 r s2
    · rfl
def mYes : MT := fun _ st => .ok true st
noncomputable def mLc (mi : MI) (g : MG) (t : MT) (m : ME) (own : List Nat) : MF := fun env st => (mi env st).bind fun r s1 => lcL r.2 g t m (wipeE env own) r.1 s1
theorem Mv.trans {ι1 ι2 ι3 : Gh} {s1 s2 s3 : Sto} {H1 H2 H3 : Hp} (a : Mv ι1 s1 H1 ι2 s2 H2) (b : Mv ι2 s2 H2 ι3 s3 H3) : Mv ι1 s1 H1 ι3 s3 H3 :=
  ⟨fun q u e f => let ⟨f1, k1⟩ := a.keep q u e f; b.keep q u k1 f1, fun n x e => b.pre n x (a.pre n x e), fun h hi => let ⟨h1, e1⟩ := a.lk h hi; let ⟨h2, e2⟩ := b.lk h1 (a.pre _ _ hi); ⟨h2, e2.trans e1⟩⟩
theorem wipe_in {σ : L2.St} {i : Nat} : ∀ {vs : List Nat}, i ∈ vs → (L2.wipe σ vs)[i]? = σ[i]?.map fun _ => none
  | v :: vs, h => by
    show ((L2.wipe σ vs).set v none)[i]? = _
    by_cases e : v = i
    · subst e
      by_cases hl : v < σ.length
      · rw [List.getElem?_set_self (by rw [wipe_length]; exact hl), List.getElem?_eq_getElem hl]
        rfl
      · rw [List.getElem?_eq_none (by rw [List.length_set, wipe_length]; omega), List.getElem?_eq_none (by omega)]
        rfl
    · rw [List.getElem?_set_ne e]
      exact wipe_in ((List.mem_cons.mp h).resolve_left fun z => e z.symm)
theorem wipe_wipe (σ : L2.St) (vs : List Nat) : L2.wipe (L2.wipe σ vs) vs = L2.wipe σ vs := by
  refine List.ext_getElem? fun i => ?_
  by_cases h : i ∈ vs
  · rw [wipe_in h, wipe_in h]
    cases σ[i]? <;> rfl
  · rw [wipe_out h]
theorem lc_red {K : PySem.W.Frag} {W : XW} {mi : MI} {g : MG} {t : MT} {m : ME} {own : List Nat} {σ : L2.St} {H : Hp} {Q : VK} (q : TFo K W (mLc mi g t m own) σ H Q) :
    tLc (TIo K W mi) (TGo K WF g (some own)) (TTo K WF t) (TEo K WF m) own σ H (fun v H' => HF H' → Q v H') := by
  obtain ⟨ι, env, st, R, EV, p⟩ := q
  refine ⟨ι, env, st, R, EV, Out.post_mono (Out.post_bind p) (fun r s1 q ι1 H1 J R1 E1 hW L hL => ?_) fun _ _ q => q⟩
  obtain ⟨ds, w⟩ := r
  have EW := (EV.ext E1).wipe own
  -- what a turn finds: the list at L hidden, all else as it was
  let Inv (i k : Nat) (H : Hp) : Prop := k + i = ds.length ∧ ∃ (acc : List V) (zs : List PyData) (ι' : Gh) (st' : Sto), ι'.hid = ι1.hid ∧ H L = some (.lst acc) ∧ acc.length ≤ i ∧ SRel K (ι'.hide L) st' H ∧
    Mv ι1 s1 H1 (ι'.hide L) st' H ∧ (∀ a, a ∈ ι1.hid → H a = H1 a) ∧
    RpA (Frz (ι'.hide L) st') H acc zs ∧ (lcL w g t m (wipeE env own) (ds.drop i) st').post (fun ws s2 => PF1 K ι1 s1 H1 Q (zs ++ ws) s2) fun _ _ => False
  have nL : L ∉ ι1.hid := R1.hid_new hL
  refine ⟨Inv, ⟨ds.length, Nat.add_zero _, [], [], ι1, s1, rfl, upd_same, Nat.le_refl _, R1.hide hL trivial (hf_lst R1.hf (Nat.zero_le _)), mv_hide R1 hL, fun a ha => upd_ne fun z => nL (by rw [← z]; exact ha), .nil, ?_⟩, ?_⟩
  · have q' : (lcL w g t m (wipeE env own) ds s1).noX.post (PF1 K ι st H Q) (PX1 K W ι st H) := by rw [lcL_noX]; exact q
    have q2 : (lcL w g t m (wipeE env own) ds s1).post (PF1 K ι st H Q) fun _ _ => False := noX_post q'
    exact Out.post_mono q2 (fun zs s2 z => PF1.ext z E1) fun _ _ z => z
  rintro i k H2 ⟨hk, acc, zs, ι2, s2, eh, hA, hal, R2, mv, kz, rA, p2⟩
  by_cases hi : i < ds.length
  · right
    have hd : ds.drop i = ds[i] :: ds.drop (i + 1) := List.drop_eq_getElem_cons hi
    rw [hd] at p2
    unfold lcL at p2
    split at p2
    · rename_i hc
      obtain ⟨hgo, hy⟩ := hW.go i ds[i] (ι2.hide L) s2 H2 (List.getElem?_eq_getElem hi) R2 mv hc
      have hlen : acc.length < sizeLine := Nat.lt_of_le_of_lt hal (Nat.lt_of_lt_of_le hi hW.len)
      have fin : ∀ {ι6 : Gh} {s6 : Sto} {H6 : Hp}, SRel K ι6 s6 H6 → Ext (ι2.hide L) s2 H2 ι6 s6 H6 → ∃ ι' : Gh, ι6 = ι'.hide L ∧ ι'.hid = ι1.hid ∧ H6 L = some (.lst acc) ∧ ∀ a, a ∈ ι1.hid → H6 a = H1 a := by
        intro ι6 s6 H6 R6 E6
        refine ⟨⟨ι6.ad, ι1.hid⟩, ?_, rfl, ?_, fun a ha => ?_⟩
        · have e := E6.hid
          have e2 : (ι2.hide L).hid = L :: ι1.hid := by rw [← eh]; rfl
          rw [e2] at e
          cases ι6
          simp only at e
          rw [e]
          rfl
        · rw [E6.keepZ L List.mem_cons_self]; exact hA
        · rw [E6.keepZ a (List.mem_cons_of_mem _ (by rw [eh]; exact ha))]
          exact kz a ha
      refine ⟨hgo, Inv (i + 1) (k - 1), fun H' hN => ⟨k - 1, by omega, hN⟩, fun x H3 hyl => ?_⟩
      obtain ⟨R3, E3, ri⟩ := hy x H3 hyl
      refine ⟨ι2.hide L, wipeE env own, s2, ds[i], R3, (mv.ev EW).ext E3, ri, noX_post (Out.post_mono (Out.post_bind p2) (fun e1 s4 q4 => ?_) fun _ _ z => z)⟩
      refine fun ι4 H4 σ4 R4 E4 EV4 hw => ⟨(show L2.wipe σ4 own = _ from hw).trans (wipe_wipe σ own), ?_⟩
      have E34 := E3.trans E4
      refine ⟨ι4, e1, s4, R4, EV4, noX_post (Out.post_mono (Out.post_bind q4) (fun b s5 q5 ι5 H5 R5 E5 => ?_) fun _ _ z => z)⟩
      have E35 := E34.trans E5
      cases b with
      | false =>
        obtain ⟨ι', e6, e7, e8, e9⟩ := fin R5 E35
        subst e6
        refine iteF ⟨by omega, acc, zs, ι', s5, e7, e8, Nat.le_succ_of_le hal, R5, mv.trans E35.mv, e9, rA.ext E35, ?_⟩
        exact q5
      | true =>
        refine iteT ⟨ι5, e1, s5, R5, EV4.ext E5, noX_post (Out.post_mono (Out.post_bind q5) (fun v s6 q6 ι6 H6 y R6 E6 ry => ?_) fun _ _ z => z)⟩
        have E36 := E35.trans E6
        obtain ⟨ι', e6, e7, e8, e9⟩ := fin R6 E36
        subst e6
        split at q6
        · rename_i z
          have hm := mv_hset (u := .lst (acc ++ [y])) (ι := ι'.hide L) (st := s6) (H := H6) R6 List.mem_cons_self
          refine ⟨acc, e8, hlen, by omega, acc ++ [y], zs ++ [z], ι', s6, e7, upd_same, by rw [List.length_append]; exact Nat.succ_le_succ hal, R6.hset List.mem_cons_self trivial (hf_lst R6.hf (by rw [List.length_append]; exact hlen)), (mv.trans E36.mv).trans hm, fun a ha => ?_, hm.rpA ((rA.ext E36).append (.cons ry .nil)), ?_⟩
          · rw [upd_ne fun z => nL (by rw [← z]; exact ha)]
            exact e9 a ha
          · refine Out.post_mono (Out.post_bind q6) (fun ws s7 z7 => ?_) fun _ _ z => z
            show PF1 K ι1 s1 H1 Q (zs ++ [z] ++ ws) s7
            rw [List.append_assoc]
            exact z7
        · exact q6.elim
    · exact p2.elim
  · left
    have hd : ds.drop i = [] := List.drop_eq_nil_of_le (by omega)
    rw [hd] at p2
    unfold lcL at p2
    split at p2
    · rename_i hc
      have e : i = ds.length := by omega
      subst e
      refine ⟨hW.stop (ι2.hide L) s2 H2 R2 mv hc, fun hf => ?_⟩
      have p3 : PF1 K ι1 s1 H1 Q zs s2 := by
        have z : PF1 K ι1 s1 H1 Q (zs ++ []) s2 := p2
        rw [List.append_nil] at z
        exact z
      have sh := mv_show R2
      have E12 : Ext ι1 s1 H1 ι2 s2 (del H2 L) := by
        have m2 := mv.trans sh
        refine ⟨m2.keep, m2.pre, eh, fun a ha => ?_, m2.lk⟩
        rw [del_ne fun z => nL (by rw [← z]; exact ha)]
        exact kz a ha
      have z := p3 ι2 (del H2 L) acc L (R2.unhide (by rw [eh]; exact nL)) E12 (sh.rpA rA) del_same (by rw [upd_del hA]; exact R2.hf)
      rw [upd_del hA] at z
      exact z
    · exact p2.elim
end Fw

namespace Fw
open PySem PySem.Spec PyProof.Rows L2

/-! ### list comprehensions -/
theorem ts_nil {X : Cx} {W : XW} : PTs X [] (TTo X.K W mYes) := ⟨fun pins s σ H Q I q => by
  obtain ⟨ι, env, st, R, EV, p⟩ := q
  exact pts_nil.run pins s σ H Q I (p ι H R Ext.refl)⟩
theorem ts_one {X : Cx} {W : XW} {c : Expr} {t : MT} (h : PT X c (TTo X.K W t)) : PTs X [c] (TTo X.K W t) := pts_one h
theorem Gd.blk {X : Cx} (g : Gd X) {s : Shared} {H : Hp} {sc : Scope} {ce : Env} {fp : List Addr} : Gd (X.blk s H sc ce fp) := ⟨g.calm, g.gu, g.un⟩
section
variable {X : Cx} {W : XW} {elt tg iter : Expr} {ifs : List Expr} {scope : Scope} {own : List (Str × Nat)} {pos : Pos} {mi : MI} {g : MG} {t : MT} {m : ME}
theorem xf_lc (gd : Gd X) (hN : X.N.Nodup) (hi : PI X tg iter (TIo X.K W mi)) (ok : BlkOk X.N X.env.scope scope own)
    (hb : ∀ (s : Shared) (H : Hp) (C : Addr) (cl : List (Str × Addr)) (fp : List Addr), PG (X.blk s H scope (compEnvC scope cl C X.env) fp) tg (TGo X.K WF g (some (own.map (·.2)))) ∧ PTs (X.blk s H scope (compEnvC scope cl C X.env) fp) ifs (TTo X.K WF t) ∧ PE (X.blk s H scope (compEnvC scope cl C X.env) fp) elt (TEo X.K WF m))
    (hs : ∀ x, foldedSetIterable iter X.env x = pure x := by intro _; rfl) : PE X (.ListComp elt [⟨tg, iter, ifs, 0⟩] scope pos) (TFo X.K W (mLc mi g t m (own.map (·.2)))) :=
  pf_wrap (pe_lc gd.calm hN hi ok (fun s H C cl fp => (hb s H C cl fp).1) (fun s H C cl fp => (hb s H C cl fp).2.1) (fun s H C cl fp => (hb s H C cl fp).2.2) hs) fun σ H Q q => lc_red q
/-- name = a fresh list -/
theorem asg_frz {K : PySem.W.Frag} {m : MF} {i : Nat} {D : Ends} {σ : L2.St} {H : Hp} (q : TSo K W (sAsg (mFrz m) (gNm i)) D σ H) : TFo K W m σ H fun v H' => D.nx (σ.set i (some v)) H' := by
  obtain ⟨ι, env, st, R, EV, p⟩ := q
  refine ⟨ι, env, st, R, EV, Out.post_mono (Out.post_bind (thn_post p)) (fun zs s1 q ι1 H1 xs a R1 E1 ra ha hf => ?_) fun _ _ q => q⟩
  have E2 := Ext.fresh R1 ha (u := .lst xs)
  exact q ι1 _ _ (R1.fresh ha hf) (E1.trans E2) (((EV.ext E1).ext E2).set (x := .ref a) (d := .v (.list zs)) (.lst upd_same (R1.frz_new ha) (ra.ext E2)) i)
theorem asg_new {K : PySem.W.Frag} {m : MF} {i : Nat} {D : Ends} {σ : L2.St} {H : Hp} (q : TSo K W (sAsg (mNew m) (gNm i)) D σ H) : TFo K W m σ H fun v H' => D.nx (σ.set i (some v)) H' := by
  obtain ⟨ι, env, st, R, EV, p⟩ := q
  refine ⟨ι, env, st, R, EV, Out.post_mono (Out.post_bind (thn_post p)) (fun zs s1 q ι1 H1 xs a R1 E1 ra ha hf => ?_) fun _ _ q => q⟩
  have E2 : Ext ι1 s1 H1 (ι1.psh a) (s1 ++ [.lst zs]) (upd H1 a (.lst xs)) := Ext.push R1 ha
  refine q (ι1.psh a) _ _ (R1.push ha hf ⟨xs, upd_same, ra.ext E2⟩ rfl) (E1.trans E2) (((EV.ext E1).ext E2).set (x := .ref a) (d := .ref s1.length) ⟨a, ?_, rfl⟩ i)
  show (ι1.ad ++ [a])[s1.length]? = _
  rw [← R1.len, List.getElem?_append_right (Nat.le_refl _), Nat.sub_self]
  rfl
/-- name = [.. for ..] on one line, the name a local -/
theorem s_lcF {i : Nat} {y : Str} {py spos : Pos} (gd : Gd X) (hN : X.N.Nodup) (hy : X.N[i]? = some y) (hyl : X.env.scope.names.lookup y = some .local) (hsw : swapsWith (.ListComp elt [⟨tg, iter, ifs, 0⟩] scope pos) (some (.Name y py)) spos.line X.env = pure true)
    (hi : PI X tg iter (TIo X.K W mi)) (ok : BlkOk X.N X.env.scope scope own)
    (hb : ∀ (s : Shared) (H : Hp) (C : Addr) (cl : List (Str × Addr)) (fp : List Addr), PG (X.blk s H scope (compEnvC scope cl C X.env) fp) tg (TGo X.K WF g (some (own.map (·.2)))) ∧ PTs (X.blk s H scope (compEnvC scope cl C X.env) fp) ifs (TTo X.K WF t) ∧ PE (X.blk s H scope (compEnvC scope cl C X.env) fp) elt (TEo X.K WF m))
    (hs : ∀ x, foldedSetIterable iter X.env x = pure x := by intro _; rfl) : PS X (.Assign [.Name y py] (.ListComp elt [⟨tg, iter, ifs, 0⟩] scope pos) spos) (TSo X.K W (sAsg (mFrz (mLc mi g t m (own.map (·.2)))) (gNm i))) :=
  ps_wrap (ps_setLc gd.calm hN hy hyl hsw hi ok (fun s H C cl fp => (hb s H C cl fp).1) (fun s H C cl fp => (hb s H C cl fp).2.1) (fun s H C cl fp => (hb s H C cl fp).2.2) hs) fun D σ H q => lc_red (asg_frz q)
theorem s_lcN {i : Nat} {y : Str} {py spos : Pos} (gd : Gd X) (hN : X.N.Nodup) (hy : X.N[i]? = some y) (hyl : X.env.scope.names.lookup y = some .local) (hsw : swapsWith (.ListComp elt [⟨tg, iter, ifs, 0⟩] scope pos) (some (.Name y py)) spos.line X.env = pure true)
    (hi : PI X tg iter (TIo X.K W mi)) (ok : BlkOk X.N X.env.scope scope own)
    (hb : ∀ (s : Shared) (H : Hp) (C : Addr) (cl : List (Str × Addr)) (fp : List Addr), PG (X.blk s H scope (compEnvC scope cl C X.env) fp) tg (TGo X.K WF g (some (own.map (·.2)))) ∧ PTs (X.blk s H scope (compEnvC scope cl C X.env) fp) ifs (TTo X.K WF t) ∧ PE (X.blk s H scope (compEnvC scope cl C X.env) fp) elt (TEo X.K WF m))
    (hs : ∀ x, foldedSetIterable iter X.env x = pure x := by intro _; rfl) : PS X (.Assign [.Name y py] (.ListComp elt [⟨tg, iter, ifs, 0⟩] scope pos) spos) (TSo X.K W (sAsg (mNew (mLc mi g t m (own.map (·.2)))) (gNm i))) :=
  ps_wrap (ps_setLc gd.calm hN hy hyl hsw hi ok (fun s H C cl fp => (hb s H C cl fp).1) (fun s H C cl fp => (hb s H C cl fp).2.1) (fun s H C cl fp => (hb s H C cl fp).2.2) hs) fun D σ H q => lc_red (asg_new q)
end

/-! ### defs -/
structure RmG (k : Nat) (A : Around) : Prop where
  rm : Room k A
  gu : A.guards = some []
theorem RmG.mono {j k : Nat} {A : Around} (r : RmG k A) (h : j ≤ k) : RmG j A := ⟨r.rm.mono h, r.gu⟩
theorem RmG.deeper {k : Nat} {A : Around} (r : RmG (k + 1) A) (env : Env) : RmG k (A.deeper env) := ⟨r.rm.deeper env, r.gu⟩
theorem RmG.gd {k : Nat} {X : Cx} (r : RmG k X.A) (h : X.calm = true) : Gd X := ⟨h, r.gu, by have := r.rm.un; omega⟩
/-- a def's promise where the guards are known to be none -/
structure FnG (P : Program) (w : World) (K : PySem.W.Frag) (mg : Str → Option Value) (base : Heap) (CX : CXT) (k : Nat) (f : Addr) (fd : FuncData) (ps : List Str) (sp : Sp) : Prop where
  len : ∀ vs H Q E, sp vs H Q E → vs.length = ps.length
  run : ∀ (A : Around) (outer : List Env) (s : Shared) (H : Hp) (args : Args) (us : List Value) (vs : List V) (Q : VK) (E : XK), RmG k A → Env0 P w K mg base A outer s H → BindsTo s fd args (ps.zip us) → Vals vs us → sp vs H Q E →
    codeAny (model P w) A (.call (.ref f) args) (CR CX outer P w H s Q E) s
section
variable {P : Program} {w : World} {K : PySem.W.Frag} {mg : Str → Option Value} {base : Heap} {CX : CXT} {k : Nat} {f : Addr} {fd : FuncData} {ps : List Str} {sp : Sp}
theorem FnG.mono {j : Nat} (F : FnG P w K mg base CX j f fd ps sp) (h : j ≤ k) : FnG P w K mg base CX k f fd ps sp := ⟨F.len, fun A outer s H args us vs Q E hr => F.run A outer s H args us vs Q E (hr.mono h)⟩
/-- by the body -/
theorem fnG_of {x qual : Str} {params : Arguments} {body : List Stmt} {scope : Scope} {dvs : List V} {kws : List (Str × V)} {N : List Str} (F : FunD K x qual params body scope dvs kws f fd) (S : FnScope N ps scope)
    (len : ∀ vs H Q E, sp vs H Q E → vs.length = ps.length)
    (hbody : ∀ (cdv : Value) (A : Around) (outer : List Env) (s : Shared) (H : Hp) (vs : List V) (Q : VK) (E : XK), RmG k (A.deeper (envOfC qual scope s.heap.objs.size f cdv)) → sp vs H Q E →
      ∃ t, PSs (cxOf CX P w K mg base N qual scope f cdv A outer s H E) body t ∧ t { nx := fun _ H' => Q .non H', rt := Q } (start N vs) H) : FnG P w K mg base CX (k + 1) f fd ps sp := by
  obtain ⟨oc, od, dV, kV, doc, pm, an, cdv, ct, osl, rfl, lk, hcd, _, _⟩ := F.ex
  refine ⟨len, fun A outer s H args us vs Q E hr e0 hb r hsp => ?_⟩
  have KX : K.In s.heap := e0.mod.kin.keeps fun b o e => (e0.bs b o e).1
  have nl : s.heap.NoLimit := e0.mod.nolimit.keeps fun b o e => (e0.bs b o e).1
  have kinds : ∀ y ∈ ps.zip us, scope.names.lookup y.1 = some .local ∨ (scope.names.lookup y.1 = some .cell ∧ ((cellsFrom (s.heap.objs.size + 1) scope.names []).lookup y.1).isSome = true) := by
    rintro ⟨n, v⟩ hy
    exact (S.par n (List.of_mem_zip hy).1).imp id fun q => ⟨q, PySem.W.cellsFrom_some _ _ _ (.inl q)⟩
  refine codeAny_call_function hr.rm.depth (KX _ _ lk) rfl S.co S.gen rfl (PySem.W.codeRec_of KX hcd) (hb _ _ _ _ (wpAny_newFunctionEnv_cells S.kind kinds ?_))
  rintro env rfl s1 x
  refine ⟨nl.keeps x.toInCall.keep, codeAny_func ?_⟩
  obtain ⟨t, ht, hq⟩ := hbody cdv A outer s H vs Q E (hr.deeper _) hsp
  refine wpAny_mono (ht.run [] s1 (start N vs) H _ (inv_start S hr.rm.hd e0 (len _ _ _ _ hsp) r x) hq) (fun fl s' hs => ?_) fun _ _ z => z
  cases fl with
  | ret u =>
    obtain ⟨v, _, H', J, rv, q⟩ := hs
    exact ⟨v, H', J.os, J.bare, J.base, J.hok, rv, q⟩
  | next =>
    obtain ⟨_, H', J, q⟩ := hs
    exact ⟨V.non, H', J.os, J.bare, J.base, J.hok, (rfl : RelV .non Value.none), q⟩
  | brk =>
    obtain ⟨_, _, _, q⟩ := hs
    exact q.elim
  | cont =>
    obtain ⟨_, _, _, q⟩ := hs
    exact q.elim
/-- what a def computes: from its body's reading; what it made is forgotten behind it -/
abbrev FF := List D → Sto → Out D
def fin1 (n : Nat) : SO → Out D
  | .nx _ s => .ok (.v .none) (s.take n)
  | .rt d s => if d.low n then .ok d (s.take n) else .stuck
  | .exn e s => .exn e s
  | _ => .stuck
/-- the store is kept -/
def fin2 : SO → Out D
  | .nx _ s => .ok (.v .none) s
  | .rt d s => .ok d s
  | .exn e s => .exn e s
  | _ => .stuck
def envE (nN : Nat) (ds : List D) : Ev := ds.map some ++ List.replicate (nN - ds.length) none
def fnT (nN : Nat) (m : MS) : FF := fun ds st => fin1 st.length (m (envE nN ds) st)
def fnK (nN : Nat) (m : MS) : FF := fun ds st => fin2 (m (envE nN ds) st)
def spG (K : PySem.W.Frag) (V : XK → XW) (n : Nat) (f : FF) : Sp := fun vs H Q E => ∃ ι st ds, SRel K ι st H ∧ RDs K ι st H vs ds ∧ ds.length = n ∧ (f ds st).post (PO1 K ι st H Q) (PX1 K (V E) ι st H)
theorem RDs.get {ι : Gh} {st : Sto} {H : Hp} : ∀ {xs : List V} {ds : List D} {i : Nat} {d : D}, RDs K ι st H xs ds → ds[i]? = some d → ∃ x, xs[i]? = some x ∧ RD K ι st H x d
  | _, _, _, _, .nil, e => by simp at e
  | _, _, 0, _, .cons r _, e => by simp at e; subst e; exact ⟨_, rfl, r⟩
  | _, _, i + 1, d, .cons _ r, e => by
    obtain ⟨x, h1, h2⟩ := RDs.get (i := i) (d := d) r (by simpa using e)
    exact ⟨x, by simpa using h1, h2⟩
theorem evR_start {ι : Gh} {st : Sto} {H : Hp} {N : List Str} : ∀ {vs : List V} {ds : List D}, RDs K ι st H vs ds → EvR K ι st H (L2.start N vs) (envE N.length ds) := by
  intro vs ds r
  have hl := RDs.length r
  refine ⟨by unfold L2.start envE; rw [List.length_append, List.length_append, List.length_map, List.length_map, List.length_replicate, List.length_replicate, hl], fun i d q => ?_⟩
  unfold envE at q
  by_cases h : i < ds.length
  · rw [List.getElem?_append_left (by rw [List.length_map]; exact h), List.getElem?_map, List.getElem?_eq_getElem h] at q
    cases q
    obtain ⟨x, h1, h2⟩ := RDs.get r (List.getElem?_eq_getElem h)
    refine ⟨x, ?_, h2⟩
    unfold L2.start
    rw [List.getElem?_append_left (by rw [List.length_map, hl]; exact h), List.getElem?_map, h1]
    rfl
  · rw [List.getElem?_append_right (by rw [List.length_map]; omega), List.getElem?_replicate] at q
    split at q <;> cases q
theorem RDs.append {ι : Gh} {st : Sto} {H : Hp} : ∀ {xs ys : List V} {ds es : List D}, RDs K ι st H xs ds → RDs K ι st H ys es → RDs K ι st H (xs ++ ys) (ds ++ es)
  | _, _, _, _, .nil, s => s
  | _, _, _, _, .cons r t, s => .cons r (RDs.append t s)
theorem ext_take {ι ι' : Gh} {st st' : Sto} {H H' : Hp} (R : SRel K ι st H) (E : Ext ι st H ι' st' H') : Ext ι st H (ι'.tk st.length) (st'.take st.length) H' := by
  refine ⟨fun q u e f => ?_, fun n a h => ?_, E.hid, E.keepZ, fun {n t kvs a} h hi => let ⟨h1, e1⟩ := E.lk h hi; ⟨by rw [List.getElem?_take, if_pos (List.getElem?_eq_some_iff.mp h).1]; exact h1, e1⟩⟩
  · obtain ⟨f1, k1⟩ := E.keep q u e f
    exact ⟨frz_take f1, k1⟩
  · have hn : n < st.length := by
      rw [← R.len]
      by_cases z : n < ι.ad.length
      · exact z
      · rw [List.getElem?_eq_none (by omega)] at h
        cases h
    show (ι'.ad.take st.length)[n]? = _
    rw [List.getElem?_take, if_pos hn]
    exact E.pre n a h
variable {x qual : Str} {params : Arguments} {body : List Stmt} {scope : Scope} {dvs : List V} {kws : List (Str × V)} {N : List Str} {V : XK → XW} {m : MS}
theorem spG_len {n : Nat} {f : FF} {vs : List L2.V} {H : Hp} {Q : VK} {E : XK} (h : spG K V n f vs H Q E) : vs.length = n := by
  obtain ⟨ι, st, ds, R, r, hl, _⟩ := h
  rw [RDs.length r, hl]
theorem fnG_T (F : FunD K x qual params body scope dvs kws f fd) (S : FnScope N ps scope)
    (hb : ∀ (cdv : Value) (A : Around) (outer : List Env) (s : Shared) (H : Hp) (E : XK), RmG k (A.deeper (envOfC qual scope s.heap.objs.size f cdv)) → PSs (cxOf CX P w K mg base N qual scope f cdv A outer s H E) body (TSo K (V E) m)) :
    FnG P w K mg base CX (k + 1) f fd ps (spG K V ps.length (fnT N.length m)) := by
  refine fnG_of F S (fun _ _ _ _ h => spG_len h) fun cdv A outer s H vs Q E hr hsp => ⟨TSo K (V E) m, hb cdv A outer s H E hr, ?_⟩
  obtain ⟨ι, st, ds, R, r, hl, p⟩ := hsp
  refine ⟨ι, envE N.length ds, st, R, evR_start r, ?_⟩
  unfold fnT at p
  cases e : m (envE N.length ds) st with
  | nx e1 s1 =>
    rw [e] at p
    exact fun ι1 H1 σ1 R1 E1 _ => p _ H1 .non (R1.take _) (ext_take R E1) .non
  | rt d s1 =>
    rw [e] at p
    have e2 : fin1 st.length (.rt d s1) = if d.low st.length then .ok d (s1.take st.length) else .stuck := rfl
    rw [e2] at p
    by_cases h : d.low st.length = true
    · rw [if_pos h] at p
      exact fun ι1 H1 x1 R1 E1 r1 => p _ H1 x1 (R1.take _) (ext_take R E1) (r1.take h)
    · rw [if_neg h] at p
      exact p.elim
  | bk e1 s1 => rw [e] at p; exact p.elim
  | ct e1 s1 => rw [e] at p; exact p.elim
  | exn x1 s1 => rw [e] at p; exact p
  | stuck => rw [e] at p; exact p.elim
theorem fnG_K (F : FunD K x qual params body scope dvs kws f fd) (S : FnScope N ps scope)
    (hb : ∀ (cdv : Value) (A : Around) (outer : List Env) (s : Shared) (H : Hp) (E : XK), RmG k (A.deeper (envOfC qual scope s.heap.objs.size f cdv)) → PSs (cxOf CX P w K mg base N qual scope f cdv A outer s H E) body (TSo K (V E) m)) :
    FnG P w K mg base CX (k + 1) f fd ps (spG K V ps.length (fnK N.length m)) := by
  refine fnG_of F S (fun _ _ _ _ h => spG_len h) fun cdv A outer s H vs Q E hr hsp => ⟨TSo K (V E) m, hb cdv A outer s H E hr, ?_⟩
  obtain ⟨ι, st, ds, R, r, hl, p⟩ := hsp
  refine ⟨ι, envE N.length ds, st, R, evR_start r, ?_⟩
  unfold fnK at p
  cases e : m (envE N.length ds) st with
  | nx e1 s1 =>
    rw [e] at p
    exact fun ι1 H1 σ1 R1 E1 _ => p _ H1 .non R1 E1 .non
  | rt d s1 => rw [e] at p; exact p
  | bk e1 s1 => rw [e] at p; exact p.elim
  | ct e1 s1 => rw [e] at p; exact p.elim
  | exn x1 s1 => rw [e] at p; exact p
  | stuck => rw [e] at p; exact p.elim
end

/-! ### calls -/
/-- how many values -/
structure MLen (ma : MA) (n : Nat) : Prop where
  of : ∀ env st ds s1, ma env st = .ok ds s1 → ds.length = n
theorem MLen.n : MLen mNil 0 := ⟨fun env st ds s1 e => by cases e; rfl⟩
theorem MLen.c {m : ME} {ma : MA} {n : Nat} (h : MLen ma n) : MLen (mCons m ma) (n + 1) := ⟨fun env st ds s1 e => by
  unfold mCons at e
  cases e1 : m env st with
  | ok d s2 =>
    rw [e1, bind_ok] at e
    cases e2 : ma env s2 with
    | ok us s3 =>
      rw [e2, bind_ok] at e
      cases e
      rw [List.length_cons, h.of _ _ _ _ e2]
    | _ => rw [e2] at e; cases e
  | _ => rw [e1] at e; cases e⟩
def mCall (f : FF) (ma : MA) (xs : List D := []) : ME := fun env st => (ma env st).bind fun ds s1 => f (ds ++ xs) s1
section
variable {X : Cx} {CX : CXT} {k n : Nat} {f : Addr} {fd : FuncData} {ps : List Str} {dvs : List L2.V} {ds : List Value} {xs : List D} {E : XK} {x : Str} {p pos : Pos} {e : Expr} {es : List Expr} {V : XK → XW} {ff : FF} {ma : MA}
theorem run_fnG {sp : Sp} {pins : List (Addr × Obj)} {σ : L2.St} {H : Hp} {s : Shared} {Q : VK} {us : List Value} {vs : List L2.V} (F : FnG X.prog X.w X.K X.mg X.base CX k f fd ps sp) (hr : RmG k X.A) (hb : Binds X.K fd ps ds) (hd : Vals dvs ds) (hx : Passes CX X E)
    (I : Inv X pins σ H s) (r : Vals vs us) (h : sp (vs ++ dvs) H Q E) : wpAny (model X.prog X.w) X.A (call (.ref f) us) (EP X pins σ Q) X.xe s := by
  have r2 := r.append hd
  have hl : (us ++ ds).length = ps.length := by rw [← r2.length]; exact F.len _ _ _ _ h
  refine wpAny_call (codeAny_mono (F.run X.A X.stack s H ⟨us, []⟩ _ _ Q E hr I.env0 (hb s us I.kIn hl) r2 h) fun o s' hq => ?_)
  cases o with
  | error e => exact hx pins σ H s e s' I hq
  | ok fl =>
    cases fl with
    | ret u => exact I.after hq
    | next => exact hq.elim
    | brk => exact hq.elim
    | cont => exact hq.elim
theorem spG_call {K : PySem.W.Frag} {σ : L2.St} {H : Hp} {Q : VK} (hxs : ∀ ι st H, RDs K ι st H dvs xs) (q : TEo K (V E) (mCall ff ma xs) σ H Q) {j : Nat} (hn : MLen ma j) (hj : j + xs.length = n) :
    TAo K (V E) ma σ H fun vs H1 => spG K V n ff (vs ++ dvs) H1 Q E := by
  obtain ⟨ι, env, st, R, EV, p⟩ := q
  unfold mCall at p
  refine ⟨ι, env, st, R, EV, ?_⟩
  cases em : ma env st with
  | ok d s1 =>
    rw [em, bind_ok] at p
    exact fun ι1 H1 vs R1 E1 r1 => ⟨ι1, s1, d ++ xs, R1, RDs.append r1 (hxs _ _ _), by rw [List.length_append, hn.of env st d s1 em]; exact hj, Out.post_mono p (fun _ _ z => z.ext E1) fun _ _ z => z.ext E1⟩
  | exn e s1 => rw [em] at p; exact p
  | stuck => rw [em] at p; exact p.elim
/-- f(e, ..) -/
theorem x_call (F : FnG X.prog X.w X.K X.mg X.base CX k f fd ps (spG X.K V n ff)) (hr : RmG k X.A) (hg : Gl X x) (hm : X.mg x = some (.ref f)) (hk : PySem.W.keepIn X.K (.ref f) = true) (hb : Binds X.K fd ps ds) (hd : Vals dvs ds) (hx : Passes CX X E)
    (hxs : ∀ ι st H, RDs X.K ι st H dvs xs) (ha : PA X (e :: es) (TAo X.K (V E) ma)) {j : Nat} (hn : MLen ma j) (hj : j + xs.length = n)
    (hdb : (x == ("__debug__" : Str)) = false := by decide) (he : starEach (e :: es) X.env = (false, eval e X.env) :: starEach es X.env := by rfl) (hpl : (backTo pos (starEach es X.env)).any (·.1) = false := by rfl) :
    PE X (.Call (.Name x p) (e :: es) [] pos) (TEo X.K (V E) (mCall ff ma xs)) := by
  refine ⟨fun pins s σ H Q I h => ?_⟩
  refine wpAny_Call_Name_kw (ld_glob I hg hm ?_ hdb)
  refine PySem.W.callWith_K (h₀ := X.base) I.ok.mod.kin hk (thn (ha.run pos pins s σ H _ I (spG_call hxs h hn hj)) fun us s1 ⟨vs, H1, I1, r, q⟩ => ⟨I1.kIn, ?_⟩) he hpl
  exact run_fnG F hr hb hd hx I1 r q
/-- f() -/
theorem x_call0 (F : FnG X.prog X.w X.K X.mg X.base CX k f fd ps (spG X.K V n ff)) (hr : RmG k X.A) (hg : Gl X x) (hm : X.mg x = some (.ref f)) (hk : PySem.W.keepIn X.K (.ref f) = true) (hb : Binds X.K fd ps ds) (hd : Vals dvs ds) (hx : Passes CX X E)
    (hxs : ∀ ι st H, RDs X.K ι st H dvs xs) (hj : xs.length = n) (hdb : (x == ("__debug__" : Str)) = false := by decide) :
    PE X (.Call (.Name x p) [] [] pos) (TEo X.K (V E) (mCall ff mNil xs)) := by
  refine ⟨fun pins s σ H Q I h => ?_⟩
  refine wpAny_Call_Name_kw (ld_glob I hg hm ?_ hdb)
  refine PySem.W.callWith_K0 I.kIn hk ?_
  have q := spG_call (n := n) hxs h MLen.n (by omega)
  obtain ⟨ι, env, st, R, EV, p⟩ := q
  exact run_fnG (us := []) F hr hb hd hx I .nil (p ι H [] R Ext.refl .nil)
end

/-! ### the law -/
abbrev V0 : XK → XW := fun _ => WF
theorem law_callG {P : Program} {w : World} {K : PySem.W.Frag} {mg mb : Str → Option Value} {k : Nat} {fa a : Addr} {fd : FuncData} {x : Str} {ff : FF} {s₁ : Shared} {vs : List Value} {ns : List Int}
    (KX : K.In s₁.heap) (hns : s₁.heap.Ns mainGlobals mg) (hb : s₁.heap.Ns builtinsNs mb) (hbb : ∀ x : Str, x ≠ "__name__" → mb x = bootBuiltins x) (hlim : s₁.heap.NoLimit) (hg : s₁.gens = #[])
    (ha : s₁.heap.get? a = some { cls := .type "list", data := .seq vs.toArray }) (hi : IntsAre vs ns) (hl : ns.length ≤ sizeLine) (hr : RmG k callerA)
    (F : ∀ base : Heap, K.In base → base.Ns mainGlobals mg → FnG P w K mg base CX0 k fa fd [x] (spG K V0 1 ff)) (hbind : ∀ (s : Shared) (u : Value), BindsTo s fd ⟨[u], []⟩ [(x, u)])
    (hsp : ∃ st, ff [.scr ns] [] = .ok (.v (.bool true)) st) :
    codeAny (model P w) callerA (.call (.ref fa) ⟨[.ref a], []⟩) (fun r s' => r = .ok (.ret (.bool true)) ∧ OldK s₁.heap s'.heap ∧ s'.os = s₁.os ∧ AllBare s'.gens) s₁ := by
  have rv := vals_ints hi
  have lenV := hi.length
  -- from what is tracked: nothing, or the script alone, frozen
  have key : ∀ H : Hp, (∀ b, H b = none ∨ (b = a ∧ ∃ o xs, H b = some (.frz o (.lst xs)))) → (KL K a (ns.map V.int) ∨ ∃ o, H a = some (.frz o (.lst (ns.map V.int)))) → HOk P w H s₁.heap → (H a ≠ none → K.lookup a = none) →
      codeAny (model P w) callerA (.call (.ref fa) ⟨[.ref a], []⟩) (fun r s' => r = .ok (.ret (.bool true)) ∧ OldK s₁.heap s'.heap ∧ s'.os = s₁.os ∧ AllBare s'.gens) s₁ := by
    intro H hO hS hok hK
    have at_a : ∀ {b : Addr} {u : HO}, H b = some u → b = a := fun {b u} e => by
      rcases hO b with z | ⟨z, _⟩
      · rw [z] at e; cases e
      · exact z
    have inB : ∀ {b : Addr} {o : Obj}, s₁.heap.get? b = some o → H b = none → (hidT s₁.heap H).get? b = some o := fun e z => hidT_get e z
    have nsB : ∀ {b : Addr} {m : Str → Option Value}, s₁.heap.Ns b m → (hidT s₁.heap H).Ns b m := by
      rintro b m ⟨o, es, ep, e, d, r⟩
      refine ⟨o, es, ep, inB e ?_, d, r⟩
      cases q : H b with
      | none => rfl
      | some u =>
        have z := at_a q
        subst z
        rw [ha] at e
        cases e
        cases d
    have kB : K.In (hidT s₁.heap H) := fun b o e => inB (KX b o e) (by
      cases q : H b with
      | none => rfl
      | some u =>
        have z := at_a q
        subst z
        rw [hK (by rw [q]; exact Option.some_ne_none u)] at e
        cases e)
    have e0 : Env0 P w K mg (hidT s₁.heap H) callerA [] s₁ H := by
      refine ⟨rfl, ⟨kB, nsB hns, ⟨mb, nsB hb, hbb⟩, ?_⟩, fun b o e => of_hidT e, Nat.le_of_eq (hidT_size _ _), trivial, fun b z => ?_, hok, .of_eq hg⟩
      · obtain ⟨mc, h1, h2⟩ := hlim
        exact ⟨mc, nsB h1, h2⟩
      · cases z
    have R0 : SRel K ⟨[], []⟩ [] H := ⟨rfl, fun n o b h => by simp at h, fun m n b o u h => by simp at h, fun n o h => by simp at h, fun b h => by simp at h, fun b u e => sz_of (hok b u e)⟩
    have r0 : RD K ⟨[], []⟩ [] H (.ref a) (.scr ns) := ⟨a, rfl, hS.imp id fun ⟨o, z⟩ => ⟨o, z, by simp, fun n o h => by simp at h⟩⟩
    have sp : spG K V0 1 ff [.ref a] H (fun v _ => v = .bl true) E0 := by
      obtain ⟨st, e⟩ := hsp
      refine ⟨⟨[], []⟩, [], [.scr ns], R0, .cons r0 .nil, rfl, ?_⟩
      rw [e]
      intro ι1 H1 v R1 E1 rv
      have rv : Rp (Frz ι1 st) H1 v (.bool true) := rv
      cases rv
      rfl
    refine codeAny_mono ((F _ kB (nsB hns)).run callerA [] s₁ H ⟨[.ref a], []⟩ [.ref a] [.ref a] _ _ hr e0 (hbind s₁ (.ref a)) (.cons rfl .nil) sp) fun r s' h => ?_
    cases r with
    | error e => exact h.elim
    | ok fl =>
      cases fl with
      | next => exact h.elim
      | brk => exact h.elim
      | cont => exact h.elim
      | ret u =>
        obtain ⟨v, H', os, bare, un, hok', r', q⟩ := h
        have q' : v = .bl true := q
        subst q'
        obtain rfl : u = Value.bool true := r'
        refine ⟨rfl, OldK.of_keep fun b o e => ?_, os, bare⟩
        rcases hO b with z | ⟨_, ob, xs, z⟩
        · exact un.keep b o e z (by intro y; cases y) (by intro y; cases y)
        · have z2 := un.frzs b ob _ z
          have e1 := (hok b _ z).1
          rw [e] at e1
          cases e1
          exact (hok' b _ z2).1
  cases hk : K.lookup a with
  | some o =>
    have e := KX a o hk
    rw [ha] at e
    cases e
    exact key (fun _ => none) (fun _ => .inl rfl) (.inl ⟨_, vs.toArray, _, hk, rfl, rfl, rfl, by rw [List.size_toArray, lenV]; exact hl, by simpa using rv⟩) (fun b u z => nomatch z) (fun z => absurd rfl z)
  | none =>
    let ob : Obj := { cls := .type "list", data := .seq vs.toArray }
    have same : (fun b => if b = a then some (HO.frz ob (.lst (ns.map V.int))) else none) a = some (HO.frz ob (.lst (ns.map V.int))) := if_pos rfl
    refine key (fun b => if b = a then some (.frz ob (.lst (ns.map V.int))) else none) (fun b => ?_) (.inr ⟨ob, same⟩) (fun b u z => ?_) fun _ => hk
    · by_cases e : b = a
      · exact .inr ⟨e, ob, ns.map V.int, if_pos e⟩
      · exact .inl (if_neg e)
    · by_cases e : b = a
      · subst e
        cases same.symm.trans z
        exact ⟨ha, by rw [List.length_map]; exact hl, vs, _, rv, ha⟩
      · cases (if_neg e : (if b = a then some (HO.frz ob (.lst (ns.map V.int))) else none) = none).symm.trans z
end Fw

namespace Fw
open PySem PySem.Spec PyProof.Rows L2

/-- the walk of a law: what its def computes of a script is True -/
theorem walkG {l : PySem.W.OpenLaw} {n k : Nat} {q : Program} {loose : List Str} {XP : (Str → Option Value) → Heap → Prop} {YP : World → Heap → Prop} {d : DefRec} {x : Str} {ff : FF}
    (hn : l.most = some n) (hn2 : n ≤ sizeLine) (hdf : d.params.defaults = []) (hr : RmG k callerA)
    (F : ∀ (w : World) (mg : Str → Option Value) (fa : Addr) (h : Heap), YP w h → h.Ns mainGlobals mg → mg d.name = some (.ref fa) →
      ∃ (K : PySem.W.Frag) (fd : FuncData), K.In h ∧ (∀ (s : Shared) (u : Value), BindsTo s fd ⟨[u], []⟩ [(x, u)]) ∧ ∀ base : Heap, K.In base → base.Ns mainGlobals mg → FnG l.prog w K mg base CX0 k fa fd [x] (spG K V0 1 ff))
    (law : ∀ ns : List Int, ns.length ≤ n → ∃ st, ff [.scr ns] [] = .ok (.v (.bool true)) st) :
    PySem.W.WalkO q loose XP YP l.row.toRowW d [] (fun f vs => PySem.call f vs) := by
  refine Att.attach_call hn hdf fun w _ s₁ mg mb fa _ _ _ _ a vs ns G Y _ _ _ hmg ha hi hlen hg => ?_
  obtain ⟨K, fd, KX, hb, hF⟩ := F w mg fa _ Y G.T.g hmg
  exact law_callG KX G.T.g G.T.b G.T.builtins G.T.nolimit hg ha hi (Nat.le_trans hlen hn2) hr hF hb (law ns hlen)
theorem rm0 {k : Nat} (h : k ≤ 60 := by decide) : RmG k callerA := by
  have z : RmG 60 callerA := ⟨⟨rfl, by decide, by decide⟩, rfl⟩
  exact z.mono h
end Fw

namespace Fw
open PySem PySem.Spec PyProof.Rows L2

/-! ### displays of dicts -/
def mPrs : List (ME × ME) → Ev → Sto → Out (List (D × D))
  | [], _, st => .ok [] st
  | (a, b) :: r, env, st => (a env st).bind fun x s1 => (b env s1).bind fun y s2 => (mPrs r env s2).bind fun ps s3 => .ok ((x, y) :: ps) s3
def keysOf : List (D × D) → Option (List (PyData × D))
  | [] => some []
  | (.v kd, y) :: r => match key1 kd, keysOf r with
    | some _, some kvs => some ((kd, y) :: kvs)
    | _, _ => none
  | _ => none
def putAll (kvs more : List (PyData × D)) : List (PyData × D) := more.foldl (fun acc p => putD acc p.1 p.2) kvs
/-- {k: v, ..}: a dict of the store -/
def mDisp (prs : List (ME × ME)) : ME := fun env st => (mPrs prs env st).noX.bind fun ps s1 => match keysOf ps with
  | some kvs => if kvs.length ≤ 15 ∧ (kvs.all fun p => p.2.low s1.length) = true then .ok (.ref s1.length) (s1 ++ [.dct false (putAll [] kvs)]) else .stuck
  | none => .stuck
/-- {} -/
def mDnew (t : Bool) : ME := fun _ st => .ok (.ref st.length) (st ++ [.dct t []])
section
variable {K : PySem.W.Frag} {W : XW} {ι : Gh} {st : Sto} {H : Hp}
theorem psh_at (R : SRel K ι st H) {p : Addr} : (ι.psh p).ad[st.length]? = some p := by
  show (ι.ad ++ [p])[st.length]? = _
  rw [← R.len, List.getElem?_append_right (Nat.le_refl _), Nat.sub_self]
  rfl
theorem hf_dK {p : Addr} {xs : List (Key × L2.V)} (h : HF H) (hl : xs.length ≤ sizeLine) : HF (upd H p (.dK xs)) := fun a u e => by
  by_cases z : a = p
  · subst z
    rw [upd_same] at e
    cases e
    exact hl
  · rw [upd_ne z] at e
    exact h a u e
theorem hf_dT {p : Addr} {xs : List (List Key × L2.V)} (h : HF H) (hl : xs.length ≤ sizeLine) : HF (upd H p (.dT xs)) := fun a u e => by
  by_cases z : a = p
  · subst z
    rw [upd_same] at e
    cases e
    exact hl
  · rw [upd_ne z] at e
    exact h a u e
def PV (K : PySem.W.Frag) (ι : Gh) (st : Sto) (H : Hp) : List (L2.V × L2.V) → List (D × D) → Prop := Paired fun x p => RD K ι st H x.1 p.1 ∧ RD K ι st H x.2 p.2
def PQ1 (K : PySem.W.Frag) (ι : Gh) (st : Sto) (H : Hp) (Q : List (L2.V × L2.V) → Hp → Prop) (ps : List (D × D)) (st' : Sto) : Prop := ∀ ι' H' xs, SRel K ι' st' H' → Ext ι st H ι' st' H' → PV K ι' st' H' xs ps → Q xs H'
theorem prs_red : ∀ (prs : List (ME × ME)) {ι : Gh} {env : Ev} {st : Sto} {σ : L2.St} {H : Hp} {Q : List (L2.V × L2.V) → Hp → Prop}, SRel K ι st H → EvR K ι st H σ env → (mPrs prs env st).post (PQ1 K ι st H Q) (fun _ _ => False) →
    tPairs (prs.map fun p => (TEo K W p.1, TEo K W p.2)) σ H Q
  | [], ι, env, st, σ, H, Q, R, EV, p => p ι H [] R Ext.refl .nil
  | (a, b) :: r, ι, env, st, σ, H, Q, R, EV, p => by
    refine ⟨ι, env, st, R, EV, Out.post_mono (Out.post_bind p) (fun x s1 q ι1 H1 u R1 E1 ra => ?_) fun _ _ q => q.elim⟩
    refine ⟨ι1, env, s1, R1, EV.ext E1, Out.post_mono (Out.post_bind q) (fun y s2 q2 ι2 H2 w R2 E2 rb => ?_) fun _ _ q => q.elim⟩
    refine prs_red r R2 ((EV.ext E1).ext E2) (Out.post_mono (Out.post_bind q2) (fun ps s3 q3 ι3 H3 xs R3 E3 rp => ?_) fun _ _ q => q)
    exact q3 ι3 H3 ((u, w) :: xs) R3 ((E1.trans E2).trans E3) (.cons ⟨(ra.ext E2).ext E3, rb.ext E3⟩ rp)
theorem keysOf_at : ∀ {ps : List (D × D)} {kvs : List (PyData × D)} {xs : List (L2.V × L2.V)}, keysOf ps = some kvs → PV K ι st H xs ps → ∃ us : List (Key × L2.V), xs = us.map (fun kv => (kV kv.1, kv.2)) ∧ RK K ι st H kvs us ∧ ∀ p ∈ kvs, ∃ k, key1 p.1 = some k
  | [], kvs, _, e, .nil => by cases e; exact ⟨[], rfl, .nil, fun p hp => nomatch hp⟩
  | (.v kd, y) :: r, kvs, _, e, .cons (a := x) h t => by
    unfold keysOf at e
    split at e
    · rename_i k l h1 h2
      cases e
      obtain ⟨us, rfl, h3, h4⟩ := keysOf_at h2 t
      have rc : Rp (Frz ι st) H x.1 kd := h.1
      have hk := kD_of h1
      rw [hk] at rc
      have ew := kV_of rc
      refine ⟨(k, x.2) :: us, ?_, .cons ⟨hk, h.2⟩ h3, fun p hp => ?_⟩
      · rw [List.map_cons, ← ew]
      · rcases List.mem_cons.mp hp with rfl | hp
        · exact ⟨k, h1⟩
        · exact h4 p hp
    · cases e
theorem rk_putAll : ∀ {kvs acc : List (PyData × D)} {us bs : List (Key × L2.V)}, RK K ι st H kvs us → (∀ p ∈ kvs, ∃ k, key1 p.1 = some k) → RK K ι st H acc bs → RK K ι st H (putAll acc kvs) (mergeK bs us)
  | _, _, _, _, .nil, _, r => r
  | _, acc, _, bs, .cons (a := p) (b := q) h t, hk, r => by
    obtain ⟨k, e⟩ := hk p List.mem_cons_self
    have e2 : k = q.1 := by
      have z := e
      rw [h.1, key1_kD] at z
      exact (Option.some.inj z).symm
    subst e2
    have z := rk_putAll t (fun z hz => hk z (List.mem_cons_of_mem _ hz)) (RK.put e h.2 r)
    exact z
theorem putAll_low {n : Nat} : ∀ {kvs acc : List (PyData × D)}, (kvs.all fun p => p.2.low n) = true → (acc.all fun p => p.2.low n) = true → ((putAll acc kvs).all fun p => p.2.low n) = true
  | [], _, _, h => h
  | p :: r, acc, h1, h2 => by
    rw [List.all_cons, Bool.and_eq_true] at h1
    exact putAll_low (kvs := r) h1.2 (putD_low h2 h1.1)
theorem upd_del2 {p : Addr} {u : HO} : upd (del H p) p u = upd H p u := by
  funext b
  by_cases e : b = p
  · subst e; rw [upd_same, upd_same]
  · rw [upd_ne e, del_ne e, upd_ne e]
/-- out of hiding -/
theorem ext_show {ι1 : Gh} {s1 : Sto} {H1 : Hp} {p : Addr} {u : HO} (R : SRel K ι st H) (hp : H p = none) (R1 : SRel K ι1 s1 H1) (E : Ext (ι.hide p) st (upd H p u) ι1 s1 H1) : ∃ ι2 : Gh, ι1 = ι2.hide p ∧ ι2.hid = ι.hid ∧ SRel K ι2 s1 (del H1 p) ∧ Ext ι st H ι2 s1 (del H1 p) := by
  have e : ι1 = Gh.hide ⟨ι1.ad, ι.hid⟩ p := by
    have e := E.hid
    cases ι1
    simp only at e
    rw [e]
    rfl
  have np : p ∉ ι.hid := R.hid_new hp
  rw [e] at R1 E
  refine ⟨⟨ι1.ad, ι.hid⟩, e, rfl, R1.unhide np, ?_⟩
  have m := ((mv_hide R hp (u := u)).trans E.mv).trans (mv_show R1)
  refine ⟨m.keep, m.pre, rfl, fun a ha => ?_, m.lk⟩
  have na : a ≠ p := fun z => np (by rw [← z]; exact ha)
  rw [del_ne na, E.keepZ a (List.mem_cons_of_mem _ ha), upd_ne na]
theorem disp_red {prs : List (ME × ME)} {σ : L2.St} {Q : VK} (q : TEo K W (mDisp prs) σ H Q) : tDisp (prs.map fun p => (TEo K W p.1, TEo K W p.2)) σ H (fun v H' => HF H' → Q v H') := by
  obtain ⟨ι, env, st, R, EV, p⟩ := q
  intro a ha
  have R1 := R.hide (u := .dK []) ha trivial (hf_dK R.hf (Nat.zero_le _))
  refine prs_red prs R1 ((mv_hide R ha).ev EV) (noX_post (Out.post_mono (Out.post_bind p) (fun ps s1 q ι1 H1 xs R2 E2 rp => ?_) fun _ _ z => z))
  split at q
  · rename_i kvs hk
    split at q
    · rename_i hc
      obtain ⟨us, e1, h2, h3⟩ := keysOf_at hk rp
      have lu : us.length ≤ 15 := by rw [h2.len]; exact hc.1
      have hA : H1 a = some (.dK []) := by rw [E2.keepZ a List.mem_cons_self, upd_same]
      refine ⟨hA, us, e1, lu, fun hf => ?_⟩
      obtain ⟨ι2, eι, eh, R3, E3⟩ := ext_show R ha R2 E2
      have m : Mv ι1 s1 H1 ι2 s1 (del H1 a) := by rw [eι]; rw [eι] at R2; exact mv_show R2
      rw [← upd_del2] at hf ⊢
      have E4 : Ext ι2 s1 (del H1 a) (ι2.psh a) (s1 ++ [.dct false (putAll [] kvs)]) (upd (del H1 a) a (.dK (mergeK [] us))) := Ext.push R3 del_same
      refine q (ι2.psh a) _ _ (R3.push del_same hf ⟨_, upd_same, RK.ext E4 (rk_putAll (m.rk h2) h3 .nil)⟩ (putAll_low hc.2 rfl)) (E3.trans E4) ⟨a, psh_at R3, rfl⟩
    · exact q.elim
  · exact q.elim
end
section
variable {X : Cx} {W : XW} {pos : Pos}
theorem ps_nil0 : PPs X pos [] [] (([] : List (ME × ME)).map fun p => (TEo X.K W p.1, TEo X.K W p.2)) := pps_nil
theorem ps_cons0 {k v : Expr} {ks : List (Option Expr)} {vs : List Expr} {a b : ME} {prs : List (ME × ME)} (hk : PE X k (TEo X.K W a)) (hv : PE X v (TEo X.K W b)) (hr : PPs X pos ks vs (prs.map fun p => (TEo X.K W p.1, TEo X.K W p.2))) :
    PPs X pos (some k :: ks) (v :: vs) (((a, b) :: prs).map fun p => (TEo X.K W p.1, TEo X.K W p.2)) := pps_cons hk hv hr
theorem x_disp {keys : List (Option Expr)} {values : List Expr} {prs : List (ME × ME)} (h : PPs X pos keys values (prs.map fun p => (TEo X.K W p.1, TEo X.K W p.2))) (hall : keys.all (·.isSome) = true := by rfl) (hl : keys.length = values.length := by rfl) (h0 : keys ≠ [] := by exact fun z => nomatch z)
    (h15 : keys.length ≤ 15 := by decide) : PE X (.Dict keys values pos) (TEo X.K W (mDisp prs)) := pe_wrap (pe_disp h hall hl h0 h15) fun _ _ _ q => disp_red q
theorem x_dnew (t : Bool) : PE X (.Dict [] [] pos) (TEo X.K W (mDnew t)) := by
  cases t with
  | false =>
    exact pe_wrap pe_dnewK fun σ H Q q => by
      obtain ⟨ι, env, st, R, EV, p⟩ := q
      intro a ha hf
      exact p _ _ _ (R.push ha hf ⟨_, upd_same, .nil⟩ rfl) (Ext.push R ha) ⟨a, psh_at R, rfl⟩
  | true =>
    exact pe_wrap pe_dnewT fun σ H Q q => by
      obtain ⟨ι, env, st, R, EV, p⟩ := q
      intro a ha hf
      exact p _ _ _ (R.push ha hf ⟨_, upd_same, .nil⟩ rfl) (Ext.push R ha) ⟨a, psh_at R, rfl⟩
end
end Fw

namespace Fw
open PySem PySem.Spec PyProof.Rows L2

/-! ### what the printed derivations lean on -/
theorem bt_len : bootBuiltins "len" = some (.builtin "len") := by decide +kernel
theorem bt_abs : bootBuiltins "abs" = some (.builtin "abs") := by decide +kernel
theorem bt_sum : bootBuiltins "sum" = some (.builtin "sum") := by decide +kernel
theorem bt_min : bootBuiltins "min" = some (.builtin "min") := by decide +kernel
theorem bt_max : bootBuiltins "max" = some (.builtin "max") := by decide +kernel
theorem bt_any : bootBuiltins "any" = some (.builtin "any") := by decide +kernel
theorem bt_all : bootBuiltins "all" = some (.builtin "all") := by decide +kernel
theorem bt_repr : bootBuiltins "repr" = some (.builtin "repr") := by decide +kernel
theorem bt_sorted : bootBuiltins "sorted" = some (.builtin "sorted") := by decide +kernel
theorem bt_int : bootBuiltins "int" = some (.type "int") := by decide +kernel
theorem bt_tuple : bootBuiltins "tuple" = some (.type "tuple") := by decide +kernel
theorem bt_list : bootBuiltins "list" = some (.type "list") := by decide +kernel
/-- a def of the module as a call finds it: n parameters, xs the defaults that fill up -/
structure Cal (P : Program) (w : World) (K : PySem.W.Frag) (mg : Str → Option Value) (base : Heap) (k : Nat) (x : Str) (n : Nat) (xs : List D) (ff : FF) : Prop where
  ex : ∃ (f : Addr) (fd : FuncData) (ps : List Str) (dvs : List L2.V) (ds : List Value), FnG P w K mg base CX0 k f fd ps (spG K V0 n ff) ∧ mg x = some (.ref f) ∧ PySem.W.keepIn K (.ref f) = true ∧ Binds K fd ps ds ∧ Vals dvs ds ∧ ∀ ι st H, RDs K ι st H dvs xs
section
variable {P : Program} {w : World} {K : PySem.W.Frag} {mg : Str → Option Value} {base : Heap} {k : Nat} {x qual : Str} {n nN : Nat} {xs : List D} {ff : FF}
theorem Cal.mono {j : Nat} (c : Cal P w K mg base k x n xs ff) (h : k ≤ j) : Cal P w K mg base j x n xs ff := by
  obtain ⟨f, fd, ps, dvs, ds, F, r⟩ := c.ex
  exact ⟨f, fd, ps, dvs, ds, F.mono h, r⟩
theorem Cal.mk0 {f : Addr} {fd : FuncData} {params : Arguments} {body : List Stmt} {scope : Scope} {ps : List Str} (F : FunD K x qual params body scope [] [] f fd) (m : mg x = some (.ref f)) (G : FnG P w K mg base CX0 k f fd ps (spG K V0 n ff))
    (h : ∀ (kV doc pm : Value) (an : Option Addr) (cdv ct : Value) (us : List Value), us.length = ps.length → bindArgs (PySem.W.fnOf x qual params body scope .none kV doc pm an cdv ct) ⟨us, []⟩ = pure (ps.zip us)) : Cal P w K mg base k x n [] ff :=
  ⟨f, fd, ps, [], [], G, m, F.kp, F.bindsN h, .nil, fun _ _ _ => .nil⟩
end
section
variable {X : Cx} {k n j : Nat} {x : Str} {xs : List D} {ff : FF} {p pos : Pos} {e : Expr} {es : List Expr} {ma : MA}
theorem x_cal (c : Cal X.prog X.w X.K X.mg X.base k x n xs ff) (hr : RmG j X.A) (hk : k ≤ j) (hg : Gl X x) (ha : PA X (e :: es) (TAo X.K WF ma)) {i : Nat} (hn : MLen ma i) (hj : i + xs.length = n)
    (hdb : (x == ("__debug__" : Str)) = false := by decide) (he : starEach (e :: es) X.env = (false, eval e X.env) :: starEach es X.env := by rfl) (hpl : (backTo pos (starEach es X.env)).any (·.1) = false := by rfl) :
    PE X (.Call (.Name x p) (e :: es) [] pos) (TEo X.K WF (mCall ff ma xs)) := by
  obtain ⟨f, fd, ps, dvs, ds, F, hm, kp, hb, hd, hxs⟩ := c.ex
  exact x_call (V := V0) (E := E0) F (hr.mono hk) hg hm kp hb hd pass0 hxs ha hn hj hdb he hpl
theorem x_cal0 (c : Cal X.prog X.w X.K X.mg X.base k x n xs ff) (hr : RmG j X.A) (hk : k ≤ j) (hg : Gl X x) (hj : xs.length = n) (hdb : (x == ("__debug__" : Str)) = false := by decide) :
    PE X (.Call (.Name x p) [] [] pos) (TEo X.K WF (mCall ff mNil xs)) := by
  obtain ⟨f, fd, ps, dvs, ds, F, hm, kp, hb, hd, hxs⟩ := c.ex
  exact x_call0 (V := V0) (E := E0) F (hr.mono hk) hg hm kp hb hd pass0 hxs hj hdb
theorem g_tp {ts : List Expr} {kk m : Nat} {tpos : Pos} {gs : MGs} {W : XW} {vs : Option (List Nat)} (gd : Gd X) (h : PGs X ts (TGso X.K W gs vs)) (hn : (assignEach ts X.env).length = m := by rfl) (hst : (assignEach ts X.env).findIdx? (·.1) = none := by rfl) :
    PG X (.Tuple ts kk tpos) (TGo X.K W (gTp m gs) vs) := g_tup gd.calm h (pg_tup gd.calm h hn hst)
/-- a slot that is written -/
theorem gn (i : Nat) {vs : Option (List Nat)} {W : XW} {y : Str} (hN : X.N.Nodup) (hi : X.N[i]? = some y := by rfl) (hx : Loc X.env.scope y := by first | exact .inl rfl | exact .inr rfl) (hf : X.fn y = true ∨ X.env.scope.names.lookup y = some .local := by first | exact .inl rfl | exact .inr rfl)
    (hv : ∀ ws, vs = some ws → i ∈ ws := by (intro ws z; cases z <;> decide)) : PG X (.Name y pos) (TGo X.K W (gNm i) vs) := g_name i (pg_name (i := i) hN hi hx hf) hv
theorem xv (i : Nat) {W : XW} {y : Str} (hN : X.N[i]? = some y := by rfl) (hv : Vis X.env.scope y := by first | exact Or.inl rfl | exact Or.inr (Or.inl rfl) | exact Or.inr (Or.inr rfl)) (hd : (y == ("__debug__" : Str)) = false := by decide)
    (hcd : (y == ("__classdict__" : Str)) = false := by decide) : PE X (.Name y pos) (TEo X.K W (mVar i)) := x_var i (pe_var hN hv hd hcd)
theorem s_p2 {i j : Nat} {W : XW} {y z : Str} {a b : Expr} {px py pt : Pos} {kt k2 : Nat} {pt2 : Pos} (gd : Gd X) (hN : X.N.Nodup) (ha : PA X [a, b] (TAo X.K W ma)) (hi : X.N[i]? = some y := by rfl) (hj : X.N[j]? = some z := by rfl) (hij : i ≠ j := by decide)
    (hy : X.env.scope.names.lookup y = some .local := by rfl) (hz : X.env.scope.names.lookup z = some .local := by rfl) (hw : swappedStores [.Tuple [.Name y px, .Name z py] kt pt] (.Tuple [a, b] k2 pt2) X.env = pure (some [y, z]) := by rfl)
    (hs : swapsWithSole [.Tuple [.Name y px, .Name z py] kt pt] (.Tuple [a, b] k2 pt2) pos.line X.env = pure false := by rfl) :
    PS X (.Assign [.Tuple [.Name y px, .Name z py] kt pt] (.Tuple [a, b] k2 pt2) pos) (TSo X.K W (sPar2 i j ma)) := s_par2 ha (ps_par gd.calm hN hi hj hij hy hz ha hw hs)
theorem s_p3 {i j l : Nat} {W : XW} {y z u : Str} {a b c : Expr} {px py pz pt : Pos} {kt k2 : Nat} {pt2 : Pos} (gd : Gd X) (hN : X.N.Nodup) (ha : PA X [a, b, c] (TAo X.K W ma)) (hi : X.N[i]? = some y := by rfl) (hj : X.N[j]? = some z := by rfl) (hl : X.N[l]? = some u := by rfl) (hij : i ≠ j := by decide) (hil : i ≠ l := by decide) (hjl : j ≠ l := by decide)
    (hy : X.env.scope.names.lookup y = some .local := by rfl) (hz : X.env.scope.names.lookup z = some .local := by rfl) (hu : X.env.scope.names.lookup u = some .local := by rfl) (hw : swappedStores [.Tuple [.Name y px, .Name z py, .Name u pz] kt pt] (.Tuple [a, b, c] k2 pt2) X.env = pure (some [y, z, u]) := by rfl)
    (hs : swapsWithSole [.Tuple [.Name y px, .Name z py, .Name u pz] kt pt] (.Tuple [a, b, c] k2 pt2) pos.line X.env = pure false := by rfl) :
    PS X (.Assign [.Tuple [.Name y px, .Name z py, .Name u pz] kt pt] (.Tuple [a, b, c] k2 pt2) pos) (TSo X.K W (sPar3 i j l ma)) := s_par3 ha (ps_par3 gd.calm hN hi hj hl hij hil hjl hy hz hu ha hw hs)
theorem s_pT {W : XW} {m kk k2 : Nat} {p1 p2 : Pos} {ts es : List Expr} {gs : MGs} (gd : Gd X) (ha : PA X es (TAo X.K W ma)) (h : PGs X ts (TGso X.K W gs none)) (hn : (assignEach ts X.env).length = m := by rfl) (hst : (assignEach ts X.env).findIdx? (·.1) = none := by rfl)
    (hs : swapsWithSole [.Tuple ts kk p1] (.Tuple es k2 p2) pos.line X.env = pure false := by rfl) (hw : swappedStores [.Tuple ts kk p1] (.Tuple es k2 p2) X.env = pure none := by rfl) : PS X (.Assign [.Tuple ts kk p1] (.Tuple es k2 p2) pos) (TSo X.K W (sAsgT m ma gs)) :=
  s_asgT ha (pg_tup gd.calm h hn hst) hs hw
end
/-! ### list(range(..)), tuple(range(..)) -/
def rgD (a b : Int) : List PyData := (List.range (b - a).toNat).map fun i => .int (a + (i : Nat))
def rgOk (a b : Int) : Bool := decide (-1000000 ≤ a ∧ a ≤ 1000000 ∧ -1000000 ≤ b ∧ b ≤ 1000000)
theorem rgOk_ok {a b : Int} (h : rgOk a b = true) : RgOk a b := by
  have h := of_decide_eq_true h
  exact ⟨by omega, by omega, by omega, by omega, by omega⟩
theorem rpA_rg {F : Addr → Prop} {H : Hp} (a b : Int) : RpA F H (rgV a b) (rgD a b) := by
  unfold rgV rgD
  have key : ∀ l : List Nat, RpA F H (l.map fun i => V.int (a + (i : Nat))) (l.map fun i => PyData.int (a + (i : Nat))) := fun l => by
    induction l with
    | nil => exact .nil
    | cons i r ih => exact .cons (.int _) ih
  exact key _
def mRg1 (m : ME) : Ev → Sto → Out (List PyData) := fun env st => (m env st).bind fun d s1 => match iOf d with
  | some n => if rgOk 0 n then .ok (rgD 0 n) s1 else .stuck
  | none => .stuck
def mRg2 (ma mb : ME) : Ev → Sto → Out (List PyData) := fun env st => (ma env st).bind fun x s1 => (mb env s1).bind fun y s2 => match iOf x, iOf y with
  | some a, some b => if rgOk a b then .ok (rgD a b) s2 else .stuck
  | _, _ => .stuck
def mTup (m : MF) : ME := fun env st => (m env st).bind fun zs s1 => if zs.length ≤ 1000 then .ok (.v (.tuple zs)) s1 else .stuck
section
variable {X : Cx} {W : XW} {a b : Expr} {m ma mb : ME} {p q pos pos2 : Pos}
theorem xf_listRg1 (gd : Gd X) (hg : Gl X "list") (hm : X.mg "list" = none) (hg2 : Gl X "range") (hm2 : X.mg "range" = none) (ha : PE X a (TEo X.K W m)) (na : starEach [a] X.env = (false, eval a X.env) :: starEach [] X.env := by rfl)
    (na2 : starEach [Expr.Call (.Name "range" q) [a] [] pos2] X.env = (false, eval (.Call (.Name "range" q) [a] [] pos2) X.env) :: starEach [] X.env := by rfl) :
    PE X (.Call (.Name "list" p) [.Call (.Name "range" q) [a] [] pos2] [] pos) (TFo X.K W (mRg1 m)) :=
  pf_wrap (pe_listRg gd.calm hg hm (prg_1 hg2 hm2 ha na) na2) fun σ H Q q => by
    obtain ⟨ι, env, st, R, EV, p⟩ := q
    refine ⟨ι, env, st, R, EV, Out.post_mono (Out.post_bind p) (fun d s1 q ι1 H1 x R1 E1 ra => ?_) fun _ _ q => q⟩
    split at q
    · rename_i n e1
      split at q
      · rename_i h
        exact ⟨n, iOf_at e1 ra, rgOk_ok h, (q.ext E1).new R1 (rpA_rg 0 n)⟩
      · exact q.elim
    · exact q.elim
theorem xf_listRg2 (gd : Gd X) (hg : Gl X "list") (hm : X.mg "list" = none) (hg2 : Gl X "range") (hm2 : X.mg "range" = none) (ha : PE X a (TEo X.K W ma)) (hb : PE X b (TEo X.K W mb)) (na : starEach [a, b] X.env = (false, eval a X.env) :: starEach [b] X.env := by rfl)
    (nb : starEach [b] X.env = (false, eval b X.env) :: starEach [] X.env := by rfl) (hp : (backTo pos2 (starEach [b] X.env)).any (·.1) = false := by rfl)
    (na2 : starEach [Expr.Call (.Name "range" q) [a, b] [] pos2] X.env = (false, eval (.Call (.Name "range" q) [a, b] [] pos2) X.env) :: starEach [] X.env := by rfl) :
    PE X (.Call (.Name "list" p) [.Call (.Name "range" q) [a, b] [] pos2] [] pos) (TFo X.K W (mRg2 ma mb)) :=
  pf_wrap (pe_listRg gd.calm hg hm (prg_2 hg2 hm2 ha hb na nb hp) na2) fun σ H Q q => by
    obtain ⟨ι, env, st, R, EV, p⟩ := q
    refine ⟨ι, env, st, R, EV, Out.post_mono (Out.post_bind p) (fun d s1 q ι1 H1 x R1 E1 ra => ?_) fun _ _ q => q⟩
    refine ⟨ι1, env, s1, R1, EV.ext E1, Out.post_mono (Out.post_bind q) (fun d2 s2 q2 ι2 H2 y R2 E2 rb => ?_) fun _ _ z => z.ext E1⟩
    split at q2
    · rename_i i j e1 e2
      split at q2
      · rename_i h
        exact ⟨i, j, iOf_at e1 (ra.ext E2), iOf_at e2 rb, rgOk_ok h, ((q2.ext E1).ext E2).new R2 (rpA_rg i j)⟩
      · exact q2.elim
    · exact q2.elim
end
theorem gd_u {X : Cx} (g : Gd X) : X.A.units + 64 < cLine := by have := g.un; omega
theorem s_subP {X : Cx} {W : XW} {e o i : Expr} {m mo mi : ME} {pos pos' : Pos} (gd : Gd X) (he : PE X e (TEo X.K W m)) (ho : PE X o (TEo X.K W mo)) (hi : PE X i (TEo X.K W mi))
    (ha : ∀ v, assign (.Subscript o i pos') X.env v = (do
      let ov ← holding [v] (eval o X.env)
      let iv ← holding [v, ov] (eval i X.env)
      standAt pos'
      holding [v, ov, iv] (setItem ov iv v)
      release [v, ov, iv] []) := by intro _; rfl)
    (hs1 : swapsWithSole [.Subscript o i pos'] e pos.line X.env = pure false := by rfl) (hw : swappedStores [.Subscript o i pos'] e X.env = pure none := by rfl) (hs : swapsWith e (some (.Subscript o i pos')) pos.line X.env = pure false := by rfl) :
    PS X (.Assign [.Subscript o i pos'] e pos) (TSo X.K W (sSub m mo mi)) := s_sub gd he ho hi (pg_sub ho hi set_list ha) hs1 hw hs
/-- an exception that leaves passes the frame -/
theorem own_pass {CX : CXT} {P : Program} {w : World} {K : PySem.W.Frag} {mg : Str → Option Value} {base : Heap} {N : List Str} {qual : Str} {scope : Scope} {f : Addr} {cd : Value} {A : Around} {outer : List Env} {s : Shared} {H : Hp} {E : XK} :
    PassesOwn (model P w) (cxOf CX P w K mg base N qual scope f cd A outer s H E).A (cxOf CX P w K mg base N qual scope f cd A outer s H E).env (cxOf CX P w K mg base N qual scope f cd A outer s H E).xe :=
  passes_of (X := cxOf CX P w K mg base N qual scope f cd A outer s H E) (K := fun e s'' => CX outer H s E e s'') (E₁ := fun e' s'' => CX outer H s E e' s'') rfl
end Fw

namespace Fw
open PySem PySem.Spec PyProof.Rows L2

/-! ### isinstance(x, T), T a built-in type -/
def tyD (st : Sto) : D → Option String
  | .v .none => some "NoneType"
  | .v (.bool _) => some "bool"
  | .v (.int _) => some "int"
  | .v (.str _) => some "str"
  | .v (.list _) => some "list"
  | .v (.tuple _) => some "tuple"
  | .v (.dict kvs) => if isTK kvs then none else some "dict"
  | .scr _ => some "list"
  | .ref n => match st[n]? with
    | some (.lst _) => some "list"
    | some (.dct _ _) => some "dict"
    | _ => none
theorem tyD_at {K : PySem.W.Frag} {ι : Gh} {st : Sto} {H : Hp} (R : SRel K ι st H) {x : V} {T : String} : ∀ {d : D}, tyD st d = some T → RD K ι st H x d → TyX K H x (.type T)
  | .v z, e, r => by
    have r' : Rp (Frz ι st) H x z := r
    cases r' with
    | non => cases e; exact .base .non
    | bl b => cases e; exact .base (.bl b)
    | int i => cases e; exact .base (.int i)
    | str z => cases e; exact .base (.str z)
    | lst h _ _ => cases e; exact .base (.lst h)
    | tup h _ _ _ => cases e; exact .fTuple h
    | @dcK a xs ds h _ rk =>
      have e2 : T = "dict" := by
        replace e : (if isTK ds then none else some "dict") = some T := e
        split at e
        · cases e
        · exact (Option.some.inj e).symm
      subst e2
      rcases h with h | ⟨o, h⟩
      · exact .base (.dK h)
      · exact .fDict h
    | @dcT a xs ds h _ rk hne =>
      cases rk with
      | nil => exact absurd rfl hne
      | cons _ _ => cases e
  | .scr ns, e, r => by
    cases e
    obtain ⟨a, rfl, h⟩ := r
    rcases h with ⟨o, its, n, h1, h2, _⟩ | ⟨o, h, _⟩
    · exact .kList h1 h2
    · exact .base (.frz h)
  | .ref n, e, r => by
    obtain ⟨a, h1, rfl⟩ := r
    cases q : st[n]? with
    | none => simp only [tyD, q] at e; cases e
    | some o =>
      have ro := R.obj n o a q h1
      cases o with
      | lst zs =>
        simp only [tyD, q] at e
        cases e
        obtain ⟨xs, h, _⟩ := ro
        exact .base (.lst h)
      | dct t kvs =>
        simp only [tyD, q] at e
        cases e
        cases t with
        | false => obtain ⟨xs, h, _⟩ := ro; exact .base (.dK h)
        | true => obtain ⟨xs, h, _⟩ := ro; exact .base (.dT h)
      | _ => simp only [tyD, q] at e; cases e
/-- the built-in types that are asked -/
def isT1 (t T : String) : Option Bool := match T with
  | "int" => some (t == "int" || t == "bool")
  | "bool" => some (t == "bool")
  | "str" => some (t == "str")
  | "list" => some (t == "list")
  | "tuple" => some (t == "tuple")
  | "dict" => some (t == "dict")
  | _ => none
theorem isT1_kit {K : PySem.W.Frag} {t T : String} {b : Bool} (ht : t ∈ ["NoneType", "bool", "int", "str", "list", "tuple", "dict"]) (h : isT1 t T = some b) : PySem.W.kitOne K (.type t) (.type T) = some b := by
  have key : ∀ T ∈ ["int", "bool", "str", "list", "tuple", "dict"], ∀ t ∈ ["NoneType", "bool", "int", "str", "list", "tuple", "dict"], kitB t T = isT1 t T := by decide +kernel
  refine kit_ty ?_
  rw [key T ?_ t ht]
  · exact h
  · unfold isT1 at h
    split at h
    · decide
    · decide
    · decide
    · decide
    · decide
    · decide
    · cases h
theorem tyD_mem {st : Sto} {d : D} {t : String} (h : tyD st d = some t) : t ∈ ["NoneType", "bool", "int", "str", "list", "tuple", "dict"] := by
  unfold tyD at h
  split at h <;> first | (cases h; decide) | skip
  · split at h
    · cases h
    · cases h; decide
  · split at h <;> first | (cases h; decide) | cases h
def isiD (T : String) : F1 := fun d st => match tyD st d with
  | some t => match isT1 t T with
    | some b => .ok (.v (.bool b)) st
    | none => .stuck
  | none => .stuck
theorem bt_isi : bootBuiltins "isinstance" = some (.builtin "isinstance") := by decide +kernel
theorem bt_str : bootBuiltins "str" = some (.type "str") := by decide +kernel
theorem bt_bool : bootBuiltins "bool" = some (.type "bool") := by decide +kernel
theorem bt_dict : bootBuiltins "dict" = some (.type "dict") := by decide +kernel
theorem x_isi {X : Cx} {W : XW} {e : Expr} {m : ME} {p q pos : Pos} {x : Str} (T : String) (hg : Gl X "isinstance") (hm : X.mg "isinstance" = none) (hg2 : Gl X x) (hm2 : X.mg x = none) (hv : bootBuiltins x = some (.type T)) (he : PE X e (TEo X.K W m)) (hn : x ≠ "__name__" := by decide) (hdb : (x == ("__debug__" : Str)) = false := by decide)
    (hs : starEach [e, .Name x q] X.env = (false, eval e X.env) :: starEach [.Name x q] X.env := by rfl) (hs2 : starEach [.Name x q] X.env = (false, eval (.Name x q) X.env) :: starEach [] X.env := by rfl) (hpl : (backTo pos (starEach [.Name x q] X.env)).any (·.1) = false := by rfl) :
    PE X (.Call (.Name "isinstance" p) [e, .Name x q] [] pos) (TEo X.K W (mUn (isiD T) m)) :=
  pe_wrap (pe_callB call_isi hg hm bt_isi (pa_cons he (pa_cons (pe_bltn (v := .ty T) hg2 hm2 hv rfl hn hdb) pa_nil hs2) hs) (by decide) (by decide) hs hpl) fun σ H Q q => by
    obtain ⟨ι, env, st, R, EV, p⟩ := q
    refine ⟨ι, env, st, R, EV, Out.post_mono (Out.post_bind p) (fun d s1 q ι1 H1 x R1 E1 ra => ?_) fun _ _ q => q⟩
    unfold isiD at q
    split at q
    · rename_i t et
      split at q
      · rename_i b eb
        exact ⟨x, .ty T, .type t, .type T, b, rfl, .ty T, tyD_at R1 et ra, isT1_kit (tyD_mem et) eb, fun _ => (q.ext E1).same R1 (.bl b)⟩
      · exact q.elim
    · exact q.elim
end Fw

/-! ### sorted(xs), xs of tuples of d whole numbers -/
namespace Fw
open PySem PySem.Spec PyProof.Rows L2
def lexLe : List Int → List Int → Bool
  | [], _ => true
  | _ :: _, [] => false
  | a :: r, b :: q => if a < b then true else if a = b then lexLe r q else false
def insR (a : List Int) : List (List Int) → List (List Int)
  | [] => [a]
  | b :: r => if lexLe a b then a :: b :: r else b :: insR a r
def sortR : List (List Int) → List (List Int)
  | [] => []
  | a :: r => insR a (sortR r)
theorem insR_perm (a : List Int) : ∀ l : List (List Int), (insR a l).Perm (a :: l)
  | [] => .refl _
  | b :: r => by
    unfold insR
    split
    · exact .refl _
    · exact ((insR_perm a r).cons b).trans (.swap a b r)
theorem sortR_perm : ∀ l : List (List Int), (sortR l).Perm l
  | [] => .refl _
  | a :: r => (insR_perm a (sortR r)).trans ((sortR_perm r).cons a)
abbrev TB : Int := 1000000
/-- rows that are sorted here: d numbers in [0, 10^6) -/
structure RowOk (d : Nat) (r : List Int) : Prop where
  len : r.length = d
  bd : TS.Bd TB r
theorem code_le : ∀ {a b : List Int}, a.length = b.length → TS.Bd TB a → TS.Bd TB b → (lexLe a b = true ↔ TS.code TB a ≤ TS.code TB b)
  | [], [], _, _, _ => ⟨fun _ => Int.le_refl _, fun _ => rfl⟩
  | x :: a, y :: b, hl, ha, hb => by
    have hl' : a.length = b.length := Nat.succ.inj hl
    have ih := code_le hl' ha.tail hb.tail
    unfold lexLe
    by_cases h1 : x < y
    · rw [if_pos h1]
      exact ⟨fun _ => Int.le_of_lt (TS.code_lt hl' ha.tail hb.tail h1), fun _ => rfl⟩
    · rw [if_neg h1]
      by_cases h2 : x = y
      · subst h2
        rw [if_pos rfl, ih]
        have z := TS.code_same (B := TB) (d := x) (r := b) (q := a) hl'.symm
        omega
      · rw [if_neg h2]
        have z := TS.code_lt (d := y) (e := x) hl'.symm hb.tail ha.tail (by omega)
        exact ⟨(fun w => nomatch w), fun w => by omega⟩
theorem code_inj {d : Nat} {a b : List Int} (ha : RowOk d a) (hb : RowOk d b) (h : TS.code TB a = TS.code TB b) : a = b := by
  have key : ∀ {a b : List Int}, a.length = b.length → TS.Bd TB a → TS.Bd TB b → TS.code TB a = TS.code TB b → a = b := by
    intro a
    induction a with
    | nil => intro b hl _ _ _; exact (List.eq_nil_of_length_eq_zero hl.symm).symm
    | cons x r ih =>
      intro b hl h1 h2 he
      cases b with
      | nil => cases hl
      | cons y q =>
        have hl' : r.length = q.length := Nat.succ.inj hl
        rcases Int.lt_trichotomy x y with z | z | z
        · have := TS.code_lt hl' h1.tail h2.tail z; omega
        · subst z
          have s1 := TS.code_same (B := TB) (d := x) (r := r) (q := q) hl'
          have s2 := TS.code_same (B := TB) (d := x) (r := q) (q := r) hl'.symm
          rw [ih hl' h1.tail h2.tail (by omega)]
        · have := TS.code_lt hl'.symm h2.tail h1.tail z; omega
  exact key (ha.len.trans hb.len.symm) ha.bd hb.bd h
theorem insR_sorted {d : Nat} {a : List Int} (ha : RowOk d a) : ∀ {l : List (List Int)}, (∀ r ∈ l, RowOk d r) → l.Pairwise (fun x y => TS.code TB x ≤ TS.code TB y) → (insR a l).Pairwise fun x y => TS.code TB x ≤ TS.code TB y
  | [], _, _ => by simp [insR]
  | b :: r, hl, h => by
    have hb := hl b List.mem_cons_self
    have cl := code_le (ha.len.trans hb.len.symm) ha.bd hb.bd
    obtain ⟨h1, h2⟩ := List.pairwise_cons.mp h
    unfold insR
    split
    · rename_i z
      refine List.pairwise_cons.mpr ⟨fun c hc => ?_, h⟩
      rcases List.mem_cons.mp hc with rfl | hc
      · exact cl.mp z
      · exact Int.le_trans (cl.mp z) (h1 c hc)
    · rename_i z
      have lt : TS.code TB b ≤ TS.code TB a := by
        have : ¬ TS.code TB a ≤ TS.code TB b := fun w => z (cl.mpr w)
        omega
      refine List.pairwise_cons.mpr ⟨fun c hc => ?_, insR_sorted ha (fun r hr => hl r (List.mem_cons_of_mem _ hr)) h2⟩
      rcases List.mem_cons.mp ((insR_perm a r).mem_iff.mp hc) with rfl | hc
      · exact lt
      · exact h1 c hc
theorem sortR_sorted {d : Nat} : ∀ {l : List (List Int)}, (∀ r ∈ l, RowOk d r) → (sortR l).Pairwise fun x y => TS.code TB x ≤ TS.code TB y
  | [], _ => .nil
  | a :: r, h => insR_sorted (h a List.mem_cons_self) (fun q hq => h q (List.mem_cons_of_mem _ ((sortR_perm r).mem_iff.mp hq))) (sortR_sorted fun q hq => h q (List.mem_cons_of_mem _ hq))
theorem map_inj {d : Nat} : ∀ {a b : List (List Int)}, (∀ r ∈ a, RowOk d r) → (∀ r ∈ b, RowOk d r) → a.map (TS.code TB) = b.map (TS.code TB) → a = b
  | [], [], _, _, _ => rfl
  | x :: a, y :: b, ha, hb, h => by
    rw [List.map_cons, List.map_cons] at h
    obtain ⟨h1, h2⟩ := List.cons.inj h
    rw [code_inj (ha x List.mem_cons_self) (hb y List.mem_cons_self) h1, map_inj (fun r hr => ha r (List.mem_cons_of_mem _ hr)) (fun r hr => hb r (List.mem_cons_of_mem _ hr)) h2]
  | [], _ :: _, _, _, h => by cases h
  | _ :: _, [], _, _, h => by cases h
theorem sortR_uniq {d : Nat} {l m : List (List Int)} (hl : ∀ r ∈ l, RowOk d r) (p : m.Perm l) (h : m.Pairwise fun x y => TS.code TB x ≤ TS.code TB y) : m = sortR l := by
  have hm : ∀ r ∈ m, RowOk d r := fun r hr => hl r (p.mem_iff.mp hr)
  have hs : ∀ r ∈ sortR l, RowOk d r := fun r hr => hl r ((sortR_perm l).mem_iff.mp hr)
  refine map_inj hm hs (sorted_uniq ((p.trans (sortR_perm l).symm).map _) ?_ ?_)
  · rw [List.pairwise_map]; exact h
  · rw [List.pairwise_map]; exact sortR_sorted hl
def rowsOf : List PyData → Option (List (List Int))
  | [] => some []
  | .tuple xs :: r => match intsOf xs, rowsOf r with
    | some ns, some rs => some (ns :: rs)
    | _, _ => none
  | _ :: _ => none
def rowB (d : Nat) (r : List Int) : Bool := decide (r.length = d) && r.all fun m => decide (0 ≤ m ∧ m < TB)
theorem rowB_ok {d : Nat} {r : List Int} (h : rowB d r = true) : RowOk d r := by
  unfold rowB at h
  rw [Bool.and_eq_true] at h
  exact ⟨of_decide_eq_true h.1, fun m hm => of_decide_eq_true (List.all_eq_true.mp h.2 m hm)⟩
def gSortT (d : Nat) : GA := fun ds st => match ds with
  | [x] => match viewL st x with
    | some zs => match rowsOf zs with
      | some rs => if zs.length < 64 ∧ (rs.all (rowB d)) = true then .ok ((sortR rs).map fun r => .tuple (r.map .int)) st else .stuck
      | none => .stuck
    | none => .stuck
  | _ => .stuck
theorem intsOf_eq : ∀ {zs : List PyData} {ns : List Int}, intsOf zs = some ns → zs = ns.map .int
  | [], _, e => by cases e; rfl
  | .int i :: r, ns, e => by
    obtain ⟨ms, h1, rfl⟩ := Option.map_eq_some_iff.mp (show (intsOf r).map (i :: ·) = some ns from e)
    rw [List.map_cons, ← intsOf_eq h1]
theorem rowsOf_eq : ∀ {zs : List PyData} {rs : List (List Int)}, rowsOf zs = some rs → zs = rs.map fun r => .tuple (r.map .int)
  | [], _, e => by cases e; rfl
  | .tuple xs :: r, rs, e => by
    unfold rowsOf at e
    split at e
    · rename_i ns qs e1 e2
      cases e
      rw [List.map_cons, ← rowsOf_eq e2, intsOf_eq e1]
    · cases e
theorem RpA.perm {F : Addr → Prop} {H : Hp} {ys xs : List L2.V} (p : ys.Perm xs) : ∀ {zs : List PyData}, RpA F H xs zs → ∃ zs', RpA F H ys zs' ∧ zs'.Perm zs := by
  induction p with
  | nil => intro zs r; exact ⟨zs, r, .refl _⟩
  | cons x _ ih =>
    intro zs r
    cases r with
    | cons h t =>
      obtain ⟨qs, r2, p2⟩ := ih t
      exact ⟨_ :: qs, .cons h r2, p2.cons _⟩
  | swap x y l =>
    intro zs r
    cases r with
    | cons h t =>
      cases t with
      | cons h2 t2 => exact ⟨_, .cons h2 (.cons h t2), .swap _ _ _⟩
  | trans _ _ h1 h2 =>
    intro zs r
    obtain ⟨q1, r1, p1⟩ := h2 r
    obtain ⟨q2, r2, p2⟩ := h1 r1
    exact ⟨q2, r2, p2.trans p1⟩
theorem perm_unmap {α β : Type} {f : α → β} {ys zs : List β} (p : ys.Perm zs) : ∀ {l : List α}, zs = l.map f → ∃ l' : List α, ys = l'.map f ∧ l'.Perm l := by
  induction p with
  | nil =>
    intro l e
    refine ⟨[], rfl, ?_⟩
    rw [List.map_eq_nil_iff.mp e.symm]
  | cons x _ ih =>
    intro l e
    obtain ⟨a, r, rfl, e1, e2⟩ := List.map_eq_cons_iff.mp e.symm
    obtain ⟨l', h1, h2⟩ := ih e2.symm
    exact ⟨a :: l', by rw [List.map_cons, ← h1, e1], h2.cons a⟩
  | swap x y t =>
    intro l e
    obtain ⟨a, r, rfl, e1, e2⟩ := List.map_eq_cons_iff.mp e.symm
    obtain ⟨b, u, rfl, e3, e4⟩ := List.map_eq_cons_iff.mp e2
    exact ⟨b :: a :: u, by rw [List.map_cons, List.map_cons, e1, e3, e4], .swap a b u⟩
  | trans _ _ h1 h2 =>
    intro l e
    obtain ⟨l1, e1, p1⟩ := h2 e
    obtain ⟨l2, e2, p2⟩ := h1 e1
    exact ⟨l2, e2, p2.trans p1⟩
/-- what a row's value is -/
theorem row_at {F : Addr → Prop} {H : Hp} {K : PySem.W.Frag} {x : L2.V} {r : List Int} (h : Rp F H x (.tuple (r.map .int))) : TupI K H x r := by
  cases h with
  | tup h hd _ t =>
    have e := intsOf_at (ns := r) (ds := r.map .int) (by
      have key : ∀ l : List Int, intsOf (l.map .int) = some l := fun l => by
        induction l with
        | nil => rfl
        | cons i q ih =>
          show (intsOf (q.map .int)).map (i :: ·) = _
          rw [ih]
          rfl
      exact key r) t
    subst e
    exact ⟨_, rfl, KTup.sq ⟨_, h, hd⟩⟩
theorem rows_sorted {F : Addr → Prop} {H : Hp} {K : PySem.W.Frag} : ∀ {ys : List L2.V} {rs : List (List Int)}, RpA F H ys (rs.map fun r => .tuple (r.map .int)) → ys.Pairwise (fun x y => ∀ n m, TupI K H x n → TupI K H y m → TS.code TB n ≤ TS.code TB m) →
    rs.Pairwise fun x y => TS.code TB x ≤ TS.code TB y
  | _, [], _, _ => .nil
  | _, r :: rs, .cons h t, p => by
    obtain ⟨p1, p2⟩ := List.pairwise_cons.mp p
    refine List.pairwise_cons.mpr ⟨fun q hq => ?_, rows_sorted t p2⟩
    obtain ⟨i, hi, e⟩ := List.getElem_of_mem hq
    obtain ⟨y, h1, h2⟩ := RpA.get t (i := i) (d := .tuple (q.map .int)) (by rw [List.getElem?_map, List.getElem?_eq_getElem hi, e]; rfl)
    exact p1 y (List.mem_of_getElem? h1) r q (row_at h) (row_at h2)
theorem opF_sortT {K : PySem.W.Frag} {W : XW} {d : Nat} : OpFA K W (rSortU K d TB) (gSortT d) := by
  intro ι st H xs ds Q R r p
  unfold gSortT at p
  split at p
  · obtain ⟨x, rfl, r1⟩ := r.one
    split at p
    · rename_i zs e
      split at p
      · rename_i rs er
        split at p
        · rename_i hc
          obtain ⟨q, us, rfl, h1, h2⟩ := viewL_at R e r1
          have ez := rowsOf_eq er
          subst ez
          have hrs : ∀ r ∈ rs, RowOk d r := fun r hr => rowB_ok (List.all_eq_true.mp hc.2 r hr)
          refine ⟨q, us, rfl, .of h1, by rw [h2.length]; exact hc.1, fun x hx => ?_, fun ys a hp hs ha hf => ?_⟩
          · obtain ⟨i, hi, e2⟩ := List.getElem_of_mem hx
            have hi2 : i < rs.length := by
              have := h2.length
              rw [List.length_map] at this
              omega
            obtain ⟨y, h3, h4⟩ := RpA.get h2 (i := i) (d := .tuple ((rs[i]).map .int)) (by rw [List.getElem?_map, List.getElem?_eq_getElem hi2]; rfl)
            rw [List.getElem?_eq_getElem hi, e2] at h3
            cases h3
            have ok := hrs _ (List.getElem_mem hi2)
            exact ⟨_, row_at h4, ok.len, ok.bd⟩
          · obtain ⟨zs', r3, p3⟩ := RpA.perm hp h2
            obtain ⟨rs', rfl, p4⟩ := perm_unmap p3 rfl
            have e3 := sortR_uniq hrs p4 (rows_sorted r3 hs)
            subst e3
            exact p.new R r3 a ha hf
        · exact p.elim
      · exact p.elim
    · exact p.elim
  · exact p.elim
theorem xf_sortT {X : Cx} {W : XW} {e : Expr} {es : List Expr} {m : MA} {p pos : Pos} {x : Str} (d : Nat) (hd : 1 ≤ d) (hg : Gl X x) (hm : X.mg x = none) (hv : bootBuiltins x = some (.builtin "sorted")) (ha : PA X (e :: es) (TAo X.K W m)) (hn : x ≠ "__name__" := by decide) (hdb : (x == ("__debug__" : Str)) = false := by decide)
    (he : starEach (e :: es) X.env = (false, eval e X.env) :: starEach es X.env := by rfl) (hpl : (backTo pos (starEach es X.env)).any (·.1) = false := by rfl) :
    PE X (.Call (.Name x p) (e :: es) [] pos) (TFo X.K W (mfArg (gSortT d) m)) := pf_wrap (pe_callB (cr_sortT hd) hg hm hv ha hn hdb he hpl) fun σ H Q q => tf_arg opF_sortT q
/-- sorted(xs): whole numbers, or tuples of equally many -/
def gSort : GA := fun ds st => match ds with
  | [x] => match viewL st x with
    | some zs => match intsOf zs with
      | some ns => .ok ((sortI ns).map .int) st
      | none => match rowsOf zs with
        | some rs => if zs.length < 64 ∧ 1 ≤ (rs.headD []).length ∧ (rs.all (rowB (rs.headD []).length)) = true then .ok ((sortR rs).map fun r => .tuple (r.map .int)) st else .stuck
        | none => .stuck
    | none => .stuck
  | _ => .stuck
theorem cr_sortTs {X : Cx} : CallR X (.builtin "sorted") (fun xs H Q => ∃ d, 1 ≤ d ∧ rSortU X.K d TB xs H Q) := by
  rintro pins s σ H vs us Q I r ⟨d, hd, h⟩
  exact cr_sortT hd pins s σ H vs us Q I r h
theorem opF_sort {K : PySem.W.Frag} {W : XW} : OpFA K W (fun xs H Q => rSortedI K xs H Q ∨ ∃ d, 1 ≤ d ∧ rSortU K d TB xs H Q) gSort := by
  intro ι st H xs ds Q R r p
  unfold gSort at p
  split at p
  · rename_i x
    split at p
    · rename_i zs e
      split at p
      · rename_i ns e2
        refine .inl (opF_sortI (W := W) ι st H xs [x] Q R r ?_)
        show (match viewL st x with
          | some xs => _
          | none => _ : Out (List PyData)).post _ _
        rw [e]
        show (match intsOf zs with
          | some ns => _
          | none => _ : Out (List PyData)).post _ _
        rw [e2]
        exact p
      · split at p
        · rename_i rs er
          split at p
          · rename_i hc
            refine .inr ⟨(rs.headD []).length, hc.2.1, opF_sortT (W := W) ι st H xs [x] Q R r ?_⟩
            show (match viewL st x with
              | some zs => _
              | none => _ : Out (List PyData)).post _ _
            rw [e]
            show (match rowsOf zs with
              | some rs => _
              | none => _ : Out (List PyData)).post _ _
            rw [er]
            show (if _ then _ else _ : Out (List PyData)).post _ _
            rw [if_pos ⟨hc.1, hc.2.2⟩]
            exact p
          · exact p.elim
        · exact p.elim
    · exact p.elim
  · exact p.elim
theorem xf_sort {X : Cx} {W : XW} {e : Expr} {es : List Expr} {m : MA} {p pos : Pos} {x : Str} (hg : Gl X x) (hm : X.mg x = none) (hv : bootBuiltins x = some (.builtin "sorted")) (ha : PA X (e :: es) (TAo X.K W m)) (hn : x ≠ "__name__" := by decide) (hdb : (x == ("__debug__" : Str)) = false := by decide)
    (he : starEach (e :: es) X.env = (false, eval e X.env) :: starEach es X.env := by rfl) (hpl : (backTo pos (starEach es X.env)).any (·.1) = false := by rfl) :
    PE X (.Call (.Name x p) (e :: es) [] pos) (TFo X.K W (mfArg gSort m)) := pf_wrap (pe_callB (cr_sortedI.or cr_sortTs) hg hm hv ha hn hdb he hpl) fun σ H Q q => tf_arg opF_sort q
end Fw

namespace Fw
open PySem PySem.Spec PyProof.Rows L2

/-! ### repr of data with dicts -/
mutual
/-- no list within, dicts with keys of whole numbers and texts alone -/
def noL : PyData → Bool
  | .none | .bool _ | .int _ | .str _ => true
  | .list _ => false
  | .tuple xs => noLA xs
  | .dict kvs => noLK kvs
def noLA : List PyData → Bool
  | [] => true
  | x :: r => noL x && noLA r
def noLK : List (PyData × PyData) → Bool
  | [] => true
  | (k, v) :: r => (key1 k).isSome && noL v && noLK r
end
section
variable {X : Cx} {pins : List (Addr × Obj)} {σ : L2.St} {H : Hp} {s : Shared} {F : Addr → Prop}
theorem key_reads {h : Heap} {k : Key} {v : Value} (e : keyIs k v = true) : Reads h v (kD k) [] := by
  rcases keyIs_shape e with ⟨i, t, rfl, rfl⟩ | ⟨x, t, rfl, rfl⟩
  · exact .int i t
  · exact .str x t
mutual
theorem rp_reads (I : Inv X pins σ H s) : ∀ (d : PyData) (v : L2.V) (u : Value), Rp F H v d → noL d = true → RelV v u → ∃ as, Reads s.heap u d as ∧ sysModules ∉ as
  | .none, _, _, h, _, r => by
    cases h
    cases r
    exact ⟨_, .none, by simp⟩
  | .bool b, _, _, h, _, r => by
    cases h
    cases r
    exact ⟨_, .bool b, by simp⟩
  | .int i, _, _, h, _, r => by
    cases h
    obtain ⟨t, rfl⟩ := r
    exact ⟨_, .int i t, by simp⟩
  | .str x, _, _, h, _, r => by
    cases h
    obtain ⟨t, rfl⟩ := r
    exact ⟨_, .str x t, by simp⟩
  | .list _, _, _, _, n, _ => by
    rw [noL] at n
    cases n
  | .tuple ds, _, _, h, n, r => by
    cases h with
    | tup e z f t =>
      cases r
      rw [noL] at n
      obtain ⟨its, rv, ⟨o, ho, hc, k, hd⟩, _⟩ := I.tuple (KTup.sq ⟨_, e, z⟩)
      obtain ⟨as, hr, hn⟩ := rp_readsA I ds _ its t n rv
      exact ⟨as, .tuple ho hc hd hr, hn⟩
  | .dict kvs, _, _, h, n, r => by
    rw [noL] at n
    cases h with
    | dcK e f t =>
      cases r
      obtain ⟨_, hne, vs, kv, o, es, ep, ho, ⟨hc, _, _⟩, hd, _, hp, _⟩ := dk_rd I.hok e
      obtain ⟨as, bs, h1, h2, n1, n2⟩ := rp_readsK I kvs _ vs es.toList t n kv hp
      refine ⟨_, .dict ho hc hd h1 h2, ?_⟩
      simp only [List.mem_cons, List.mem_append, not_or]
      exact ⟨⟨fun z => by rw [z] at hne; simp at hne, n1⟩, n2⟩
    | dcT e f t z =>
      cases t with
      | nil => exact absurd rfl z
      | cons _ _ => rw [noLK] at n; simp [key1] at n
theorem rp_readsA (I : Inv X pins σ H s) : ∀ (ds : List PyData) (vs : List L2.V) (us : List Value), RpA F H vs ds → noLA ds = true → Vals vs us → ∃ as, ReadsAll s.heap us ds as ∧ sysModules ∉ as
  | [], _, _, h, _, r => by
    cases h
    cases r
    exact ⟨_, .nil, by simp⟩
  | d :: ds, _, _, h, n, r => by
    rw [noLA, Bool.and_eq_true] at n
    cases h with
    | cons h1 h2 =>
      cases r with
      | cons r1 r2 =>
        obtain ⟨as, q1, n1⟩ := rp_reads I d _ _ h1 n.1 r1
        obtain ⟨bs, q2, n2⟩ := rp_readsA I ds _ _ h2 n.2 r2
        exact ⟨_, .cons q1 q2, by simp only [List.mem_append, not_or]; exact ⟨n1, n2⟩⟩
theorem rp_readsK (I : Inv X pins σ H s) : ∀ (kvs : List (PyData × PyData)) (xs : List (Key × L2.V)) (vs : List (Key × Value)) (es : List DictEntry), RpK F H xs kvs → noLK kvs = true → KV xs vs → Pairs (mixKind X.prog X.w) es vs →
    ∃ as bs, ReadsAll s.heap (es.map (·.key)) (kvs.map (·.1)) as ∧ ReadsAll s.heap (es.map (·.val)) (kvs.map (·.2)) bs ∧ sysModules ∉ as ∧ sysModules ∉ bs
  | [], xs, vs, es, h, _, k, q => by
    cases h
    cases k
    cases q
    exact ⟨_, _, .nil, .nil, by simp, by simp⟩
  | (kk, d) :: kvs, xs, vs, es, h, n, k, q => by
    rw [noLK, Bool.and_eq_true, Bool.and_eq_true] at n
    cases h with
    | cons h1 h2 =>
      cases k with
      | cons k1 k2 =>
        cases q with
        | cons q1 q2 q3 =>
          obtain ⟨e1, e2⟩ := k1
          obtain ⟨as, r1, n1⟩ := rp_reads I d _ _ h1 n.1.2 e2
          obtain ⟨bs, cs, r2, r3, n2, n3⟩ := rp_readsK I kvs _ _ _ h2 n.2 k2 q3
          refine ⟨[] ++ bs, as ++ cs, .cons ?_ r2, .cons ?_ r3, by simpa using n2, by simp only [List.mem_append, not_or]; exact ⟨n1, n3⟩⟩
          · have e1 : _ = _ := e1
            rw [show kD _ = kD _ from congrArg kD e1]
            exact key_reads q1
          · show Reads s.heap (DictEntry.val _) d as
            rw [q2]
            exact r1
end
end
/-- repr(x) of a value by tree with dicts, without lists -/
def rReprK (F : Addr → Prop) : List L2.V → Hp → VK → Prop := fun xs H Q => ∃ x z, xs = [x] ∧ Rp F H x z ∧ noL z = true ∧ z.showable = true ∧ z.depth ≤ 60 ∧ z.shown.length ≤ sizeLine ∧ Q (.str z.shown) H
theorem call_reprK {X : Cx} (g : Gd X) : CallR X (.builtin "repr") (fun xs H Q => ∃ F, rReprK F xs H Q) := by
  rintro pins s σ H xs us Q I r ⟨F, x, z, rfl, hd, hl, h1, h3, h4, q⟩
  obtain ⟨u, rfl, ru⟩ := vals1 r
  obtain ⟨as, rd, hn⟩ := rp_reads I z x u hd hl ru
  cases rd with
  | none => exact PySem.P.repr_of_none ⟨.str _, H, I.tok _, ⟨_, rfl⟩, by simpa only [PyData.shown] using q⟩
  | bool b => exact PySem.P.repr_of_bool ⟨.str _, H, I.tok _, ⟨_, rfl⟩, by simpa only [PyData.shown] using q⟩
  | int i t => exact PySem.P.repr_of_int (by simpa [PyData.showable] using h1) ⟨.str _, H, I.tok _, ⟨_, rfl⟩, by simpa only [PyData.shown] using q⟩
  | str y t => exact PySem.P.repr_of_str ⟨.str _, H, I.tok _, ⟨_, rfl⟩, by simpa only [PyData.shown] using q⟩ (by simpa only [PyData.shown] using h4)
  | list e1 e2 e3 e4 => exact repr_of_reads' (Reads.list e1 e2 e3 e4) h1 (fun _ => hn) g.gu (by have := g.un; omega) (fun _ _ e => e) (fun h' u tk hk => ⟨.str _, H, I.kept hk, ⟨_, rfl⟩, q⟩) h4
  | tuple e1 e2 e3 e4 => exact repr_of_reads' (Reads.tuple e1 e2 e3 e4) h1 (fun _ => hn) g.gu (by have := g.un; omega) (fun _ _ e => e) (fun h' u tk hk => ⟨.str _, H, I.kept hk, ⟨_, rfl⟩, q⟩) h4
  | dict e1 e2 e3 e4 e5 => exact repr_of_reads' (Reads.dict e1 e2 e3 e4 e5) h1 (fun _ => hn) g.gu (by have := g.un; omega) (fun _ _ e => e) (fun h' u tk hk => ⟨.str _, H, I.kept hk, ⟨_, rfl⟩, q⟩) h4
def fReprK : FA := fun ds st => match ds with
  | [.v z] => if noL z && z.showable && decide (z.depth ≤ 60) && decide (z.shown.length ≤ lim) then .ok (.v (.str z.shown)) st else fRepr ds st
  | ds => fRepr ds st
theorem opA_reprK {K : PySem.W.Frag} {W : XW} : OpA K W (fun xs H Q => rRepr K xs H Q ∨ ∃ F, rReprK F xs H Q) fReprK := by
  intro ι st H xs ds Q R r p
  unfold fReprK at p
  split at p
  · rename_i z
    split at p
    · rename_i h
      simp only [Bool.and_eq_true, decide_eq_true_eq] at h
      obtain ⟨x, rfl, r1⟩ := r.one
      exact .inr ⟨Frz ι st, x, z, rfl, r1, h.1.1.1, h.1.1.2, h.1.2, lim_ok h.2, fun _ => p.same R (.str _)⟩
    · exact .inl (opA_repr (W := W) ι st H xs _ Q R r p)
  · exact .inl (opA_repr (W := W) ι st H xs _ Q R r p)
end Fw

namespace Fw
open PySem PySem.Spec PyProof.Rows L2

/-! ### what is to hold behind a reading -/
def Out.Ok {α : Type} (x : Out α) (P : α → Sto → Prop) : Prop := match x with
  | .ok a s => P a s
  | _ => False
theorem Out.Ok.eq {α : Type} {x : Out α} {P : α → Sto → Prop} (h : x.Ok P) : ∃ a s, x = .ok a s ∧ P a s := by
  cases x with
  | ok a s => exact ⟨a, s, rfl, h⟩
  | _ => exact h.elim
theorem Out.Ok.mono {α : Type} {x : Out α} {P Q : α → Sto → Prop} (h : x.Ok P) (i : ∀ a s, P a s → Q a s) : x.Ok Q := by
  cases x with
  | ok a s => exact i a s h
  | _ => exact h
/-- what is to hold is looked at when its turn comes -/
theorem ok_congr {α : Type} {x y : Out α} {P : α → Sto → Prop} (h : x = y) : x.Ok P = y.Ok P := by rw [h]
section
variable {α β : Type} {st : Sto} {env : Ev}
@[simp] theorem bOf_bool {b : Bool} : bOf (.v (.bool b)) = some b := rfl
@[simp] theorem low_v {n : Nat} {d : PyData} : (D.v d).low n = true := rfl
@[simp] theorem ok_ok {a : α} {P : α → Sto → Prop} : (Out.ok a st).Ok P ↔ P a st := Iff.rfl
@[simp] theorem ok_stuck {P : α → Sto → Prop} : (Out.stuck : Out α).Ok P ↔ False := Iff.rfl
@[simp] theorem ok_exn {e : Exn} {P : α → Sto → Prop} : (Out.exn e st : Out α).Ok P ↔ False := Iff.rfl
theorem ok_bind {x : Out α} {f : α → Sto → Out β} {P : β → Sto → Prop} : (x.bind f).Ok P ↔ x.Ok fun a s => (f a s).Ok P := by cases x <;> exact Iff.rfl
@[simp] theorem ok_noX {x : Out α} {P : α → Sto → Prop} : x.noX.Ok P ↔ x.Ok P := by cases x <;> exact Iff.rfl
@[simp] theorem ok_var {i : Nat} {P : D → Sto → Prop} : (mVar i env st).Ok P ↔ ∃ d, env[i]? = some (some d) ∧ P d st := by
  unfold mVar
  constructor
  · intro h
    split at h
    · rename_i d e
      exact ⟨d, e, h⟩
    · exact h.elim
  · rintro ⟨d, e, h⟩
    rw [e]
    exact h
@[simp] theorem ok_C {d : PyData} {P : D → Sto → Prop} : (mC d env st).Ok P ↔ P (.v d) st := Iff.rfl
@[simp] theorem ok_un {f : F1} {a : ME} {P : D → Sto → Prop} : (mUn f a env st).Ok P ↔ (a env st).Ok fun x s => (f x s).Ok P := ok_bind
@[simp] theorem ok_bin {f : F2} {a b : ME} {P : D → Sto → Prop} : (mBin f a b env st).Ok P ↔ (a env st).Ok fun x s => (b env s).Ok fun y s2 => (f x y s2).Ok P := by
  unfold mBin
  simp only [ok_bind]
@[simp] theorem ok_arg {f : FA} {m : MA} {P : D → Sto → Prop} : (mArg f m env st).Ok P ↔ (m env st).Ok fun ds s => (f ds s).Ok P := ok_bind
@[simp] theorem ok_nil {P : List D → Sto → Prop} : (mNil env st).Ok P ↔ P [] st := Iff.rfl
@[simp] theorem ok_cons {a : ME} {m : MA} {P : List D → Sto → Prop} : (mCons a m env st).Ok P ↔ (a env st).Ok fun x s => (m env s).Ok fun ds s2 => P (x :: ds) s2 := by
  unfold mCons
  simp only [ok_bind, ok_ok]
@[simp] theorem ok_call {f : FF} {m : MA} {xs : List D} {P : D → Sto → Prop} : (mCall f m xs env st).Ok P ↔ (m env st).Ok fun ds s => (f (ds ++ xs) s).Ok P := ok_bind
@[simp] theorem ok_TB {m : ME} {P : Bool → Sto → Prop} : (mTB m env st).Ok P ↔ (m env st).Ok fun d s => ∃ k, bOf d = some k ∧ P k s := by
  unfold mTB
  rw [ok_bind]
  constructor
  · intro h
    refine h.mono fun d s q => ?_
    split at q
    · rename_i k e
      exact ⟨k, e, q⟩
    · exact q.elim
  · intro h
    refine h.mono fun d s ⟨k, e, q⟩ => ?_
    rw [e]
    exact q
@[simp] theorem ok_Tru {m : ME} {P : Bool → Sto → Prop} : (mTru' m env st).Ok P ↔ (m env st).Ok fun d s => ∃ k, truS' s d = some k ∧ P k s := by
  unfold mTru'
  rw [ok_bind]
  constructor
  · intro h
    refine h.mono fun d s q => ?_
    split at q
    · rename_i k e
      exact ⟨k, e, q⟩
    · exact q.elim
  · intro h
    refine h.mono fun d s ⟨k, e, q⟩ => ?_
    rw [e]
    exact q
@[simp] theorem ok_notT {t : MT} {P : Bool → Sto → Prop} : (mNotT t env st).Ok P ↔ (t env st).Ok fun k s => P (!k) s := by
  unfold mNotT
  simp only [ok_bind, ok_ok]
theorem ok_ite {c : Bool} {x y : Out α} {P : α → Sto → Prop} : (if c = true then x else y).Ok P ↔ (c = true → x.Ok P) ∧ (c = false → y.Ok P) := by
  cases c <;> simp
@[simp] theorem ok_andT {t u : MT} {P : Bool → Sto → Prop} : (mAndT t u env st).Ok P ↔ (t env st).Ok fun k s => (k = true → (u env s).Ok P) ∧ (k = false → P false s) := by
  unfold mAndT
  simp only [ok_bind, ok_ite, ok_ok]
@[simp] theorem ok_orT {t u : MT} {P : Bool → Sto → Prop} : (mOrT t u env st).Ok P ↔ (t env st).Ok fun k s => (k = true → P true s) ∧ (k = false → (u env s).Ok P) := by
  unfold mOrT
  simp only [ok_bind, ok_ite, ok_ok]
@[simp] theorem ok_andV {a b : ME} {P : D → Sto → Prop} : (mAndV a b env st).Ok P ↔ (a env st).Ok fun d s => ∃ k, truS' s d = some k ∧ (k = true → (b env s).Ok P) ∧ (k = false → P d s) := by
  unfold mAndV
  rw [ok_bind]
  constructor
  · intro h
    refine h.mono fun d s q => ?_
    cases e : truS' s d with
    | none => rw [e] at q; exact q.elim
    | some k =>
      rw [e] at q
      cases k with
      | true => exact ⟨true, rfl, fun _ => q, fun z => nomatch z⟩
      | false => exact ⟨false, rfl, (fun z => nomatch z), fun _ => q⟩
  · intro h
    refine h.mono fun d s ⟨k, e, q1, q2⟩ => ?_
    rw [e]
    cases k with
    | true => exact q1 rfl
    | false => exact q2 rfl
@[simp] theorem ok_orV {a b : ME} {P : D → Sto → Prop} : (mOrV a b env st).Ok P ↔ (a env st).Ok fun d s => ∃ k, truS' s d = some k ∧ (k = true → P d s) ∧ (k = false → (b env s).Ok P) := by
  unfold mOrV
  rw [ok_bind]
  constructor
  · intro h
    refine h.mono fun d s q => ?_
    cases e : truS' s d with
    | none => rw [e] at q; exact q.elim
    | some k =>
      rw [e] at q
      cases k with
      | true => exact ⟨true, rfl, fun _ => q, fun z => nomatch z⟩
      | false => exact ⟨false, rfl, (fun z => nomatch z), fun _ => q⟩
  · intro h
    refine h.mono fun d s ⟨k, e, q1, q2⟩ => ?_
    rw [e]
    cases k with
    | true => exact q1 rfl
    | false => exact q2 rfl
@[simp] theorem ok_notV {a : ME} {P : D → Sto → Prop} : (mNotV a env st).Ok P ↔ (a env st).Ok fun d s => ∃ k, truS' s d = some k ∧ P (.v (.bool (!k))) s := by
  unfold mNotV
  rw [ok_bind]
  constructor
  · intro h
    refine h.mono fun d s q => ?_
    split at q
    · rename_i k e
      exact ⟨k, e, q⟩
    · exact q.elim
  · intro h
    refine h.mono fun d s ⟨k, e, q⟩ => ?_
    rw [e]
    exact q
@[simp] theorem ok_iteE {t : MT} {a b : ME} {P : D → Sto → Prop} : (mIte t a b env st).Ok P ↔ (t env st).Ok fun k s => (k = true → (a env s).Ok P) ∧ (k = false → (b env s).Ok P) := by
  unfold mIte
  simp only [ok_bind, ok_ite]
@[simp] theorem ok_frz {m : MF} {P : D → Sto → Prop} : (mFrz m env st).Ok P ↔ (m env st).Ok fun zs s => P (.v (.list zs)) s := by
  unfold mFrz
  simp only [ok_bind, ok_ok]
@[simp] theorem ok_new {m : MF} {P : D → Sto → Prop} : (mNew m env st).Ok P ↔ (m env st).Ok fun zs s => P (.ref s.length) (s ++ [.lst zs]) := by
  unfold mNew
  simp only [ok_bind, ok_ok]
@[simp] theorem ok_mfArg {f : GA} {m : MA} {P : List PyData → Sto → Prop} : (mfArg f m env st).Ok P ↔ (m env st).Ok fun ds s => (f ds s).Ok P := ok_bind
@[simp] theorem ok_mfBin {f : D → D → Sto → Out (List PyData)} {a b : ME} {P : List PyData → Sto → Prop} : (mfBin f a b env st).Ok P ↔ (a env st).Ok fun x s => (b env s).Ok fun y s2 => (f x y s2).Ok P := by
  unfold mfBin
  simp only [ok_bind]
@[simp] theorem ok_lc {mi : MI} {g : MG} {t : MT} {m : ME} {own : List Nat} {P : List PyData → Sto → Prop} : (mLc mi g t m own env st).Ok P ↔ (mi env st).Ok fun r s => (lcL r.2 g t m (wipeE env own) r.1 s).Ok P := ok_bind
@[simp] theorem ok_M {f : FM} {o : ME} {m : MA} {P : D → Sto → Prop} : (mM f o m env st).Ok P ↔ (o env st).Ok fun x s => isL s x = true ∧ (m env s).Ok fun ds s2 => (f x ds s2).Ok P := by
  unfold mM
  rw [ok_bind]
  constructor
  · intro h
    refine h.mono fun d s q => ?_
    split at q
    · rename_i e
      exact ⟨e, ok_bind.mp q⟩
    · exact q.elim
  · intro h
    refine h.mono fun d s ⟨e, q⟩ => ?_
    rw [if_pos e]
    exact ok_bind.mpr q
@[simp] theorem ok_M0 {f : FM} {o : ME} {P : D → Sto → Prop} : (mM0 f o env st).Ok P ↔ (o env st).Ok fun x s => isL s x = true ∧ (f x [] s).Ok P := by
  unfold mM0
  rw [ok_bind]
  constructor
  · intro h
    refine h.mono fun d s q => ?_
    split at q
    · rename_i e
      exact ⟨e, q⟩
    · exact q.elim
  · intro h
    refine h.mono fun d s ⟨e, q⟩ => ?_
    rw [if_pos e]
    exact q
@[simp] theorem ok_moNone {P : Option Int → Sto → Prop} : (moNone env st).Ok P ↔ P none st := Iff.rfl
@[simp] theorem ok_moSome {m : ME} {P : Option Int → Sto → Prop} : (moSome m env st).Ok P ↔ (m env st).Ok fun d s => ∃ i, iOf d = some i ∧ P (some i) s := by
  unfold moSome
  rw [ok_bind]
  constructor
  · intro h
    refine h.mono fun d s q => ?_
    split at q
    · rename_i k e
      exact ⟨k, e, q⟩
    · exact q.elim
  · intro h
    refine h.mono fun d s ⟨k, e, q⟩ => ?_
    rw [e]
    exact q
@[simp] theorem ok_Sl {m : ME} {lo hi : MO} {P : D → Sto → Prop} : (mSl m lo hi env st).Ok P ↔ (m env st).Ok fun a s => (lo env s).Ok fun l s2 => (hi env s2).Ok fun h s3 => (slD a l h s3).Ok P := by
  unfold mSl
  simp only [ok_bind]
end
/-- a list's making, turn by turn -/
theorem lcL_inv {w : Wt} {g : MG} {t : MT} {m : ME} {env0 : Ev} {P : List PyData → Sto → Prop} (I : Nat → List PyData → Sto → Prop) : ∀ (ds : List Itm) (st : Sto) (n : Nat) (acc : List PyData),
    (∀ i d acc s, ds[i]? = some d → I (n + i) acc s → chk w s ∧ (g d env0 s).Ok fun e1 s1 => (t e1 s1).Ok fun k s2 => (k = true → (m e1 s2).Ok fun v s3 => ∃ z, v = .v z ∧ I (n + i + 1) (acc ++ [z]) s3) ∧ (k = false → I (n + i + 1) acc s2)) →
    (∀ acc s, I (n + ds.length) acc s → chk w s ∧ P acc s) → I n acc st → (lcL w g t m env0 ds st).Ok fun zs s => P (acc ++ zs) s
  | [], st, n, acc, _, hE, h => by
    obtain ⟨hc, q⟩ := hE acc st h
    unfold lcL
    rw [if_pos hc]
    show P (acc ++ []) st
    rw [List.append_nil]
    exact q
  | d :: r, st, n, acc, hS, hE, h => by
    obtain ⟨hc, q⟩ := hS 0 d acc st rfl h
    unfold lcL
    rw [if_pos hc]
    rw [ok_bind, ok_noX]
    refine q.mono fun e1 s1 q => ?_
    rw [ok_bind, ok_noX]
    refine q.mono fun k s2 q => ?_
    have rest : ∀ acc' s', I (n + 0 + 1) acc' s' → (lcL w g t m env0 r s').Ok fun zs s => P (acc' ++ zs) s := fun acc' s' h' =>
      lcL_inv I r s' (n + 1) acc' (fun i d acc s hd hi => by
        have z := hS (i + 1) d acc s hd (by rw [show n + (i + 1) = n + 1 + i by omega]; exact hi)
        rw [show n + (i + 1) = n + 1 + i by omega] at z
        exact z) (fun acc s hi => hE acc s (by rw [List.length_cons, show n + (r.length + 1) = n + 1 + r.length by omega]; exact hi)) h'
    cases k with
    | true =>
      rw [if_pos rfl, ok_bind, ok_noX]
      refine (q.1 rfl).mono fun v s3 ⟨z, e, hi⟩ => ?_
      subst e
      show (Out.bind _ _).Ok _
      rw [ok_bind]
      refine (rest _ _ hi).mono fun zs s q => ?_
      show P (acc ++ z :: zs) s
      rw [List.append_assoc] at q
      exact q
    | false =>
      rw [if_neg Bool.false_ne_true]
      exact rest _ _ (q.2 rfl)
/-- the same for each: a list by a plain function, with what is left out -/
theorem lcL_map {g : MG} {t : MT} {m : ME} {env0 : Ev} {st : Sto} (F : Itm → Option PyData) : ∀ (ds : List Itm),
    (∀ d ∈ ds, (g d env0 st).Ok fun e1 s1 => s1 = st ∧ (t e1 st).Ok fun k s2 => s2 = st ∧ (k = true → (m e1 st).Ok fun v s3 => s3 = st ∧ ∃ z, v = .v z ∧ F d = some z) ∧ (k = false → F d = none)) →
    lcL none g t m env0 ds st = .ok (ds.filterMap F) st
  | [], _ => by
    unfold lcL
    rw [if_pos (show chk none st from trivial)]
    rfl
  | d :: r, h => by
    have ih := lcL_map F r fun d hd => h d (List.mem_cons_of_mem _ hd)
    obtain ⟨e1, s1, eg, rfl, q⟩ := (h d List.mem_cons_self).eq
    obtain ⟨k, s2, et, rfl, q1, q2⟩ := q.eq
    unfold lcL
    rw [if_pos (show chk none s2 from trivial), eg, noX_ok, bind_ok, et, noX_ok, bind_ok]
    cases k with
    | true =>
      obtain ⟨v, s3, em, rfl, z, rfl, ez⟩ := (q1 rfl).eq
      rw [if_pos rfl, em, noX_ok, bind_ok]
      show (lcL none g t m env0 r s3).bind _ = _
      rw [ih, bind_ok, List.filterMap_cons, ez]
    | false =>
      rw [if_neg Bool.false_ne_true, ih, List.filterMap_cons, q2 rfl]

/-- of some values -/
def P1i (ds : List D) (f : Int → Prop) : Prop := match ds with
  | [.v (.int j)] => f j
  | _ => False
def P2 (ds : List D) (f : D → D → Prop) : Prop := match ds with
  | [a, b] => f a b
  | _ => False
def P3' (ds : List D) (f : D → D → D → Prop) : Prop := match ds with
  | [a, b, c] => f a b c
  | _ => False
@[simp] theorem p1i_int {j : Int} {f : Int → Prop} : P1i [.v (.int j)] f ↔ f j := Iff.rfl
@[simp] theorem p2_two {a b : D} {f : D → D → Prop} : P2 [a, b] f ↔ f a b := Iff.rfl
@[simp] theorem p3_three {a b c : D} {f : D → D → D → Prop} : P3' [a, b, c] f ↔ f a b c := Iff.rfl

/-! ### statements -/
def SO.Ok (x : SO) (N : Ev → Sto → Prop) (T : D → Sto → Prop) : Prop := match x with
  | .nx e s => N e s
  | .rt d s => T d s
  | _ => False
theorem SO.Ok.mono {x : SO} {N N' : Ev → Sto → Prop} {T T' : D → Sto → Prop} (h : x.Ok N T) (hN : ∀ e s, N e s → N' e s) (hT : ∀ d s, T d s → T' d s) : x.Ok N' T' := by
  cases x with
  | nx e s => exact hN e s h
  | rt d s => exact hT d s h
  | _ => exact h
theorem so_congr {x y : SO} {N : Ev → Sto → Prop} {T : D → Sto → Prop} (h : x = y) : x.Ok N T = y.Ok N T := by rw [h]
/-- by way of -/
theorem so_to {x : SO} {N : Ev → Sto → Prop} {T : D → Sto → Prop} (M : Ev → Sto → Prop) (h : x.Ok M T) (k : ∀ e s, M e s → N e s) : x.Ok N T := h.mono k fun _ _ z => z
/-- in two parts -/
theorem so_cut {a b : MS} {env : Ev} {st : Sto} {N : Ev → Sto → Prop} {T : D → Sto → Prop} (M : Ev → Sto → Prop) (h : (a env st).Ok M T) (k : ∀ e s, M e s → (b e s).Ok N T) : (sSeq a b env st).Ok N T := by
  unfold sSeq
  cases e : a env st with
  | nx e1 s => rw [e] at h; exact k e1 s h
  | rt d s => rw [e] at h; exact h
  | _ => rw [e] at h; exact h.elim
section
variable {N : Ev → Sto → Prop} {T : D → Sto → Prop} {env : Ev} {st : Sto}
theorem so_thn {α : Type} {x : Out α} {f : α → Sto → SO} : (x.thn f).Ok N T ↔ x.Ok fun a s => (f a s).Ok N T := by cases x <;> exact Iff.rfl
@[simp] theorem so_nx {e : Ev} {s : Sto} : (SO.nx e s).Ok N T ↔ N e s := Iff.rfl
@[simp] theorem so_rt {d : D} {s : Sto} : (SO.rt d s).Ok N T ↔ T d s := Iff.rfl
@[simp] theorem so_seq {a b : MS} : (sSeq a b env st).Ok N T ↔ (a env st).Ok (fun e s => (b e s).Ok N T) T := by
  unfold sSeq
  cases a env st <;> exact Iff.rfl
@[simp] theorem so_nil : (sNil env st).Ok N T ↔ N env st := Iff.rfl
@[simp] theorem so_ret {m : ME} : (sRet m env st).Ok N T ↔ (m env st).Ok T := by
  unfold sRet
  rw [so_thn]
  exact Iff.rfl
@[simp] theorem so_retN : (sRetN env st).Ok N T ↔ T (.v .none) st := Iff.rfl
@[simp] theorem so_exp {m : ME} : (sExp m env st).Ok N T ↔ (m env st).Ok fun _ s => N env s := by
  unfold sExp
  rw [so_thn]
  exact Iff.rfl
theorem so_ite {c : Bool} {x y : SO} : (if c = true then x else y).Ok N T ↔ (c = true → x.Ok N T) ∧ (c = false → y.Ok N T) := by cases c <;> simp
@[simp] theorem so_if {t : MT} {a b : MS} : (sIf t a b env st).Ok N T ↔ (t env st).Ok fun k s => (k = true → (a env s).Ok N T) ∧ (k = false → (b env s).Ok N T) := by
  unfold sIf
  simp only [so_thn, so_ite]
@[simp] theorem so_asg {m : ME} {i : Nat} : (sAsg m (gNm i) env st).Ok N T ↔ (m env st).Ok fun d s => N (env.set i (some d)) s := by
  unfold sAsg
  simp only [so_thn]
  exact Iff.rfl
@[simp] theorem so_asgG {m : ME} {n : Nat} {gs : MGs} : (sAsg m (gTp n gs) env st).Ok N T ↔ (m env st).Ok fun d s => (gTp n gs (.one d) env s).Ok fun e1 s1 => N e1 s1 := by
  unfold sAsg
  simp only [so_thn]
  exact Iff.rfl
@[simp] theorem so_par2 {i j : Nat} {m : MA} : (sPar2 i j m env st).Ok N T ↔ (m env st).Ok fun ds s => P2 ds fun a b => N ((env.set i (some a)).set j (some b)) s := by
  unfold sPar2
  rw [so_thn]
  constructor
  · intro h
    refine h.mono fun ds s q => ?_
    split at q
    · exact q
    · exact q.elim
  · intro h
    refine h.mono fun ds s q => ?_
    unfold P2 at q
    split at q
    · exact q
    · exact q.elim
@[simp] theorem so_par3 {i j l : Nat} {m : MA} : (sPar3 i j l m env st).Ok N T ↔ (m env st).Ok fun ds s => P3' ds fun a b c => N (((env.set i (some a)).set j (some b)).set l (some c)) s := by
  unfold sPar3
  rw [so_thn]
  constructor
  · intro h
    refine h.mono fun ds s q => ?_
    split at q
    · exact q
    · exact q.elim
  · intro h
    refine h.mono fun ds s q => ?_
    unfold P3' at q
    split at q
    · exact q
    · exact q.elim
@[simp] theorem so_asgT {n : Nat} {m : MA} {gs : MGs} : (sAsgT n m gs env st).Ok N T ↔ (m env st).Ok fun ds s => (ds.length = n ∧ n ≤ 1000) ∧ (gs ds env s).Ok fun e1 s1 => N e1 s1 := by
  unfold sAsgT
  rw [so_thn]
  constructor
  · intro h
    refine h.mono fun ds s q => ?_
    split at q
    · rename_i e
      exact ⟨e, so_thn.mp q⟩
    · exact q.elim
  · intro h
    refine h.mono fun ds s ⟨e, q⟩ => ?_
    rw [if_pos e]
    exact so_thn.mpr q
@[simp] theorem so_sub {m o i : ME} : (sSub m o i env st).Ok N T ↔ (m env st).Ok fun d s1 => (o env s1).Ok fun x s2 => (i env s2).Ok fun y s3 => (setU x y d s3).Ok fun _ s4 => N env s4 := by
  unfold sSub
  simp only [so_thn]
  exact Iff.rfl
@[simp] theorem so_for {mi : MI} {g : MG} {b : MS} : (sFor mi g b env st).Ok N T ↔ (mi env st).Ok fun r s => (forL r.2 g b r.1 env s).Ok N T := by
  unfold sFor
  rw [so_thn]
end
/-- a for loop, turn by turn (no break) -/
theorem forL_inv {w : Wt} {g : MG} {b : MS} {N : Ev → Sto → Prop} {T : D → Sto → Prop} (I : Nat → Ev → Sto → Prop) : ∀ (ds : List Itm) (env : Ev) (st : Sto) (n : Nat),
    (∀ i d e s, ds[i]? = some d → I (n + i) e s → chk w s ∧ (g d e s).Ok fun e1 s1 => (b e1 s1).Ok (fun e2 s2 => I (n + i + 1) e2 s2) T) → (∀ e s, I (n + ds.length) e s → chk w s ∧ N e s) → I n env st → (forL w g b ds env st).Ok N T
  | [], env, st, n, _, hE, h => by
    obtain ⟨hc, q⟩ := hE env st h
    unfold forL
    rw [if_pos hc]
    exact q
  | d :: r, env, st, n, hS, hE, h => by
    obtain ⟨hc, q⟩ := hS 0 d env st rfl h
    unfold forL
    rw [if_pos hc, so_thn]
    refine q.mono fun e1 s1 q => ?_
    cases eb : b e1 s1 with
    | nx e2 s2 =>
      rw [eb] at q
      refine forL_inv I r e2 s2 (n + 1) (fun i d e s hd hi => ?_) (fun e s hi => hE e s (by rw [List.length_cons, show n + (r.length + 1) = n + 1 + r.length by omega]; exact hi)) q
      have z := hS (i + 1) d e s hd (by rw [show n + (i + 1) = n + 1 + i by omega]; exact hi)
      rw [show n + (i + 1) = n + 1 + i by omega] at z
      exact z
    | rt d2 s2 => rw [eb] at q; exact q
    | _ => rw [eb] at q; exact q.elim
/-- a while loop by a measure -/
theorem whileL_inv {t : MT} {b : MS} {N : Ev → Sto → Prop} {T : D → Sto → Prop} (I : Nat → Ev → Sto → Prop)
    (hS : ∀ k e s, I k e s → (t e s).Ok fun c s1 => (c = true → (b e s1).Ok (fun e2 s2 => ∃ j, j < k ∧ I j e2 s2) T) ∧ (c = false → N e s1)) : ∀ (n k : Nat) (env : Ev) (st : Sto), k < n → I k env st → (whileL t b n env st).Ok N T
  | 0, k, env, st, hk, _ => absurd hk (Nat.not_lt_zero _)
  | n + 1, k, env, st, hk, h => by
    unfold whileL
    rw [so_thn]
    refine (hS k env st h).mono fun c s1 q => ?_
    cases c with
    | false => exact q.2 rfl
    | true =>
      rw [if_pos rfl]
      have q := q.1 rfl
      cases eb : b env s1 with
      | nx e2 s2 =>
        rw [eb] at q
        obtain ⟨j, hj, hi⟩ := q
        exact whileL_inv I hS n j e2 s2 (by omega) hi
      | rt d2 s2 => rw [eb] at q; exact q
      | _ => rw [eb] at q; exact q.elim
/-- a def's end -/
theorem fnT_ok {nN : Nat} {m : MS} {ds : List D} {st : Sto} {P : D → Sto → Prop} (h : (m (envE nN ds) st).Ok (fun _ s => P (.v .none) (s.take st.length)) (fun d s => d.low st.length = true ∧ P d (s.take st.length))) : (fnT nN m ds st).Ok P := by
  unfold fnT
  cases e : m (envE nN ds) st with
  | nx e1 s => rw [e] at h; exact h
  | rt d s =>
    rw [e] at h
    show (if d.low st.length then Out.ok d (s.take st.length) else .stuck).Ok P
    rw [if_pos h.1]
    exact h.2
  | _ => rw [e] at h; exact h.elim
theorem fnK_ok {nN : Nat} {m : MS} {ds : List D} {st : Sto} {P : D → Sto → Prop} (h : (m (envE nN ds) st).Ok (fun _ s => P (.v .none) s) (fun d s => P d s)) : (fnK nN m ds st).Ok P := by
  unfold fnK
  cases e : m (envE nN ds) st with
  | nx e1 s => rw [e] at h; exact h
  | rt d s => rw [e] at h; exact h
  | _ => rw [e] at h; exact h.elim
theorem Out.Ok.is {α : Type} {x : Out α} {a : α} {s : Sto} (h : x.Ok fun b t => b = a ∧ t = s) : x = .ok a s := by
  obtain ⟨b, t, e, rfl, rfl⟩ := h.eq
  exact e

/-! ### the readings at plain values -/
section
variable {i j : Int} {a b : Bool} {st : Sto} {xs ys : List PyData} {d : PyData} {x y : Str}
theorem iOf_eq {a : D} {k : Int} (h : iOf a = some k) : a = .v (.int k) := by
  cases a with
  | v z =>
    cases z with
    | int j => cases h; rfl
    | _ => cases h
  | _ => cases h
@[simp] theorem iOf_int : iOf (.v (.int i)) = some i := rfl
@[simp] theorem addD_int : addD (.v (.int i)) (.v (.int j)) st = .ok (.v (.int (i + j))) st := rfl
@[simp] theorem subD_int : subD (.v (.int i)) (.v (.int j)) st = .ok (.v (.int (i - j))) st := rfl
@[simp] theorem negD_int : negD (.v (.int i)) st = .ok (.v (.int (-i))) st := rfl
@[simp] theorem ltD_int : ltD (.v (.int i)) (.v (.int j)) st = .ok (.v (.bool (decide (i < j)))) st := rfl
@[simp] theorem leD_int : leD (.v (.int i)) (.v (.int j)) st = .ok (.v (.bool (decide (i ≤ j)))) st := rfl
@[simp] theorem gtD_int : gtD (.v (.int i)) (.v (.int j)) st = .ok (.v (.bool (decide (i > j)))) st := rfl
@[simp] theorem geD_int : geD (.v (.int i)) (.v (.int j)) st = .ok (.v (.bool (decide (i ≥ j)))) st := rfl
theorem mulD_int (h : cMul i j = true) : mulD (.v (.int i)) (.v (.int j)) st = .ok (.v (.int (i * j))) st := by
  show (if cMul i j then _ else _) = _
  rw [if_pos h]
theorem mulD_r (h : -(2 ^ 64) < j ∧ j < 2 ^ 64) : mulD (.v (.int i)) (.v (.int j)) st = .ok (.v (.int (i * j))) st := mulD_int (by
  unfold cMul
  simp only [Bool.or_eq_true, Bool.and_eq_true, decide_eq_true_eq]
  exact .inr h)
theorem mulD_l (h : -(2 ^ 64) < i ∧ i < 2 ^ 64) : mulD (.v (.int i)) (.v (.int j)) st = .ok (.v (.int (i * j))) st := mulD_int (by
  unfold cMul
  simp only [Bool.or_eq_true, Bool.and_eq_true, decide_eq_true_eq]
  exact .inl h)
theorem fdivD_int (h : 0 < j) (h2 : j < 1073741824) : fdivD (.v (.int i)) (.v (.int j)) st = .ok (.v (.int (i / j))) st := by
  show (if cDiv i j then _ else _) = _
  have e : cDiv i j = true := by
    unfold cDiv
    simp only [Bool.and_eq_true, decide_eq_true_eq]
    exact ⟨by omega, by omega⟩
  rw [if_pos e]
  show Out.ok (D.v (.int (i.fdiv j))) st = _
  rw [Int.fdiv_eq_ediv_of_nonneg _ (by omega)]
theorem modD_int (h : 0 < j) : modD (.v (.int i)) (.v (.int j)) st = .ok (.v (.int (i % j))) st := by
  show (if decide (j ≠ 0) then _ else _) = _
  rw [if_pos (decide_eq_true (by omega))]
  show Out.ok (D.v (.int (i.fmod j))) st = _
  rw [Int.fmod_eq_emod_of_nonneg _ (by omega)]
@[simp] theorem isD_bool : isD (.v (.bool a)) (.v (.bool b)) st = .ok (.v (.bool (decide (a = b)))) st := rfl
@[simp] theorem isNotD_bool : isNotD (.v (.bool a)) (.v (.bool b)) st = .ok (.v (.bool (!decide (a = b)))) st := rfl
@[simp] theorem tru_bool : truS' st (.v (.bool b)) = some b := rfl
@[simp] theorem tru_int : truS' st (.v (.int i)) = some (i != 0) := rfl
@[simp] theorem fInt_int : fInt [.v (.int i)] st = .ok (.v (.int i)) st := rfl
theorem fAbs_int : fAbs [.v (.int i)] st = .ok (.v (.int i.natAbs)) st := by
  show Out.ok (D.v (.int (if i < 0 then -i else i))) st = _
  congr 3
  split <;> omega
@[simp] theorem bMin_int : f2I intMin [.v (.int i), .v (.int j)] st = .ok (.v (.int (min i j))) st := by
  show Out.ok (D.v (.int (intMin i j))) st = _
  congr 3
  unfold intMin
  split <;> omega
@[simp] theorem bMax_int : f2I intMax [.v (.int i), .v (.int j)] st = .ok (.v (.int (max i j))) st := by
  show Out.ok (D.v (.int (intMax i j))) st = _
  congr 3
  unfold intMax
  split <;> omega
@[simp] theorem len_list : fLen [.v (.list xs)] st = .ok (.v (.int xs.length)) st := rfl
@[simp] theorem len_tup : fLen [.v (.tuple xs)] st = .ok (.v (.int xs.length)) st := rfl
theorem len_of {a : D} (h : viewS st a = some xs) : fLen [a] st = .ok (.v (.int xs.length)) st := by
  show (match viewS st a with
    | some xs => _
    | none => _) = _
  rw [h]
theorem list_of {a : D} (h : viewS st a = some xs) : gList [a] st = .ok xs st := by
  show (match viewS st a with
    | some xs => _
    | none => _) = _
  rw [h]
@[simp] theorem viewS_list : viewS st (.v (.list xs)) = some xs := rfl
@[simp] theorem viewS_tup : viewS st (.v (.tuple xs)) = some xs := rfl
@[simp] theorem list_list : gList [.v (.list xs)] st = .ok xs st := rfl
@[simp] theorem list_tup : gList [.v (.tuple xs)] st = .ok xs st := rfl
@[simp] theorem tup_list : fTuple [.v (.list xs)] st = .ok (.v (.tuple xs)) st := rfl
@[simp] theorem tup_tup : fTuple [.v (.tuple xs)] st = .ok (.v (.tuple xs)) st := rfl
theorem viewS_ref {n : Nat} (h : st[n]? = some (.lst xs)) : viewS st (.ref n) = some xs := by
  show (match st[n]? with
    | some (.lst xs) => some xs
    | _ => none) = _
  rw [h]
theorem isL_ref {n : Nat} (h : st[n]? = some (.lst xs)) : isL st (.ref n) = true := by
  show (match st[n]? with
    | some (.lst xs) => some xs
    | _ => none).isSome = _
  rw [h]
  rfl
theorem lAt_ref {n : Nat} (h : st[n]? = some (.lst xs)) : lAt st (.ref n) = some (n, xs) := by
  show (match st[n]? with
    | some (.lst zs) => some (n, zs)
    | _ => none) = _
  rw [h]
theorem tup_of {n : Nat} (h : st[n]? = some (.lst xs)) : fTuple [.ref n] st = .ok (.v (.tuple xs)) st := by
  show (match viewL st (.ref n) with
    | some xs => _
    | none => _) = _
  have e : viewL st (.ref n) = some xs := viewS_ref h
  rw [e]
theorem seqIndex_nat {n k : Nat} (h : k < n) : seqIndex? (k : Int) n = some k := by
  unfold seqIndex?
  have h1 : ¬ (k : Int) < 0 := by omega
  simp only [if_neg h1]
  rw [if_pos (by simp; omega)]
  simp
theorem atI_nat {α : Type} {xs : List α} {k : Nat} : atI xs (k : Int) = xs[k]? := by
  unfold atI ixN
  rw [if_pos (by omega)]
  by_cases h : k < xs.length
  · rw [if_pos (by omega)]
    simp
  · rw [if_neg (by omega), List.getElem?_eq_none (by omega)]
    rfl
theorem pop_at {n k : Nat} (h : st[n]? = some (.lst xs)) (hk : k < xs.length) (hl : xs.length ≤ 1000000) : fmPopAt (.ref n) [.v (.int k)] st = .ok (.v xs[k]) (st.set n (.lst (xs.eraseIdx k))) := by
  unfold fmPopAt
  rw [lAt_ref h]
  show (if -1000000 ≤ (k : Int) ∧ (k : Int) ≤ 1000000 then _ else _) = _
  rw [if_pos (by omega), seqIndex_nat hk]
  show (match xs[k]? with
    | some d => _
    | none => _) = _
  rw [List.getElem?_eq_getElem hk]
theorem append_at {n : Nat} (h : st[n]? = some (.lst xs)) (hl : xs.length < 1000000) : fmAppend (.ref n) [.v d] st = .ok (.v .none) (st.set n (.lst (xs ++ [d]))) := by
  unfold fmAppend
  rw [lAt_ref h]
  show (if xs.length < lim then _ else _) = _
  rw [if_pos (show xs.length < lim from hl)]
/-- xs[k] of a list or a tuple, k a place -/
theorem sub_of {a : D} {k : Nat} (hv : viewK st a = none) (h : viewS st a = some xs) (hk : xs[k]? = some d) : subsD a (.v (.int k)) st = .ok (.v d) st := by
  unfold subsD
  rw [hv]
  show ixD a _ st = _
  unfold ixD
  rw [h]
  show (match atI xs (k : Int) with
    | some d => _
    | none => _) = _
  rw [atI_nat, hk]
theorem sub_list {k : Nat} (hk : xs[k]? = some d) : subsD (.v (.list xs)) (.v (.int k)) st = .ok (.v d) st := sub_of rfl rfl hk
theorem sub_tup {k : Nat} (hk : xs[k]? = some d) : subsD (.v (.tuple xs)) (.v (.int k)) st = .ok (.v d) st := sub_of rfl rfl hk
theorem sub_ref {n k : Nat} (h : st[n]? = some (.lst xs)) (hk : xs[k]? = some d) : subsD (.ref n) (.v (.int k)) st = .ok (.v d) st := sub_of (by
  show (match st[n]? with
    | some (.dct t kvs) => some (t, kvs)
    | some (.lck t kvs) => some (t, kvs)
    | _ => none) = _
  rw [h]) (viewS_ref h) hk
theorem set_ref {n k : Nat} (h : st[n]? = some (.lst xs)) (hk : k < xs.length) : setU (.ref n) (.v (.int k)) (.v d) st = .ok () (st.set n (.lst (xs.set k d))) := by
  unfold setU
  rw [lAt_ref h]
  show (match ixN xs.length (k : Int) with
    | some j => _
    | none => _) = _
  have e : ixN xs.length (k : Int) = some k := by
    unfold ixN
    rw [if_pos (by omega), if_pos (by omega)]
    simp
  rw [e]
end
/-! ### walks -/
section
variable {m : MA} {me : ME} {env : Ev} {st : Sto} {P : List Itm × Wt → Sto → Prop} {xs ys : List PyData}
theorem ok_R1 : (miR1 m env st).Ok P ↔ (m env st).Ok fun ds s => P1i ds fun j => (-1000000 ≤ j ∧ j ≤ 1000000) ∧ P (rngI 0 j.toNat, none) s := by
  unfold miR1
  rw [ok_bind]
  constructor
  · intro h
    refine h.mono fun ds s q => ?_
    split at q
    · split at q
      · rename_i j e
        split at q
        · rename_i hb
          have ed := (iOf_eq e)
          subst ed
          exact ⟨hb, q⟩
        · exact q.elim
      · exact q.elim
    · exact q.elim
  · intro h
    refine h.mono fun ds s q => ?_
    unfold P1i at q
    split at q
    · rename_i j
      show (if -1000000 ≤ j ∧ j ≤ 1000000 then Out.ok (rngI 0 j.toNat, none) s else .stuck).Ok P
      rw [if_pos q.1]
      exact q.2
    · exact q.elim
def seqW (d : D) (s1 : Sto) : Out (List Itm × Wt) := match d with
  | .scr ns => .ok (ns.map fun n => .one (.v (.int n)), none) s1
  | d => match seqI s1 d with
    | some (zs, w) => .ok (zs.map fun z => .one (.v z), w) s1
    | none => .stuck
theorem ok_seq : (miSeq me env st).Ok P ↔ (me env st).Ok fun d s => (seqW d s).Ok P := ok_bind
@[simp] theorem seqW_list : seqW (.v (.list xs)) st = .ok (xs.map fun z => .one (.v z), none) st := rfl
@[simp] theorem seqW_tup : seqW (.v (.tuple xs)) st = .ok (xs.map fun z => .one (.v z), none) st := rfl
@[simp] theorem seqW_scr {ns : List Int} : seqW (.scr ns) st = .ok (ns.map fun n => .one (.v (.int n)), none) st := rfl
theorem seqW_ref {n : Nat} (h : st[n]? = some (.lst xs)) : seqW (.ref n) st = .ok (xs.map fun z => .one (.v z), some (n, xs)) st := by
  show (match seqI st (.ref n) with
    | some (zs, w) => _
    | none => _) = _
  unfold seqI
  rw [lAt_ref h]
@[simp] theorem ok_gMore {g : MG} {r : MGs} {d : D} {t : List D} {P : Ev → Sto → Prop} : (gMore g r (d :: t) env st).Ok P ↔ (g (.one d) env st).Ok fun e1 s1 => (r t e1 s1).Ok P := ok_bind
@[simp] theorem ok_gNone {P : Ev → Sto → Prop} : (gNone [] env st).Ok P ↔ P env st := Iff.rfl
@[simp] theorem ok_gNm {i : Nat} {d : D} {P : Ev → Sto → Prop} : (gNm i (.one d) env st).Ok P ↔ P (env.set i (some d)) st := Iff.rfl
end
end Fw

namespace Fw
open PySem PySem.Spec PyProof.Rows L2

/-! ### what the laws draw from: a script's cells as a stack, and a running number -/
structure Src where
  stk : List Int
  left : Int
  mixed : Int
  turn : Int
def Src.o (s : Src) : O := .dct false [(.str "cells", .ref 0), (.str "left", .v (.int s.left)), (.str "mixed", .v (.int s.mixed)), (.str "turn", .v (.int s.turn))]
def Src.sto (s : Src) (rest : Sto) : Sto := .lst (s.stk.reverse.map .int) :: s.o :: rest
section
variable {s : Src} {rest : Sto} {x : Int}
@[simp] theorem src_cells : subsD (.ref 1) (.v (.str "cells")) (s.sto rest) = .ok (.ref 0) (s.sto rest) := by rfl
@[simp] theorem src_left : subsD (.ref 1) (.v (.str "left")) (s.sto rest) = .ok (.v (.int s.left)) (s.sto rest) := by rfl
@[simp] theorem src_mixed : subsD (.ref 1) (.v (.str "mixed")) (s.sto rest) = .ok (.v (.int s.mixed)) (s.sto rest) := by rfl
@[simp] theorem src_turn : subsD (.ref 1) (.v (.str "turn")) (s.sto rest) = .ok (.v (.int s.turn)) (s.sto rest) := by rfl
@[simp] theorem set_left : setU (.ref 1) (.v (.str "left")) (.v (.int x)) (s.sto rest) = .ok () (({ s with left := x } : Src).sto rest) := by rfl
@[simp] theorem set_mixed : setU (.ref 1) (.v (.str "mixed")) (.v (.int x)) (s.sto rest) = .ok () (({ s with mixed := x } : Src).sto rest) := by rfl
@[simp] theorem set_turn : setU (.ref 1) (.v (.str "turn")) (.v (.int x)) (s.sto rest) = .ok () (({ s with turn := x } : Src).sto rest) := by rfl
@[simp] theorem src_len : fLen [.ref 0] (s.sto rest) = .ok (.v (.int s.stk.length)) (s.sto rest) := by
  show Out.ok (D.v (.int ((s.stk.reverse.map PyData.int).length))) (s.sto rest) = _
  rw [List.length_map, List.length_reverse]
@[simp] theorem src_isL : isL (s.sto rest) (.ref 0) = true := rfl
theorem src_pop {c : Int} {r : List Int} (h : s.stk = c :: r) : fmPop (.ref 0) [] (s.sto rest) = .ok (.v (.int c)) (({ s with stk := r } : Src).sto rest) := by
  obtain ⟨k, l, m, t⟩ := s
  simp only at h
  subst h
  show fmPop (.ref 0) [] (.lst ((c :: r).reverse.map .int) :: _ :: rest) = _
  unfold fmPop
  show (match ((c :: r).reverse.map PyData.int)[((c :: r).reverse.map PyData.int).length - 1]? with
    | some d => _
    | none => _) = _
  rw [show ((c :: r).reverse.map PyData.int) = r.reverse.map PyData.int ++ [.int c] by simp]
  rw [List.length_append, List.length_singleton, Nat.add_sub_cancel, List.getElem?_append_right (Nat.le_refl _), Nat.sub_self]
  show Out.ok _ _ = _
  simp only [List.dropLast_concat]
  rfl
end
/-! ### draws -/
def Src.ok (s : Src) : Prop := s.stk.length < 1000000
/-- what a draw gives: a number below the bound (nought, if there is no such number) -/
def Pick (f : FF) : Prop := ∀ (s : Src) (rest : Sto) (m : Int), m < 1073741824 → s.ok → (f [.ref 1, .v (.int m)] (s.sto rest)).Ok fun d st => ∃ (r : Int) (s' : Src), d = .v (.int r) ∧ st = s'.sto rest ∧ s'.ok ∧ 0 ≤ r ∧ (1 ≤ m → r < m) ∧ (m ≤ 0 → r = 0)
theorem take_sto {s : Src} {s0 : Src} {rest : Sto} : (s.sto rest).take (s0.sto rest).length = s.sto rest := List.take_length (l := s.sto rest)
end Fw

namespace Fw.LA
open PySem PySem.Spec PyProof.Rows L2 Fw
noncomputable def law_pick_T1 : MT := (mAndT (mTB (mBin ltD (mBin subsD (mVar 0) (mC (.str "left"))) (mC (.int 2)))) (mTB (mBin gtD (mArg fLen (mCons (mVar 2) mNil)) (mC (.int 0)))))
noncomputable def law_pick_B1 : MS := (sSub (mM0 fmPop (mVar 2)) (mVar 0) (mC (.str "left")))
noncomputable def S_law_pick_10 : MS := (sRet (mBin modD (mArg fInt (mCons (mBin fdivD (mVar 5) (mC (.int 16))) mNil)) (mVar 1)))
noncomputable def S_law_pick_9 : MS := (sSeq (sAsg (mBin modD (mArg fInt (mCons (mBin addD (mBin mulD (mVar 5) (mVar 5)) (mBin mulD (mVar 4) (mC (.int 17)))) mNil)) (mC (.int 2147483647))) (gNm 5)) S_law_pick_10)
noncomputable def S_law_pick_8 : MS := (sSeq (sAsg (mBin modD (mArg fInt (mCons (mBin addD (mBin subsD (mVar 0) (mC (.str "mixed"))) (mBin mulD (mVar 4) (mC (.int 104729)))) mNil)) (mC (.int 998244353))) (gNm 5)) S_law_pick_9)
noncomputable def S_law_pick_7 : MS := (sSeq (sAsg (mBin subsD (mVar 0) (mC (.str "turn"))) (gNm 4)) S_law_pick_8)
noncomputable def S_law_pick_6 : MS := (sSeq (sSub (mBin addD (mBin subsD (mVar 0) (mC (.str "turn"))) (mC (.int 1))) (mVar 0) (mC (.str "turn"))) S_law_pick_7)
noncomputable def S_law_pick_5 : MS := (sSeq (sIf (mTB (mBin gtD (mVar 3) (mC (.int 1)))) (sSeq (sSub (mBin fdivD (mVar 3) (mVar 1)) (mVar 0) (mC (.str "left"))) (sRet (mBin modD (mArg fInt (mCons (mVar 3) mNil)) (mVar 1)))) sNil) S_law_pick_6)
noncomputable def S_law_pick_4 : MS := (sSeq (sAsg (mBin subsD (mVar 0) (mC (.str "left"))) (gNm 3)) S_law_pick_5)
noncomputable def S_law_pick_3 : MS := (sSeq (whileL law_pick_T1 law_pick_B1 1000000) S_law_pick_4)
noncomputable def S_law_pick_2 : MS := (sSeq (sAsg (mBin subsD (mVar 0) (mC (.str "cells"))) (gNm 2)) S_law_pick_3)
noncomputable def S_law_pick : MS := (sSeq (sIf (mTB (mBin ltD (mVar 1) (mC (.int 2)))) (sRet (mC (.int 0))) sNil) S_law_pick_2)
noncomputable def f_law_pick : FF := fnT 6 S_law_pick
noncomputable def law_open_cells_E1 : MI := (miSeq (mVar 0))
noncomputable def law_open_cells_G1 : MG := (gNm 2)
noncomputable def law_open_cells_B1 : MS := (sAsg (mBin modD (mArg fInt (mCons (mBin addD (mBin addD (mBin mulD (mVar 1) (mC (.int 69069))) (mBin mulD (mVar 2) (mC (.int 31)))) (mC (.int 5))) mNil)) (mC (.int 2147483629))) (gNm 1))
noncomputable def law_open_cells_E2 : MI := (miSeq (mVar 0))
noncomputable def law_open_cells_G2 : MG := (gNm 2)
noncomputable def law_open_cells_T1 : MT := mYes
noncomputable def law_open_cells_M1 : ME := (mArg fAbs (mCons (mVar 2) mNil))
noncomputable def S_law_open_cells_4 : MS := (sRet (mDisp [((mC (.str "cells")), (mNew (mfRev (mVar 3)))), ((mC (.str "left")), (mC (.int 1))), ((mC (.str "mixed")), (mVar 1)), ((mC (.str "turn")), (mC (.int 0)))]))
noncomputable def S_law_open_cells_3 : MS := (sSeq (sAsg (mFrz (mLc law_open_cells_E2 law_open_cells_G2 law_open_cells_T1 law_open_cells_M1 [2])) (gNm 3)) S_law_open_cells_4)
noncomputable def S_law_open_cells_2 : MS := (sSeq (sFor law_open_cells_E1 law_open_cells_G1 law_open_cells_B1) S_law_open_cells_3)
noncomputable def S_law_open_cells : MS := (sSeq (sAsg (mC (.int 11)) (gNm 1)) S_law_open_cells_2)
noncomputable def f_law_open_cells : FF := fnK 4 S_law_open_cells
noncomputable def law_any_order_E1 : MI := (miR1 (mCons (mArg fLen (mCons (mVar 2) mNil)) mNil))
noncomputable def law_any_order_G1 : MG := (gNm 3)
noncomputable def law_any_order_T1 : MT := mYes
noncomputable def law_any_order_M1 : ME := (mM fmPopAt (mVar 2) (mCons (mCall f_law_pick (mCons (mVar 0) (mCons (mArg fLen (mCons (mVar 2) mNil)) mNil)) []) mNil))
noncomputable def S_law_any_order_2 : MS := (sRet (mFrz (mLc law_any_order_E1 law_any_order_G1 law_any_order_T1 law_any_order_M1 [3])))
noncomputable def S_law_any_order : MS := (sSeq (sAsg (mNew (mfArg gList (mCons (mVar 1) mNil))) (gNm 2)) S_law_any_order_2)
noncomputable def f_law_any_order : FF := fnT 4 S_law_any_order
noncomputable def S_law_of : MS := (sRet (mBin subsD (mVar 1) (mCall f_law_pick (mCons (mVar 0) (mCons (mArg fLen (mCons (mVar 1) mNil)) mNil)) [])))
noncomputable def f_law_of : FF := fnT 2 S_law_of
noncomputable def law_source_E1 : MI := (miSeq (mVar 0))
noncomputable def law_source_G1 : MG := (gNm 2)
noncomputable def law_source_B1 : MS := (sAsg (mBin modD (mArg fInt (mCons (mBin addD (mBin addD (mBin mulD (mVar 1) (mC (.int 69069))) (mBin mulD (mVar 2) (mC (.int 31)))) (mC (.int 5))) mNil)) (mC (.int 2147483629))) (gNm 1))
noncomputable def law_source_E2 : MI := (miSeq (mVar 0))
noncomputable def law_source_G2 : MG := (gNm 2)
noncomputable def law_source_T1 : MT := mYes
noncomputable def law_source_M1 : ME := (mArg fAbs (mCons (mVar 2) mNil))
noncomputable def S_law_source_4 : MS := (sRet (mDisp [((mC (.str "cells")), (mNew (mfRev (mVar 3)))), ((mC (.str "left")), (mC (.int 1))), ((mC (.str "mixed")), (mVar 1)), ((mC (.str "turn")), (mC (.int 0)))]))
noncomputable def S_law_source_3 : MS := (sSeq (sAsg (mFrz (mLc law_source_E2 law_source_G2 law_source_T1 law_source_M1 [2])) (gNm 3)) S_law_source_4)
noncomputable def S_law_source_2 : MS := (sSeq (sFor law_source_E1 law_source_G1 law_source_B1) S_law_source_3)
noncomputable def S_law_source : MS := (sSeq (sAsg (mC (.int 11)) (gNm 1)) S_law_source_2)
noncomputable def f_law_source : FF := fnK 4 S_law_source
noncomputable def law_mixed_E1 : MI := (miR1 (mCons (mArg fLen (mCons (mVar 2) mNil)) mNil))
noncomputable def law_mixed_G1 : MG := (gNm 3)
noncomputable def law_mixed_T1 : MT := mYes
noncomputable def law_mixed_M1 : ME := (mM fmPopAt (mVar 2) (mCons (mCall f_law_pick (mCons (mVar 0) (mCons (mArg fLen (mCons (mVar 2) mNil)) mNil)) []) mNil))
noncomputable def S_law_mixed_2 : MS := (sRet (mFrz (mLc law_mixed_E1 law_mixed_G1 law_mixed_T1 law_mixed_M1 [3])))
noncomputable def S_law_mixed : MS := (sSeq (sAsg (mNew (mfArg gList (mCons (mVar 1) mNil))) (gNm 2)) S_law_mixed_2)
noncomputable def f_law_mixed : FF := fnT 4 S_law_mixed
end Fw.LA
namespace Fw.LB
open PySem PySem.Spec PyProof.Rows L2 Fw
noncomputable def law_source_E1 : MI := (miSeq (mVar 0))
noncomputable def law_source_G1 : MG := (gNm 2)
noncomputable def law_source_B1 : MS := (sAsg (mBin modD (mArg fInt (mCons (mBin addD (mBin addD (mBin mulD (mVar 1) (mC (.int 69069))) (mBin mulD (mVar 2) (mC (.int 31)))) (mC (.int 5))) mNil)) (mC (.int 2147483629))) (gNm 1))
noncomputable def law_source_E2 : MI := (miSeq (mVar 0))
noncomputable def law_source_G2 : MG := (gNm 2)
noncomputable def law_source_T1 : MT := mYes
noncomputable def law_source_M1 : ME := (mArg fAbs (mCons (mVar 2) mNil))
noncomputable def S_law_source_3 : MS := (sRet (mDisp [((mC (.str "cells")), (mNew (mfRev (mFrz (mLc law_source_E2 law_source_G2 law_source_T1 law_source_M1 [2]))))), ((mC (.str "left")), (mC (.int 1))), ((mC (.str "mixed")), (mVar 1)), ((mC (.str "turn")), (mC (.int 0)))]))
noncomputable def S_law_source_2 : MS := (sSeq (sFor law_source_E1 law_source_G1 law_source_B1) S_law_source_3)
noncomputable def S_law_source : MS := (sSeq (sAsg (mC (.int 11)) (gNm 1)) S_law_source_2)
noncomputable def f_law_source : FF := fnK 3 S_law_source
noncomputable def law_pick_T1 : MT := (mAndT (mTB (mBin gtD (mVar 1) (mC (.int 1)))) (mAndT (mTB (mBin ltD (mBin subsD (mVar 0) (mC (.str "left"))) (mC (.int 2)))) (mTB (mBin gtD (mArg fLen (mCons (mBin subsD (mVar 0) (mC (.str "cells"))) mNil)) (mC (.int 0))))))
noncomputable def law_pick_B1 : MS := (sSub (mM0 fmPop (mBin subsD (mVar 0) (mC (.str "cells")))) (mVar 0) (mC (.str "left")))
noncomputable def S_law_pick_8 : MS := (sRet (mBin modD (mArg fInt (mCons (mBin fdivD (mVar 3) (mC (.int 16))) mNil)) (mVar 1)))
noncomputable def S_law_pick_7 : MS := (sSeq (sSub (mVar 3) (mVar 0) (mC (.str "mixed"))) S_law_pick_8)
noncomputable def S_law_pick_6 : MS := (sSeq (sAsg (mBin modD (mArg fInt (mCons (mBin addD (mBin mulD (mVar 3) (mVar 3)) (mBin mulD (mBin subsD (mVar 0) (mC (.str "turn"))) (mC (.int 17)))) mNil)) (mC (.int 2147483647))) (gNm 3)) S_law_pick_7)
noncomputable def S_law_pick_5 : MS := (sSeq (sAsg (mBin modD (mArg fInt (mCons (mBin addD (mBin subsD (mVar 0) (mC (.str "mixed"))) (mBin mulD (mBin subsD (mVar 0) (mC (.str "turn"))) (mC (.int 104729)))) mNil)) (mC (.int 998244353))) (gNm 3)) S_law_pick_6)
noncomputable def S_law_pick_4 : MS := (sSeq (sSub (mBin addD (mBin subsD (mVar 0) (mC (.str "turn"))) (mC (.int 1))) (mVar 0) (mC (.str "turn"))) S_law_pick_5)
noncomputable def S_law_pick_3 : MS := (sSeq (sIf (mOrT (mTB (mBin ltD (mVar 1) (mC (.int 2)))) (mTB (mBin gtD (mVar 2) (mC (.int 1))))) (sSeq (sSub (mBin fdivD (mVar 2) (mArg (f2I intMax) (mCons (mC (.int 1)) (mCons (mVar 1) mNil)))) (mVar 0) (mC (.str "left"))) (sRet (mBin modD (mArg fInt (mCons (mVar 2) mNil)) (mArg (f2I intMax) (mCons (mC (.int 1)) (mCons (mVar 1) mNil)))))) sNil) S_law_pick_4)
noncomputable def S_law_pick_2 : MS := (sSeq (sAsg (mBin subsD (mVar 0) (mC (.str "left"))) (gNm 2)) S_law_pick_3)
noncomputable def S_law_pick : MS := (sSeq (whileL law_pick_T1 law_pick_B1 1000000) S_law_pick_2)
noncomputable def f_law_pick : FF := fnT 4 S_law_pick
noncomputable def law_mixed_E1 : MI := (miR1 (mCons (mArg fLen (mCons (mVar 2) mNil)) mNil))
noncomputable def law_mixed_G1 : MG := (gNm 3)
noncomputable def law_mixed_T1 : MT := mYes
noncomputable def law_mixed_M1 : ME := (mM fmPopAt (mVar 2) (mCons (mCall f_law_pick (mCons (mVar 0) (mCons (mArg fLen (mCons (mVar 2) mNil)) mNil)) []) mNil))
noncomputable def S_law_mixed_2 : MS := (sRet (mFrz (mLc law_mixed_E1 law_mixed_G1 law_mixed_T1 law_mixed_M1 [3])))
noncomputable def S_law_mixed : MS := (sSeq (sAsg (mNew (mfArg gList (mCons (mVar 1) mNil))) (gNm 2)) S_law_mixed_2)
noncomputable def f_law_mixed : FF := fnT 4 S_law_mixed
noncomputable def S_law_of : MS := (sRet (mBin subsD (mVar 1) (mCall f_law_pick (mCons (mVar 0) (mCons (mArg fLen (mCons (mVar 1) mNil)) mNil)) [])))
noncomputable def f_law_of : FF := fnT 2 S_law_of
end Fw.LB
namespace Fw.LC
open PySem PySem.Spec PyProof.Rows L2 Fw
noncomputable abbrev f_law_pick : FF := Fw.LA.f_law_pick
noncomputable abbrev f_law_any_order : FF := Fw.LA.f_law_any_order
noncomputable def S_do_want : MS := (sRet (mAndV (mBin inU (mVar 2) (mBin subsD (mBin subsD (mVar 0) (mC (.int 1))) (mVar 1))) (mBin inU (mVar 1) (mBin subsD (mBin subsD (mVar 0) (mC (.int 1))) (mVar 2)))))
noncomputable def f_do_want : FF := fnT 3 S_do_want
noncomputable def S_has_rather_3 : MS := (sRet (mOrV (mBin notInU (mVar 3) (mVar 4)) (mBin ltD (mIndex (mVar 4) (mCons (mVar 2) mNil)) (mIndex (mVar 4) (mCons (mVar 3) mNil)))))
noncomputable def S_has_rather_2 : MS := (sSeq (sIf (mTB (mBin notInU (mVar 2) (mVar 4))) (sRet (mAndV (mBin isD (mVar 2) (mC .none)) (mAndV (mBin isNotD (mVar 3) (mC .none)) (mBin notInU (mVar 3) (mVar 4))))) sNil) S_has_rather_3)
noncomputable def S_has_rather : MS := (sSeq (sAsg (mBin subsD (mBin subsD (mVar 0) (mC (.int 1))) (mVar 1)) (gNm 4)) S_has_rather_2)
noncomputable def f_has_rather : FF := fnT 5 S_has_rather
noncomputable def partner_of_E1 : MI := (miSeq (mVar 0))
noncomputable def partner_of_G1 : MG := (gNm 3)
noncomputable def partner_of_T1 : MT := (mTB (mBin inU (mVar 1) (mVar 3)))
noncomputable def partner_of_M1 : ME := (mBin subD (mArg fSum (mCons (mVar 3) mNil)) (mVar 1))
noncomputable def S_partner_of_2 : MS := (sRet (mIte (mTB (mBin neD (mVar 2) (mFrz (mfArg gDisp mNil)))) (mBin subsD (mVar 2) (mC (.int 0))) (mC .none)))
noncomputable def S_partner_of : MS := (sSeq (sAsg (mFrz (mLc partner_of_E1 partner_of_G1 partner_of_T1 partner_of_M1 [3])) (gNm 2)) S_partner_of_2)
noncomputable def f_partner_of : FF := fnT 4 S_partner_of
noncomputable def S_does_break : MS := (sRet (mAndV (mCall f_has_rather (mCons (mVar 0) (mCons (mVar 2) (mCons (mVar 3) (mCons (mCall f_partner_of (mCons (mVar 1) (mCons (mVar 2) mNil)) []) mNil)))) []) (mCall f_has_rather (mCons (mVar 0) (mCons (mVar 3) (mCons (mVar 2) (mCons (mCall f_partner_of (mCons (mVar 1) (mCons (mVar 3) mNil)) []) mNil)))) [])))
noncomputable def f_does_break : FF := fnT 4 S_does_break
noncomputable def breaking_pairs_E1 : MI := (miR2 (mCons (mBin addD (mVar 3) (mC (.int 1))) (mCons (mBin subsD (mVar 0) (mC (.int 0))) mNil)))
noncomputable def breaking_pairs_G1 : MG := (gNm 5)
noncomputable def breaking_pairs_T1 : MT := (mTru' (mCall f_do_want (mCons (mVar 0) (mCons (mVar 3) (mCons (mVar 5) mNil))) []))
noncomputable def breaking_pairs_M1 : ME := (mVar 5)
noncomputable def breaking_pairs_E2 : MI := (miSeq (mVar 4))
noncomputable def breaking_pairs_G2 : MG := (gNm 5)
noncomputable def breaking_pairs_T2 : MT := (mTru' (mCall f_does_break (mCons (mVar 0) (mCons (mVar 1) (mCons (mVar 3) (mCons (mVar 5) mNil)))) []))
noncomputable def breaking_pairs_M2 : ME := (mArg fTup (mCons (mVar 3) (mCons (mVar 5) mNil)))
noncomputable def breaking_pairs_B1_2 : MS := (sAsg (mFrz (mfBin gCat (mVar 2) (mFrz (mLc breaking_pairs_E2 breaking_pairs_G2 breaking_pairs_T2 breaking_pairs_M2 [5])))) (gNm 2))
noncomputable def breaking_pairs_E3 : MI := (miR1 (mCons (mBin subsD (mVar 0) (mC (.int 0))) mNil))
noncomputable def breaking_pairs_G3 : MG := (gNm 3)
noncomputable def breaking_pairs_B1 : MS := (sSeq (sAsg (mFrz (mLc breaking_pairs_E1 breaking_pairs_G1 breaking_pairs_T1 breaking_pairs_M1 [5])) (gNm 4)) breaking_pairs_B1_2)
noncomputable def S_breaking_pairs_3 : MS := (sRet (mArg fTuple (mCons (mVar 2) mNil)))
noncomputable def S_breaking_pairs_2 : MS := (sSeq (sFor breaking_pairs_E3 breaking_pairs_G3 breaking_pairs_B1) S_breaking_pairs_3)
noncomputable def S_breaking_pairs : MS := (sSeq (sAsg (mFrz (mfArg gDisp mNil)) (gNm 2)) S_breaking_pairs_2)
noncomputable def f_breaking_pairs : FF := fnT 6 S_breaking_pairs
noncomputable def settled_E1 : MI := (miSeq (mVar 1))
noncomputable def settled_G1 : MG := (gNm 4)
noncomputable def settled_T1 : MT := (mAndT (mTB (mBin notInU (mBin subsD (mVar 4) (mC (.int 0))) (mVar 2))) (mTB (mBin notInU (mBin subsD (mVar 4) (mC (.int 1))) (mVar 2))))
noncomputable def settled_M1 : ME := (mVar 4)
noncomputable def S_settled_2 : MS := (sRet (mArg fTuple (mCons (mFrz (mfArg gSort (mCons (mFrz (mfBin gCat (mVar 3) (mFrz (mfArg gDisp (mCons (mVar 2) mNil))))) mNil))) mNil)))
noncomputable def S_settled : MS := (sSeq (sAsg (mFrz (mLc settled_E1 settled_G1 settled_T1 settled_M1 [4])) (gNm 3)) S_settled_2)
noncomputable def f_settled : FF := fnT 5 S_settled
noncomputable def S_law_want : MS := (sRet (mAndV (mBin inU (mVar 2) (mBin subsD (mBin subsD (mVar 0) (mC (.int 1))) (mVar 1))) (mBin inU (mVar 1) (mBin subsD (mBin subsD (mVar 0) (mC (.int 1))) (mVar 2)))))
noncomputable def f_law_want : FF := fnT 3 S_law_want
noncomputable def S_law_place_2 : MS := (sRet (mIte (mTB (mBin isD (mVar 2) (mC .none))) (mArg fLen (mCons (mVar 3) mNil)) (mIte (mTB (mBin inU (mVar 2) (mVar 3))) (mIndex (mVar 3) (mCons (mVar 2) mNil)) (mBin addD (mArg fLen (mCons (mVar 3) mNil)) (mC (.int 1))))))
noncomputable def S_law_place : MS := (sSeq (sAsg (mBin subsD (mBin subsD (mVar 0) (mC (.int 1))) (mVar 1)) (gNm 3)) S_law_place_2)
noncomputable def f_law_place : FF := fnT 4 S_law_place
noncomputable def law_partner_E1 : MI := (miSeq (mVar 0))
noncomputable def law_partner_G1 : MG := (gNm 3)
noncomputable def law_partner_T1 : MT := (mTB (mBin inU (mVar 1) (mVar 3)))
noncomputable def law_partner_M1 : ME := (mBin subD (mBin addD (mBin subsD (mVar 3) (mC (.int 0))) (mBin subsD (mVar 3) (mC (.int 1)))) (mVar 1))
noncomputable def S_law_partner_2 : MS := (sRet (mIte (mTB (mBin neD (mVar 2) (mFrz (mfArg gDisp mNil)))) (mBin subsD (mVar 2) (mC (.int 0))) (mC .none)))
noncomputable def S_law_partner : MS := (sSeq (sAsg (mFrz (mLc law_partner_E1 law_partner_G1 law_partner_T1 law_partner_M1 [3])) (gNm 2)) S_law_partner_2)
noncomputable def f_law_partner : FF := fnT 4 S_law_partner
noncomputable def law_breaking_E1 : MI := (miR2 (mCons (mBin addD (mVar 3) (mC (.int 1))) (mCons (mBin subsD (mVar 0) (mC (.int 0))) mNil)))
noncomputable def law_breaking_G1 : MG := (gNm 4)
noncomputable def law_breaking_T1 : MT := (mTru' (mCall f_law_want (mCons (mVar 0) (mCons (mVar 3) (mCons (mVar 4) mNil))) []))
noncomputable def law_breaking_M1 : ME := (mVar 4)
noncomputable def law_breaking_B2_2 : MS := (sIf (mAndT (mTru' (mVar 5)) (mTB (mBin ltD (mCall f_law_place (mCons (mVar 0) (mCons (mVar 4) (mCons (mVar 3) mNil))) []) (mCall f_law_place (mCons (mVar 0) (mCons (mVar 4) (mCons (mCall f_law_partner (mCons (mVar 1) (mCons (mVar 4) mNil)) []) mNil))) [])))) (sExp (mM fmAppend (mVar 2) (mCons (mArg fTup (mCons (mVar 3) (mCons (mVar 4) mNil))) mNil))) sNil)
noncomputable def law_breaking_E2 : MI := (miSeq (mFrz (mLc law_breaking_E1 law_breaking_G1 law_breaking_T1 law_breaking_M1 [4])))
noncomputable def law_breaking_G2 : MG := (gNm 4)
noncomputable def law_breaking_B2 : MS := (sSeq (sAsg (mBin ltD (mCall f_law_place (mCons (mVar 0) (mCons (mVar 3) (mCons (mVar 4) mNil))) []) (mCall f_law_place (mCons (mVar 0) (mCons (mVar 3) (mCons (mCall f_law_partner (mCons (mVar 1) (mCons (mVar 3) mNil)) []) mNil))) [])) (gNm 5)) law_breaking_B2_2)
noncomputable def law_breaking_E3 : MI := (miR1 (mCons (mBin subsD (mVar 0) (mC (.int 0))) mNil))
noncomputable def law_breaking_G3 : MG := (gNm 3)
noncomputable def law_breaking_B1 : MS := (sFor law_breaking_E2 law_breaking_G2 law_breaking_B2)
noncomputable def S_law_breaking_3 : MS := (sRet (mUn frz1 (mVar 2)))
noncomputable def S_law_breaking_2 : MS := (sSeq (sFor law_breaking_E3 law_breaking_G3 law_breaking_B1) S_law_breaking_3)
noncomputable def S_law_breaking : MS := (sSeq (sAsg (mNew (mfArg gDisp mNil)) (gNm 2)) S_law_breaking_2)
noncomputable def f_law_breaking : FF := fnT 6 S_law_breaking
noncomputable def law_settled_E1 : MI := (miSeq (mVar 0))
noncomputable def law_settled_G1 : MG := (gNm 3)
noncomputable def law_settled_T1 : MT := (mAndT (mTB (mBin notInU (mBin subsD (mVar 3) (mC (.int 0))) (mVar 1))) (mTB (mBin notInU (mBin subsD (mVar 3) (mC (.int 1))) (mVar 1))))
noncomputable def law_settled_M1 : ME := (mVar 3)
noncomputable def S_law_settled_2 : MS := (sRet (mArg fTuple (mCons (mFrz (mfArg gSort (mCons (mFrz (mfBin gCat (mVar 2) (mFrz (mfArg gDisp (mCons (mVar 1) mNil))))) mNil))) mNil)))
noncomputable def S_law_settled : MS := (sSeq (sAsg (mFrz (mLc law_settled_E1 law_settled_G1 law_settled_T1 law_settled_M1 [3])) (gNm 2)) S_law_settled_2)
noncomputable def f_law_settled : FF := fnT 4 S_law_settled
noncomputable def law_draw_hall_E1 : MI := (miR1 (mCons (mVar 3) mNil))
noncomputable def law_draw_hall_G1 : MG := (gNm 11)
noncomputable def law_draw_hall_T1 : MT := (mAndT (mTB (mBin neD (mVar 11) (mVar 9))) (mOrT (mNotT (mTru' (mVar 2))) (mTB (mBin neD (mBin inU (mVar 11) (mVar 5)) (mBin inU (mVar 9) (mVar 5))))))
noncomputable def law_draw_hall_M1 : ME := (mVar 11)
noncomputable def law_draw_hall_E2 : MI := (miSeq (mVar 8))
noncomputable def law_draw_hall_G2 : MG := (gNm 11)
noncomputable def law_draw_hall_T2 : MT := (mTB (mBin inU (mVar 11) (mVar 10)))
noncomputable def law_draw_hall_M2 : ME := (mVar 11)
noncomputable def law_draw_hall_E3 : MI := (miSeq (mVar 12))
noncomputable def law_draw_hall_G3 : MG := (gNm 11)
noncomputable def law_draw_hall_T3 : MT := (mOrT (mTB (mBin gtD (mCall f_law_pick (mCons (mVar 0) (mCons (mBin addD (mVar 6) (mC (.int 1))) mNil)) []) (mC (.int 0)))) (mTB (mBin eqD (mVar 6) (mC (.int 1)))))
noncomputable def law_draw_hall_M3 : ME := (mVar 11)
noncomputable def law_draw_hall_B1_3 : MS := (sExp (mM fmAppend (mVar 7) (mCons (mArg fTuple (mCons (mFrz (mLc law_draw_hall_E3 law_draw_hall_G3 law_draw_hall_T3 law_draw_hall_M3 [11])) mNil)) mNil)))
noncomputable def law_draw_hall_B1_2 : MS := (sSeq (sAsg (mIte (mTB (mBin isD (mVar 8) (mC .none))) (mCall f_law_any_order (mCons (mVar 0) (mCons (mVar 10) mNil)) []) (mFrz (mLc law_draw_hall_E2 law_draw_hall_G2 law_draw_hall_T2 law_draw_hall_M2 [11]))) (gNm 12)) law_draw_hall_B1_3)
noncomputable def law_draw_hall_E4 : MI := (miR1 (mCons (mVar 3) mNil))
noncomputable def law_draw_hall_G4 : MG := (gNm 9)
noncomputable def law_draw_hall_B1 : MS := (sSeq (sAsg (mFrz (mLc law_draw_hall_E1 law_draw_hall_G1 law_draw_hall_T1 law_draw_hall_M1 [11])) (gNm 10)) law_draw_hall_B1_2)
noncomputable def S_law_draw_hall_6 : MS := (sRet (mArg fTup (mCons (mArg fTup (mCons (mVar 3) (mCons (mArg fTuple (mCons (mVar 7) mNil)) mNil))) (mCons (mArg fTuple (mCons (mVar 5) mNil)) mNil))))
noncomputable def S_law_draw_hall_5 : MS := (sSeq (sFor law_draw_hall_E4 law_draw_hall_G4 law_draw_hall_B1) S_law_draw_hall_6)
noncomputable def S_law_draw_hall_4 : MS := (sSeq (sAsg (mIte (mTB (mBin eqD (mCall f_law_pick (mCons (mVar 0) (mCons (mC (.int 3)) mNil)) []) (mC (.int 0)))) (mCall f_law_any_order (mCons (mVar 0) (mCons (mFrz (mRg1 (mVar 3))) mNil)) []) (mC .none)) (gNm 8)) S_law_draw_hall_5)
noncomputable def S_law_draw_hall_3 : MS := (sSeq (sAsgT 3 (mCons (mFrz (mfArg gSort (mCons (mSl (mVar 4) moNone (moSome (mCall f_law_pick (mCons (mVar 0) (mCons (mBin addD (mVar 3) (mC (.int 1))) mNil)) []))) mNil))) (mCons (mBin addD (mC (.int 1)) (mCall f_law_pick (mCons (mVar 0) (mCons (mC (.int 4)) mNil)) [])) (mCons (mNew (mfArg gDisp mNil)) mNil))) (gMore (gNm 5) (gMore (gNm 6) (gMore (gNm 7) gNone)))) S_law_draw_hall_4)
noncomputable def S_law_draw_hall_2 : MS := (sSeq (sAsg (mCall f_law_any_order (mCons (mVar 0) (mCons (mFrz (mRg1 (mVar 3))) mNil)) []) (gNm 4)) S_law_draw_hall_3)
noncomputable def S_law_draw_hall : MS := (sSeq (sAsg (mBin addD (mC (.int 1)) (mCall f_law_pick (mCons (mVar 0) (mCons (mVar 1) mNil)) [])) (gNm 3)) S_law_draw_hall_2)
noncomputable def f_law_draw_hall : FF := fnT 13 S_law_draw_hall
noncomputable def law_draw_pairing_E1 : MI := (miR2 (mCons (mBin addD (mVar 3) (mC (.int 1))) (mCons (mBin subsD (mVar 1) (mC (.int 0))) mNil)))
noncomputable def law_draw_pairing_G1 : MG := (gNm 4)
noncomputable def law_draw_pairing_T1 : MT := (mTru' (mCall f_law_want (mCons (mVar 1) (mCons (mVar 3) (mCons (mVar 4) mNil))) []))
noncomputable def law_draw_pairing_M1 : ME := (mArg fTup (mCons (mVar 3) (mCons (mVar 4) mNil)))
noncomputable def law_draw_pairing_E2 : MI := (miR1 (mCons (mBin subsD (mVar 1) (mC (.int 0))) mNil))
noncomputable def law_draw_pairing_G2 : MG := (gNm 3)
noncomputable def law_draw_pairing_B1 : MS := (sAsg (mFrz (mfBin gCat (mVar 2) (mFrz (mLc law_draw_pairing_E1 law_draw_pairing_G1 law_draw_pairing_T1 law_draw_pairing_M1 [4])))) (gNm 2))
noncomputable def law_draw_pairing_E3 : MI := (miSeq (mVar 5))
noncomputable def law_draw_pairing_G3 : MG := (gNm 7)
noncomputable def law_draw_pairing_T2 : MT := (mOrT (mTB (mBin inU (mBin subsD (mVar 7) (mC (.int 0))) (mVar 6))) (mTB (mBin inU (mBin subsD (mVar 7) (mC (.int 1))) (mVar 6))))
noncomputable def law_draw_pairing_M2 : ME := (mVar 7)
noncomputable def law_draw_pairing_E4 : MI := (miSeq (mCall f_law_any_order (mCons (mVar 0) (mCons (mVar 2) mNil)) []))
noncomputable def law_draw_pairing_G4 : MG := (gNm 6)
noncomputable def law_draw_pairing_B2 : MS := (sIf (mAndT (mTB (mBin eqD (mFrz (mLc law_draw_pairing_E3 law_draw_pairing_G3 law_draw_pairing_T2 law_draw_pairing_M2 [7])) (mFrz (mfArg gDisp mNil)))) (mTB (mBin gtD (mCall f_law_pick (mCons (mVar 0) (mCons (mC (.int 4)) mNil)) []) (mC (.int 0))))) (sExp (mM fmAppend (mVar 5) (mCons (mVar 6) mNil))) sNil)
noncomputable def S_law_draw_pairing_5 : MS := (sRet (mArg fTuple (mCons (mFrz (mfArg gSort (mCons (mVar 5) mNil))) mNil)))
noncomputable def S_law_draw_pairing_4 : MS := (sSeq (sFor law_draw_pairing_E4 law_draw_pairing_G4 law_draw_pairing_B2) S_law_draw_pairing_5)
noncomputable def S_law_draw_pairing_3 : MS := (sSeq (sAsg (mNew (mfArg gDisp mNil)) (gNm 5)) S_law_draw_pairing_4)
noncomputable def S_law_draw_pairing_2 : MS := (sSeq (sFor law_draw_pairing_E2 law_draw_pairing_G2 law_draw_pairing_B1) S_law_draw_pairing_3)
noncomputable def S_law_draw_pairing : MS := (sSeq (sAsg (mFrz (mfArg gDisp mNil)) (gNm 2)) S_law_draw_pairing_2)
noncomputable def f_law_draw_pairing : FF := fnT 8 S_law_draw_pairing
end Fw.LC

namespace Fw
open PySem PySem.Spec PyProof.Rows L2
theorem take_len {l : Sto} {s s0 : Src} {rest : Sto} : (s.sto rest).take (s0.sto rest).length = s.sto rest := List.take_length (l := s.sto rest)
theorem sq_small {a : Int} (h : 0 ≤ a) (h2 : a < 998244353) : -(2 ^ 64) < a ∧ a < 2 ^ 64 := ⟨by omega, by omega⟩
theorem pickA_ok : Pick LA.f_law_pick := by
  intro s rest m hm hs
  refine fnT_ok ?_
  unfold LA.S_law_pick
  simp only [envE, so_seq, so_if, so_ret, so_retN, so_exp, so_nil, so_nx, so_rt, so_asg, so_asgG, so_par2, so_par3, ok_gNm, ok_gMore, ok_gNone, so_asgT, so_sub, so_for, ok_TB, ok_Tru, ok_notT, ok_andT, ok_orT, ok_andV, ok_orV, ok_notV, ok_iteE, ok_frz, ok_new, ok_mfArg, ok_mfBin, ok_lc, ok_M, ok_M0, ok_moNone, ok_moSome, ok_Sl,
  ok_bin, ok_un, ok_arg, ok_cons, ok_nil, ok_call, ok_var, ok_C, ok_ok, ok_stuck, ok_noX, bOf_bool, low_v, iOf_int, addD_int, subD_int, negD_int, ltD_int, leD_int, gtD_int, geD_int, fInt_int, isD_bool, isNotD_bool, tru_bool, List.map_cons, List.map_nil, List.length_cons, List.length_nil, List.replicate_succ, List.replicate_zero, List.cons_append, List.nil_append,
  List.append_nil, List.getElem?_cons_zero, List.getElem?_cons_succ, List.set_cons_zero, List.set_cons_succ, Option.some.injEq, exists_eq_left', exists_eq_left, true_and, and_true, true_implies, false_implies, implies_true, Bool.false_eq_true, reduceCtorEq, false_and, and_false, D.v.injEq, PyData.int.injEq, D.ref.injEq, p1i_int, p2_two, p3_three, decide_true, Bool.not_true, Bool.not_false, decide_eq_true_eq, decide_eq_false_iff_not]
  refine ⟨fun h => ⟨0, s, rfl, take_sto, hs, Int.le_refl _, fun z => by omega, fun _ => rfl⟩, fun h => ?_⟩
  unfold LA.S_law_pick_2 LA.S_law_pick_3
  simp only [envE, so_seq, so_if, so_ret, so_retN, so_exp, so_nil, so_nx, so_rt, so_asg, so_asgG, so_par2, so_par3, ok_gNm, ok_gMore, ok_gNone, so_asgT, so_sub, so_for, ok_TB, ok_Tru, ok_notT, ok_andT, ok_orT, ok_andV, ok_orV, ok_notV, ok_iteE, ok_frz, ok_new, ok_mfArg, ok_mfBin, ok_lc, ok_M, ok_M0, ok_moNone, ok_moSome, ok_Sl,
  ok_bin, ok_un, ok_arg, ok_cons, ok_nil, ok_call, ok_var, ok_C, ok_ok, ok_stuck, ok_noX, bOf_bool, low_v, iOf_int, addD_int, subD_int, negD_int, ltD_int, leD_int, gtD_int, geD_int, fInt_int, isD_bool, isNotD_bool, tru_bool, List.map_cons, List.map_nil, List.length_cons, List.length_nil, List.replicate_succ, List.replicate_zero, List.cons_append, List.nil_append,
  List.append_nil, List.getElem?_cons_zero, List.getElem?_cons_succ, List.set_cons_zero, List.set_cons_succ, Option.some.injEq, exists_eq_left', exists_eq_left, true_and, and_true, true_implies, false_implies, implies_true, Bool.false_eq_true, reduceCtorEq, false_and, and_false, D.v.injEq, PyData.int.injEq, D.ref.injEq, p1i_int, p2_two, p3_three, decide_true, Bool.not_true, Bool.not_false, decide_eq_true_eq, decide_eq_false_iff_not, src_cells]
  refine so_to (fun e st => ∃ s' : Src, e = [some (D.ref 1), some (D.v (PyData.int m)), some (D.ref 0), none, none, none] ∧ st = s'.sto rest ∧ s'.ok) ?_ ?_
  · refine whileL_inv (fun k e st => ∃ s' : Src, e = [some (D.ref 1), some (D.v (PyData.int m)), some (D.ref 0), none, none, none] ∧ st = s'.sto rest ∧ s'.ok ∧ s'.stk.length = k) ?_ 1000000 s.stk.length _ _ hs ⟨s, rfl, rfl, hs, rfl⟩
    rintro k e st ⟨s', rfl, rfl, ok, hk⟩
    unfold LA.law_pick_T1 LA.law_pick_B1
    simp only [envE, so_seq, so_if, so_ret, so_retN, so_exp, so_nil, so_nx, so_rt, so_asg, so_asgG, so_par2, so_par3, ok_gNm, ok_gMore, ok_gNone, so_asgT, so_sub, so_for, ok_TB, ok_Tru, ok_notT, ok_andT, ok_orT, ok_andV, ok_orV, ok_notV, ok_iteE, ok_frz, ok_new, ok_mfArg, ok_mfBin, ok_lc, ok_M, ok_M0, ok_moNone, ok_moSome, ok_Sl,
  ok_bin, ok_un, ok_arg, ok_cons, ok_nil, ok_call, ok_var, ok_C, ok_ok, ok_stuck, ok_noX, bOf_bool, low_v, iOf_int, addD_int, subD_int, negD_int, ltD_int, leD_int, gtD_int, geD_int, fInt_int, isD_bool, isNotD_bool, tru_bool, List.map_cons, List.map_nil, List.length_cons, List.length_nil, List.replicate_succ, List.replicate_zero, List.cons_append, List.nil_append,
  List.append_nil, List.getElem?_cons_zero, List.getElem?_cons_succ, List.set_cons_zero, List.set_cons_succ, Option.some.injEq, exists_eq_left', exists_eq_left, true_and, and_true, true_implies, false_implies, implies_true, Bool.false_eq_true, reduceCtorEq, false_and, and_false, D.v.injEq, PyData.int.injEq, D.ref.injEq, p1i_int, p2_two, p3_three, decide_true, Bool.not_true, Bool.not_false, decide_eq_true_eq, decide_eq_false_iff_not, src_left, src_len, src_isL]
    refine ⟨fun h => ⟨fun h2 => ?_, fun h2 => ⟨s', rfl, ok⟩⟩, fun h => ⟨s', rfl, ok⟩⟩
    obtain ⟨c, r, e⟩ : ∃ c r, s'.stk = c :: r := by
      cases es : s'.stk with
      | nil => rw [es] at h2; simp at h2
      | cons c r => exact ⟨c, r, rfl⟩
    have hr : s'.stk.length = r.length + 1 := by rw [e]; rfl
    simp only [src_pop e, envE, so_seq, so_if, so_ret, so_retN, so_exp, so_nil, so_nx, so_rt, so_asg, so_asgG, so_par2, so_par3, ok_gNm, ok_gMore, ok_gNone, so_asgT, so_sub, so_for, ok_TB, ok_Tru, ok_notT, ok_andT, ok_orT, ok_andV, ok_orV, ok_notV, ok_iteE, ok_frz, ok_new, ok_mfArg, ok_mfBin, ok_lc, ok_M, ok_M0, ok_moNone, ok_moSome, ok_Sl,
  ok_bin, ok_un, ok_arg, ok_cons, ok_nil, ok_call, ok_var, ok_C, ok_ok, ok_stuck, ok_noX, bOf_bool, low_v, iOf_int, addD_int, subD_int, negD_int, ltD_int, leD_int, gtD_int, geD_int, fInt_int, isD_bool, isNotD_bool, tru_bool, List.map_cons, List.map_nil, List.length_cons, List.length_nil, List.replicate_succ, List.replicate_zero, List.cons_append, List.nil_append,
  List.append_nil, List.getElem?_cons_zero, List.getElem?_cons_succ, List.set_cons_zero, List.set_cons_succ, Option.some.injEq, exists_eq_left', exists_eq_left, true_and, and_true, true_implies, false_implies, implies_true, Bool.false_eq_true, reduceCtorEq, false_and, and_false, D.v.injEq, PyData.int.injEq, D.ref.injEq, p1i_int, p2_two, p3_three, decide_true, Bool.not_true, Bool.not_false, decide_eq_true_eq, decide_eq_false_iff_not, set_left]
    have ok' : s'.stk.length < 1000000 := ok
    exact ⟨r.length, by omega, _, rfl, show r.length < 1000000 by omega, rfl⟩
  · rintro e st ⟨s1, rfl, rfl, ok⟩
    unfold LA.S_law_pick_4 LA.S_law_pick_5
    simp only [envE, so_seq, so_if, so_ret, so_retN, so_exp, so_nil, so_nx, so_rt, so_asg, so_asgG, so_par2, so_par3, ok_gNm, ok_gMore, ok_gNone, so_asgT, so_sub, so_for, ok_TB, ok_Tru, ok_notT, ok_andT, ok_orT, ok_andV, ok_orV, ok_notV, ok_iteE, ok_frz, ok_new, ok_mfArg, ok_mfBin, ok_lc, ok_M, ok_M0, ok_moNone, ok_moSome, ok_Sl,
  ok_bin, ok_un, ok_arg, ok_cons, ok_nil, ok_call, ok_var, ok_C, ok_ok, ok_stuck, ok_noX, bOf_bool, low_v, iOf_int, addD_int, subD_int, negD_int, ltD_int, leD_int, gtD_int, geD_int, fInt_int, isD_bool, isNotD_bool, tru_bool, List.map_cons, List.map_nil, List.length_cons, List.length_nil, List.replicate_succ, List.replicate_zero, List.cons_append, List.nil_append,
  List.append_nil, List.getElem?_cons_zero, List.getElem?_cons_succ, List.set_cons_zero, List.set_cons_succ, Option.some.injEq, exists_eq_left', exists_eq_left, true_and, and_true, true_implies, false_implies, implies_true, Bool.false_eq_true, reduceCtorEq, false_and, and_false, D.v.injEq, PyData.int.injEq, D.ref.injEq, p1i_int, p2_two, p3_three, decide_true, Bool.not_true, Bool.not_false, decide_eq_true_eq, decide_eq_false_iff_not, src_left, set_left, fdivD_int (show (0 : Int) < m by omega) hm, modD_int (show (0 : Int) < m by omega)]
    refine ⟨fun h => ⟨_, _, rfl, take_sto, ok, Int.emod_nonneg _ (by omega), fun _ => Int.emod_lt_of_pos _ (by omega), fun z => by omega⟩, fun h => ?_⟩
    unfold LA.S_law_pick_6 LA.S_law_pick_7 LA.S_law_pick_8 LA.S_law_pick_9 LA.S_law_pick_10
    simp only [envE, so_seq, so_if, so_ret, so_retN, so_exp, so_nil, so_nx, so_rt, so_asg, so_asgG, so_par2, so_par3, ok_gNm, ok_gMore, ok_gNone, so_asgT, so_sub, so_for, ok_TB, ok_Tru, ok_notT, ok_andT, ok_orT, ok_andV, ok_orV, ok_notV, ok_iteE, ok_frz, ok_new, ok_mfArg, ok_mfBin, ok_lc, ok_M, ok_M0, ok_moNone, ok_moSome, ok_Sl,
  ok_bin, ok_un, ok_arg, ok_cons, ok_nil, ok_call, ok_var, ok_C, ok_ok, ok_stuck, ok_noX, bOf_bool, low_v, iOf_int, addD_int, subD_int, negD_int, ltD_int, leD_int, gtD_int, geD_int, fInt_int, isD_bool, isNotD_bool, tru_bool, List.map_cons, List.map_nil, List.length_cons, List.length_nil, List.replicate_succ, List.replicate_zero, List.cons_append, List.nil_append,
  List.append_nil, List.getElem?_cons_zero, List.getElem?_cons_succ, List.set_cons_zero, List.set_cons_succ, Option.some.injEq, exists_eq_left', exists_eq_left, true_and, and_true, true_implies, false_implies, implies_true, Bool.false_eq_true, reduceCtorEq, false_and, and_false, D.v.injEq, PyData.int.injEq, D.ref.injEq, p1i_int, p2_two, p3_three, decide_true, Bool.not_true, Bool.not_false, decide_eq_true_eq, decide_eq_false_iff_not, src_turn, set_turn, src_mixed, mulD_r (show -(2 ^ 64) < (104729 : Int) ∧ (104729 : Int) < 2 ^ 64 by decide), mulD_r (show -(2 ^ 64) < (17 : Int) ∧ (17 : Int) < 2 ^ 64 by decide), modD_int (show (0 : Int) < 998244353 by decide), modD_int (show (0 : Int) < 2147483647 by decide), modD_int (show (0 : Int) < m by omega),
      fdivD_int (show (0 : Int) < 16 by decide) (by decide)]
    rw [mulD_l (sq_small (Int.emod_nonneg _ (by decide)) (Int.emod_lt_of_pos _ (by decide)))]
    simp only [envE, so_seq, so_if, so_ret, so_retN, so_exp, so_nil, so_nx, so_rt, so_asg, so_asgG, so_par2, so_par3, ok_gNm, ok_gMore, ok_gNone, so_asgT, so_sub, so_for, ok_TB, ok_Tru, ok_notT, ok_andT, ok_orT, ok_andV, ok_orV, ok_notV, ok_iteE, ok_frz, ok_new, ok_mfArg, ok_mfBin, ok_lc, ok_M, ok_M0, ok_moNone, ok_moSome, ok_Sl,
  ok_bin, ok_un, ok_arg, ok_cons, ok_nil, ok_call, ok_var, ok_C, ok_ok, ok_stuck, ok_noX, bOf_bool, low_v, iOf_int, addD_int, subD_int, negD_int, ltD_int, leD_int, gtD_int, geD_int, fInt_int, isD_bool, isNotD_bool, tru_bool, List.map_cons, List.map_nil, List.length_cons, List.length_nil, List.replicate_succ, List.replicate_zero, List.cons_append, List.nil_append,
  List.append_nil, List.getElem?_cons_zero, List.getElem?_cons_succ, List.set_cons_zero, List.set_cons_succ, Option.some.injEq, exists_eq_left', exists_eq_left, true_and, and_true, true_implies, false_implies, implies_true, Bool.false_eq_true, reduceCtorEq, false_and, and_false, D.v.injEq, PyData.int.injEq, D.ref.injEq, p1i_int, p2_two, p3_three, decide_true, Bool.not_true, Bool.not_false, decide_eq_true_eq, decide_eq_false_iff_not, modD_int (show (0 : Int) < 2147483647 by decide), modD_int (show (0 : Int) < m by omega), fdivD_int (show (0 : Int) < 16 by decide) (by decide)]
    exact ⟨_, _, rfl, take_sto, ok, Int.emod_nonneg _ (by omega), fun _ => Int.emod_lt_of_pos _ (by omega), fun z => by omega⟩
theorem pickB_ok : Pick LB.f_law_pick := by
  intro s rest m hm hs
  refine fnT_ok ?_
  unfold LB.S_law_pick
  simp only [envE, so_seq, so_if, so_ret, so_retN, so_exp, so_nil, so_nx, so_rt, so_asg, so_asgG, so_par2, so_par3, ok_gNm, ok_gMore, ok_gNone, so_asgT, so_sub, so_for, ok_TB, ok_Tru, ok_notT, ok_andT, ok_orT, ok_andV, ok_orV, ok_notV, ok_iteE, ok_frz, ok_new, ok_mfArg, ok_mfBin, ok_lc, ok_M, ok_M0, ok_moNone, ok_moSome, ok_Sl,
  ok_bin, ok_un, ok_arg, ok_cons, ok_nil, ok_call, ok_var, ok_C, ok_ok, ok_stuck, ok_noX, bOf_bool, low_v, iOf_int, addD_int, subD_int, negD_int, ltD_int, leD_int, gtD_int, geD_int, fInt_int, isD_bool, isNotD_bool, tru_bool, List.map_cons, List.map_nil, List.length_cons, List.length_nil, List.replicate_succ, List.replicate_zero, List.cons_append, List.nil_append,
  List.append_nil, List.getElem?_cons_zero, List.getElem?_cons_succ, List.set_cons_zero, List.set_cons_succ, Option.some.injEq, exists_eq_left', exists_eq_left, true_and, and_true, true_implies, false_implies, implies_true, Bool.false_eq_true, reduceCtorEq, false_and, and_false, D.v.injEq, PyData.int.injEq, D.ref.injEq, p1i_int, p2_two, p3_three, decide_true, Bool.not_true, Bool.not_false, decide_eq_true_eq, decide_eq_false_iff_not]
  refine so_to (fun e st => ∃ s' : Src, e = [some (D.ref 1), some (D.v (PyData.int m)), none, none] ∧ st = s'.sto rest ∧ s'.ok) ?_ ?_
  · refine whileL_inv (fun k e st => ∃ s' : Src, e = [some (D.ref 1), some (D.v (PyData.int m)), none, none] ∧ st = s'.sto rest ∧ s'.ok ∧ s'.stk.length = k) ?_ 1000000 s.stk.length _ _ hs ⟨s, rfl, rfl, hs, rfl⟩
    rintro k e st ⟨s', rfl, rfl, ok, hk⟩
    unfold LB.law_pick_T1 LB.law_pick_B1
    simp only [envE, so_seq, so_if, so_ret, so_retN, so_exp, so_nil, so_nx, so_rt, so_asg, so_asgG, so_par2, so_par3, ok_gNm, ok_gMore, ok_gNone, so_asgT, so_sub, so_for, ok_TB, ok_Tru, ok_notT, ok_andT, ok_orT, ok_andV, ok_orV, ok_notV, ok_iteE, ok_frz, ok_new, ok_mfArg, ok_mfBin, ok_lc, ok_M, ok_M0, ok_moNone, ok_moSome, ok_Sl,
  ok_bin, ok_un, ok_arg, ok_cons, ok_nil, ok_call, ok_var, ok_C, ok_ok, ok_stuck, ok_noX, bOf_bool, low_v, iOf_int, addD_int, subD_int, negD_int, ltD_int, leD_int, gtD_int, geD_int, fInt_int, isD_bool, isNotD_bool, tru_bool, List.map_cons, List.map_nil, List.length_cons, List.length_nil, List.replicate_succ, List.replicate_zero, List.cons_append, List.nil_append,
  List.append_nil, List.getElem?_cons_zero, List.getElem?_cons_succ, List.set_cons_zero, List.set_cons_succ, Option.some.injEq, exists_eq_left', exists_eq_left, true_and, and_true, true_implies, false_implies, implies_true, Bool.false_eq_true, reduceCtorEq, false_and, and_false, D.v.injEq, PyData.int.injEq, D.ref.injEq, p1i_int, p2_two, p3_three, decide_true, Bool.not_true, Bool.not_false, decide_eq_true_eq, decide_eq_false_iff_not, src_left, src_len, src_isL, src_cells]
    refine ⟨fun _ => ⟨fun h => ⟨fun h2 => ?_, fun h2 => ⟨s', rfl, ok⟩⟩, fun h => ⟨s', rfl, ok⟩⟩, fun h => ⟨s', rfl, ok⟩⟩
    obtain ⟨c, r, e⟩ : ∃ c r, s'.stk = c :: r := by
      cases es : s'.stk with
      | nil => rw [es] at h2; simp at h2
      | cons c r => exact ⟨c, r, rfl⟩
    have hr : s'.stk.length = r.length + 1 := by rw [e]; rfl
    simp only [src_pop e, envE, so_seq, so_if, so_ret, so_retN, so_exp, so_nil, so_nx, so_rt, so_asg, so_asgG, so_par2, so_par3, ok_gNm, ok_gMore, ok_gNone, so_asgT, so_sub, so_for, ok_TB, ok_Tru, ok_notT, ok_andT, ok_orT, ok_andV, ok_orV, ok_notV, ok_iteE, ok_frz, ok_new, ok_mfArg, ok_mfBin, ok_lc, ok_M, ok_M0, ok_moNone, ok_moSome, ok_Sl,
  ok_bin, ok_un, ok_arg, ok_cons, ok_nil, ok_call, ok_var, ok_C, ok_ok, ok_stuck, ok_noX, bOf_bool, low_v, iOf_int, addD_int, subD_int, negD_int, ltD_int, leD_int, gtD_int, geD_int, fInt_int, isD_bool, isNotD_bool, tru_bool, List.map_cons, List.map_nil, List.length_cons, List.length_nil, List.replicate_succ, List.replicate_zero, List.cons_append, List.nil_append,
  List.append_nil, List.getElem?_cons_zero, List.getElem?_cons_succ, List.set_cons_zero, List.set_cons_succ, Option.some.injEq, exists_eq_left', exists_eq_left, true_and, and_true, true_implies, false_implies, implies_true, Bool.false_eq_true, reduceCtorEq, false_and, and_false, D.v.injEq, PyData.int.injEq, D.ref.injEq, p1i_int, p2_two, p3_three, decide_true, Bool.not_true, Bool.not_false, decide_eq_true_eq, decide_eq_false_iff_not, set_left]
    have ok' : s'.stk.length < 1000000 := ok
    exact ⟨r.length, by omega, _, rfl, show r.length < 1000000 by omega, rfl⟩
  · rintro e st ⟨s1, rfl, rfl, ok⟩
    have pos : (0 : Int) < max 1 m := by omega
    have lt : max 1 m < 1073741824 := by omega
    unfold LB.S_law_pick_2 LB.S_law_pick_3
    simp only [envE, so_seq, so_if, so_ret, so_retN, so_exp, so_nil, so_nx, so_rt, so_asg, so_asgG, so_par2, so_par3, ok_gNm, ok_gMore, ok_gNone, so_asgT, so_sub, so_for, ok_TB, ok_Tru, ok_notT, ok_andT, ok_orT, ok_andV, ok_orV, ok_notV, ok_iteE, ok_frz, ok_new, ok_mfArg, ok_mfBin, ok_lc, ok_M, ok_M0, ok_moNone, ok_moSome, ok_Sl,
  ok_bin, ok_un, ok_arg, ok_cons, ok_nil, ok_call, ok_var, ok_C, ok_ok, ok_stuck, ok_noX, bOf_bool, low_v, iOf_int, addD_int, subD_int, negD_int, ltD_int, leD_int, gtD_int, geD_int, fInt_int, isD_bool, isNotD_bool, tru_bool, List.map_cons, List.map_nil, List.length_cons, List.length_nil, List.replicate_succ, List.replicate_zero, List.cons_append, List.nil_append,
  List.append_nil, List.getElem?_cons_zero, List.getElem?_cons_succ, List.set_cons_zero, List.set_cons_succ, Option.some.injEq, exists_eq_left', exists_eq_left, true_and, and_true, true_implies, false_implies, implies_true, Bool.false_eq_true, reduceCtorEq, false_and, and_false, D.v.injEq, PyData.int.injEq, D.ref.injEq, p1i_int, p2_two, p3_three, decide_true, Bool.not_true, Bool.not_false, decide_eq_true_eq, decide_eq_false_iff_not, src_left, set_left, bMax_int, fdivD_int pos lt, modD_int pos]
    have fin : ∃ (r : Int) (s' : Src), s1.left % max 1 m = r ∧ List.take (List.length (s.sto rest)) (({ s1 with left := s1.left / max 1 m } : Src).sto rest) = s'.sto rest ∧ s'.ok ∧ 0 ≤ r ∧ (1 ≤ m → r < m) ∧ (m ≤ 0 → r = 0) := by
      refine ⟨_, _, rfl, take_sto, ok, Int.emod_nonneg _ (by omega), fun z => ?_, fun z => ?_⟩
      · rw [show max 1 m = m by omega]
        exact Int.emod_lt_of_pos _ (by omega)
      · rw [show max 1 m = 1 by omega]
        exact Int.emod_one _
    refine ⟨fun _ => fin, fun h => ⟨fun _ => fin, fun h2 => ?_⟩⟩
    unfold LB.S_law_pick_4 LB.S_law_pick_5 LB.S_law_pick_6 LB.S_law_pick_7 LB.S_law_pick_8
    simp only [envE, so_seq, so_if, so_ret, so_retN, so_exp, so_nil, so_nx, so_rt, so_asg, so_asgG, so_par2, so_par3, ok_gNm, ok_gMore, ok_gNone, so_asgT, so_sub, so_for, ok_TB, ok_Tru, ok_notT, ok_andT, ok_orT, ok_andV, ok_orV, ok_notV, ok_iteE, ok_frz, ok_new, ok_mfArg, ok_mfBin, ok_lc, ok_M, ok_M0, ok_moNone, ok_moSome, ok_Sl,
  ok_bin, ok_un, ok_arg, ok_cons, ok_nil, ok_call, ok_var, ok_C, ok_ok, ok_stuck, ok_noX, bOf_bool, low_v, iOf_int, addD_int, subD_int, negD_int, ltD_int, leD_int, gtD_int, geD_int, fInt_int, isD_bool, isNotD_bool, tru_bool, List.map_cons, List.map_nil, List.length_cons, List.length_nil, List.replicate_succ, List.replicate_zero, List.cons_append, List.nil_append,
  List.append_nil, List.getElem?_cons_zero, List.getElem?_cons_succ, List.set_cons_zero, List.set_cons_succ, Option.some.injEq, exists_eq_left', exists_eq_left, true_and, and_true, true_implies, false_implies, implies_true, Bool.false_eq_true, reduceCtorEq, false_and, and_false, D.v.injEq, PyData.int.injEq, D.ref.injEq, p1i_int, p2_two, p3_three, decide_true, Bool.not_true, Bool.not_false, decide_eq_true_eq, decide_eq_false_iff_not, src_turn, set_turn, src_mixed, set_mixed, mulD_r (show -(2 ^ 64) < (104729 : Int) ∧ (104729 : Int) < 2 ^ 64 by decide), mulD_r (show -(2 ^ 64) < (17 : Int) ∧ (17 : Int) < 2 ^ 64 by decide), modD_int (show (0 : Int) < 998244353 by decide), modD_int (show (0 : Int) < 2147483647 by decide), modD_int (show (0 : Int) < m by omega),
      fdivD_int (show (0 : Int) < 16 by decide) (by decide)]
    rw [mulD_l (sq_small (Int.emod_nonneg _ (by decide)) (Int.emod_lt_of_pos _ (by decide)))]
    simp only [envE, so_seq, so_if, so_ret, so_retN, so_exp, so_nil, so_nx, so_rt, so_asg, so_asgG, so_par2, so_par3, ok_gNm, ok_gMore, ok_gNone, so_asgT, so_sub, so_for, ok_TB, ok_Tru, ok_notT, ok_andT, ok_orT, ok_andV, ok_orV, ok_notV, ok_iteE, ok_frz, ok_new, ok_mfArg, ok_mfBin, ok_lc, ok_M, ok_M0, ok_moNone, ok_moSome, ok_Sl,
  ok_bin, ok_un, ok_arg, ok_cons, ok_nil, ok_call, ok_var, ok_C, ok_ok, ok_stuck, ok_noX, bOf_bool, low_v, iOf_int, addD_int, subD_int, negD_int, ltD_int, leD_int, gtD_int, geD_int, fInt_int, isD_bool, isNotD_bool, tru_bool, List.map_cons, List.map_nil, List.length_cons, List.length_nil, List.replicate_succ, List.replicate_zero, List.cons_append, List.nil_append,
  List.append_nil, List.getElem?_cons_zero, List.getElem?_cons_succ, List.set_cons_zero, List.set_cons_succ, Option.some.injEq, exists_eq_left', exists_eq_left, true_and, and_true, true_implies, false_implies, implies_true, Bool.false_eq_true, reduceCtorEq, false_and, and_false, D.v.injEq, PyData.int.injEq, D.ref.injEq, p1i_int, p2_two, p3_three, decide_true, Bool.not_true, Bool.not_false, decide_eq_true_eq, decide_eq_false_iff_not, src_turn, set_mixed, mulD_r (show -(2 ^ 64) < (17 : Int) ∧ (17 : Int) < 2 ^ 64 by decide), modD_int (show (0 : Int) < 2147483647 by decide), modD_int (show (0 : Int) < m by omega), fdivD_int (show (0 : Int) < 16 by decide) (by decide)]
    exact ⟨_, _, rfl, take_sto, ok, Int.emod_nonneg _ (by omega), fun _ => Int.emod_lt_of_pos _ (by omega), fun z => by omega⟩
/-- a shuffle's turn -/
theorem sto_app {s : Src} {rest : Sto} {o : O} : s.sto rest ++ [o] = s.sto (rest ++ [o]) := rfl
theorem sto_at {s : Src} {rest more : Sto} {o : O} : (s.sto (rest ++ o :: more))[rest.length + 2]? = some o := by
  show (rest ++ o :: more)[rest.length]? = _
  rw [List.getElem?_append_right (Nat.le_refl _), Nat.sub_self]
  rfl
theorem sto_set {s : Src} {rest : Sto} {o u : O} : (s.sto (rest ++ [o])).set (rest.length + 2) u = s.sto (rest ++ [u]) := by
  show _ :: _ :: (rest ++ [o]).set rest.length u = _
  rw [List.set_append_right _ _ (Nat.le_refl _), Nat.sub_self]
  rfl
theorem sto_len {s : Src} {rest : Sto} : (s.sto rest).length = rest.length + 2 := rfl
theorem sto_take {s : Src} {rest more : Sto} : (s.sto (rest ++ more)).take (rest.length + 2) = s.sto rest := by
  show _ :: _ :: (rest ++ more).take rest.length = _
  rw [List.take_left]
  rfl
theorem perm_out {α : Type} : ∀ (l : List α) (k : Nat) (h : k < l.length), (l[k] :: l.eraseIdx k).Perm l
  | [], k, h => absurd h (Nat.not_lt_zero _)
  | a :: l, 0, h => .refl _
  | a :: l, k + 1, h => (List.Perm.swap a _ _).trans ((perm_out l k (Nat.lt_of_succ_lt_succ h)).cons a)
def Shuf (f : FF) : Prop := ∀ (s : Src) (rest : Sto) (d : D) (xs : List PyData), s.ok → viewS (s.sto rest) d = some xs → xs.length ≤ 1000000 → (f [.ref 1, d] (s.sto rest)).Ok fun r st => ∃ (ys : List PyData) (s' : Src), r = .v (.list ys) ∧ st = s'.sto rest ∧ s'.ok ∧ ys.Perm xs
theorem shuf_ok {pick : FF} (hp : Pick pick) : Shuf (fnT 4 (sSeq (sAsg (mNew (mfArg gList (mCons (mVar 1) mNil))) (gNm 2)) (sRet (mFrz (mLc (miR1 (mCons (mArg fLen (mCons (mVar 2) mNil)) mNil)) (gNm 3) mYes
    (mM fmPopAt (mVar 2) (mCons (mCall pick (mCons (mVar 0) (mCons (mArg fLen (mCons (mVar 2) mNil)) mNil)) []) mNil)) [3]))))) := by
  intro s rest d xs hs hv hl
  refine fnT_ok ?_
  simp only [envE, so_seq, so_if, so_ret, so_retN, so_exp, so_nil, so_nx, so_rt, so_asg, so_asgG, so_par2, so_par3, ok_gNm, ok_gMore, ok_gNone, so_asgT, so_sub, so_for, ok_TB, ok_Tru, ok_notT, ok_andT, ok_orT, ok_andV, ok_orV, ok_notV, ok_iteE, ok_frz, ok_new, ok_mfArg, ok_mfBin, ok_lc, ok_M, ok_M0, ok_moNone, ok_moSome, ok_Sl,
  ok_bin, ok_un, ok_arg, ok_cons, ok_nil, ok_call, ok_var, ok_C, ok_ok, ok_stuck, ok_noX, bOf_bool, low_v, iOf_int, addD_int, subD_int, negD_int, ltD_int, leD_int, gtD_int, geD_int, fInt_int, isD_bool, isNotD_bool, tru_bool, List.map_cons, List.map_nil, List.length_cons, List.length_nil, List.replicate_succ, List.replicate_zero, List.cons_append, List.nil_append,
  List.append_nil, List.getElem?_cons_zero, List.getElem?_cons_succ, List.set_cons_zero, List.set_cons_succ, Option.some.injEq, exists_eq_left', exists_eq_left, true_and, and_true, true_implies, false_implies, implies_true, Bool.false_eq_true, reduceCtorEq, false_and, and_false, D.v.injEq, PyData.int.injEq, D.ref.injEq, p1i_int, p2_two, p3_three, decide_true, Bool.not_true, Bool.not_false, decide_eq_true_eq, decide_eq_false_iff_not, list_of hv, ok_R1, sto_len, sto_app]
  rw [len_of (xs := xs) (viewS_ref sto_at)]
  simp only [envE, so_seq, so_if, so_ret, so_retN, so_exp, so_nil, so_nx, so_rt, so_asg, so_asgG, so_par2, so_par3, ok_gNm, ok_gMore, ok_gNone, so_asgT, so_sub, so_for, ok_TB, ok_Tru, ok_notT, ok_andT, ok_orT, ok_andV, ok_orV, ok_notV, ok_iteE, ok_frz, ok_new, ok_mfArg, ok_mfBin, ok_lc, ok_M, ok_M0, ok_moNone, ok_moSome, ok_Sl,
  ok_bin, ok_un, ok_arg, ok_cons, ok_nil, ok_call, ok_var, ok_C, ok_ok, ok_stuck, ok_noX, bOf_bool, low_v, iOf_int, addD_int, subD_int, negD_int, ltD_int, leD_int, gtD_int, geD_int, fInt_int, isD_bool, isNotD_bool, tru_bool, List.map_cons, List.map_nil, List.length_cons, List.length_nil, List.replicate_succ, List.replicate_zero, List.cons_append, List.nil_append,
  List.append_nil, List.getElem?_cons_zero, List.getElem?_cons_succ, List.set_cons_zero, List.set_cons_succ, Option.some.injEq, exists_eq_left', exists_eq_left, true_and, and_true, true_implies, false_implies, implies_true, Bool.false_eq_true, reduceCtorEq, false_and, and_false, D.v.injEq, PyData.int.injEq, D.ref.injEq, p1i_int, p2_two, p3_three, decide_true, Bool.not_true, Bool.not_false, decide_eq_true_eq, decide_eq_false_iff_not]
  refine ⟨by omega, ?_⟩
  have e0 : wipeE [some (D.ref 1), some d, some (D.ref (rest.length + 2)), none] [3] = [some (D.ref 1), some d, some (D.ref (rest.length + 2)), none] := rfl
  rw [e0]
  refine (lcL_inv (P := fun zs st => ∃ (ys : List PyData) (s' : Src), PyData.list zs = PyData.list ys ∧ List.take (rest.length + 2) st = s'.sto rest ∧ s'.ok ∧ ys.Perm xs) (n := 0) (acc := []) (fun i acc st => ∃ (s' : Src) (zs : List PyData), st = s'.sto (rest ++ [.lst zs]) ∧ s'.ok ∧ zs.length + i = xs.length ∧ (acc ++ zs).Perm xs) (rngI 0 (xs.length : Int).toNat) _ ?_ ?_ ⟨s, xs, rfl, hs, by omega, .refl _⟩).mono fun zs st q => q
  · rintro i d1 acc st hd ⟨s1, zs, rfl, ok, hz, hp1⟩
    obtain ⟨hi, rfl⟩ := rngI_get hd
    rw [Nat.zero_add] at hz
    refine ⟨trivial, ?_⟩
    rw [ok_gNm]
    simp only [List.set_cons_succ, List.set_cons_zero]
    show (Out.ok true _).Ok _
    rw [ok_ok]
    refine ⟨fun _ => ?_, fun z => nomatch z⟩
    simp only [envE, so_seq, so_if, so_ret, so_retN, so_exp, so_nil, so_nx, so_rt, so_asg, so_asgG, so_par2, so_par3, ok_gNm, ok_gMore, ok_gNone, so_asgT, so_sub, so_for, ok_TB, ok_Tru, ok_notT, ok_andT, ok_orT, ok_andV, ok_orV, ok_notV, ok_iteE, ok_frz, ok_new, ok_mfArg, ok_mfBin, ok_lc, ok_M, ok_M0, ok_moNone, ok_moSome, ok_Sl,
  ok_bin, ok_un, ok_arg, ok_cons, ok_nil, ok_call, ok_var, ok_C, ok_ok, ok_stuck, ok_noX, bOf_bool, low_v, iOf_int, addD_int, subD_int, negD_int, ltD_int, leD_int, gtD_int, geD_int, fInt_int, isD_bool, isNotD_bool, tru_bool, List.map_cons, List.map_nil, List.length_cons, List.length_nil, List.replicate_succ, List.replicate_zero, List.cons_append, List.nil_append,
  List.append_nil, List.getElem?_cons_zero, List.getElem?_cons_succ, List.set_cons_zero, List.set_cons_succ, Option.some.injEq, exists_eq_left', exists_eq_left, true_and, and_true, true_implies, false_implies, implies_true, Bool.false_eq_true, reduceCtorEq, false_and, and_false, D.v.injEq, PyData.int.injEq, D.ref.injEq, p1i_int, p2_two, p3_three, decide_true, Bool.not_true, Bool.not_false, decide_eq_true_eq, decide_eq_false_iff_not, isL_ref sto_at]
    rw [len_of (xs := zs) (viewS_ref sto_at)]
    simp only [envE, so_seq, so_if, so_ret, so_retN, so_exp, so_nil, so_nx, so_rt, so_asg, so_asgG, so_par2, so_par3, ok_gNm, ok_gMore, ok_gNone, so_asgT, so_sub, so_for, ok_TB, ok_Tru, ok_notT, ok_andT, ok_orT, ok_andV, ok_orV, ok_notV, ok_iteE, ok_frz, ok_new, ok_mfArg, ok_mfBin, ok_lc, ok_M, ok_M0, ok_moNone, ok_moSome, ok_Sl,
  ok_bin, ok_un, ok_arg, ok_cons, ok_nil, ok_call, ok_var, ok_C, ok_ok, ok_stuck, ok_noX, bOf_bool, low_v, iOf_int, addD_int, subD_int, negD_int, ltD_int, leD_int, gtD_int, geD_int, fInt_int, isD_bool, isNotD_bool, tru_bool, List.map_cons, List.map_nil, List.length_cons, List.length_nil, List.replicate_succ, List.replicate_zero, List.cons_append, List.nil_append,
  List.append_nil, List.getElem?_cons_zero, List.getElem?_cons_succ, List.set_cons_zero, List.set_cons_succ, Option.some.injEq, exists_eq_left', exists_eq_left, true_and, and_true, true_implies, false_implies, implies_true, Bool.false_eq_true, reduceCtorEq, false_and, and_false, D.v.injEq, PyData.int.injEq, D.ref.injEq, p1i_int, p2_two, p3_three, decide_true, Bool.not_true, Bool.not_false, decide_eq_true_eq, decide_eq_false_iff_not]
    refine (hp s1 (rest ++ [.lst zs]) zs.length (by omega) ok).mono ?_
    rintro r st ⟨r, s2, rfl, rfl, ok2, h0, h1, _⟩
    have hr := h1 (by omega)
    obtain ⟨k, rfl⟩ : ∃ k : Nat, r = k := ⟨r.toNat, by omega⟩
    have hk : k < zs.length := by omega
    rw [pop_at sto_at hk (by omega), ok_ok, sto_set]
    refine ⟨_, rfl, s2, _, rfl, ok2, by rw [List.length_eraseIdx_of_lt hk]; omega, ?_⟩
    refine List.Perm.trans ?_ hp1
    rw [List.append_assoc]
    refine List.Perm.append_left _ ?_
    exact perm_out zs k hk
  · rintro acc st ⟨s1, zs, rfl, ok, hz, hp1⟩
    refine ⟨trivial, ?_⟩
    have e : zs = [] := List.eq_nil_of_length_eq_zero (by
      have e2 : (rngI 0 (xs.length : Int).toNat).length = xs.length := by unfold rngI; rw [List.length_map, List.length_range]; omega
      omega)
    subst e
    rw [List.append_nil] at hp1
    exact ⟨acc, s1, rfl, sto_take, ok, hp1⟩
theorem shufA : Shuf LA.f_law_any_order := shuf_ok pickA_ok
theorem shufA2 : Shuf LA.f_law_mixed := shuf_ok pickA_ok
theorem shufB : Shuf LB.f_law_mixed := shuf_ok pickB_ok
/-- one of some -/
def OneOf (f : FF) : Prop := ∀ (s : Src) (rest : Sto) (xs : List PyData), s.ok → 0 < xs.length → xs.length ≤ 1000000 → (f [.ref 1, .v (.list xs)] (s.sto rest)).Ok fun r st => ∃ (z : PyData) (s' : Src), r = .v z ∧ z ∈ xs ∧ st = s'.sto rest ∧ s'.ok
theorem oneOf_ok {pick : FF} (hp : Pick pick) : OneOf (fnT 2 (sRet (mBin subsD (mVar 1) (mCall pick (mCons (mVar 0) (mCons (mArg fLen (mCons (mVar 1) mNil)) mNil)) [])))) := by
  intro s rest xs hs h0 hl
  refine fnT_ok ?_
  simp only [envE, so_seq, so_if, so_ret, so_retN, so_exp, so_nil, so_nx, so_rt, so_asg, so_asgG, so_par2, so_par3, ok_gNm, ok_gMore, ok_gNone, so_asgT, so_sub, so_for, ok_TB, ok_Tru, ok_notT, ok_andT, ok_orT, ok_andV, ok_orV, ok_notV, ok_iteE, ok_frz, ok_new, ok_mfArg, ok_mfBin, ok_lc, ok_M, ok_M0, ok_moNone, ok_moSome, ok_Sl,
  ok_bin, ok_un, ok_arg, ok_cons, ok_nil, ok_call, ok_var, ok_C, ok_ok, ok_stuck, ok_noX, bOf_bool, low_v, iOf_int, addD_int, subD_int, negD_int, ltD_int, leD_int, gtD_int, geD_int, fInt_int, isD_bool, isNotD_bool, tru_bool, List.map_cons, List.map_nil, List.length_cons, List.length_nil, List.replicate_succ, List.replicate_zero, List.cons_append, List.nil_append,
  List.append_nil, List.getElem?_cons_zero, List.getElem?_cons_succ, List.set_cons_zero, List.set_cons_succ, Option.some.injEq, exists_eq_left', exists_eq_left, true_and, and_true, true_implies, false_implies, implies_true, Bool.false_eq_true, reduceCtorEq, false_and, and_false, D.v.injEq, PyData.int.injEq, D.ref.injEq, p1i_int, p2_two, p3_three, decide_true, Bool.not_true, Bool.not_false, decide_eq_true_eq, decide_eq_false_iff_not, len_list]
  refine (hp s rest xs.length (by omega) hs).mono ?_
  rintro r st ⟨r, s2, rfl, rfl, ok2, h0, h1, _⟩
  have hr := h1 (by omega)
  obtain ⟨k, rfl⟩ : ∃ k : Nat, r = k := ⟨r.toNat, by omega⟩
  have hk : k < xs.length := by omega
  rw [sub_list (List.getElem?_eq_getElem hk)]
  exact ⟨rfl, xs[k], s2, rfl, List.getElem_mem hk, take_sto, ok2⟩
theorem oneOfA : OneOf LA.f_law_of := oneOf_ok pickA_ok
theorem oneOfB : OneOf LB.f_law_of := oneOf_ok pickB_ok
/-- the source that a script opens -/
def Opens (f : FF) : Prop := ∀ ns : List Int, ns.length < 1000000 → (f [.scr ns] []).Ok fun r st => ∃ s : Src, r = .ref 1 ∧ st = s.sto [] ∧ s.ok
theorem abs_map {env0 : Ev} {st : Sto} {i : Nat} (h : i < env0.length) (ns : List Int) : lcL none (gNm i) mYes (mArg fAbs (mCons (mVar i) mNil)) env0 (ns.map fun n => .one (.v (.int n))) st = .ok (ns.map fun n => PyData.int n.natAbs) st := by
  rw [lcL_map (fun d => match d with | .one (.v (.int n)) => some (.int n.natAbs) | _ => none)]
  · congr 1
    rw [List.filterMap_map]
    induction ns with
    | nil => rfl
    | cons n r ih => rw [List.filterMap_cons, List.map_cons, ih]; rfl
  · intro d hd
    obtain ⟨n, _, rfl⟩ := List.mem_map.mp hd
    rw [ok_gNm]
    refine ⟨rfl, ?_⟩
    show (Out.ok true st).Ok _
    rw [ok_ok]
    refine ⟨rfl, fun _ => ?_, fun z => nomatch z⟩
    simp only [ok_arg, ok_cons, ok_var, ok_nil, List.getElem?_set_self h, Option.some.injEq, exists_eq_left', fAbs_int, ok_ok]
    exact ⟨trivial, _, rfl, rfl⟩
theorem mix_for {k : Nat} {j : Nat} {env0 : Ev} (hj : j ≠ 1) (h1 : 1 < env0.length) (hj2 : j < env0.length) (ns : List Int) {st : Sto} {N : Ev → Sto → Prop} {T : D → Sto → Prop} {x : Int} (e1 : env0[1]? = some (some (.v (.int x))))
    (h : ∀ (e : Ev) (y : Int), e.length = env0.length → (∀ i, i ≠ 1 → i ≠ j → e[i]? = env0[i]?) → e[1]? = some (some (.v (.int y))) → N e st) :
    (forL none (gNm j) (sAsg (mBin modD (mArg fInt (mCons (mBin addD (mBin addD (mBin mulD (mVar 1) (mC (.int 69069))) (mBin mulD (mVar j) (mC (.int 31)))) (mC (.int 5))) mNil)) (mC (.int 2147483629))) (gNm 1)) (ns.map fun n => .one (.v (.int n))) env0 st).Ok N T := by
  refine forL_inv (fun _ e s => s = st ∧ e.length = env0.length ∧ (∀ i, i ≠ 1 → i ≠ j → e[i]? = env0[i]?) ∧ ∃ y : Int, e[1]? = some (some (.v (.int y)))) _ _ _ 0 ?_ ?_ ⟨rfl, rfl, fun _ _ _ => rfl, x, e1⟩
  · rintro i d e s hd ⟨rfl, hl, ho, y, ey⟩
    rw [List.getElem?_map] at hd
    obtain ⟨n, _, rfl⟩ := Option.map_eq_some_iff.mp hd
    refine ⟨trivial, ?_⟩
    have e2 : (e.set j (some (D.v (.int n))))[1]? = some (some (.v (.int y))) := by rw [List.getElem?_set_ne hj]; exact ey
    have e3 : (e.set j (some (D.v (.int n))))[j]? = some (some (.v (.int n))) := List.getElem?_set_self (by omega)
    rw [ok_gNm]
    simp only [so_asg, ok_bin, ok_arg, ok_cons, ok_var, ok_C, ok_nil, e2, e3, Option.some.injEq, exists_eq_left', mulD_r (show -(2 ^ 64) < (69069 : Int) ∧ (69069 : Int) < 2 ^ 64 by decide), mulD_r (show -(2 ^ 64) < (31 : Int) ∧ (31 : Int) < 2 ^ 64 by decide), ok_ok, addD_int, fInt_int, modD_int (show (0 : Int) < 2147483629 by decide)]
    refine ⟨trivial, by rw [List.length_set, List.length_set]; exact hl, fun i h1 h2 => ?_, _, List.getElem?_set_self (by rw [List.length_set]; omega)⟩
    rw [List.getElem?_set_ne (Ne.symm h1), List.getElem?_set_ne (Ne.symm h2)]
    exact ho i h1 h2
  · rintro e s ⟨rfl, hl, ho, y, ey⟩
    exact ⟨trivial, h e y hl ho ey⟩
theorem ok_rev {m : ME} {env : Ev} {st : Sto} {P : List PyData → Sto → Prop} : (mfRev m env st).Ok P ↔ (m env st).Ok fun a s => ∃ xs, viewL s a = some xs ∧ P xs.reverse s := by
  unfold mfRev
  rw [ok_bind]
  constructor
  · intro h
    refine h.mono fun d s q => ?_
    split at q
    · rename_i xs e
      exact ⟨xs, e, q⟩
    · exact q.elim
  · intro h
    refine h.mono fun d s ⟨xs, e, q⟩ => ?_
    rw [e]
    exact q
theorem ok_prs0 {env : Ev} {st : Sto} {P : List (D × D) → Sto → Prop} : (mPrs [] env st).Ok P ↔ P [] st := Iff.rfl
theorem ok_prs1 {a b : ME} {r : List (ME × ME)} {env : Ev} {st : Sto} {P : List (D × D) → Sto → Prop} : (mPrs ((a, b) :: r) env st).Ok P ↔ (a env st).Ok fun x s1 => (b env s1).Ok fun y s2 => (mPrs r env s2).Ok fun ps s3 => P ((x, y) :: ps) s3 := by
  show ((a env st).bind _).Ok P ↔ _
  simp only [ok_bind, ok_ok]
theorem ok_disp {prs : List (ME × ME)} {env : Ev} {st : Sto} {P : D → Sto → Prop} : (mDisp prs env st).Ok P ↔ (mPrs prs env st).Ok fun ps s => ∃ kvs, keysOf ps = some kvs ∧ (kvs.length ≤ 15 ∧ (kvs.all fun p => p.2.low s.length) = true) ∧ P (.ref s.length) (s ++ [.dct false (putAll [] kvs)]) := by
  unfold mDisp
  rw [ok_bind, ok_noX]
  constructor
  · intro h
    refine h.mono fun d s q => ?_
    split at q
    · rename_i xs e
      split at q
      · rename_i hc
        exact ⟨xs, e, hc, q⟩
      · exact q.elim
    · exact q.elim
  · intro h
    refine h.mono fun d s ⟨xs, e, hc, q⟩ => ?_
    rw [e]
    show (if _ then _ else _ : Out D).Ok P
    rw [if_pos hc]
    exact q
theorem keysC {x y z : D} {w : D} : keysOf [(.v (.str "cells"), x), (.v (.str "left"), y), (.v (.str "mixed"), z), (.v (.str "turn"), w)] = some [(.str "cells", x), (.str "left", y), (.str "mixed", z), (.str "turn", w)] := rfl
theorem putC {x y z : D} {w : D} : putAll [] [(.str "cells", x), (.str "left", y), (.str "mixed", z), (.str "turn", w)] = [(.str "cells", x), (.str "left", y), (.str "mixed", z), (.str "turn", w)] := by rfl
/-- behind the first loop -/
theorem opens_disp {ns : List Int} {y : Int} {P : D → Sto → Prop} {st : Sto} (hs : st = [.lst ((ns.map fun n => PyData.int n.natAbs).reverse)]) (hl : ns.length < 1000000) (h : ∀ s : Src, s.ok → P (.ref 1) (s.sto [])) :
    ∃ kvs, keysOf [(.v (.str "cells"), .ref 0), (.v (.str "left"), .v (.int 1)), (.v (.str "mixed"), .v (.int y)), (.v (.str "turn"), .v (.int 0))] = some kvs ∧ (kvs.length ≤ 15 ∧ (kvs.all fun p => p.2.low st.length) = true) ∧ P (.ref st.length) (st ++ [.dct false (putAll [] kvs)]) := by
  subst hs
  refine ⟨_, keysC, ⟨by simp, by rfl⟩, ?_⟩
  rw [putC]
  have z := h ⟨ns.map fun n => (n.natAbs : Int), 1, y, 0⟩ (by show (ns.map _).length < 1000000; rw [List.length_map]; exact hl)
  have e : (Src.mk (ns.map fun n => (n.natAbs : Int)) 1 y 0).sto [] = [.lst ((ns.map fun n => PyData.int n.natAbs).reverse)] ++ [.dct false [(.str "cells", .ref 0), (.str "left", .v (.int 1)), (.str "mixed", .v (.int y)), (.str "turn", .v (.int 0))]] := by
    show ([O.lst (((ns.map fun n => (n.natAbs : Int)).reverse).map PyData.int), _] : Sto) = _
    rw [← List.map_reverse, List.map_map, ← List.map_reverse]
    rfl
  rw [e] at z
  exact z
theorem opensA : Opens LA.f_law_open_cells := by
  intro ns hl
  refine fnK_ok ?_
  unfold LA.S_law_open_cells LA.S_law_open_cells_2 LA.law_open_cells_E1
  simp only [envE, so_seq, so_if, so_ret, so_retN, so_exp, so_nil, so_nx, so_rt, so_asg, so_asgG, so_par2, so_par3, ok_gNm, ok_gMore, ok_gNone, so_asgT, so_sub, so_for, ok_TB, ok_Tru, ok_notT, ok_andT, ok_orT, ok_andV, ok_orV, ok_notV, ok_iteE, ok_frz, ok_new, ok_mfArg, ok_mfBin, ok_lc, ok_M, ok_M0, ok_moNone, ok_moSome, ok_Sl,
  ok_bin, ok_un, ok_arg, ok_cons, ok_nil, ok_call, ok_var, ok_C, ok_ok, ok_stuck, ok_noX, bOf_bool, low_v, iOf_int, addD_int, subD_int, negD_int, ltD_int, leD_int, gtD_int, geD_int, fInt_int, isD_bool, isNotD_bool, tru_bool, List.map_cons, List.map_nil, List.length_cons, List.length_nil, List.replicate_succ, List.replicate_zero, List.cons_append, List.nil_append,
  List.append_nil, List.getElem?_cons_zero, List.getElem?_cons_succ, List.set_cons_zero, List.set_cons_succ, Option.some.injEq, exists_eq_left', exists_eq_left, true_and, and_true, true_implies, false_implies, implies_true, Bool.false_eq_true, reduceCtorEq, false_and, and_false, D.v.injEq, PyData.int.injEq, D.ref.injEq, p1i_int, p2_two, p3_three, decide_true, Bool.not_true, Bool.not_false, decide_eq_true_eq, decide_eq_false_iff_not, ok_seq, seqW_scr]
  refine mix_for (k := 0) (j := 2) (x := 11) (by decide) (by simp) (by simp) ns rfl fun e y hl2 ho ey => ?_
  unfold LA.S_law_open_cells_3 LA.law_open_cells_E2
  have e0 : e[0]? = some (some (.scr ns)) := ho 0 (by decide) (by decide)
  have hl3 : e.length = 4 := hl2
  simp only [envE, so_seq, so_if, so_ret, so_retN, so_exp, so_nil, so_nx, so_rt, so_asg, so_asgG, so_par2, so_par3, ok_gNm, ok_gMore, ok_gNone, so_asgT, so_sub, so_for, ok_TB, ok_Tru, ok_notT, ok_andT, ok_orT, ok_andV, ok_orV, ok_notV, ok_iteE, ok_frz, ok_new, ok_mfArg, ok_mfBin, ok_lc, ok_M, ok_M0, ok_moNone, ok_moSome, ok_Sl,
  ok_bin, ok_un, ok_arg, ok_cons, ok_nil, ok_call, ok_var, ok_C, ok_ok, ok_stuck, ok_noX, bOf_bool, low_v, iOf_int, addD_int, subD_int, negD_int, ltD_int, leD_int, gtD_int, geD_int, fInt_int, isD_bool, isNotD_bool, tru_bool, List.map_cons, List.map_nil, List.length_cons, List.length_nil, List.replicate_succ, List.replicate_zero, List.cons_append, List.nil_append,
  List.append_nil, List.getElem?_cons_zero, List.getElem?_cons_succ, List.set_cons_zero, List.set_cons_succ, Option.some.injEq, exists_eq_left', exists_eq_left, true_and, and_true, true_implies, false_implies, implies_true, Bool.false_eq_true, reduceCtorEq, false_and, and_false, D.v.injEq, PyData.int.injEq, D.ref.injEq, p1i_int, p2_two, p3_three, decide_true, Bool.not_true, Bool.not_false, decide_eq_true_eq, decide_eq_false_iff_not, ok_seq, seqW_scr, e0]
  have hw : 2 < (wipeE e [2]).length := by show 2 < (e.set 2 none).length; rw [List.length_set]; omega
  unfold LA.law_open_cells_G2 LA.law_open_cells_T1 LA.law_open_cells_M1
  rw [abs_map hw, ok_ok]
  unfold LA.S_law_open_cells_4
  have e3 : ∀ d : D, (e.set 3 (some d))[3]? = some (some d) := fun d => List.getElem?_set_self (by omega)
  have e1 : ∀ d : D, (e.set 3 (some d))[1]? = some (some (.v (.int y))) := fun d => by rw [List.getElem?_set_ne (by decide)]; exact ey
  simp only [so_ret, ok_disp, ok_prs1, ok_prs0, ok_C, ok_new, ok_rev, ok_var, e3, e1, Option.some.injEq, exists_eq_left']
  refine ⟨_, rfl, ?_⟩
  exact opens_disp (y := y) (P := fun d st => ∃ s : Src, d = .ref 1 ∧ st = s.sto [] ∧ s.ok) (st := [O.lst ((ns.map fun n => PyData.int n.natAbs).reverse)]) rfl hl fun s hs => ⟨s, rfl, rfl, hs⟩
theorem opensB : Opens LB.f_law_source := by
  intro ns hl
  refine fnK_ok ?_
  unfold LB.S_law_source LB.S_law_source_2 LB.law_source_E1
  simp only [envE, so_seq, so_if, so_ret, so_retN, so_exp, so_nil, so_nx, so_rt, so_asg, so_asgG, so_par2, so_par3, ok_gNm, ok_gMore, ok_gNone, so_asgT, so_sub, so_for, ok_TB, ok_Tru, ok_notT, ok_andT, ok_orT, ok_andV, ok_orV, ok_notV, ok_iteE, ok_frz, ok_new, ok_mfArg, ok_mfBin, ok_lc, ok_M, ok_M0, ok_moNone, ok_moSome, ok_Sl,
  ok_bin, ok_un, ok_arg, ok_cons, ok_nil, ok_call, ok_var, ok_C, ok_ok, ok_stuck, ok_noX, bOf_bool, low_v, iOf_int, addD_int, subD_int, negD_int, ltD_int, leD_int, gtD_int, geD_int, fInt_int, isD_bool, isNotD_bool, tru_bool, List.map_cons, List.map_nil, List.length_cons, List.length_nil, List.replicate_succ, List.replicate_zero, List.cons_append, List.nil_append,
  List.append_nil, List.getElem?_cons_zero, List.getElem?_cons_succ, List.set_cons_zero, List.set_cons_succ, Option.some.injEq, exists_eq_left', exists_eq_left, true_and, and_true, true_implies, false_implies, implies_true, Bool.false_eq_true, reduceCtorEq, false_and, and_false, D.v.injEq, PyData.int.injEq, D.ref.injEq, p1i_int, p2_two, p3_three, decide_true, Bool.not_true, Bool.not_false, decide_eq_true_eq, decide_eq_false_iff_not, ok_seq, seqW_scr]
  refine mix_for (k := 0) (j := 2) (x := 11) (by decide) (by simp) (by simp) ns rfl fun e y hl2 ho ey => ?_
  unfold LB.S_law_source_3 LB.law_source_E2
  have e0 : e[0]? = some (some (.scr ns)) := ho 0 (by decide) (by decide)
  have hl3 : e.length = 3 := hl2
  simp only [so_ret, ok_disp, ok_prs1, ok_prs0, ok_C, ok_new, ok_rev, ok_frz, ok_lc, ok_var, e0, ey, ok_seq, seqW_scr, ok_ok, Option.some.injEq, exists_eq_left']
  have hw : 2 < (wipeE e [2]).length := by show 2 < (e.set 2 none).length; rw [List.length_set]; omega
  unfold LB.law_source_G2 LB.law_source_T1 LB.law_source_M1
  rw [abs_map hw, ok_ok]
  refine ⟨_, rfl, ?_⟩
  exact opens_disp (y := y) (P := fun d st => ∃ s : Src, d = .ref 1 ∧ st = s.sto [] ∧ s.ok) (st := [O.lst ((ns.map fun n => PyData.int n.natAbs).reverse)]) rfl hl fun s hs => ⟨s, rfl, rfl, hs⟩
end Fw

namespace Fw
open PySem PySem.Spec PyProof.Rows L2

/-! ### data that is shown and compared -/
structure Rep (d : PyData) (w k : Nat) : Prop where
  sh : d.showable = true
  nd : d.hasDict = false
  ls : d.leavesShort 13 = true
  can : d.canLay0 = true
  bulk : d.bulk ≤ w
  dep : d.depth ≤ k
section
variable {d e : PyData} {w k w' k' : Nat} {xs ys : List PyData} {st : Sto}
theorem Rep.mono (r : Rep d w k) (h1 : w ≤ w') (h2 : k ≤ k') : Rep d w' k' := ⟨r.sh, r.nd, r.ls, r.can, Nat.le_trans r.bulk h1, Nat.le_trans r.dep h2⟩
theorem rep_none : Rep .none w k := ⟨rfl, rfl, rfl, rfl, by simp [PyData.bulk], by simp [PyData.depth]⟩
theorem rep_bool {b : Bool} : Rep (.bool b) w k := ⟨rfl, rfl, rfl, rfl, by simp [PyData.bulk], by simp [PyData.depth]⟩
theorem rep_int {i : Int} (h : i.natAbs < 10 ^ 12) : Rep (.int i) w k := by
  refine ⟨?_, rfl, ?_, rfl, by simp [PyData.bulk], by simp [PyData.depth]⟩
  · simp only [PyData.showable, decide_eq_true_eq]
    by_cases h0 : i.natAbs = 0
    · rw [h0]; decide
    · have := (Nat.log2_lt h0 (k := 40)).mpr (Nat.lt_trans h (by decide))
      omega
  · simp only [PyData.leavesShort, decide_eq_true_eq]
    exact PyData.shown_int_le h
theorem rep_all (h : ∀ x ∈ xs, Rep x w k) : PyData.showableAll xs = true ∧ PyData.hasDictAll xs = false ∧ PyData.leavesShortAll 13 xs = true ∧ PyData.canLayAll0 xs = true ∧ PyData.bulkAll xs ≤ xs.length * (w + 1) ∧ PyData.depthAll xs ≤ k := by
  induction xs with
  | nil => exact ⟨rfl, rfl, rfl, rfl, by simp [PyData.bulkAll], by simp [PyData.depthAll]⟩
  | cons x r ih =>
    obtain ⟨a, b, c, e, f, g⟩ := ih fun y hy => h y (List.mem_cons_of_mem _ hy)
    have hx := h x List.mem_cons_self
    refine ⟨by rw [PyData.showableAll, hx.sh, a]; rfl, by rw [PyData.hasDictAll, hx.nd, b]; rfl, by rw [PyData.leavesShortAll, hx.ls, c]; rfl, by rw [PyData.canLayAll0, hx.can, e]; rfl, ?_, ?_⟩
    · rw [PyData.bulkAll, List.length_cons, Nat.add_mul, Nat.one_mul]
      have := hx.bulk
      omega
    · rw [PyData.depthAll]
      exact Nat.max_le.mpr ⟨hx.dep, g⟩
theorem rep_list (h : ∀ x ∈ xs, Rep x w k) (hl : xs.length ≤ w') : Rep (.list xs) (w' * (w + 1)) (k + 1) := by
  obtain ⟨a, b, c, e, f, g⟩ := rep_all h
  exact ⟨by rw [PyData.showable]; exact a, by rw [PyData.hasDict]; exact b, by rw [PyData.leavesShort]; exact c, by rw [PyData.canLay0]; exact e, by rw [PyData.bulk]; exact Nat.le_trans f (Nat.mul_le_mul_right _ hl), by rw [PyData.depth]; exact Nat.succ_le_succ g⟩
theorem rep_tup (h : ∀ x ∈ xs, Rep x w k) (hl : xs.length ≤ w') : Rep (.tuple xs) (w' * (w + 1)) (k + 1) := by
  obtain ⟨a, b, c, e, f, g⟩ := rep_all h
  exact ⟨by rw [PyData.showable]; exact a, by rw [PyData.hasDict]; exact b, by rw [PyData.leavesShort]; exact c, by rw [PyData.canLay0]; exact e, by rw [PyData.bulk]; exact Nat.le_trans f (Nat.mul_le_mul_right _ hl), by rw [PyData.depth]; exact Nat.succ_le_succ g⟩
theorem rep_ints {is : List Int} (h : ∀ i ∈ is, i.natAbs < 10 ^ 12) (hl : is.length ≤ w') : Rep (.tuple (is.map .int)) w' 1 := by
  have z := rep_tup (xs := is.map .int) (w := 0) (k := 0) (w' := w') (fun x hx => by
    obtain ⟨i, hi, rfl⟩ := List.mem_map.mp hx
    exact rep_int (h i hi)) (by rw [List.length_map]; exact hl)
  rw [Nat.zero_add, Nat.mul_one] at z
  exact z
theorem rep_intsL {is : List Int} (h : ∀ i ∈ is, i.natAbs < 10 ^ 12) (hl : is.length ≤ w') : Rep (.list (is.map .int)) w' 1 := by
  have z := rep_list (xs := is.map .int) (w := 0) (k := 0) (w' := w') (fun x hx => by
    obtain ⟨i, hi, rfl⟩ := List.mem_map.mp hx
    exact rep_int (h i hi)) (by rw [List.length_map]; exact hl)
  rw [Nat.zero_add, Nat.mul_one] at z
  exact z
theorem repr_of0 (r : Rep d w k) (h1 : w ≤ 60000 := by decide) (h2 : k ≤ 60 := by decide) : fRepr [.v d] st = .ok (.v (.str d.shown)) st := by
  have hl := PyData.shown_le_bulk 13 (by decide) d r.ls
  have hb := r.bulk
  show (if _ then _ else _ : Out D) = _
  rw [if_pos]
  simp only [Bool.and_eq_true, Bool.not_eq_true', decide_eq_true_eq]
  refine ⟨⟨⟨r.sh, r.nd⟩, Nat.le_trans r.dep h2⟩, ?_⟩
  show _ ≤ 1000000
  omega
theorem repr_of (r : Rep d w k) (h1 : w ≤ 60000 := by decide) (h2 : k ≤ 60 := by decide) : fReprK [.v d] st = .ok (.v (.str d.shown)) st := by
  show (if noL d && d.showable && decide (d.depth ≤ 60) && decide (d.shown.length ≤ lim) then Out.ok (D.v (.str d.shown)) st else fRepr [.v d] st) = _
  split
  · rfl
  · exact repr_of0 r h1 h2
/-- data with dicts, without lists -/
structure RepD (d : PyData) (w k : Nat) : Prop where
  nl : noL d = true
  sh : d.showable = true
  ls : d.leavesShort 13 = true
  bulk : d.bulk ≤ w
  dep : d.depth ≤ k
theorem repr_ofD (r : RepD d w k) (h1 : w ≤ 60000 := by decide) (h2 : k ≤ 60 := by decide) : fReprK [.v d] st = .ok (.v (.str d.shown)) st := by
  have hl := PyData.shown_le_bulk 13 (by decide) d r.ls
  have hb := r.bulk
  show (if noL d && d.showable && decide (d.depth ≤ 60) && decide (d.shown.length ≤ lim) then Out.ok (D.v (.str d.shown)) st else fRepr [.v d] st) = _
  rw [if_pos]
  simp only [Bool.and_eq_true, decide_eq_true_eq]
  refine ⟨⟨⟨r.nl, r.sh⟩, Nat.le_trans r.dep h2⟩, ?_⟩
  show _ ≤ 1000000
  omega
theorem shaped_of (r : Rep d w k) (h2 : k ≤ 60 := by decide) : SeqAt.shaped d = true := by
  unfold SeqAt.shaped
  rw [r.can, Bool.true_and]
  exact decide_eq_true (Nat.le_trans r.dep (by omega))
theorem eqS_str {x y : Str} : eqS st (.v (.str x)) (.v (.str y)) = some (decide (x = y)) := rfl
@[simp] theorem eqD_str {x y : Str} : eqD (.v (.str x)) (.v (.str y)) st = .ok (.v (.bool (decide (x = y)))) st := rfl
@[simp] theorem neD_str {x y : Str} : neD (.v (.str x)) (.v (.str y)) st = .ok (.v (.bool (!decide (x = y)))) st := rfl
theorem eqT_of (hd : SeqAt.shaped d = true) (he : SeqAt.shaped e = true) : eqT st (.v d) (.v e) = some (PyData.eqv d e) := by
  show (if SeqAt.shaped d && SeqAt.shaped e then some (PyData.eqv d e) else none) = _
  rw [hd, he]
  rfl
theorem shaped_int {i : Int} : SeqAt.shaped (.int i) = true := by
  unfold SeqAt.shaped
  simp [PyData.canLay0, PyData.depth]
theorem eqS_int {i j : Int} : eqS st (.v (.int i)) (.v (.int j)) = some (decide (i = j)) := by
  refine (eqT_of (st := st) shaped_int shaped_int).trans ?_
  simp only [PyData.eqv]
  exact congrArg some (Bool.eq_iff_iff.mpr (by simp))
@[simp] theorem eqD_int {i j : Int} : eqD (.v (.int i)) (.v (.int j)) st = .ok (.v (.bool (decide (i = j)))) st := by
  unfold eqD
  rw [eqS_int]
@[simp] theorem neD_int {i j : Int} : neD (.v (.int i)) (.v (.int j)) st = .ok (.v (.bool (!decide (i = j)))) st := by
  unfold neD
  rw [eqS_int]
theorem eqS_same (r : Rep d w k) (h2 : k ≤ 60 := by decide) : eqS st (.v d) (.v d) = some true := by
  have hs := shaped_of r h2
  have he : PyData.eqv d d = true := SeqAt.eqv_refl d r.can
  cases d with
  | str x => rw [eqS_str, decide_eq_true rfl]
  | _ => exact (eqT_of (st := st) hs hs).trans (by rw [he])
theorem eq_same (r : Rep d w k) (h2 : k ≤ 60 := by decide) : eqD (.v d) (.v d) st = .ok (.v (.bool true)) st := by
  unfold eqD
  rw [eqS_same r h2]
theorem ne_same (r : Rep d w k) (h2 : k ≤ 60 := by decide) : neD (.v d) (.v d) st = .ok (.v (.bool false)) st := by
  unfold neD
  rw [eqS_same r h2]
  rfl
end
end Fw

namespace Fw
open PySem PySem.Spec PyProof.Rows L2

/-! ### more of lists -/
section
variable {st : Sto} {xs ys : List PyData} {a b c e : PyData} {is js : List Int}
@[simp] theorem disp0 : gDisp [] st = .ok [] st := rfl
@[simp] theorem disp1 : gDisp [.v a] st = .ok [a] st := rfl
@[simp] theorem disp2 : gDisp [.v a, .v b] st = .ok [a, b] st := rfl
@[simp] theorem disp3 : gDisp [.v a, .v b, .v c] st = .ok [a, b, c] st := rfl
@[simp] theorem disp4 : gDisp [.v a, .v b, .v c, .v e] st = .ok [a, b, c, e] st := rfl
@[simp] theorem tup0 : fTup [] st = .ok (.v (.tuple [])) st := rfl
@[simp] theorem tup1 : fTup [.v a] st = .ok (.v (.tuple [a])) st := rfl
@[simp] theorem tup2 : fTup [.v a, .v b] st = .ok (.v (.tuple [a, b])) st := rfl
@[simp] theorem tup3 : fTup [.v a, .v b, .v c] st = .ok (.v (.tuple [a, b, c])) st := rfl
@[simp] theorem tup4 : fTup [.v a, .v b, .v c, .v e] st = .ok (.v (.tuple [a, b, c, e])) st := rfl
theorem intsOf_map : ∀ is : List Int, intsOf (is.map .int) = some is
  | [] => rfl
  | i :: r => by
    show (intsOf (r.map .int)).map (i :: ·) = _
    rw [intsOf_map r]
    rfl
theorem sum_list : fSum [.v (.list (is.map .int))] st = .ok (.v (.int is.sum)) st := by
  show (match intsOf (is.map .int) with
    | some ns => _
    | none => _) = _
  rw [intsOf_map]
theorem sum_tup : fSum [.v (.tuple (is.map .int))] st = .ok (.v (.int is.sum)) st := by
  show (match intsOf (is.map .int) with
    | some ns => _
    | none => _) = _
  rw [intsOf_map]
theorem cut_take {α : Type} (l : List α) (k : Nat) : cutP l none (some (k : Int)) = l.take k := by
  unfold cutP
  rw [HT.sIx_none, HT.sIx_nat, List.drop_zero, Nat.sub_zero]
  rcases Nat.le_total k l.length with h | h
  · rw [Nat.min_eq_left h]
  · rw [Nat.min_eq_right h, List.take_length, List.take_of_length_le h]
theorem cut_drop {α : Type} (l : List α) (k : Nat) : cutP l (some (k : Int)) none = l.drop k := by
  unfold cutP
  rw [HT.sIx_none, HT.sIx_nat]
  rcases Nat.le_total k l.length with h | h
  · rw [Nat.min_eq_left h, List.take_of_length_le (by rw [List.length_drop]; omega)]
  · rw [Nat.min_eq_right h, Nat.sub_self, List.drop_eq_nil_of_le h]
    rfl
theorem slice_list {lo hi : Option Int} : slD (.v (.list xs)) lo hi st = .ok (.v (.list (cutP xs lo hi))) st := rfl
theorem slice_tup {lo hi : Option Int} : slD (.v (.tuple xs)) lo hi st = .ok (.v (.tuple (cutP xs lo hi))) st := rfl
theorem rep_list0 {k : Int} (h1 : -1000000 ≤ k ∧ k ≤ 1000000) (h : xs.length * k.toNat ≤ 1000000) : gRep (.v (.list xs)) (.v (.int k)) st = .ok (List.replicate k.toNat xs).flatten st := by
  show (if -1000000 ≤ k ∧ k ≤ 1000000 ∧ xs.length * k.toNat ≤ lim then _ else _) = _
  rw [if_pos ⟨h1.1, h1.2, h⟩]
theorem rep_one {n : Nat} (h : n ≤ 1000000) : gRep (.v (.list [a])) (.v (.int n)) st = .ok (List.replicate n a) st := by
  rw [rep_list0 ⟨by omega, by omega⟩ (by rw [List.length_singleton, Int.toNat_natCast]; omega), Int.toNat_natCast]
  congr 1
  induction n with
  | zero => rfl
  | succ n ih => rw [List.replicate_succ, List.replicate_succ, List.flatten_cons, ih (by omega)]; rfl
end
/-! walks -/
section
variable {m : MA} {env : Ev} {st : Sto} {P : List Itm × Wt → Sto → Prop} {xs ys : List PyData} {is js : List Int}
def zipW (ds : List D) (s1 : Sto) : Out (List Itm × Wt) := match ds with
  | [a, b] => match seqI s1 a, seqI s1 b with
    | some (xs, none), some (ys, none) => if isT a == isT b then .ok (zip2I xs ys, none) s1 else .stuck
    | _, _ => .stuck
  | _ => .stuck
theorem ok_zip : (miZip m env st).Ok P ↔ (m env st).Ok fun ds s => (zipW ds s).Ok P := ok_bind
theorem zip_tup : zipW [.v (.tuple xs), .v (.tuple ys)] st = .ok (zip2I xs ys, none) st := rfl
theorem zip_list : zipW [.v (.list xs), .v (.list ys)] st = .ok (zip2I xs ys, none) st := rfl
theorem zip_ints : zip2I (is.map .int) (js.map .int) = (is.zip js).map fun p => .many [.v (.int p.1), .v (.int p.2)] := by
  unfold zip2I
  rw [List.zip_map, List.map_map]
  rfl
def enumW (ds : List D) (s1 : Sto) : Out (List Itm × Wt) := match ds with
  | [d] => match seqI s1 d with
    | some (zs, w) => .ok (enumI zs, w) s1
    | none => .stuck
  | _ => .stuck
theorem ok_enum : (miEnum m env st).Ok P ↔ (m env st).Ok fun ds s => (enumW ds s).Ok P := ok_bind
theorem enum_tup : enumW [.v (.tuple xs)] st = .ok (enumI xs, none) st := rfl
theorem enum_list : enumW [.v (.list xs)] st = .ok (enumI xs, none) st := rfl
theorem ok_gTp2 {i j : Nat} {x y : D} {Q : Ev → Sto → Prop} : (gTp 2 (gMore (gNm i) (gMore (gNm j) gNone)) (.many [x, y]) env st).Ok Q ↔ Q ((env.set i (some x)).set j (some y)) st := Iff.rfl
theorem ok_yes {Q : Bool → Sto → Prop} : (mYes env st).Ok Q ↔ Q true st := Iff.rfl
theorem ok_Rg1 {me : ME} {Q : List PyData → Sto → Prop} : (mRg1 me env st).Ok Q ↔ (me env st).Ok fun d s => ∃ n, iOf d = some n ∧ rgOk 0 n = true ∧ Q (rgD 0 n) s := by
  unfold mRg1
  rw [ok_bind]
  constructor
  · intro h
    refine h.mono fun d s q => ?_
    split at q
    · rename_i n e
      split at q
      · rename_i hc
        exact ⟨n, e, hc, q⟩
      · exact q.elim
    · exact q.elim
  · intro h
    refine h.mono fun d s ⟨n, e, hc, q⟩ => ?_
    rw [e]
    show (if rgOk 0 n then Out.ok (rgD 0 n) s else .stuck).Ok Q
    rw [if_pos hc]
    exact q
theorem rg_nat {n : Nat} : rgD 0 (n : Int) = (List.range n).map fun i : Nat => .int i := by
  unfold rgD
  rw [Int.sub_zero, Int.toNat_natCast]
  exact List.map_congr_left fun i _ => by rw [Int.zero_add]
theorem rgOk_nat {n : Nat} (h : n ≤ 1000000) : rgOk 0 (n : Int) = true := decide_eq_true ⟨by decide, by decide, by omega, by omega⟩
theorem rngI_nat {n : Nat} : rngI 0 n = (List.range n).map fun i : Nat => .one (.v (.int i)) := by
  unfold rngI
  exact List.map_congr_left fun i _ => by rw [Int.zero_add]
end
/-- a list by a plain function of what its turns go over -/
theorem lcL_mapA {α : Type} {g : MG} {t : MT} {m : ME} {env0 : Ev} {st : Sto} (f : α → Itm) (F : α → Option PyData) : ∀ (l : List α),
    (∀ a ∈ l, (g (f a) env0 st).Ok fun e1 s1 => s1 = st ∧ (t e1 st).Ok fun k s2 => s2 = st ∧ (k = true → (m e1 st).Ok fun v s3 => s3 = st ∧ ∃ z, v = .v z ∧ F a = some z) ∧ (k = false → F a = none)) →
    lcL none g t m env0 (l.map f) st = .ok (l.filterMap F) st
  | [], _ => by
    unfold List.map lcL
    rw [if_pos (show chk none st from trivial)]
    rfl
  | a :: r, h => by
    have ih := lcL_mapA f F r fun d hd => h d (List.mem_cons_of_mem _ hd)
    obtain ⟨e1, s1, eg, rfl, q⟩ := (h a List.mem_cons_self).eq
    obtain ⟨k, s2, et, rfl, q1, q2⟩ := q.eq
    rw [List.map_cons]
    unfold lcL
    rw [if_pos (show chk none s2 from trivial), eg, noX_ok, bind_ok, et, noX_ok, bind_ok]
    cases k with
    | true =>
      obtain ⟨v, s3, em, rfl, z, rfl, ez⟩ := (q1 rfl).eq
      rw [if_pos rfl, em, noX_ok, bind_ok]
      show (lcL none g t m env0 (r.map f) s3).bind _ = _
      rw [ih, bind_ok, List.filterMap_cons, ez]
    | false =>
      rw [if_neg Bool.false_ne_true, ih, List.filterMap_cons, q2 rfl]
/-- each gives one -/
theorem lcL_all {α : Type} {g : MG} {m : ME} {env0 : Ev} {st : Sto} (f : α → Itm) (F : α → PyData) (l : List α)
    (h : ∀ a ∈ l, (g (f a) env0 st).Ok fun e1 s1 => s1 = st ∧ (m e1 st).Ok fun v s3 => s3 = st ∧ v = .v (F a)) : lcL none g mYes m env0 (l.map f) st = .ok (l.map F) st := by
  rw [lcL_mapA f (fun a => some (F a)) l fun a ha => ?_]
  · rw [List.filterMap_eq_map']
  · refine (h a ha).mono fun e1 s1 ⟨e, q⟩ => ⟨e, ?_⟩
    rw [ok_yes]
    exact ⟨rfl, fun _ => q.mono fun v s3 ⟨e3, ev⟩ => ⟨e3, _, ev, rfl⟩, fun z => nomatch z⟩
/-- each gives one, drawn from the source -/
theorem lcL_draw {g : MG} {m : ME} {env0 : Ev} {rest : Sto} (Q : Itm → PyData → Prop) : ∀ (ds : List Itm) (s : Src), s.ok →
    (∀ d ∈ ds, ∀ s : Src, s.ok → (g d env0 (s.sto rest)).Ok fun e1 st1 => st1 = s.sto rest ∧ (m e1 (s.sto rest)).Ok fun v st2 => ∃ (z : PyData) (s' : Src), v = .v z ∧ st2 = s'.sto rest ∧ s'.ok ∧ Q d z) →
    (lcL none g mYes m env0 ds (s.sto rest)).Ok fun zs st => ∃ s' : Src, st = s'.sto rest ∧ s'.ok ∧ Paired Q ds zs
  | [], s, hs, _ => by
    unfold lcL
    rw [if_pos (show chk none (s.sto rest) from trivial)]
    exact ⟨s, rfl, hs, .nil⟩
  | d :: r, s, hs, h => by
    unfold lcL
    rw [if_pos (show chk none (s.sto rest) from trivial), ok_bind, ok_noX]
    refine (h d List.mem_cons_self s hs).mono ?_
    rintro e1 st1 ⟨rfl, q⟩
    show (Out.bind (Out.noX (Out.ok true _)) _).Ok _
    rw [noX_ok, bind_ok, if_pos rfl, ok_bind, ok_noX]
    refine q.mono ?_
    rintro v st2 ⟨z, s', rfl, rfl, ok', hq⟩
    show (Out.bind _ _).Ok _
    rw [ok_bind]
    refine (lcL_draw Q r s' ok' fun d hd => h d (List.mem_cons_of_mem _ hd)).mono ?_
    rintro zs st ⟨s2, rfl, ok2, f⟩
    exact ⟨s2, rfl, ok2, .cons hq f⟩
theorem paired_ints {α : Type} {P : α → Int → Prop} {ds : List α} {zs : List PyData} (h : Paired (fun d z => ∃ r : Int, z = .int r ∧ P d r) ds zs) : ∃ rs : List Int, zs = rs.map .int ∧ Paired P ds rs := by
  induction h with
  | nil => exact ⟨[], rfl, .nil⟩
  | cons h _ ih =>
    obtain ⟨r, rfl, hp⟩ := h
    obtain ⟨rs, rfl, q⟩ := ih
    exact ⟨r :: rs, rfl, .cons hp q⟩
theorem paired_mem {α β : Type} {P : α → β → Prop} {ds : List α} {rs : List β} (h : Paired P ds rs) {b : β} (hb : b ∈ rs) : ∃ a ∈ ds, P a b := by
  induction h with
  | nil => cases hb
  | cons h _ ih =>
    rcases List.mem_cons.mp hb with rfl | hb
    · exact ⟨_, List.mem_cons_self, h⟩
    · obtain ⟨a, ha, q⟩ := ih hb
      exact ⟨a, List.mem_cons_of_mem _ ha, q⟩
theorem paired_at {α β : Type} {P : α → β → Prop} {ds : List α} {rs : List β} (h : Paired P ds rs) {i : Nat} (h1 : i < ds.length) (h2 : i < rs.length) : P ds[i] rs[i] := by
  induction h generalizing i with
  | nil => exact absurd h1 (Nat.not_lt_zero _)
  | cons h _ ih =>
    cases i with
    | zero => exact h
    | succ i => exact ih (Nat.lt_of_succ_lt_succ h1) (Nat.lt_of_succ_lt_succ h2)
end Fw

namespace Fw
open PySem PySem.Spec PyProof.Rows L2

/-! ### tuples and lists of places (natural numbers) -/
abbrev nI (k : Nat) : PyData := .int (k : Int)
abbrev tNs (l : List Nat) : PyData := .tuple (l.map nI)
abbrev lNs (l : List Nat) : PyData := .list (l.map nI)
section
variable {st : Sto} {l row : List Nat} {k b : Nat} {e0 : Ev} {P : D → Sto → Prop}
theorem get_nat (h : k < l.length) : (l.map nI)[k]? = some (nI l[k]) := by rw [List.getElem?_map, List.getElem?_eq_getElem h]; rfl
theorem flat_nats (l : List Nat) : (l.map nI).all flatP = true := by
  rw [List.all_map]
  exact List.all_eq_true.mpr fun _ _ => rfl
theorem eqv_nat {a b : Nat} : PyData.eqv (nI a) (nI b) = decide (a = b) := by
  simp only [PyData.eqv]
  exact Bool.eq_iff_iff.mpr (by simp only [beq_iff_eq, decide_eq_true_eq]; omega)
theorem any_nat (l : List Nat) (b : Nat) : ((l.map nI).any fun y => PyData.eqv y (nI b)) = decide (b ∈ l) := by
  rw [List.any_map]
  induction l with
  | nil => rfl
  | cons a r ih =>
    rw [List.any_cons, ih]
    show (PyData.eqv (nI a) (nI b) || _) = _
    rw [eqv_nat]
    by_cases h : a = b
    · subst h; simp
    · have : ¬ b = a := fun z => h z.symm
      simp [h, this]
theorem inS_tup : inS st (.v (nI b)) (.v (tNs l)) = some (decide (b ∈ l)) := by
  show (if flatP (nI b) && (l.map nI).all flatP then some ((l.map nI).any fun y => PyData.eqv y (nI b)) else _) = _
  rw [flat_nats, any_nat]
  rfl
theorem inS_list : inS st (.v (nI b)) (.v (lNs l)) = some (decide (b ∈ l)) := by
  show (if flatP (nI b) && (l.map nI).all flatP then some ((l.map nI).any fun y => PyData.eqv y (nI b)) else _) = _
  rw [flat_nats, any_nat]
  rfl
theorem in_tup : inU (.v (nI b)) (.v (tNs l)) st = .ok (.v (.bool (decide (b ∈ l)))) st := by
  show (match inS st (.v (nI b)) (.v (tNs l)) with
    | some k => Out.ok (D.v (.bool k)) st
    | none => .stuck) = _
  rw [inS_tup]
theorem in_list : inU (.v (nI b)) (.v (lNs l)) st = .ok (.v (.bool (decide (b ∈ l)))) st := by
  show (match inS st (.v (nI b)) (.v (lNs l)) with
    | some k => Out.ok (D.v (.bool k)) st
    | none => .stuck) = _
  rw [inS_list]
theorem notIn_tup : notInU (.v (nI b)) (.v (tNs l)) st = .ok (.v (.bool (!decide (b ∈ l)))) st := by
  show (match inS st (.v (nI b)) (.v (tNs l)) with
    | some k => Out.ok (D.v (.bool (!k))) st
    | none => .stuck) = _
  rw [inS_tup]
theorem notIn_list : notInU (.v (nI b)) (.v (lNs l)) st = .ok (.v (.bool (!decide (b ∈ l)))) st := by
  show (match inS st (.v (nI b)) (.v (lNs l)) with
    | some k => Out.ok (D.v (.bool (!k))) st
    | none => .stuck) = _
  rw [inS_list]
theorem sub_tN (h : k < l.length) : subsD (.v (tNs l)) (.v (.int (k : Int))) st = .ok (.v (nI l[k])) st := sub_tup (get_nat h)
theorem sub_lN (h : k < l.length) : subsD (.v (lNs l)) (.v (.int (k : Int))) st = .ok (.v (nI l[k])) st := sub_list (get_nat h)
/-- the place of b in l -/
theorem idxP_nat : ∀ {l : List Nat} {b : Nat}, b ∈ l → idxP (nI b) (l.map nI) = some (l.idxOf b)
  | [], _, h => nomatch h
  | a :: r, b, h => by
    rw [List.map_cons]
    unfold idxP
    rw [eqv_nat]
    by_cases e : a = b
    · subst e
      simp
    · have hb : b ∈ r := (List.mem_cons.mp h).resolve_left fun z => e z.symm
      rw [if_neg (by simpa using e), idxP_nat hb, List.idxOf_cons]
      have e2 : (a == b) = false := by simpa using e
      rw [e2]
      rfl
theorem index_tN (h : b ∈ l) : fmIndex (.v (tNs l)) [.v (nI b)] st = .ok (.v (nI (l.idxOf b))) st := by
  show (if flatP (nI b) && (l.map nI).all flatP then _ else _ : Out D) = _
  have e : (flatP (nI b) && (l.map nI).all flatP) = true := by rw [flat_nats]; rfl
  rw [if_pos e, idxP_nat h]
theorem index_lN (h : b ∈ l) : fmIndex (.v (lNs l)) [.v (nI b)] st = .ok (.v (nI (l.idxOf b))) st := by
  show (if flatP (nI b) && (l.map nI).all flatP then _ else _ : Out D) = _
  have e : (flatP (nI b) && (l.map nI).all flatP) = true := by rw [flat_nats]; rfl
  rw [if_pos e, idxP_nat h]
theorem rep_tNs {w : Nat} (h : ∀ k ∈ l, k < 10 ^ 12) (hl : l.length ≤ w) : Rep (tNs l) w 1 := by
  have e : tNs l = .tuple ((l.map fun k : Nat => (k : Int)).map .int) := by
    rw [List.map_map]
    rfl
  rw [e]
  refine rep_ints (fun x hx => ?_) (by rw [List.length_map]; exact hl)
  obtain ⟨k, hk, rfl⟩ := List.mem_map.mp hx
  exact h k hk
end
theorem shaped_nil {t : List PyData → PyData} (h : t = .list ∨ t = .tuple) : SeqAt.shaped (t []) = true := by
  rcases h with rfl | rfl <;> (unfold SeqAt.shaped; simp [PyData.canLay0, PyData.canLayAll0, PyData.depth, PyData.depthAll])
theorem shaped_nats (l : List Nat) : SeqAt.shaped (lNs l) = true := by
  have key : ∀ l : List Nat, PyData.canLayAll0 (l.map nI) = true ∧ PyData.depthAll (l.map nI) = 0 := fun l => by
    induction l with
    | nil => exact ⟨rfl, rfl⟩
    | cons a r ih =>
      rw [List.map_cons, PyData.canLayAll0, PyData.depthAll, ih.1, ih.2]
      simp [PyData.canLay0, PyData.depth]
  unfold SeqAt.shaped
  rw [PyData.canLay0, PyData.depth, (key l).1, (key l).2]
  rfl
theorem ne_nilL {xs : List PyData} {st : Sto} (h : SeqAt.shaped (.list xs) = true) : neD (.v (.list xs)) (.v (.list [])) st = .ok (.v (.bool (!xs.isEmpty))) st := by
  unfold neD
  have e : eqS st (.v (.list xs)) (.v (.list [])) = some xs.isEmpty := by
    refine (eqT_of (st := st) h (shaped_nil (t := .list) (.inl rfl))).trans ?_
    rw [PyData.eqv]
    cases xs <;> simp [PyData.eqvAll]
  rw [e]
theorem eq_nilL {xs : List PyData} {st : Sto} (h : SeqAt.shaped (.list xs) = true) : eqD (.v (.list xs)) (.v (.list [])) st = .ok (.v (.bool xs.isEmpty)) st := by
  unfold eqD
  have e : eqS st (.v (.list xs)) (.v (.list [])) = some xs.isEmpty := by
    refine (eqT_of (st := st) h (shaped_nil (t := .list) (.inl rfl))).trans ?_
    rw [PyData.eqv]
    cases xs <;> simp [PyData.eqvAll]
  rw [e]
/-- o.index(x) -/
theorem ok_Index {mo : ME} {ma : MA} {env : Ev} {st : Sto} {P : D → Sto → Prop} : (mIndex mo ma env st).Ok P ↔ (mo env st).Ok fun o s => (isL s o || isT o) = true ∧ (ma env s).Ok fun ds s2 => (fmIndex o ds s2).Ok P := by
  unfold mIndex
  rw [ok_bind]
  constructor
  · intro h
    refine h.mono fun d s q => ?_
    split at q
    · rename_i e
      exact ⟨e, ok_bind.mp q⟩
    · exact q.elim
  · intro h
    refine h.mono fun d s ⟨e, q⟩ => ?_
    rw [if_pos e]
    exact ok_bind.mpr q
@[simp] theorem isT_tup {xs : List PyData} : isT (.v (.tuple xs)) = true := rfl
@[simp] theorem isL_list {st : Sto} {xs : List PyData} : isL st (.v (.list xs)) = true := rfl
def P2i (ds : List D) (f : Int → Int → Prop) : Prop := match ds with
  | [.v (.int i), .v (.int j)] => f i j
  | _ => False
@[simp] theorem p2i_int {i j : Int} {f : Int → Int → Prop} : P2i [.v (.int i), .v (.int j)] f ↔ f i j := Iff.rfl
theorem ok_R2 {m : MA} {env : Ev} {st : Sto} {P : List Itm × Wt → Sto → Prop} : (miR2 m env st).Ok P ↔ (m env st).Ok fun ds s => P2i ds fun i j => (-1000000 ≤ i ∧ i ≤ 1000000 ∧ -1000000 ≤ j ∧ j ≤ 1000000) ∧ P (rngI i (j - i).toNat, none) s := by
  unfold miR2
  rw [ok_bind]
  constructor
  · intro h
    refine h.mono fun ds s q => ?_
    split at q
    · split at q
      · rename_i i j e1 e2
        split at q
        · rename_i hb
          have ed := iOf_eq e1
          have ee := iOf_eq e2
          subst ed ee
          exact ⟨hb, q⟩
        · exact q.elim
      · exact q.elim
    · exact q.elim
  · intro h
    refine h.mono fun ds s q => ?_
    unfold P2i at q
    split at q
    · rename_i i j
      show (if -1000000 ≤ i ∧ i ≤ 1000000 ∧ -1000000 ≤ j ∧ j ≤ 1000000 then Out.ok (rngI i (j - i).toNat, none) s else .stuck).Ok P
      rw [if_pos q.1]
      exact q.2
    · exact q.elim
/-- a .. n - 1 -/
def ups (a n : Nat) : List Nat := (List.range (n - a)).map (a + ·)
theorem mem_ups {a n b : Nat} : b ∈ ups a n ↔ a ≤ b ∧ b < n := by
  unfold ups
  rw [List.mem_map]
  constructor
  · rintro ⟨i, hi, rfl⟩
    have := List.mem_range.mp hi
    omega
  · rintro ⟨h1, h2⟩
    exact ⟨b - a, List.mem_range.mpr (by omega), by omega⟩
theorem rng_ups {a n : Nat} : rngI (a : Int) ((n : Int) - (a : Int)).toNat = (ups a n).map fun b : Nat => .one (.v (nI b)) := by
  unfold rngI ups
  rw [List.map_map, show ((n : Int) - (a : Int)).toNat = n - a by omega]
  refine List.map_congr_left fun i _ => ?_
  show Itm.one (.v (.int ((a : Int) + (i : Int)))) = .one (.v (.int ((a + i : Nat) : Int)))
  rw [Int.natCast_add]
theorem cat_list {xs ys : List PyData} {st : Sto} (h : xs.length + ys.length ≤ 1000000) : gCat (.v (.list xs)) (.v (.list ys)) st = .ok (xs ++ ys) st := by
  show (if xs.length + ys.length ≤ lim then _ else _) = _
  rw [if_pos (show xs.length + ys.length ≤ lim from h)]
end Fw

namespace Fw
open PySem PySem.Spec PyProof.Rows L2

/-! ### x[::-1] of a tuple (or of a list that stays as it is) -/
section
variable {prog : Program} {w : World} {A : Around} {E : Value → Shared → Prop} {s : Shared}
theorem places_back (n : Nat) : Builtin.Slice.slicePlaces ((n : Int) - 1) (-1) (-1) = n := by
  unfold Builtin.Slice.slicePlaces
  rw [if_neg (by decide)]
  split
  · rw [show (-(-1) : Int) = 1 by decide, Int.ediv_one]
    omega
  · omega
theorem applied_back {sl : Addr} {vs : Value} {n : Nat} {Q : Int × Int × Nat → Shared → Prop} (hs : s.heap.IsSliceOf sl .none .none vs) (ps : IsPart vs (some (-1)))
    (h : Q ((n : Int) - 1, -1, n) s) : wpAny (model prog w) A (Builtin.Slice.sliceApplied (.ref sl) (pure (n : Int))) Q E s := by
  obtain ⟨o, h1, _, h3⟩ := id hs
  unfold Builtin.Slice.sliceApplied Builtin.Slice.sliceFields
  refine wpAny_bind (wpAny_bind ?_)
  refine wpAny_field h1 h3 (x := .none) rfl (wpAny_bind ?_)
  refine wpAny_field h1 h3 (x := .none) rfl (wpAny_bind ?_)
  refine wpAny_field h1 h3 (x := vs) rfl (wpAny_pure ?_)
  refine wpAny_bind (HT.slicePart_ ps ?_)
  show wpAny _ _ (if ((-1 : Int) == 0) = true then _ else _) _ _ s
  rw [if_neg (by decide)]
  refine wpAny_bind (HT.slicePart_ .none ?_)
  refine wpAny_bind (HT.slicePart_ .none ?_)
  refine wpAny_bind (wpAny_pure ?_)
  have e : Builtin.Slice.sliceAdjust none none (-1) (n : Int) = ((n : Int) - 1, -1) := rfl
  show wpAny _ _ (match Builtin.Slice.sliceAdjust none none (-1) (n : Int) with | (a, b) => pure (a, (-1 : Int), Builtin.Slice.slicePlaces a b (-1))) _ _ s
  rw [e]
  show wpAny _ _ (pure ((n : Int) - 1, (-1 : Int), Builtin.Slice.slicePlaces ((n : Int) - 1) (-1) (-1))) _ _ s
  rw [places_back]
  exact wpAny_pure h
theorem fm_congr {α β : Type} {f g : α → Option β} : ∀ {l : List α}, (∀ a ∈ l, f a = g a) → l.filterMap f = l.filterMap g
  | [], _ => rfl
  | a :: r, h => by
    rw [List.filterMap_cons, List.filterMap_cons, h a List.mem_cons_self, fm_congr fun b hb => h b (List.mem_cons_of_mem _ hb)]
theorem pick_back (xs : Array Value) : ((List.range xs.size).filterMap fun (m : Nat) => xs[((xs.size : Int) - 1 + (m : Int) * (-1)).toNat]?).toArray = xs.toList.reverse.toArray := by
  have e := HT.pick_gen xs.toList.reverse.toArray 0 xs.size
  rw [List.drop_zero, List.take_of_length_le (by simp)] at e
  show _ = xs.toList.reverse.toArray.toList.toArray
  rw [← e]
  congr 1
  refine fm_congr fun m hm => ?_
  have hm := List.mem_range.mp hm
  show xs[((xs.size : Int) - 1 + (m : Int) * (-1)).toNat]? = xs.toList.reverse.toArray[(((0 : Nat) : Int) + (m : Int) * 1).toNat]?
  rw [show (((0 : Nat) : Int) + (m : Int) * 1).toNat = m by omega, show ((xs.size : Int) - 1 + (m : Int) * (-1)).toNat = xs.size - 1 - m by omega]
  have q : xs.toList.reverse[m]? = xs[xs.size - 1 - m]? := by rw [List.getElem?_reverse (by simpa using hm), Array.length_toList, Array.getElem?_toList]
  rw [← q]
  simp
theorem tup_back {t sl : Addr} {items : Array Value} {vs : Value} {Q : Value → Shared → Prop} (ht : IsTup s.heap t items) (hs : s.heap.IsSliceOf sl .none .none vs) (ps : IsPart vs (some (-1)))
    (h : Q (.ref s.heap.objs.size) { s with heap := s.heap.push { cls := .type "tuple", data := .seq items.toList.reverse.toArray } })
    (hz : items.size ≤ sizeLine) : wpAny (model prog w) A (getItem (.ref t) (.ref sl)) Q E s := by
  have hk : sizeOk (.seq items.toList.reverse.toArray) := by
    show items.toList.reverse.toArray.size ≤ sizeLine
    simpa using hz
  obtain ⟨o, h1, h2, h3⟩ := id hs
  have hT : s.TypeIs (.ref sl) "slice" := ⟨o, h1, h2⟩
  unfold getItem
  try with_reducible refine wpAny_holding ?_
  try refine wpAny_bind (wpAny_pure ?_)
  refine wpAny_bind (wpAny_sequenceKey ht.typeIs (by decide) ?_)
  refine wpAny_bind (wpAny_callSpecial?_slot (name := Str.ofString "__getitem__") ht.typeIs PyProof.Rows.slot_tuple_getitem ?_)
  refine wpAny_call_entry PyProof.Rows.slot_tuple_getitem ht.typeIs entry_tuple_getitem ?_ (args_tuple_getitem _ _)
  show wpAny _ _ (Builtin.Tuple.tupleItemsOf (.ref t) >>= _) _ _ s
  refine wpAny_bind (tupleItemsOf_ ht ?_)
  refine wpAny_bind (wpAny_typeOf hT ?_)
  rw [if_pos (by decide)]
  refine wpAny_bind (applied_back hs ps ?_)
  have hno : ¬ (((items.size : Int) - 1 == 0 && (-1 : Int) == 1 && items.size == items.size) = true) := by
    intro q
    rw [Bool.and_eq_true, Bool.and_eq_true] at q
    exact absurd q.1.2 (by decide)
  show wpAny _ _ (if ((items.size : Int) - 1 == 0 && (-1 : Int) == 1 && items.size == items.size) = true then _ else _) _ _ s
  rw [if_neg hno, pick_back]
  first
    | exact wpAny_bind (m := Builtin.Tuple.tupleExact _) (wpAny_newObj_type (wpAny_pure ⟨_, rfl, wpAny_pure h⟩) hk)
    | exact wpAny_bind (m := Builtin.Tuple.tupleExact _) (wpAny_newObj_type (wpAny_bind (wpAny_pure (wpAny_pure ⟨_, rfl, wpAny_pure h⟩))) hk)
    | exact wpAny_bind (wpAny_bind (m := Builtin.Tuple.tupleExact _) (wpAny_newObj_type (wpAny_pure (wpAny_pure ⟨_, rfl, wpAny_pure h⟩)) hk))
    | exact wpAny_bind (wpAny_bind (m := Builtin.Tuple.tupleExact _) (wpAny_newObj_type (wpAny_pure ⟨_, rfl, wpAny_pure h⟩) hk))
end
def tBackT (K : PySem.W.Frag) (te : TE) : TE := fun σ H Q => te σ H fun x H1 => ∃ a xs, x = .ref a ∧ SqT K H1 a xs ∧ NewT H1 xs.reverse Q
section
variable {X : Cx} {W : XW} {e : Expr} {m : ME} {k : Nat} {p1 p2 p3 pos : Pos}
theorem pe_backT {te : TE} (he : PE X e te) : PE X (.Subscript e (.Slice none none (some (.UnaryOp .USub (.Constant (.int 1) k p1) p2)) p3) pos) (tBackT X.K te) := by
  refine ⟨fun pins s σ H Q I h => Subscript_ (thn (he.run pins s σ H _ I h) ?_)⟩
  rintro v s1 ⟨x, H1, I1, r1, a, xs, rfl, hx, q⟩
  cases r1
  have hst : PO X (some (.UnaryOp .USub (.Constant (.int 1) k p1) p2)) (tPart (tUn (rU fun i => .int (-i)) (tC (.int 1)))) := po_some (pe_un un_neg pe_int)
  refine wpAny_Slice (thn (po_none.run pins s1 σ H1 (fun o H2 => o = none ∧ H2 = H1) I1 ⟨rfl, rfl⟩) ?_)
  rintro vl s2 ⟨l, H2, I2, pl, rfl, rfl⟩
  refine thn (po_none.run pins s2 σ H2 (fun o H3 => o = none ∧ H3 = H2) I2 ⟨rfl, rfl⟩) ?_
  rintro vu s3 ⟨u, H3, I3, pu, rfl, rfl⟩
  refine thn (hst.run pins s3 σ H3 (fun o H4 => o = some (-1) ∧ H4 = H3) I3 ⟨1, rfl, -1, rfl, rfl, rfl⟩) ?_
  rintro vs s4 ⟨o, H4, I4, ps, rfl, rfl⟩
  cases pl
  cases pu
  have I5 : Inv X pins σ H4 { s4 with heap := s4.heap.push { cls := .type "slice", data := .fields #[.none, .none, vs] } } := I4.kept (t' := s4.toks) fun b ob q => Heap.get?_push_of_some _ q
  obtain ⟨its, r, ht, hz⟩ := I5.tuple hx
  have hlen : its.toArray.size = xs.length := by rw [List.size_toArray]; exact r.length.symm
  show wpAny (model X.prog X.w) X.A (subscriptTail e (.Slice none none (some (.UnaryOp .USub (.Constant (.int 1) k p1) p2)) p3) (.ref a) (.ref s4.heap.objs.size)) _ X.xe { s4 with heap := s4.heap.push { cls := .type "slice", data := .fields #[.none, .none, vs] } }
  refine tail_any (ops := [.ref a, .ref s4.heap.objs.size]) ht.typeIs (PyProof.Rows.slot_tuple_getitem.lookup) ?_ (by with_unfolding_all rfl)
  refine tup_back ht (Heap.IsSliceOf.new _ _ _ vs) ps ?_ (by rw [hlen]; exact hz)
  exact q.laid (t' := s4.toks) I5 r.reverse (by rw [List.length_reverse]; exact hz)
/-- x[::-1] -/
def mRev (m : ME) : ME := fun env st => (m env st).bind fun a s1 => match viewL s1 a with
  | some xs => .ok (.v (.list xs.reverse)) s1
  | none => match tOf a with
    | some xs => .ok (.v (.tuple xs.reverse)) s1
    | none => .stuck
theorem x_rev (he : PE X e (TEo X.K W m)) : PE X (.Subscript e (.Slice none none (some (.UnaryOp .USub (.Constant (.int 1) k p1) p2)) p3) pos) (TEo X.K W (mRev m)) := by
  refine pe_wrap (pe_or (pe_revL he) (pe_backT he)) fun σ H Q q => ?_
  obtain ⟨ι, env, st, R, EV, p⟩ := q
  have p := Out.post_bind p
  cases hm : m env st with
  | stuck => rw [hm] at p; exact p.elim
  | exn ex st2 =>
    rw [hm] at p
    exact .inl ⟨ι, env, st, R, EV, by rw [hm]; exact p⟩
  | ok a s1 =>
    rw [hm] at p
    have p : Out.post (match viewL s1 a with
      | some xs => .ok (.v (.list xs.reverse)) s1
      | none => match tOf a with
        | some xs => .ok (.v (.tuple xs.reverse)) s1
        | none => .stuck) (PO1 X.K ι st H Q) (PX1 X.K W ι st H) := p
    split at p
    · rename_i xs e1
      refine .inl ⟨ι, env, st, R, EV, ?_⟩
      rw [hm]
      intro ι1 H1 x R1 E1 ra
      obtain ⟨b, us, rfl, h1, h2⟩ := viewL_at R1 e1 ra
      exact ⟨b, us, rfl, .of h1, fun p' hp hf => (p.ext E1).newLst R1 h2.reverse hp hf⟩
    · split at p
      · rename_i xs e1
        refine .inr ⟨ι, env, st, R, EV, ?_⟩
        rw [hm]
        intro ι1 H1 x R1 E1 ra
        obtain ⟨b, us, rfl, h1, h2⟩ := tOf_at e1 ra
        exact ⟨b, us, rfl, h1.sq, fun p' o hp ho hf => (p.ext E1).newTup R1 h2.reverse hp ho hf⟩
      · exact p.elim
end
/-! ### more of what the maths uses -/
section
variable {st : Sto} {rest : Sto} {xs : List PyData} {z : PyData}
theorem ok_Rev {m : ME} {env : Ev} {P : D → Sto → Prop} : (mRev m env st).Ok P ↔ (m env st).Ok fun a s => (∃ xs, viewL s a = some xs ∧ P (.v (.list xs.reverse)) s) ∨ (viewL s a = none ∧ ∃ xs, tOf a = some xs ∧ P (.v (.tuple xs.reverse)) s) := by
  unfold mRev
  rw [ok_bind]
  constructor
  · intro h
    refine h.mono fun a s q => ?_
    split at q
    · rename_i xs e
      exact .inl ⟨xs, e, q⟩
    · rename_i e
      split at q
      · rename_i xs e2
        exact .inr ⟨e, xs, e2, q⟩
      · exact q.elim
  · intro h
    refine h.mono fun a s q => ?_
    rcases q with ⟨xs, e, q⟩ | ⟨e, xs, e2, q⟩
    · rw [e]
      exact q
    · rw [e]
      show (match tOf a with
        | some xs => Out.ok (D.v (.tuple xs.reverse)) s
        | none => .stuck).Ok P
      rw [e2]
      exact q
theorem ok_rev_tup {i : Nat} {env : Ev} {P : D → Sto → Prop} (h : env[i]? = some (some (.v (.tuple xs)))) : (mRev (mVar i) env st).Ok P ↔ P (.v (.tuple xs.reverse)) st := by
  rw [ok_Rev, ok_var, h]
  simp only [Option.some.injEq]
  constructor
  · rintro ⟨d, rfl, q⟩
    rcases q with ⟨ys, e, q⟩ | ⟨e, ys, e2, q⟩
    · cases e
    · cases e2
      exact q
  · intro q
    exact ⟨_, rfl, .inr ⟨rfl, xs, rfl, q⟩⟩
theorem atI_last {α : Type} {xs : List α} {z : α} : atI (xs ++ [z]) (-1) = some z := by
  unfold atI ixN
  rw [List.length_append, List.length_singleton, if_neg (by decide), if_pos (by omega)]
  show (xs ++ [z])[(-1 + ((xs.length + 1 : Nat) : Int)).toNat]? = some z
  rw [show (-1 + ((xs.length + 1 : Nat) : Int)).toNat = xs.length by omega]
  simp
theorem sub_last {a : D} (hv : viewK st a = none) (h : viewS st a = some (xs ++ [z])) : subsD a (.v (.int (-1))) st = .ok (.v z) st := by
  unfold subsD
  rw [hv]
  show ixD a _ st = _
  unfold ixD
  rw [h]
  show (match atI (xs ++ [z]) (-1) with
    | some d => _
    | none => _) = _
  rw [atI_last]
theorem viewK_lst {n : Nat} (h : st[n]? = some (.lst xs)) : viewK st (.ref n) = none := by
  show (match st[n]? with
    | some (.dct t kvs) => some (t, kvs)
    | some (.lck t kvs) => some (t, kvs)
    | _ => none) = _
  rw [h]
theorem ne_nilT (h : SeqAt.shaped (.tuple xs) = true) : neD (.v (.tuple xs)) (.v (.tuple [])) st = .ok (.v (.bool (!xs.isEmpty))) st := by
  unfold neD
  have e : eqS st (.v (.tuple xs)) (.v (.tuple [])) = some xs.isEmpty := by
    refine (eqT_of (st := st) h (shaped_nil (t := .tuple) (.inr rfl))).trans ?_
    rw [PyData.eqv]
    cases xs <;> simp [PyData.eqvAll]
  rw [e]
theorem ne_bool {a b : Bool} : neD (.v (.bool a)) (.v (.bool b)) st = .ok (.v (.bool (a != b))) st := by
  cases a <;> cases b <;> rfl
theorem bols_map {α : Type} {f : α → Bool} : ∀ l : List α, bolsOf (l.map fun x => PyData.bool (f x)) = some (l.map f)
  | [] => rfl
  | a :: r => by
    rw [List.map_cons]
    show (bolsOf (r.map fun x => PyData.bool (f x))).map (f a :: ·) = _
    rw [bols_map r]
    rfl
theorem all_bools {α : Type} {f : α → Bool} {l : List α} : fAll [.v (.list (l.map fun x => PyData.bool (f x)))] st = .ok (.v (.bool (l.all f))) st := by
  show (match bolsOf (l.map fun x => PyData.bool (f x)) with
    | some ns => Out.ok (D.v (.bool (ns.all id))) st
    | none => .stuck) = _
  rw [bols_map]
  show Out.ok (D.v (.bool ((l.map f).all id))) st = _
  rw [List.all_map]
  rfl
/-- as lcL_mapA, over a thing of the store -/
theorem lcL_mapW {w : Wt} {α : Type} {g : MG} {t : MT} {m : ME} {env0 : Ev} (f : α → Itm) (F : α → Option PyData) (hc : chk w st) : ∀ (l : List α),
    (∀ a ∈ l, (g (f a) env0 st).Ok fun e1 s1 => s1 = st ∧ (t e1 st).Ok fun k s2 => s2 = st ∧ (k = true → (m e1 st).Ok fun v s3 => s3 = st ∧ ∃ z, v = .v z ∧ F a = some z) ∧ (k = false → F a = none)) →
    lcL w g t m env0 (l.map f) st = .ok (l.filterMap F) st
  | [], _ => by
    unfold List.map lcL
    rw [if_pos hc]
    rfl
  | a :: r, h => by
    have ih := lcL_mapW f F hc r fun d hd => h d (List.mem_cons_of_mem _ hd)
    obtain ⟨e1, s1, eg, rfl, q⟩ := (h a List.mem_cons_self).eq
    obtain ⟨k, s2, et, rfl, q1, q2⟩ := q.eq
    rw [List.map_cons]
    unfold lcL
    rw [if_pos hc, eg, noX_ok, bind_ok, et, noX_ok, bind_ok]
    cases k with
    | true =>
      obtain ⟨v, s3, em, rfl, z, rfl, ez⟩ := (q1 rfl).eq
      rw [if_pos rfl, em, noX_ok, bind_ok]
      show (lcL w g t m env0 (r.map f) s3).bind _ = _
      rw [ih, bind_ok, List.filterMap_cons, ez]
    | false =>
      rw [if_neg Bool.false_ne_true, ih, List.filterMap_cons, q2 rfl]
/-- those that a test that draws lets through -/
theorem lcL_some {α : Type} {g : MG} {t : MT} {m : ME} {env0 : Ev} (f : α → Itm) (F : α → PyData) : ∀ (l : List α) (s : Src), s.ok →
    (∀ a ∈ l, ∀ s : Src, s.ok → (g (f a) env0 (s.sto rest)).Ok fun e1 st1 => st1 = s.sto rest ∧ (t e1 (s.sto rest)).Ok fun k st2 => ∃ s' : Src, st2 = s'.sto rest ∧ s'.ok ∧ (m e1 (s'.sto rest)).Ok fun v st3 => v = .v (F a) ∧ st3 = s'.sto rest) →
    (lcL none g t m env0 (l.map f) (s.sto rest)).Ok fun zs st => ∃ (s' : Src) (l' : List α), st = s'.sto rest ∧ s'.ok ∧ l'.Sublist l ∧ zs = l'.map F
  | [], s, hs, _ => by
    unfold List.map lcL
    rw [if_pos (show chk none (s.sto rest) from trivial)]
    exact ⟨s, [], rfl, hs, .slnil, rfl⟩
  | a :: r, s, hs, h => by
    rw [List.map_cons]
    unfold lcL
    rw [if_pos (show chk none (s.sto rest) from trivial), ok_bind, ok_noX]
    refine (h a List.mem_cons_self s hs).mono ?_
    rintro e1 st1 ⟨rfl, q⟩
    show (Out.bind (Out.noX _) _).Ok _
    rw [ok_bind, ok_noX]
    refine q.mono ?_
    rintro k st2 ⟨s2, rfl, ok2, q2⟩
    cases k with
    | true =>
      rw [if_pos rfl, ok_bind, ok_noX]
      refine q2.mono ?_
      rintro v st3 ⟨rfl, rfl⟩
      show (Out.bind _ _).Ok _
      rw [ok_bind]
      refine (lcL_some f F r s2 ok2 fun d hd => h d (List.mem_cons_of_mem _ hd)).mono ?_
      rintro zs st ⟨s3, l', rfl, ok3, hsub, rfl⟩
      exact ⟨s3, a :: l', rfl, ok3, hsub.cons₂ a, rfl⟩
    | false =>
      rw [if_neg Bool.false_ne_true]
      refine (lcL_some f F r s2 ok2 fun d hd => h d (List.mem_cons_of_mem _ hd)).mono ?_
      rintro zs st ⟨s3, l', rfl, ok3, hsub, rfl⟩
      exact ⟨s3, l', rfl, ok3, hsub.cons a, rfl⟩
/-! sorted whole numbers -/
def insN (a : Nat) : List Nat → List Nat
  | [] => [a]
  | b :: r => if a ≤ b then a :: b :: r else b :: insN a r
def sortN : List Nat → List Nat
  | [] => []
  | a :: r => insN a (sortN r)
theorem insN_perm (a : Nat) : ∀ l, (insN a l).Perm (a :: l)
  | [] => .refl _
  | b :: r => by
    unfold insN
    split
    · exact .refl _
    · exact ((insN_perm a r).cons b).trans (.swap a b r)
theorem sortN_perm : ∀ l, (sortN l).Perm l
  | [] => .refl _
  | a :: r => (insN_perm a (sortN r)).trans ((sortN_perm r).cons a)
theorem insN_sorted (a : Nat) : ∀ l : List Nat, l.Pairwise (· ≤ ·) → (insN a l).Pairwise (· ≤ ·)
  | [], _ => by unfold insN; exact List.pairwise_singleton _ _
  | b :: r, h => by
    unfold insN
    obtain ⟨h1, h2⟩ := List.pairwise_cons.mp h
    split
    · rename_i hab
      refine List.pairwise_cons.mpr ⟨fun x hx => ?_, h⟩
      rcases List.mem_cons.mp hx with rfl | hx
      · exact hab
      · exact Nat.le_trans hab (h1 x hx)
    · refine List.pairwise_cons.mpr ⟨fun x hx => ?_, insN_sorted a r h2⟩
      rcases List.mem_cons.mp ((insN_perm a r).mem_iff.mp hx) with rfl | hx
      · omega
      · exact h1 x hx
theorem sortN_sorted : ∀ l, (sortN l).Pairwise (· ≤ ·)
  | [] => .nil
  | a :: r => insN_sorted a _ (sortN_sorted r)
theorem sort_map (l : List Nat) : sortI (l.map fun i : Nat => (i : Int)) = (sortN l).map fun i : Nat => (i : Int) := by
  refine (sorted_uniq (((sortN_perm l).map _).trans (sortI_perm _).symm) ?_ (sortI_sorted _)).symm
  exact List.pairwise_map.mpr ((sortN_sorted l).imp fun h => by omega)
theorem sort_nats {l : List Nat} : gSort [.v (lNs l)] st = .ok ((sortN l).map nI) st := by
  have e : l.map nI = (l.map fun i : Nat => (i : Int)).map PyData.int := by rw [List.map_map]; rfl
  have e2 : (sortN l).map nI = ((sortN l).map fun i : Nat => (i : Int)).map PyData.int := by rw [List.map_map]; rfl
  show (match intsOf (l.map nI) with
    | some ns => Out.ok ((sortI ns).map PyData.int) st
    | none => _) = _
  rw [e, intsOf_map, e2, ← sort_map]
theorem ok_chain {f f' : F2} {ma mb mc : ME} {env : Ev} {P : D → Sto → Prop} : (mChain f f' ma mb mc env st).Ok P ↔ (ma env st).Ok fun a s1 => (mb env s1).Ok fun b s2 => (f a b s2).Ok fun z s3 => ∃ k, bOf z = some k ∧ (k = true → (mc env s3).Ok fun c s4 => (f' b c s4).Ok P) ∧ (k = false → P (.v (.bool false)) s3) := by
  unfold mChain
  rw [ok_bind]
  have e : ∀ z s3 b, (match bOf z with
      | some true => (mc env s3).bind fun c s4 => f' b c s4
      | some false => Out.ok (D.v (.bool false)) s3
      | none => .stuck).Ok P ↔ ∃ k, bOf z = some k ∧ (k = true → (mc env s3).Ok fun c s4 => (f' b c s4).Ok P) ∧ (k = false → P (.v (.bool false)) s3) := fun z s3 b => by
    cases bOf z with
    | none => exact ⟨fun h => h.elim, fun ⟨_, h, _⟩ => nomatch h⟩
    | some k =>
      cases k with
      | true => exact ⟨fun h => ⟨true, rfl, fun _ => ok_bind.mp h, fun z => nomatch z⟩, fun ⟨k, h, h1, _⟩ => by cases h; exact ok_bind.mpr (h1 rfl)⟩
      | false => exact ⟨fun h => ⟨false, rfl, (fun z => nomatch z), fun _ => h⟩, fun ⟨k, h, _, h2⟩ => by cases h; exact h2 rfl⟩
  constructor
  · intro h
    refine h.mono fun a s1 q => ?_
    rw [ok_bind] at q
    refine q.mono fun b s2 q => ?_
    rw [ok_bind] at q
    exact q.mono fun z s3 q => (e z s3 b).mp q
  · intro h
    refine h.mono fun a s1 q => ?_
    rw [ok_bind]
    refine q.mono fun b s2 q => ?_
    rw [ok_bind]
    exact q.mono fun z s3 q => (e z s3 b).mpr q
theorem ok_gTpT {i j : Nat} {env : Ev} {x y : PyData} {Q : Ev → Sto → Prop} : (gTp 2 (gMore (gNm i) (gMore (gNm j) gNone)) (.one (.v (.tuple [x, y]))) env st).Ok Q ↔ Q ((env.set i (some (.v x))).set j (some (.v y))) st := Iff.rfl
/-- which type a value has is known -/
def tyB : PyData → Bool
  | .dict kvs => !isTK kvs
  | _ => true
def isTp : PyData → Bool
  | .tuple _ => true
  | _ => false
def isIn : PyData → Bool
  | .int _ => true
  | .bool _ => true
  | _ => false
def isBo : PyData → Bool
  | .bool _ => true
  | _ => false
theorem ty_dict {kvs : List (PyData × PyData)} (h : tyB (.dict kvs) = true) : tyD st (.v (.dict kvs)) = some "dict" := by
  show (if isTK kvs = true then none else some "dict") = _
  rw [if_neg]
  intro z
  exact absurd h (by show ¬ (!isTK kvs) = true; rw [z]; decide)
theorem isi_by {d : PyData} {T t : String} {b : Bool} (h1 : tyD st (.v d) = some t) (h2 : isT1 t T = some b) : isiD T (.v d) st = .ok (.v (.bool b)) st := by
  show (match tyD st (.v d) with
    | some t => match isT1 t T with
      | some b => Out.ok (D.v (.bool b)) st
      | none => .stuck
    | none => .stuck) = _
  rw [h1]
  show (match isT1 t T with
      | some b => Out.ok (D.v (.bool b)) st
      | none => .stuck) = _
  rw [h2]
theorem isi_tup {d : PyData} (h : tyB d = true) : isiD "tuple" (.v d) st = .ok (.v (.bool (isTp d))) st := by
  cases d with
  | dict kvs => exact isi_by (ty_dict h) rfl
  | _ => exact isi_by rfl rfl
theorem isi_int {d : PyData} (h : tyB d = true) : isiD "int" (.v d) st = .ok (.v (.bool (isIn d))) st := by
  cases d with
  | dict kvs => exact isi_by (ty_dict h) rfl
  | _ => exact isi_by rfl rfl
theorem isi_bool {d : PyData} (h : tyB d = true) : isiD "bool" (.v d) st = .ok (.v (.bool (isBo d))) st := by
  cases d with
  | dict kvs => exact isi_by (ty_dict h) rfl
  | _ => exact isi_by rfl rfl
theorem repD_all {w k : Nat} (h : ∀ x ∈ xs, RepD x w k) : noLA xs = true ∧ PyData.showableAll xs = true ∧ PyData.leavesShortAll 13 xs = true ∧ PyData.bulkAll xs ≤ xs.length * (w + 1) ∧ PyData.depthAll xs ≤ k := by
  induction xs with
  | nil => exact ⟨rfl, rfl, rfl, by simp [PyData.bulkAll], by simp [PyData.depthAll]⟩
  | cons x r ih =>
    obtain ⟨a, b, c, f, g⟩ := ih fun y hy => h y (List.mem_cons_of_mem _ hy)
    have hx := h x List.mem_cons_self
    refine ⟨by rw [noLA, hx.nl, a]; rfl, by rw [PyData.showableAll, hx.sh, b]; rfl, by rw [PyData.leavesShortAll, hx.ls, c]; rfl, ?_, ?_⟩
    · rw [PyData.bulkAll, List.length_cons, Nat.add_mul, Nat.one_mul]
      have := hx.bulk
      omega
    · rw [PyData.depthAll]
      exact Nat.max_le.mpr ⟨hx.dep, g⟩
theorem repD_tup {w k w' : Nat} (h : ∀ x ∈ xs, RepD x w k) (hl : xs.length ≤ w') : RepD (.tuple xs) (w' * (w + 1)) (k + 1) := by
  obtain ⟨a, b, c, f, g⟩ := repD_all h
  exact ⟨by rw [noL]; exact a, by rw [PyData.showable]; exact b, by rw [PyData.leavesShort]; exact c, by rw [PyData.bulk]; exact Nat.le_trans f (Nat.mul_le_mul_right _ hl), by rw [PyData.depth]; exact Nat.succ_le_succ g⟩
theorem repD_int {w k : Nat} {i : Int} (h : i.natAbs < 10 ^ 12) : RepD (.int i) w k := by
  have r := rep_int (w := w) (k := k) h
  exact ⟨rfl, r.sh, r.ls, r.bulk, r.dep⟩
theorem repD_none : RepD .none 0 0 := ⟨rfl, rfl, rfl, by simp [PyData.bulk], by simp [PyData.depth]⟩
theorem repD_bool {b : Bool} {w k : Nat} : RepD (.bool b) w k := ⟨rfl, rfl, rfl, by simp [PyData.bulk], by simp [PyData.depth]⟩
end
end Fw

namespace Fw
open PySem PySem.Spec PyProof.Rows L2

/-! ### a dict of the store, locked while it is walked -/
section
variable {K : PySem.W.Frag} {ι ι' : Gh} {st st' : Sto} {H H' : Hp}
/-- what is frozen stays (nothing is said of what is locked) -/
structure Mk (ι : Gh) (st : Sto) (H : Hp) (ι' : Gh) (st' : Sto) (H' : Hp) : Prop where
  keep : ∀ q u, H q = some u → Frz ι st q → Frz ι' st' q ∧ H' q = some u
  pre : ∀ (n : Nat) (a : Addr), ι.ad[n]? = some a → ι'.ad[n]? = some a
theorem Mk.rp (m : Mk ι st H ι' st' H') {v : V} {d : PyData} (h : Rp (Frz ι st) H v d) : Rp (Frz ι' st') H' v d := Rp.mv (fun q u e f => let ⟨a, b⟩ := m.keep q u e f; ⟨a, .inl b⟩) h
theorem Mk.rpA (m : Mk ι st H ι' st' H') {v : List V} {d : List PyData} (h : RpA (Frz ι st) H v d) : RpA (Frz ι' st') H' v d := RpA.mv (fun q u e f => let ⟨a, b⟩ := m.keep q u e f; ⟨a, .inl b⟩) h
theorem Mk.rd (m : Mk ι st H ι' st' H') {x : V} : ∀ {d : D}, RD K ι st H x d → RD K ι' st' H' x d
  | .v d, h => m.rp h
  | .ref n, ⟨a, h1, h2⟩ => ⟨a, m.pre n a h1, h2⟩
  | .scr ns, ⟨a, h1, h2⟩ => ⟨a, h1, h2.imp id fun ⟨o, h, f⟩ => let ⟨a, b⟩ := m.keep _ _ h f; ⟨o, b, a⟩⟩
theorem Mk.rk (m : Mk ι st H ι' st' H') : ∀ {kvs : List (PyData × D)} {xs : List (Key × V)}, RK K ι st H kvs xs → RK K ι' st' H' kvs xs
  | _, _, .nil => .nil
  | _, _, .cons h r => .cons ⟨h.1, m.rd h.2⟩ (Mk.rk m r)
theorem Mk.rt (m : Mk ι st H ι' st' H') : ∀ {kvs : List (PyData × D)} {xs : List (List Key × V)}, RT K ι st H kvs xs → RT K ι' st' H' kvs xs
  | _, _, .nil => .nil
  | _, _, .cons h r => .cons ⟨h.1, m.rd h.2⟩ (Mk.rt m r)
theorem Mk.ro (m : Mk ι st H ι' st' H') {a : Addr} (h : ∀ u, H a = some u → H' a = some u) : ∀ {o : O}, RO K ι st H a o → RO K ι' st' H' a o
  | .dead, _ => trivial
  | .lst _, ⟨xs, q, r⟩ => ⟨xs, h _ q, m.rpA r⟩
  | .dct false _, ⟨xs, q, r⟩ => ⟨xs, h _ q, m.rk r⟩
  | .dct true _, ⟨xs, q, r⟩ => ⟨xs, h _ q, m.rt r⟩
  | .lck false _, ⟨xs, o, q, r⟩ => ⟨xs, o, h _ q, m.rk r⟩
  | .lck true _, ⟨xs, o, q, r⟩ => ⟨xs, o, h _ q, m.rt r⟩
theorem mk_set {n : Nat} {o o' : O} {a : Addr} {u : HO} (h : st[n]? = some o) (hi : ι.ad[n]? = some a) (hl : o ≠ O.dead) : Mk ι st H ι (st.set n o') (upd H a u) :=
  ⟨fun q v e f => ⟨frz_set h hl f, by rw [upd_ne fun z => by subst z; exact hl (f.2 n o h hi)]; exact e⟩, fun _ _ e => e⟩
/-- unlocked again -/
theorem SRel.unlock (R : SRel K ι st H) {n : Nat} {t : Bool} {kvs : List (PyData × D)} {o' : O} {a : Addr} {u : HO} (h : st[n]? = some (.lck t kvs)) (hi : ι.ad[n]? = some a) (hf : HF (upd H a u)) (ho : RO K ι (st.set n o') (upd H a u) a o') (hw : o'.low n = true) : SRel K ι (st.set n o') (upd H a u) := by
  have hl : O.lck t kvs ≠ O.dead := fun z => nomatch z
  have m := mk_set (H := H) (o' := o') (u := u) h hi hl
  refine ⟨by rw [List.length_set]; exact R.len, fun k v b hm hb => ?_, fun i j b v w hib hjb h1 h2 l1 l2 => ?_, fun k v hm => ?_, fun b hb => ⟨?_, fun k v hm hi' => ?_⟩, hf⟩
  · by_cases e : n = k
    · subst e
      rw [List.getElem?_set_self (List.getElem?_eq_some_iff.mp h).1] at hm
      cases hm
      rw [hi] at hb; cases hb
      exact ho
    · rw [List.getElem?_set_ne e] at hm
      by_cases ed : v = O.dead
      · subst ed; trivial
      · have nb : b ≠ a := fun z => by subst z; exact e (R.inj n k b _ v hi hb h hm hl ed)
        exact m.ro (fun z q => by rw [upd_ne nb]; exact q) (R.obj k v b hm hb)
  · have live : ∀ {i : Nat} {v : O}, (st.set n o')[i]? = some v → v ≠ O.dead → ∃ v', st[i]? = some v' ∧ v' ≠ O.dead := fun {i v} q l => by
      by_cases e : n = i
      · subst e; exact ⟨_, h, hl⟩
      · rw [List.getElem?_set_ne e] at q
        exact ⟨v, q, l⟩
    obtain ⟨v', a1, a2⟩ := live h1 l1
    obtain ⟨w', b1, b2⟩ := live h2 l2
    exact R.inj i j b v' w' hib hjb a1 b1 a2 b2
  · by_cases e : n = k
    · subst e
      rw [List.getElem?_set_self (List.getElem?_eq_some_iff.mp h).1] at hm
      rw [← Option.some.inj hm]
      exact hw
    · rw [List.getElem?_set_ne e] at hm
      exact R.low k v hm
  · obtain ⟨xs, e, d⟩ := (R.hid b hb).1
    have nb : b ≠ a := fun z => by subst z; exact hl ((R.hid b hb).2 n _ h hi)
    exact ⟨xs, by rw [upd_ne nb]; exact e, d⟩
  · by_cases e : n = k
    · subst e
      exact absurd ((R.hid b hb).2 n _ h hi') hl
    · rw [List.getElem?_set_ne e] at hm
      exact (R.hid b hb).2 k v hm hi'
end
/-- e, while the dict in slot i is locked -/
def mLock (i : Nat) (m : ME) : ME := fun env st => match env[i]? with
  | some (some (.ref n)) => match st[n]? with
    | some (.dct false kvs) => (m env (st.set n (.lck false kvs))).bind fun d s1 => .ok d (s1.set n (.dct false kvs))
    | _ => .stuck
  | _ => .stuck
theorem x_lock {X : Cx} {W : XW} {e : Expr} {m : ME} (i : Nat) (h : PE X e (TEo X.K W m)) : PE X e (TEo X.K W (mLock i m)) := pe_wrap (pe_lock h) fun σ H Q q => by
  obtain ⟨ι, env, st, R, EV, p⟩ := q
  unfold mLock at p
  split at p
  · rename_i n e1
    split at p
    · rename_i kvs e2
      obtain ⟨x, hx, a, hi, rfl⟩ := EV.2 i _ e1
      obtain ⟨xs, hH, hk⟩ := R.obj n _ a e2 hi
      refine ⟨a, .dK xs, hH, trivial, fun od => ?_⟩
      have hlen : xs.length ≤ sizeLine := R.hf a _ hH
      have E1 : Ext ι st H ι (st.set n (.lck false kvs)) (upd H a (.frz od (.dK xs))) := Ext.write R e2 hi (fun z => nomatch z) (fun _ _ z => nomatch z)
      have R1 : SRel X.K ι (st.set n (.lck false kvs)) (upd H a (.frz od (.dK xs))) := R.write e2 hi (fun z => nomatch z) (fun _ _ z => nomatch z) (fun b u hb => by
        by_cases e : b = a
        · rw [e, upd_same] at hb; cases hb; exact hlen
        · rw [upd_ne e] at hb; exact R.hf b u hb) ⟨xs, od, upd_same, RK.ext E1 hk⟩ (R.low n (.dct false kvs) e2)
      have hn : n < st.length := (List.getElem?_eq_some_iff.mp e2).1
      have hset : (st.set n (.lck false kvs))[n]? = some (.lck false kvs) := List.getElem?_set_self hn
      refine ⟨ι, env, _, R1, EV.ext E1, Out.post_mono (Out.post_bind p) (fun d s1 q ι1 H1 x R2 E2 rd => ?_) fun _ _ z => z.ext E1⟩
      obtain ⟨l1, l2⟩ := E2.lk hset hi
      have hi1 := E2.pre n a hi
      have hfz : H1 a = some (.frz od (.dK xs)) := l2.trans upd_same
      refine ⟨hfz, fun hf => ?_⟩
      have m := mk_set (H := H1) (o' := .dct false kvs) (u := .dK xs) l1 hi1 (fun z => nomatch z)
      obtain ⟨xs', o', hf', hk'⟩ := R2.obj n _ a l1 hi1
      rw [hfz] at hf'
      cases hf'
      have hn1 : n < s1.length := (List.getElem?_eq_some_iff.mp l1).1
      have R3 : SRel X.K ι1 (s1.set n (.dct false kvs)) (upd H1 a (.dK xs)) := R2.unlock l1 hi1 hf ⟨xs, upd_same, m.rk hk'⟩ (R.low n (.dct false kvs) e2)
      refine q ι1 _ x R3 ⟨fun b u hb fb => ?_, fun k b hb => E2.pre k b hb, E2.hid, fun b hb => ?_, fun {k t l b} hk hb => ?_⟩ (m.rd rd)
      · obtain ⟨f1, k1⟩ := E1.keep b u hb fb
        obtain ⟨f2, k2⟩ := E2.keep b u k1 f1
        exact m.keep b u k2 f2
      · have nb : b ≠ a := fun z => by subst z; exact nomatch (R.hid b hb).2 n _ e2 hi
        rw [upd_ne nb, E2.keepZ b hb, upd_ne nb]
      · have nk : n ≠ k := fun z => by subst z; rw [e2] at hk; cases hk
        have nb : b ≠ a := fun z => by subst z; exact nk (R.inj n k b _ _ hi hb e2 hk (fun z => nomatch z) (fun z => nomatch z))
        obtain ⟨g1, g2⟩ := E2.lk (by rw [List.getElem?_set_ne nk]; exact hk) hb
        exact ⟨by rw [List.getElem?_set_ne nk]; exact g1, by rw [upd_ne nb, g2, upd_ne nb]⟩
    · exact p.elim
  · exact p.elim
/-- .. in d.items() -/
def itemsI (kvs : List (PyData × D)) : List Itm := kvs.map fun p => .many [.v p.1, p.2]
def miItems (m : ME) : MI := fun env st => (m env st).bind fun d s1 => match d with
  | .ref n => match s1[n]? with
    | some (.lck false kvs) => .ok (itemsI kvs, none) s1
    | _ => .stuck
  | _ => .stuck
theorem kv_rp {F : Addr → Prop} {H : Hp} : ∀ {k : Key}, Rp F H (kV k) (kD k)
  | .inl i => .int i
  | .inr x => .str x
theorem rk_at {K : PySem.W.Frag} {ι : Gh} {st : Sto} {H : Hp} : ∀ {kvs : List (PyData × D)} {xs : List (Key × V)}, RK K ι st H kvs xs → kvs.length = xs.length ∧ ∀ (i : Nat) (p : PyData × D), kvs[i]? = some p → ∃ q : Key × V, xs[i]? = some q ∧ p.1 = kD q.1 ∧ RD K ι st H q.2 p.2
  | _, _, .nil => ⟨rfl, fun i p z => by simp at z⟩
  | _, _, .cons (a := p0) (b := q0) h r => by
    obtain ⟨h1, h2⟩ := rk_at r
    refine ⟨by rw [List.length_cons, List.length_cons, h1], fun i p e => ?_⟩
    cases i with
    | zero =>
      have e : p0 = p := by simpa using e
      subst e
      exact ⟨q0, rfl, h.1, h.2⟩
    | succ i => exact h2 i p (by simpa using e)
theorem i_items {X : Cx} {W : XW} {e : Expr} {m : ME} {apos cpos : Pos} {elts : List Expr} {kk : Nat} {tpos : Pos} (he : PE X e (TEo X.K W m)) (hbase : attributeBase e "items" X.env (eval e X.env) = eval e X.env := by rfl) (hline : (apos.endLine == cpos.line) = true := by rfl) :
    PI X (.Tuple elts kk tpos) (.Call (.Attribute e "items" apos) [] [] cpos) (TIo X.K W (miItems m)) :=
  pi_wrap (pi_items he hbase hline) fun σ H Rr q => by
    obtain ⟨ι, env, st, R, EV, p⟩ := q
    refine ⟨ι, env, st, R, EV, Out.post_mono (Out.post_bind p) (fun d s1 q ι1 H1 x R1 E1 rd => ?_) fun _ _ z => z⟩
    split at q
    · rename_i n
      obtain ⟨a, hi, rfl⟩ := rd
      split at q
      · rename_i kvs e2
        obtain ⟨xs, o, hH, hk⟩ := R1.obj n _ a e2 hi
        obtain ⟨hlen, hat⟩ := rk_at hk
        refine ⟨a, o, xs, rfl, hH, fun _ => q ι1 H1 _ R1 E1 ⟨fun i d ι2 s2 H2 hd R2 M hc => ?_, fun ι2 s2 H2 R2 M hc => ?_, ?_⟩⟩
        · obtain ⟨l1, l2⟩ := M.lk e2 hi
          unfold itemsI at hd
          rw [List.getElem?_map] at hd
          obtain ⟨pp, hp, rfl⟩ := Option.map_eq_some_iff.mp hd
          obtain ⟨⟨k, v⟩, hq, hk1, hv⟩ := hat i pp hp
          have hil : i < xs.length := (List.getElem?_eq_some_iff.mp hq).1
          refine ⟨⟨l2.trans hH, hil⟩, fun y H3 hy => ?_⟩
          obtain ⟨T, k', v', hq', rfl, hT, rfl⟩ := hy
          rw [hq] at hq'
          cases hq'
          exact ri_new R2 hT (show 2 ≤ 3 by decide) (.cons (by rw [hk1]; exact kv_rp) (.cons (M.rd hv) .nil))
        · obtain ⟨l1, l2⟩ := M.lk e2 hi
          unfold itemsI
          rw [List.length_map, hlen]
          exact ⟨l2.trans hH, Nat.le_refl _⟩
        · unfold itemsI
          rw [List.length_map, hlen]
          exact R1.hf a _ hH
      · exact q.elim
    · exact q.elim
/-! dict(xs), xs a list of pairs -/
def pairsP : List PyData → Option (List (PyData × D))
  | [] => some []
  | .tuple [k, v] :: r => match key1 k, pairsP r with
    | some _, some l => some ((k, .v v) :: l)
    | _, _ => none
  | _ => none
def fDictP : FA := fun ds st => match ds with
  | [d] => match viewL st d with
    | some zs => match pairsP zs with
      | some kvs => .ok (.ref st.length) (st ++ [.dct false (putAll [] kvs)])
      | none => .stuck
    | none => .stuck
  | _ => .stuck
section
variable {K : PySem.W.Frag} {ι : Gh} {st : Sto} {H : Hp}
theorem pairsP_at : ∀ {zs : List PyData} {kvs : List (PyData × D)} {us : List V}, pairsP zs = some kvs → RpA (Frz ι st) H us zs →
    ∃ (ps : List Addr) (xs : List (Key × V)), us = ps.map V.ref ∧ Paired (fun p kv => SqT K H p [kV kv.1, kv.2]) ps xs ∧ RK K ι st H kvs xs ∧ (∀ p ∈ kvs, ∃ k, key1 p.1 = some k) ∧ (kvs.all fun p => p.2.low st.length) = true
  | [], kvs, _, e, .nil => by cases e; exact ⟨[], [], rfl, .nil, .nil, (fun p hp => nomatch hp), rfl⟩
  | z :: r, kvs, _, e, .cons (x := x) (xs := us) h t => by
    unfold pairsP at e
    split at e
    · rename_i h1
      cases h1
    · rename_i k v r' h1
      cases h1
      split at e
      · rename_i kk l h2 h3
        cases e
        obtain ⟨ps, xs, rfl, h4, h5, h6, h7⟩ := pairsP_at h3 t
        cases h with
        | tup hH hd f ra =>
          rename_i a ys o
          cases ra with
          | cons r1 r2 =>
            cases r2 with
            | cons r3 r4 =>
              cases r4
              have hk := kD_of h2
              rw [hk] at r1
              have ew := kV_of r1
              subst ew
              refine ⟨a :: ps, (kk, _) :: xs, rfl, .cons (.inl (.inr ⟨o, hH⟩)) h4, .cons ⟨hk, r3⟩ h5, fun p hp => ?_, ?_⟩
              · rcases List.mem_cons.mp hp with rfl | hp
                · exact ⟨kk, h2⟩
                · exact h6 p hp
              · rw [List.all_cons, h7]; rfl
      · cases e
    · cases e
theorem opA_dictP {W : XW} : OpA K W (fun xs H Q => ∃ (a : Addr) (ps : List Addr) (kvs : List (Key × V)), xs = [.ref a] ∧ SqL K H a (ps.map V.ref) ∧ Paired (fun p kv => SqT K H p [kV kv.1, kv.2]) ps kvs ∧
    ∀ p, H p = none → Q (.ref p) (upd H p (.dK (mergeK [] kvs)))) fDictP := by
  intro ι st H xs ds Q R r p
  unfold fDictP at p
  split at p
  · obtain ⟨x, rfl, r1⟩ := r.one
    split at p
    · rename_i zs e
      split at p
      · rename_i kvs e2
        obtain ⟨q, us, rfl, h1, h2⟩ := viewL_at R e r1
        obtain ⟨ps, ys, rfl, h3, h4, h5, h6⟩ := pairsP_at (K := K) e2 h2
        refine ⟨q, ps, ys, rfl, .of h1, h3, fun b hb hf => ?_⟩
        have E : Ext ι st H (ι.psh b) (st ++ [.dct false (putAll [] kvs)]) (upd H b (.dK (mergeK [] ys))) := Ext.push R hb
        exact p (ι.psh b) _ _ (R.push hb hf ⟨_, upd_same, RK.ext E (rk_putAll h4 h5 .nil)⟩ (putAll_low h6 rfl)) E ⟨b, psh_at R, rfl⟩
      · exact p.elim
    · exact p.elim
  · exact p.elim
end
/-! sorted(t), t a tuple of tuples of whole numbers -/
section
variable {prog : Program} {w : World} {A : Around} {E : Value → Shared → Prop} {s : Shared}
theorem gather_tup {l : Addr} {us : List Value} {Q : List Value → Shared → Prop} (ht : IsTup s.heap l us.toArray) (hz : us.length ≤ sizeLine)
    (h : Q us { s with heap := (s.heap.push (seqObj "list" #[] 0)).update s.heap.objs.size (Obj.mapSeq (· ++ us.toArray)) }) : wpAny (model prog w) A (collect (.ref l)) Q E s := by
  obtain ⟨ob, g1, g2, k, g3⟩ := id ht
  have g1' : (s.heap.push (seqObj "list" #[] 0)).get? l = some ob := Heap.get?_push_of_some _ g1
  unfold collect
  refine wpAny_bind (wpAny_runValue (codeAny_builtin entry_proto_collect' ?_))
  show wpAny _ _ (do again (.builtin "list.__iadd__" ⟨[← newList [], .ref l], []⟩)) _ _ s
  refine wpAny_bind ?_
  refine wpAny_newList ?_
  refine wpAny_pure ⟨Code.quiet_builtin _ (by decide +kernel), ?_⟩
  refine codeAny_builtin entry_list_iadd' ?_
  show wpAny _ _ (Builtin.List.listExtendWith (.ref s.heap.objs.size) (.ref l) (.ref s.heap.objs.size)) _ _ { s with heap := s.heap.push (seqObj "list" #[] 0) }
  unfold Builtin.List.listExtendWith
  refine wpAny_bind (wpAny_typeOf (T := "tuple") ⟨ob, g1', g2⟩ ?_)
  rw [if_pos (by rw [show (Value.type "tuple" == Value.type "tuple") = true from rfl, Bool.or_true])]
  refine wpAny_bind (listItems_at g1' g3 ?_)
  refine wpAny_bind ?_
  refine listItems_at (xs := #[]) (n := 0) (Heap.get?_push_size _ rfl) rfl ?_
  rw [if_neg (by simp)]
  refine wpAny_bind ?_
  refine listUpdate_at (xs := #[]) (n := 0) (Heap.get?_push_size _ rfl) rfl ?_ (Nat.zero_le _) (by show (#[] ++ us.toArray).size ≤ sizeLine + 1; simp only [Array.size_append, List.size_toArray, List.length_nil]; omega)
  refine wpAny_pure ?_
  refine wpAny_bind (m := load s.heap.objs.size) ?_
  refine wpAny_load (get?_update_seq (Heap.get?_push_size _ rfl) _) ?_
  show wpAny _ _ (pure ((#[] : Array Value) ++ us.toArray).toList) Q E _
  have e : ((#[] : Array Value) ++ us.toArray).toList = us := by simp
  rw [e]
  exact wpAny_pure h
theorem sorted_rowsT {l : Addr} {us : List Value} {d : Nat} {B : Int} {Q : Value → Shared → Prop} (ht : IsTup s.heap l us.toArray) (h64 : us.length < 64) (hd : 1 ≤ d) (x : TS.TupsOk s.heap d B us)
    (h : ∀ out : Array Value, out.toList.Perm us → out.toList.Pairwise (fun u v => TS.code B (TS.intsOf s.heap u) ≤ TS.code B (TS.intsOf s.heap v)) → Q (.ref (s.heap.objs.size + 1)) { s with heap := sortedAll s.heap us out }) :
    wpAny (model prog w) A (call (.builtin "sorted") [.ref l]) Q E s := by
  have hsl : us.length ≤ sizeLine := by rw [sizeLine_eq]; omega
  refine Calls.call_function_entry kind_sorted plain_sorted entry_sorted (args_sorted1 _) ?_
  unfold Builtin.«sorted»
  refine wpAny_bind (m := checkCount "sorted" 1 1 _) (wpAny_pure ?_)
  refine wpAny_bind (gather_tup ht hsl ?_)
  refine wpAny_bind (wpAny_newList ?_ hsl)
  generalize hh1 : (s.heap.push (seqObj "list" #[] 0)).update s.heap.objs.size (Obj.mapSeq (· ++ us.toArray)) = h1
  have hsz : h1.objs.size = s.heap.objs.size + 1 := by
    rw [← hh1, Heap.size_update, size_push']
  have hoL : (h1.push (seqObj "list" us.toArray 0)).get? (s.heap.objs.size + 1) = some (seqObj "list" us.toArray 0) := by
    rw [← hsz]
    exact Heap.get?_push_size _ rfl
  have keep : ∀ b o, s.heap.get? b = some o → o.cls = .type "tuple" → (h1.push (seqObj "list" us.toArray 0)).get? b = some o := fun b o q _ => by
    have hlt : b < s.heap.objs.size := Heap.lt_size q
    rw [Heap.get?_push_ne _ _ _ (by rw [hsz]; exact Nat.ne_of_lt (Nat.lt_succ_of_lt hlt)), ← hh1, Heap.get?_update_ne _ _ _ _ (Nat.ne_of_lt hlt), Heap.get?_push_ne _ _ _ (Nat.ne_of_lt hlt)]
    exact q
  show wpAny _ _ _ _ _ { s with heap := h1.push (seqObj "list" us.toArray 0) }
  rw [hsz]
  refine wpAny_bind (wpAny_holding (wpAny_call_entry slot_list_sort ⟨_, hoL, rfl⟩ entry_list_sort ?_ (args_list_sort _)))
  refine TS.sort_tups hoL h64 hd (x.keeps keep) (fun v => TS.code B (TS.intsOf s.heap v)) (fun v hv ns t => ?_) fun out a1 a2 => ⟨_, rfl, ?_⟩
  · obtain ⟨ns0, t0, _⟩ := x v hv
    have e : ns = ns0 := t.ints.symm.trans (t0.keeps keep).ints
    rw [e]
    show TS.code B (TS.intsOf s.heap v) = TS.code B ns0
    rw [t0.ints]
  · refine wpAny_pure ⟨_, rfl, ?_⟩
    have := h out a1 a2
    unfold sortedAll at this
    rw [hh1] at this
    exact this
end
def rSortV (K : PySem.W.Frag) (d : Nat) (B : Int) : List V → Hp → VK → Prop := fun vs H Q => ∃ (a : Addr) (xs : List V), vs = [V.ref a] ∧ SqT K H a xs ∧ xs.length < 64 ∧ (∀ x ∈ xs, ∃ ns, TupI K H x ns ∧ ns.length = d ∧ TS.Bd B ns) ∧
  ∀ (ys : List V) (p : Addr), ys.Perm xs → ys.Pairwise (fun x y => ∀ n m, TupI K H x n → TupI K H y m → TS.code B n ≤ TS.code B m) → H p = none → Q (.ref p) (upd H p (.lst ys))
theorem cr_sortV {X : Cx} {d : Nat} {B : Int} (hd : 1 ≤ d) : CallR X (.builtin "sorted") (rSortV X.K d B) := by
  rintro pins s σ H vs us Q I r ⟨a, xs, rfl, hs, h64, hx, q⟩
  obtain ⟨its, rv, hl, hz⟩ := I.tuple hs
  rw [Vals.ref1 r]
  obtain ⟨e1, e2⟩ := bkV_refs rv fun x m => let ⟨ns, ⟨t, e, _⟩, _⟩ := hx x m; ⟨t, e⟩
  refine sorted_rowsT (d := d) (B := B) hl (by rw [← rv.length]; exact h64) hd (fun v hv => ?_) fun out h1 h2 => ?_
  · obtain ⟨t, rfl⟩ := e2 v hv
    have hm : V.ref t ∈ xs := e1 ▸ List.mem_map.mpr ⟨_, hv, rfl⟩
    obtain ⟨ns, ⟨t', e, ht⟩, hn, hb⟩ := hx _ hm
    cases e
    exact ⟨ns, tupI_raw I ht, hn, hb⟩
  · obtain ⟨ep, he'⟩ := PyProof.Rows.sortedAll_at s.heap its out
    have h3 : ∀ u ∈ out.toList, ∃ a, u = Value.ref a := fun u hu => e2 u (h1.mem_iff.mp hu)
    have hp : (out.toList.map bkV).Perm xs := by rw [e1]; exact h1.map bkV
    have hlen : (out.toList.map bkV).length ≤ sizeLine := by rw [hp.length_eq]; exact hz
    have I2 := I.laid (t' := s.toks) (o := .lst (out.toList.map bkV)) (fun _ _ => PyProof.Rows.sortedAll_old) (Nat.le_succ _) ⟨hlen, out.toList, ep, bkV_vals h3, he'⟩
    refine ⟨.ref _, _, I2, rfl, q _ _ hp ?_ (I.hok.fresh (Nat.le_succ _))⟩
    rw [List.pairwise_map]
    refine List.Pairwise.imp_of_mem (fun {u v} hu hv huv n m hn hm => ?_) h2
    obtain ⟨t, et, ht⟩ := hn
    obtain ⟨t', et', ht'⟩ := hm
    have i1 : TS.intsOf s.heap u = n := by
      obtain ⟨a, rfl⟩ := h3 u hu
      cases et
      exact (tupI_raw I ht).ints
    have i2 : TS.intsOf s.heap v = m := by
      obtain ⟨a, rfl⟩ := h3 v hv
      cases et'
      exact (tupI_raw I ht').ints
    rw [i1, i2] at huv
    exact huv
/-- sorted(t) -/
def gSortV : GA := fun ds st => match ds with
  | [.v (.tuple zs)] => match rowsOf zs with
    | some rs => if zs.length < 64 ∧ 1 ≤ (rs.headD []).length ∧ (rs.all (rowB (rs.headD []).length)) = true then .ok ((sortR rs).map fun r => .tuple (r.map .int)) st else .stuck
    | none => .stuck
  | _ => .stuck
theorem opF_sortV {K : PySem.W.Frag} {W : XW} : OpFA K W (fun xs H Q => ∃ d, 1 ≤ d ∧ rSortV K d TB xs H Q) gSortV := by
  intro ι st H xs ds Q R r p
  unfold gSortV at p
  split at p
  · rename_i zs
    obtain ⟨x, rfl, r1⟩ := r.one
    split at p
    · rename_i rs er
      split at p
      · rename_i hc
        obtain ⟨q, us, rfl, h1, h2⟩ := tOf_at (d := .v (.tuple zs)) rfl r1
        have ez := rowsOf_eq er
        subst ez
        have hrs : ∀ r ∈ rs, RowOk (rs.headD []).length r := fun r hr => rowB_ok (List.all_eq_true.mp hc.2.2 r hr)
        refine ⟨_, hc.2.1, q, us, rfl, h1.sq, by rw [h2.length]; exact hc.1, fun x hx => ?_, fun ys a hp hs ha hf => ?_⟩
        · obtain ⟨i, hi, e2⟩ := List.getElem_of_mem hx
          have hi2 : i < rs.length := by
            have := h2.length
            rw [List.length_map] at this
            omega
          obtain ⟨y, h3, h4⟩ := RpA.get h2 (i := i) (d := .tuple ((rs[i]).map .int)) (by rw [List.getElem?_map, List.getElem?_eq_getElem hi2]; rfl)
          rw [List.getElem?_eq_getElem hi, e2] at h3
          cases h3
          have ok := hrs _ (List.getElem_mem hi2)
          exact ⟨_, row_at h4, ok.len, ok.bd⟩
        · obtain ⟨zs', r3, p3⟩ := RpA.perm hp h2
          obtain ⟨rs', rfl, p4⟩ := perm_unmap p3 rfl
          have e3 := sortR_uniq hrs p4 (rows_sorted r3 hs)
          subst e3
          exact p.new R r3 a ha hf
      · exact p.elim
    · exact p.elim
  · exact p.elim
theorem cr_sortVs {X : Cx} : CallR X (.builtin "sorted") (fun xs H Q => ∃ d, 1 ≤ d ∧ rSortV X.K d TB xs H Q) := by
  rintro pins s σ H vs us Q I r ⟨d, hd, q⟩
  exact cr_sortV hd pins s σ H vs us Q I r q
theorem xf_sortV {X : Cx} {W : XW} {e : Expr} {es : List Expr} {m : MA} {p pos : Pos} {x : Str} (hg : Gl X x) (hm : X.mg x = none) (hv : bootBuiltins x = some (.builtin "sorted")) (ha : PA X (e :: es) (TAo X.K W m)) (hn : x ≠ "__name__" := by decide) (hdb : (x == ("__debug__" : Str)) = false := by decide)
    (he : starEach (e :: es) X.env = (false, eval e X.env) :: starEach es X.env := by rfl) (hpl : (backTo pos (starEach es X.env)).any (·.1) = false := by rfl) :
    PE X (.Call (.Name x p) (e :: es) [] pos) (TFo X.K W (mfArg gSortV m)) := pf_wrap (pe_callB cr_sortVs hg hm hv ha hn hdb he hpl) fun σ H Q q => tf_arg opF_sortV q
end Fw

namespace Fw.LD
open PySem PySem.Spec PyProof.Rows L2 Fw
noncomputable abbrev f_do_want : FF := Fw.LC.f_do_want
noncomputable abbrev f_has_rather : FF := Fw.LC.f_has_rather
noncomputable abbrev f_law_place : FF := Fw.LC.f_law_place
noncomputable abbrev f_law_partner : FF := Fw.LC.f_law_partner
noncomputable def best_for_E1 : MI := (miSeq (mVar 1))
noncomputable def best_for_G1 : MG := (gNm 5)
noncomputable def best_for_T1 : MT := mYes
noncomputable def best_for_M1 : ME := (mArg fTup (mCons (mVar 5) (mCons (mC (.int 0)) mNil)))
noncomputable def best_for_E2 : MI := (miSeq (mBin subsD (mBin subsD (mVar 0) (mC (.int 1))) (mVar 6)))
noncomputable def best_for_G2 : MG := (gNm 8)
noncomputable def best_for_T2 : MT := (mTru' (mCall f_do_want (mCons (mVar 0) (mCons (mVar 6) (mCons (mVar 8) mNil))) []))
noncomputable def best_for_M2 : ME := (mVar 8)
noncomputable def best_for_B1_3 : MS := (sIf (mTB (mBin ltD (mBin subsD (mVar 2) (mVar 6)) (mArg fLen (mCons (mVar 7) mNil)))) (sSeq (sAsg (mBin subsD (mVar 7) (mBin subsD (mVar 2) (mVar 6))) (gNm 8)) (sSeq (sSub (mBin addD (mBin subsD (mVar 2) (mVar 6)) (mC (.int 1))) (mVar 2) (mVar 6)) (sIf (mTB (mBin notInU (mVar 8) (mVar 3))) (sSub (mVar 6) (mVar 3) (mVar 8)) (sIf (mTru' (mCall f_has_rather (mCons (mVar 0) (mCons (mVar 8) (mCons (mVar 6) (mCons (mBin subsD (mVar 3) (mVar 8)) mNil)))) [])) (sSeq (sExp (mM fmAppend (mVar 4) (mCons (mBin subsD (mVar 3) (mVar 8)) mNil))) (sSub (mVar 6) (mVar 3) (mVar 8))) (sExp (mM fmAppend (mVar 4) (mCons (mVar 6) mNil))))))) sNil)
noncomputable def best_for_B1_2 : MS := (sSeq (sAsg (mFrz (mLc best_for_E2 best_for_G2 best_for_T2 best_for_M2 [8])) (gNm 7)) best_for_B1_3)
noncomputable def best_for_T3 : MT := (mTB (mBin neD (mVar 4) (mFrz (mfArg gDisp mNil))))
noncomputable def best_for_B1 : MS := (sSeq (sAsg (mM0 fmPop (mVar 4)) (gNm 6)) best_for_B1_2)
noncomputable def best_for_E3 : MI := (miItems (mVar 3))
noncomputable def best_for_G3 : MG := (gTp 2 (gMore (gNm 9) (gMore (gNm 10) gNone)))
noncomputable def best_for_T4 : MT := mYes
noncomputable def best_for_M3 : ME := (mArg fTup (mCons (mArg (f2I intMin) (mCons (mVar 9) (mCons (mVar 10) mNil))) (mCons (mArg (f2I intMax) (mCons (mVar 9) (mCons (mVar 10) mNil))) mNil)))
noncomputable def S_best_for_3 : MS := (sRet (mArg fTuple (mCons (mFrz (mfArg gSort (mCons (mLock 3 (mFrz (mLc best_for_E3 best_for_G3 best_for_T4 best_for_M3 [9, 10]))) mNil))) mNil)))
noncomputable def S_best_for_2 : MS := (sSeq (whileL best_for_T3 best_for_B1 1000000) S_best_for_3)
noncomputable def S_best_for : MS := (sSeq (sPar3 2 3 4 (mCons (mArg fDictP (mCons (mFrz (mLc best_for_E1 best_for_G1 best_for_T1 best_for_M1 [5])) mNil)) (mCons (mDnew false) (mCons (mNew (mfArg gList (mCons (mVar 1) mNil))) mNil)))) S_best_for_2)
noncomputable def f_best_for : FF := fnT 11 S_best_for
noncomputable def S_changed_2 : MS := (sRet (mArg fTup (mCons (mBin subsD (mVar 0) (mC (.int 0))) (mCons (mBin addD (mBin addD (mSl (mVar 3) moNone (moSome (mVar 1))) (mArg fTup (mCons (mArg fTuple (mCons (mVar 2) mNil)) mNil))) (mSl (mVar 3) (moSome (mBin addD (mVar 1) (mC (.int 1)))) moNone)) mNil))))
noncomputable def S_changed : MS := (sSeq (sAsg (mBin subsD (mVar 0) (mC (.int 1))) (gNm 3)) S_changed_2)
noncomputable def f_changed : FF := fnT 4 S_changed
noncomputable def S_cut_short : MS := (sRet (mCall f_changed (mCons (mVar 0) (mCons (mVar 1) (mCons (mSl (mBin subsD (mBin subsD (mVar 0) (mC (.int 1))) (mVar 1)) moNone (moSome (mVar 2))) mNil))) []))
noncomputable def f_cut_short : FF := fnT 3 S_cut_short
noncomputable def law_compared_B1_2 : MS := (sExp (mM fmAppend (mVar 3) (mCons (mIte (mTB (mBin ltD (mVar 6) (mVar 5))) (mC (.int 1)) (mIte (mTB (mBin gtD (mVar 6) (mVar 5))) (mBin subD (mC (.int 0)) (mC (.int 1))) (mC (.int 0)))) mNil)))
noncomputable def law_compared_E1 : MI := (miR1 (mCons (mBin subsD (mVar 0) (mC (.int 0))) mNil))
noncomputable def law_compared_G1 : MG := (gNm 4)
noncomputable def law_compared_B1 : MS := (sSeq (sPar2 5 6 (mCons (mCall f_law_place (mCons (mVar 0) (mCons (mVar 4) (mCons (mCall f_law_partner (mCons (mVar 1) (mCons (mVar 4) mNil)) []) mNil))) []) (mCons (mCall f_law_place (mCons (mVar 0) (mCons (mVar 4) (mCons (mCall f_law_partner (mCons (mVar 2) (mCons (mVar 4) mNil)) []) mNil))) []) mNil))) law_compared_B1_2)
noncomputable def S_law_compared_3 : MS := (sRet (mArg fTuple (mCons (mVar 3) mNil)))
noncomputable def S_law_compared_2 : MS := (sSeq (sFor law_compared_E1 law_compared_G1 law_compared_B1) S_law_compared_3)
noncomputable def S_law_compared : MS := (sSeq (sAsg (mNew (mfArg gDisp mNil)) (gNm 3)) S_law_compared_2)
noncomputable def f_law_compared : FF := fnT 7 S_law_compared
noncomputable abbrev f_law_want : FF := Fw.LC.f_law_want
noncomputable def law_pairings_E1 : MI := (miR2 (mCons (mBin addD (mVar 2) (mC (.int 1))) (mCons (mBin subsD (mVar 0) (mC (.int 0))) mNil)))
noncomputable def law_pairings_G1 : MG := (gNm 6)
noncomputable def law_pairings_T1 : MT := (mTru' (mCall f_law_want (mCons (mVar 0) (mCons (mVar 2) (mCons (mVar 6) mNil))) []))
noncomputable def law_pairings_M1 : ME := (mVar 6)
noncomputable def law_pairings_E2 : MI := (miSeq (mVar 5))
noncomputable def law_pairings_G2 : MG := (gNm 6)
noncomputable def law_pairings_T2 : MT := (mTB (mBin isD (mCall f_law_partner (mCons (mVar 4) (mCons (mVar 6) mNil)) []) (mC .none)))
noncomputable def law_pairings_M2 : ME := (mVar 6)
noncomputable def law_pairings_E3 : MI := (miSeq (mVar 5))
noncomputable def law_pairings_G3 : MG := (gNm 6)
noncomputable def law_pairings_T3 : MT := mYes
noncomputable def law_pairings_M3 : ME := (mArg fTuple (mCons (mFrz (mfArg gSortV (mCons (mBin addD (mVar 4) (mArg fTup (mCons (mArg fTup (mCons (mVar 2) (mCons (mVar 6) mNil))) mNil))) mNil))) mNil))
noncomputable def law_pairings_E4 : MI := (miSeq (mVar 1))
noncomputable def law_pairings_G4 : MG := (gNm 4)
noncomputable def law_pairings_B2 : MS := (sIf (mTB (mBin isD (mCall f_law_partner (mCons (mVar 4) (mCons (mVar 2) mNil)) []) (mC .none))) (sSeq (sAsg (mFrz (mLc law_pairings_E1 law_pairings_G1 law_pairings_T1 law_pairings_M1 [6])) (gNm 5)) (sSeq (sAsg (mFrz (mLc law_pairings_E2 law_pairings_G2 law_pairings_T2 law_pairings_M2 [6])) (gNm 5)) (sAsg (mFrz (mfBin gCat (mVar 3) (mFrz (mLc law_pairings_E3 law_pairings_G3 law_pairings_T3 law_pairings_M3 [6])))) (gNm 3)))) sNil)
noncomputable def law_pairings_B1_3 : MS := (sAsg (mVar 3) (gNm 1))
noncomputable def law_pairings_B1_2 : MS := (sSeq (sFor law_pairings_E4 law_pairings_G4 law_pairings_B2) law_pairings_B1_3)
noncomputable def law_pairings_E5 : MI := (miR1 (mCons (mBin subsD (mVar 0) (mC (.int 0))) mNil))
noncomputable def law_pairings_G5 : MG := (gNm 2)
noncomputable def law_pairings_B1 : MS := (sSeq (sAsg (mFrz (mfArg gList (mCons (mVar 1) mNil))) (gNm 3)) law_pairings_B1_2)
noncomputable def S_law_pairings_3 : MS := (sRet (mVar 1))
noncomputable def S_law_pairings_2 : MS := (sSeq (sFor law_pairings_E5 law_pairings_G5 law_pairings_B1) S_law_pairings_3)
noncomputable def S_law_pairings : MS := (sSeq (sAsg (mFrz (mfArg gDisp (mCons (mArg fTup mNil) mNil))) (gNm 1)) S_law_pairings_2)
noncomputable def f_law_pairings : FF := fnT 7 S_law_pairings
end Fw.LD

namespace Wk58
open PySem PySem.Spec PyProof.Rows L2 Fw
abbrev top (i : Nat) : Stmt := PySem.Challenge.pw_pairsandprices_k58_whole_lists_cut_short.main.body.getD i (.Pass ⟨0, 0, 0, 0⟩)
abbrev FnP (K : PySem.W.Frag) (x : Str) (st : Stmt) (f : Addr) (fd : FuncData) : Prop := FunD K x x (defArgs st) (defBody st) (defScope st) [] [] f fd
-- not reached: _law_settled, _law_draw_pairing
noncomputable abbrev f_law_open_cells : FF := Fw.LA.f_law_open_cells
noncomputable abbrev f_law_pick : FF := Fw.LA.f_law_pick
noncomputable abbrev f_law_any_order : FF := Fw.LA.f_law_any_order
noncomputable abbrev f_law_draw_hall : FF := Fw.LC.f_law_draw_hall
noncomputable abbrev f_changed : FF := Fw.LD.f_changed
noncomputable abbrev f_cut_short : FF := Fw.LD.f_cut_short
noncomputable abbrev f_do_want : FF := Fw.LC.f_do_want
noncomputable abbrev f_has_rather : FF := Fw.LC.f_has_rather
noncomputable abbrev f_best_for : FF := Fw.LD.f_best_for
noncomputable abbrev f_law_want : FF := Fw.LC.f_law_want
noncomputable abbrev f_law_place : FF := Fw.LC.f_law_place
noncomputable abbrev f_law_partner : FF := Fw.LC.f_law_partner
noncomputable abbrev f_law_breaking : FF := Fw.LC.f_law_breaking
noncomputable abbrev f_law_compared : FF := Fw.LD.f_law_compared
noncomputable def law_E1 : MI := (miR1 (mCons (mVar 5) mNil))
noncomputable def law_G1 : MG := (gNm 11)
noncomputable def law_T1 : MT := (mTB (mBin notInU (mVar 11) (mVar 4)))
noncomputable def law_M1 : ME := (mVar 11)
noncomputable def law_E2 : MI := (miR1 (mCons (mVar 5) mNil))
noncomputable def law_G2 : MG := (gNm 11)
noncomputable def law_T2 : MT := (mTB (mBin notInU (mVar 11) (mVar 10)))
noncomputable def law_M2 : ME := (mVar 11)
noncomputable def law_E3 : MI := (miSeq (mVar 12))
noncomputable def law_G3 : MG := (gNm 17)
noncomputable def law_T3 : MT := (mTB (mBin gtD (mBin subsD (mVar 16) (mVar 17)) (mC (.int 0))))
noncomputable def law_M3 : ME := (mVar 17)
noncomputable def law_E4 : MI := (miSeq (mVar 10))
noncomputable def law_G4 : MG := (gNm 11)
noncomputable def law_T4 : MT := (mAndT (mTB (mBin neD (mVar 11) (mVar 6))) (mTB (mBin ltD (mBin subsD (mVar 16) (mVar 11)) (mC (.int 0)))))
noncomputable def law_M4 : ME := (mVar 11)
noncomputable def law_E5 : MI := (miSeq (mVar 10))
noncomputable def law_G5 : MG := (gNm 11)
noncomputable def law_T5 : MT := (mAndT (mTB (mBin neD (mVar 11) (mVar 6))) (mTB (mBin isNotD (mCall f_law_partner (mCons (mVar 14) (mCons (mVar 11) mNil)) []) (mC .none))))
noncomputable def law_M5 : ME := (mVar 11)
noncomputable def law_E6 : MI := (miSeq (mVar 18))
noncomputable def law_G6 : MG := (gNm 11)
noncomputable def law_T6 : MT := (mTB (mBin isD (mCall f_law_partner (mCons (mVar 15) (mCons (mVar 11) mNil)) []) (mC .none)))
noncomputable def law_M6 : ME := (mVar 11)
noncomputable def law_B2_6 : MS := (sIf (mTB (mBin neD (mFrz (mLc law_E6 law_G6 law_T6 law_M6 [11])) (mFrz (mfArg gDisp mNil)))) (sRet (mC (.bool false))) sNil)
noncomputable def law_B2_5 : MS := (sSeq (sAsg (mFrz (mLc law_E5 law_G5 law_T5 law_M5 [11])) (gNm 18)) law_B2_6)
noncomputable def law_B2_4 : MS := (sSeq (sIf (mOrT (mTB (mBin neD (mFrz (mLc law_E4 law_G4 law_T4 law_M4 [11])) (mFrz (mfArg gDisp mNil)))) (mTB (mBin neD (mFrz (mLc law_E3 law_G3 law_T3 law_M3 [17])) (mFrz (mfArg gDisp mNil))))) (sRet (mC (.bool false))) sNil) law_B2_5)
noncomputable def law_B2_3 : MS := (sSeq (sAsg (mCall f_law_compared (mCons (mVar 3) (mCons (mVar 14) (mCons (mVar 15) mNil))) []) (gNm 16)) law_B2_4)
noncomputable def law_B2_2 : MS := (sSeq (sIf (mOrT (mTB (mBin neD (mCall f_law_breaking (mCons (mVar 3) (mCons (mVar 14) mNil)) []) (mFrz (mfArg gDisp mNil)))) (mTB (mBin neD (mCall f_law_breaking (mCons (mVar 9) (mCons (mVar 15) mNil)) []) (mFrz (mfArg gDisp mNil))))) (sRet (mC (.bool false))) sNil) law_B2_3)
noncomputable def law_E7 : MI := (miSeq (mArg fTup (mCons (mVar 10) (mCons (mVar 12) mNil))))
noncomputable def law_G7 : MG := (gNm 13)
noncomputable def law_B2 : MS := (sSeq (sAsgT 2 (mCons (mCall f_best_for (mCons (mVar 3) (mCons (mVar 13) mNil)) []) (mCons (mCall f_best_for (mCons (mVar 9) (mCons (mVar 13) mNil)) []) mNil)) (gMore (gNm 14) (gMore (gNm 15) gNone))) law_B2_2)
noncomputable def law_E8 : MI := (miR1 (mCons (mVar 5) mNil))
noncomputable def law_G8 : MG := (gNm 11)
noncomputable def law_T7 : MT := (mTB (mBin neD (mVar 11) (mVar 6)))
noncomputable def law_M7 : ME := (mVar 11)
noncomputable def law_B1_10 : MS := (sIf (mOrT (mTB (mBin neD (mArg fReprK (mCons (mCall f_changed (mCons (mVar 3) (mCons (mVar 6) (mCons (mVar 19) mNil))) []) mNil)) (mArg fReprK (mCons (mArg fTup (mCons (mVar 5) (mCons (mBin addD (mBin addD (mSl (mBin subsD (mVar 3) (mC (.int 1))) moNone (moSome (mVar 6))) (mArg fTup (mCons (mVar 19) mNil))) (mSl (mBin subsD (mVar 3) (mC (.int 1))) (moSome (mBin addD (mVar 6) (mC (.int 1)))) moNone)) mNil))) mNil)))) (mTB (mBin neD (mArg fReprK (mCons (mVar 3) mNil)) (mVar 8)))) (sRet (mC (.bool false))) sNil)
noncomputable def law_B1_9 : MS := (sSeq (sAsg (mArg fTuple (mCons (mSl (mCall f_law_any_order (mCons (mVar 1) (mCons (mFrz (mLc law_E8 law_G8 law_T7 law_M7 [11])) mNil)) []) moNone (moSome (mCall f_law_pick (mCons (mVar 1) (mCons (mVar 5) mNil)) []))) mNil)) (gNm 19)) law_B1_10)
noncomputable def law_B1_8 : MS := (sSeq (sFor law_E7 law_G7 law_B2) law_B1_9)
noncomputable def law_B1_7 : MS := (sSeq (sAsg (mArg fTuple (mCons (mFrz (mLc law_E2 law_G2 law_T2 law_M2 [11])) mNil)) (gNm 12)) law_B1_8)
noncomputable def law_B1_6 : MS := (sSeq (sAsg (mIte (mTB (mBin inU (mVar 6) (mVar 4))) (mVar 4) (mArg fTuple (mCons (mFrz (mLc law_E1 law_G1 law_T1 law_M1 [11])) mNil))) (gNm 10)) law_B1_7)
noncomputable def law_B1_5 : MS := (sSeq (sIf (mTB (mBin neD (mArg fReprK (mCons (mCall f_cut_short (mCons (mVar 3) (mCons (mVar 6) (mCons (mVar 7) mNil))) []) mNil)) (mArg fReprK (mCons (mVar 9) mNil)))) (sRet (mC (.bool false))) sNil) law_B1_6)
noncomputable def law_B1_4 : MS := (sSeq (sAsg (mArg fTup (mCons (mVar 5) (mCons (mBin addD (mBin addD (mSl (mBin subsD (mVar 3) (mC (.int 1))) moNone (moSome (mVar 6))) (mArg fTup (mCons (mSl (mBin subsD (mBin subsD (mVar 3) (mC (.int 1))) (mVar 6)) moNone (moSome (mVar 7))) mNil))) (mSl (mBin subsD (mVar 3) (mC (.int 1))) (moSome (mBin addD (mVar 6) (mC (.int 1)))) moNone)) mNil))) (gNm 9)) law_B1_5)
noncomputable def law_B1_3 : MS := (sSeq (sPar2 7 8 (mCons (mCall f_law_pick (mCons (mVar 1) (mCons (mBin addD (mArg fLen (mCons (mBin subsD (mBin subsD (mVar 3) (mC (.int 1))) (mVar 6)) mNil)) (mC (.int 1))) mNil)) []) (mCons (mArg fReprK (mCons (mVar 3) mNil)) mNil))) law_B1_4)
noncomputable def law_B1_2 : MS := (sSeq (sAsgT 2 (mCons (mBin subsD (mVar 3) (mC (.int 0))) (mCons (mCall f_law_pick (mCons (mVar 1) (mCons (mBin subsD (mVar 3) (mC (.int 0))) mNil)) []) mNil)) (gMore (gNm 5) (gMore (gNm 6) gNone))) law_B1_3)
noncomputable def law_E9 : MI := (miR1 (mCons (mC (.int 4)) mNil))
noncomputable def law_G9 : MG := (gNm 2)
noncomputable def law_B1 : MS := (sSeq (sAsg (mCall f_law_draw_hall (mCons (mVar 1) (mCons (mBin subsD (mFrz (mfArg gDisp (mCons (mC (.int 6)) (mCons (mC (.int 8)) (mCons (mC (.int 10)) (mCons (mC (.int 7)) mNil)))))) (mVar 2)) (mCons (mC (.bool true)) mNil))) []) (gTp 2 (gMore (gNm 3) (gMore (gNm 4) gNone)))) law_B1_2)
noncomputable def S_law_3 : MS := (sRet (mC (.bool true)))
noncomputable def S_law_2 : MS := (sSeq (sFor law_E9 law_G9 law_B1) S_law_3)
noncomputable def S_law : MS := (sSeq (sAsg (mCall f_law_open_cells (mCons (mVar 0) mNil) []) (gNm 1)) S_law_2)
noncomputable def f_law : FF := fnT 20 S_law
section
variable {P : Program} {w : World} {K : PySem.W.Frag} {mg : Str → Option Value} {base : Heap}
abbrev N_law_open_cells : List Str := ["script", "stirred", "cell", "cells"]
theorem sc_law_open_cells : FnScope N_law_open_cells ["script"] (defScope (top 8)) := ⟨rfl, rfl, rfl, by decide +kernel, rfl, by decide +kernel, by decide +kernel⟩
theorem ok_law_open_cells {f : Addr} {fd : FuncData} (F : FnP K "_law_open_cells" (top 8) f fd) (h_int : mg "int" = none) (h_abs : mg "abs" = none) : FnG P w K mg base CX0 1 f fd ["script"] (spG K V0 1 f_law_open_cells) := by
  refine fnG_K F sc_law_open_cells fun cdv A outer s H E hr => ?_
  have sc := sc_law_open_cells
  have gd := hr.gd (X := cxOf CX0 P w K mg base N_law_open_cells "_law_open_cells" (defScope (top 8)) f cdv A outer s H E) rfl
  exact (ss_cons (s_asg x_int (gn 1 sc.nd)) (ss_cons (s_for gd own_pass (i_seq (xv 0)) (gn 2 sc.nd) (ss_one (s_asg (x_mod (x_callT call_int1 opA_int rfl h_int bt_int (xa_cons (x_add (x_add (x_mul (xv 1) x_int) (x_mul (xv 2) x_int)) x_int) xa_nil)) x_int) (gn 1 sc.nd)))) (ss_cons (s_lcF (i := 3) (own := [("cell", 2)]) gd sc.nd rfl rfl (sw_true rfl rfl rfl (by decide +kernel)) (i_seq (xv 0)) (blkOk_by (N := N_law_open_cells) (sc := defScope (top 8)) (by decide +kernel)) (fun _ _ _ _ _ => ⟨(gn 2 sc.nd), ts_nil, (x_callB call_abs opA_abs rfl h_abs bt_abs (xa_cons (xv 2) xa_nil))⟩)) (ss_one (s_ret (x_disp (ps_cons0 x_str (x_new (xf_rev (xv 3))) (ps_cons0 x_str x_int (ps_cons0 x_str (xv 1) (ps_cons0 x_str x_int ps_nil0))))))))))
abbrev N_law_pick : List Str := ["source", "most", "cells", "others", "lap", "stirred"]
theorem sc_law_pick : FnScope N_law_pick ["source", "most"] (defScope (top 9)) := ⟨rfl, rfl, rfl, by decide +kernel, rfl, by decide +kernel, by decide +kernel⟩
theorem ok_law_pick {f : Addr} {fd : FuncData} (F : FnP K "_law_pick" (top 9) f fd) (h_len : mg "len" = none) (h_int : mg "int" = none) : FnG P w K mg base CX0 1 f fd ["source", "most"] (spG K V0 2 f_law_pick) := by
  refine fnG_T F sc_law_pick fun cdv A outer s H E hr => ?_
  have sc := sc_law_pick
  have gd := hr.gd (X := cxOf CX0 P w K mg base N_law_pick "_law_pick" (defScope (top 9)) f cdv A outer s H E) rfl
  exact (ss_cons (s_if (t_c (c_lt (xv 1) x_int)) (ss_one (s_ret x_int)) ss_nil) (ss_cons (s_asg (x_sub' gd (xv 0) x_str) (gn 2 sc.nd)) (ss_cons (s_while 1000000 own_pass (PW.pt (t_and (t_c (c_lt (x_sub' gd (xv 0) x_str) x_int)) (t_and1 (t_c (c_gt (x_callB call_len opA_len rfl h_len bt_len (xa_cons (xv 2) xa_nil)) x_int))))) (ss_one (s_subP gd (x_m0 PySem.F.plainAttrs_list PySem.F.slot_list_pop PySem.F.type_list_pop mt_pop opM_pop (xv 2)) (xv 0) x_str))) (ss_cons (s_asg (x_sub' gd (xv 0) x_str) (gn 3 sc.nd)) (ss_cons (s_if (t_c (c_gt (xv 3) x_int)) (ss_cons (s_subP gd (x_fdiv (xv 3) (xv 1)) (xv 0) x_str) (ss_one (s_ret (x_mod (x_callT call_int1 opA_int rfl h_int bt_int (xa_cons (xv 3) xa_nil)) (xv 1))))) ss_nil) (ss_cons (s_subP gd (x_add (x_sub' gd (xv 0) x_str) x_int) (xv 0) x_str) (ss_cons (s_asg (x_sub' gd (xv 0) x_str) (gn 4 sc.nd)) (ss_cons (s_asg (x_mod (x_callT call_int1 opA_int rfl h_int bt_int (xa_cons (x_add (x_sub' gd (xv 0) x_str) (x_mul (xv 4) x_int)) xa_nil)) x_int) (gn 5 sc.nd)) (ss_cons (s_asg (x_mod (x_callT call_int1 opA_int rfl h_int bt_int (xa_cons (x_add (x_mul (xv 5) (xv 5)) (x_mul (xv 4) x_int)) xa_nil)) x_int) (gn 5 sc.nd)) (ss_one (s_ret (x_mod (x_callT call_int1 opA_int rfl h_int bt_int (xa_cons (x_fdiv (xv 5) x_int) xa_nil)) (xv 1)))))))))))))
abbrev N_law_any_order : List Str := ["source", "things", "others", "lap"]
theorem sc_law_any_order : FnScope N_law_any_order ["source", "things"] (defScope (top 10)) := ⟨rfl, rfl, rfl, by decide +kernel, rfl, by decide +kernel, by decide +kernel⟩
theorem ok_law_any_order {f : Addr} {fd : FuncData} (F : FnP K "_law_any_order" (top 10) f fd) (h_list : mg "list" = none) (h_len : mg "len" = none) (h_range : mg "range" = none) (C_law_pick : Cal P w K mg base 1 "_law_pick" 2 [] f_law_pick) : FnG P w K mg base CX0 2 f fd ["source", "things"] (spG K V0 2 f_law_any_order) := by
  refine fnG_T F sc_law_any_order fun cdv A outer s H E hr => ?_
  have sc := sc_law_any_order
  have gd := hr.gd (X := cxOf CX0 P w K mg base N_law_any_order "_law_any_order" (defScope (top 10)) f cdv A outer s H E) rfl
  exact (ss_cons (s_asg (x_new (xf_list rfl h_list bt_list (xa_cons (xv 1) xa_nil))) (gn 2 sc.nd)) (ss_one (s_ret (x_frz (xf_lc (own := [("lap", 3)]) gd sc.nd (i_range1 rfl h_range (xa_cons (x_callB call_len opA_len rfl h_len bt_len (xa_cons (xv 2) xa_nil)) xa_nil)) (blkOk_by (N := N_law_any_order) (sc := defScope (top 10)) (by decide +kernel)) (fun _ _ _ _ _ => ⟨(gn 3 sc.nd), ts_nil, (x_m PySem.F.plainAttrs_list PySem.F.slot_list_pop PySem.F.type_list_pop mt_popAt opM_popAt (xv 2) (xa_cons (x_cal C_law_pick hr (by decide) rfl (xa_cons (xv 0) (xa_cons (x_callB call_len opA_len rfl h_len bt_len (xa_cons (xv 2) xa_nil)) xa_nil)) (.c (.c .n)) rfl) xa_nil))⟩))))))
abbrev N_law_draw_hall : List Str := ["source", "most", "is_sided", "n", "names", "lot", "share", "lists", "same", "person", "others", "x", "row"]
theorem sc_law_draw_hall : FnScope N_law_draw_hall ["source", "most", "is_sided"] (defScope (top 11)) := ⟨rfl, rfl, rfl, by decide +kernel, rfl, by decide +kernel, by decide +kernel⟩
theorem ok_law_draw_hall {f : Addr} {fd : FuncData} (F : FnP K "_law_draw_hall" (top 11) f fd) (h_range : mg "range" = none) (h_list : mg "list" = none) (h_sorted : mg "sorted" = none) (h_tuple : mg "tuple" = none) (C_law_pick : Cal P w K mg base 1 "_law_pick" 2 [] f_law_pick) (C_law_any_order : Cal P w K mg base 2 "_law_any_order" 2 [] f_law_any_order) : FnG P w K mg base CX0 3 f fd ["source", "most", "is_sided"] (spG K V0 3 f_law_draw_hall) := by
  refine fnG_T F sc_law_draw_hall fun cdv A outer s H E hr => ?_
  have sc := sc_law_draw_hall
  have gd := hr.gd (X := cxOf CX0 P w K mg base N_law_draw_hall "_law_draw_hall" (defScope (top 11)) f cdv A outer s H E) rfl
  exact (ss_cons (s_asg (x_add x_int (x_cal C_law_pick hr (by decide) rfl (xa_cons (xv 0) (xa_cons (xv 1) xa_nil)) (.c (.c .n)) rfl)) (gn 3 sc.nd)) (ss_cons (s_asg (x_cal C_law_any_order hr (by decide) rfl (xa_cons (xv 0) (xa_cons (x_frz (xf_listRg1 gd rfl h_list rfl h_range (xv 3))) xa_nil)) (.c (.c .n)) rfl) (gn 4 sc.nd)) (ss_cons (s_pT gd (xa_cons (x_frz (xf_sort rfl h_sorted bt_sorted (xa_cons (x_slice (xv 4) xo_none (xo_some (x_cal C_law_pick hr (by decide) rfl (xa_cons (xv 0) (xa_cons (x_add (xv 3) x_int) xa_nil)) (.c (.c .n)) rfl))) xa_nil))) (xa_cons (x_add x_int (x_cal C_law_pick hr (by decide) rfl (xa_cons (xv 0) (xa_cons x_int xa_nil)) (.c (.c .n)) rfl)) (xa_cons (x_new (xf_disp xa_nil)) xa_nil))) (gs_cons (gn 5 sc.nd) (gs_cons (gn 6 sc.nd) (gs_cons (gn 7 sc.nd) gs_nil)))) (ss_cons (s_asg (x_ite (t_c (c_eq gd (x_cal C_law_pick hr (by decide) rfl (xa_cons (xv 0) (xa_cons x_int xa_nil)) (.c (.c .n)) rfl) x_int)) (x_cal C_law_any_order hr (by decide) rfl (xa_cons (xv 0) (xa_cons (x_frz (xf_listRg1 gd rfl h_list rfl h_range (xv 3))) xa_nil)) (.c (.c .n)) rfl) x_non) (gn 8 sc.nd)) (ss_cons (s_for gd own_pass (i_range1 rfl h_range (xa_cons (xv 3) xa_nil)) (gn 9 sc.nd) (ss_cons (s_asg (x_frz (xf_lc (own := [("x", 11)]) gd sc.nd (i_range1 rfl h_range (xa_cons (xv 3) xa_nil)) (blkOk_by (N := N_law_draw_hall) (sc := defScope (top 11)) (by decide +kernel)) (fun _ _ _ _ _ => ⟨(gn 11 sc.nd), (ts_one (PW.pt (t_and (t_c (c_ne gd.blk (xv 11) (xv 9))) (t_and1 (PW.pt (t_or (t_not (t_v (xv 2))) (t_or1 (t_c (c_ne gd.blk (x_c (c_in gd.blk (xv 11) (xv 5))) (x_c (c_in gd.blk (xv 9) (xv 5)))))))))))), (xv 11)⟩))) (gn 10 sc.nd)) (ss_cons (s_asg (x_ite (t_c (c_is (xv 8) x_non)) (x_cal C_law_any_order hr (by decide) rfl (xa_cons (xv 0) (xa_cons (xv 10) xa_nil)) (.c (.c .n)) rfl) (x_frz (xf_lc (own := [("x", 11)]) gd sc.nd (i_seq (xv 8)) (blkOk_by (N := N_law_draw_hall) (sc := defScope (top 11)) (by decide +kernel)) (fun _ _ _ _ _ => ⟨(gn 11 sc.nd), (ts_one (t_c (c_in gd.blk (xv 11) (xv 10)))), (xv 11)⟩)))) (gn 12 sc.nd)) (ss_one (s_expr (x_m PySem.F.plainAttrs_list PySem.F.slot_list_append PySem.F.type_list_append mt_append opM_append (xv 7) (xa_cons (x_callT call_tupleN opA_tuple rfl h_tuple bt_tuple (xa_cons (x_frz (xf_lc (own := [("x", 11)]) gd sc.nd (i_seq (xv 12)) (blkOk_by (N := N_law_draw_hall) (sc := defScope (top 11)) (by decide +kernel)) (fun _ _ _ _ _ => ⟨(gn 11 sc.nd), (ts_one (PW.pt (t_or (t_c (c_gt (x_cal C_law_pick hr (by decide) rfl (xa_cons (xv 0) (xa_cons (x_add (xv 6) x_int) xa_nil)) (.c (.c .n)) rfl) x_int)) (t_or1 (t_c (c_eq gd.blk (xv 6) x_int)))))), (xv 11)⟩))) xa_nil)) xa_nil))))))) (ss_one (s_ret (x_tup (xa_cons (x_tup (xa_cons (xv 3) (xa_cons (x_callT call_tupleN opA_tuple rfl h_tuple bt_tuple (xa_cons (xv 7) xa_nil)) xa_nil))) (xa_cons (x_callT call_tupleN opA_tuple rfl h_tuple bt_tuple (xa_cons (xv 5) xa_nil)) xa_nil))))))))))
abbrev N_changed : List Str := ["hall", "person", "some", "lists"]
theorem sc_changed : FnScope N_changed ["hall", "person", "some"] (defScope (top 4)) := ⟨rfl, rfl, rfl, by decide +kernel, rfl, by decide +kernel, by decide +kernel⟩
theorem ok_changed {f : Addr} {fd : FuncData} (F : FnP K "changed" (top 4) f fd) (h_tuple : mg "tuple" = none) : FnG P w K mg base CX0 1 f fd ["hall", "person", "some"] (spG K V0 3 f_changed) := by
  refine fnG_T F sc_changed fun cdv A outer s H E hr => ?_
  have sc := sc_changed
  have gd := hr.gd (X := cxOf CX0 P w K mg base N_changed "changed" (defScope (top 4)) f cdv A outer s H E) rfl
  exact (ss_cons (s_asg (x_sub' gd (xv 0) x_int) (gn 3 sc.nd)) (ss_one (s_ret (x_tup (xa_cons (x_sub' gd (xv 0) x_int) (xa_cons (x_add (x_add (x_slice (xv 3) xo_none (xo_some (xv 1))) (x_tup (xa_cons (x_callT call_tupleN opA_tuple rfl h_tuple bt_tuple (xa_cons (xv 2) xa_nil)) xa_nil))) (x_slice (xv 3) (xo_some (x_add (xv 1) x_int)) xo_none)) xa_nil))))))
abbrev N_cut_short : List Str := ["hall", "person", "k"]
theorem sc_cut_short : FnScope N_cut_short ["hall", "person", "k"] (defScope (top 5)) := ⟨rfl, rfl, rfl, by decide +kernel, rfl, by decide +kernel, by decide +kernel⟩
theorem ok_cut_short {f : Addr} {fd : FuncData} (F : FnP K "cut_short" (top 5) f fd)  (C_changed : Cal P w K mg base 1 "changed" 3 [] f_changed) : FnG P w K mg base CX0 2 f fd ["hall", "person", "k"] (spG K V0 3 f_cut_short) := by
  refine fnG_T F sc_cut_short fun cdv A outer s H E hr => ?_
  have sc := sc_cut_short
  have gd := hr.gd (X := cxOf CX0 P w K mg base N_cut_short "cut_short" (defScope (top 5)) f cdv A outer s H E) rfl
  exact (ss_one (s_ret (x_cal C_changed hr (by decide) rfl (xa_cons (xv 0) (xa_cons (xv 1) (xa_cons (x_slice (x_sub' gd (x_sub' gd (xv 0) x_int) (xv 1)) xo_none (xo_some (xv 2))) xa_nil))) (.c (.c (.c .n))) rfl)))
abbrev N_do_want : List Str := ["hall", "a", "b"]
theorem sc_do_want : FnScope N_do_want ["hall", "a", "b"] (defScope (top 1)) := ⟨rfl, rfl, rfl, by decide +kernel, rfl, by decide +kernel, by decide +kernel⟩
theorem ok_do_want {f : Addr} {fd : FuncData} (F : FnP K "do_want" (top 1) f fd)  : FnG P w K mg base CX0 1 f fd ["hall", "a", "b"] (spG K V0 3 f_do_want) := by
  refine fnG_T F sc_do_want fun cdv A outer s H E hr => ?_
  have sc := sc_do_want
  have gd := hr.gd (X := cxOf CX0 P w K mg base N_do_want "do_want" (defScope (top 1)) f cdv A outer s H E) rfl
  exact (ss_one (s_ret (x_and (x_c (c_in gd (xv 2) (x_sub' gd (x_sub' gd (xv 0) x_int) (xv 1)))) (x_one (x_c (c_in gd (xv 1) (x_sub' gd (x_sub' gd (xv 0) x_int) (xv 2))))))))
abbrev N_has_rather : List Str := ["hall", "a", "b", "c", "row"]
theorem sc_has_rather : FnScope N_has_rather ["hall", "a", "b", "c"] (defScope (top 2)) := ⟨rfl, rfl, rfl, by decide +kernel, rfl, by decide +kernel, by decide +kernel⟩
theorem ok_has_rather {f : Addr} {fd : FuncData} (F : FnP K "has_rather" (top 2) f fd)  : FnG P w K mg base CX0 1 f fd ["hall", "a", "b", "c"] (spG K V0 4 f_has_rather) := by
  refine fnG_T F sc_has_rather fun cdv A outer s H E hr => ?_
  have sc := sc_has_rather
  have gd := hr.gd (X := cxOf CX0 P w K mg base N_has_rather "has_rather" (defScope (top 2)) f cdv A outer s H E) rfl
  exact (ss_cons (s_asg (x_sub' gd (x_sub' gd (xv 0) x_int) (xv 1)) (gn 4 sc.nd)) (ss_cons (s_if (t_c (c_notIn gd (xv 2) (xv 4))) (ss_one (s_ret (x_and (x_c (c_is (xv 2) x_non)) (x_and (x_c (c_isNot (xv 3) x_non)) (x_one (x_c (c_notIn gd (xv 3) (xv 4)))))))) ss_nil) (ss_one (s_ret (x_or (x_c (c_notIn gd (xv 3) (xv 4))) (x_one (x_c (c_lt (x_index (xv 4) (xa_cons (xv 2) xa_nil)) (x_index (xv 4) (xa_cons (xv 3) xa_nil))))))))))
abbrev N_best_for : List Str := ["hall", "side", "asked", "held", "free", "one", "here", "row", "other", "a", "b"]
theorem sc_best_for : FnScope N_best_for ["hall", "side"] (defScope (top 6)) := ⟨rfl, rfl, rfl, by decide +kernel, rfl, by decide +kernel, by decide +kernel⟩
theorem ok_best_for {f : Addr} {fd : FuncData} (F : FnP K "best_for" (top 6) f fd) (h_list : mg "list" = none) (h_dict : mg "dict" = none) (h_len : mg "len" = none) (h_max : mg "max" = none) (h_min : mg "min" = none) (h_sorted : mg "sorted" = none) (h_tuple : mg "tuple" = none) (C_do_want : Cal P w K mg base 1 "do_want" 3 [] f_do_want) (C_has_rather : Cal P w K mg base 1 "has_rather" 4 [] f_has_rather) : FnG P w K mg base CX0 2 f fd ["hall", "side"] (spG K V0 2 f_best_for) := by
  refine fnG_T F sc_best_for fun cdv A outer s H E hr => ?_
  have sc := sc_best_for
  have gd := hr.gd (X := cxOf CX0 P w K mg base N_best_for "best_for" (defScope (top 6)) f cdv A outer s H E) rfl
  exact (ss_cons (s_p3 gd sc.nd (xa_cons (x_callT (call_dictP gd.calm) opA_dictP rfl h_dict bt_dict (xa_cons (x_frz (xf_lc (own := [("one", 5)]) gd sc.nd (i_seq (xv 1)) (blkOk_by (N := N_best_for) (sc := defScope (top 6)) (by decide +kernel)) (fun _ _ _ _ _ => ⟨(gn 5 sc.nd), ts_nil, (x_tup (xa_cons (xv 5) (xa_cons x_int xa_nil)))⟩))) xa_nil)) (xa_cons (x_dnew false) (xa_cons (x_new (xf_list rfl h_list bt_list (xa_cons (xv 1) xa_nil))) xa_nil)))) (ss_cons (s_while 1000000 own_pass (t_c (c_ne gd (xv 4) (x_frz (xf_disp xa_nil)))) (ss_cons (s_asg (x_m0 PySem.F.plainAttrs_list PySem.F.slot_list_pop PySem.F.type_list_pop mt_pop opM_pop (xv 4)) (gn 6 sc.nd)) (ss_cons (s_lcF (i := 7) (own := [("other", 8)]) gd sc.nd rfl rfl (sw_true rfl rfl rfl (by decide +kernel)) (i_seq (x_sub' gd (x_sub' gd (xv 0) x_int) (xv 6))) (blkOk_by (N := N_best_for) (sc := defScope (top 6)) (by decide +kernel)) (fun _ _ _ _ _ => ⟨(gn 8 sc.nd), (ts_one (t_v (x_cal C_do_want hr (by decide) rfl (xa_cons (xv 0) (xa_cons (xv 6) (xa_cons (xv 8) xa_nil))) (.c (.c (.c .n))) rfl))), (xv 8)⟩)) (ss_one (s_if (t_c (c_lt (x_sub' gd (xv 2) (xv 6)) (x_callB call_len opA_len rfl h_len bt_len (xa_cons (xv 7) xa_nil)))) (ss_cons (s_asg (x_sub' gd (xv 7) (x_sub' gd (xv 2) (xv 6))) (gn 8 sc.nd)) (ss_cons (s_subP gd (x_add (x_sub' gd (xv 2) (xv 6)) x_int) (xv 2) (xv 6)) (ss_one (s_if (t_c (c_notIn gd (xv 8) (xv 3))) (ss_one (s_subP gd (xv 6) (xv 3) (xv 8))) (ss_one (s_if (t_v (x_cal C_has_rather hr (by decide) rfl (xa_cons (xv 0) (xa_cons (xv 8) (xa_cons (xv 6) (xa_cons (x_sub' gd (xv 3) (xv 8)) xa_nil)))) (.c (.c (.c (.c .n)))) rfl)) (ss_cons (s_expr (x_m PySem.F.plainAttrs_list PySem.F.slot_list_append PySem.F.type_list_append mt_append opM_append (xv 4) (xa_cons (x_sub' gd (xv 3) (xv 8)) xa_nil))) (ss_one (s_subP gd (xv 6) (xv 3) (xv 8)))) (ss_one (s_expr (x_m PySem.F.plainAttrs_list PySem.F.slot_list_append PySem.F.type_list_append mt_append opM_append (xv 4) (xa_cons (xv 6) xa_nil)))))))))) ss_nil))))) (ss_one (s_ret (x_callT call_tupleN opA_tuple rfl h_tuple bt_tuple (xa_cons (x_frz (xf_sort rfl h_sorted bt_sorted (xa_cons (x_lock 3 (x_frz (xf_lc (own := [("a", 9), ("b", 10)]) gd sc.nd (i_items (xv 3)) (blkOk_by (N := N_best_for) (sc := defScope (top 6)) (by decide +kernel)) (fun _ _ _ _ _ => ⟨(g_tp gd.blk (gs_cons (gn 9 sc.nd) (gs_cons (gn 10 sc.nd) gs_nil))), ts_nil, (x_tup (xa_cons (x_callB (call_min2 gd.blk.calm) opA_2I rfl h_min bt_min (xa_cons (xv 9) (xa_cons (xv 10) xa_nil))) (xa_cons (x_callB (call_max2 gd.blk.calm) opA_2I rfl h_max bt_max (xa_cons (xv 9) (xa_cons (xv 10) xa_nil))) xa_nil)))⟩)))) xa_nil))) xa_nil))))))
abbrev N_law_want : List Str := ["hall", "a", "b"]
theorem sc_law_want : FnScope N_law_want ["hall", "a", "b"] (defScope (top 12)) := ⟨rfl, rfl, rfl, by decide +kernel, rfl, by decide +kernel, by decide +kernel⟩
theorem ok_law_want {f : Addr} {fd : FuncData} (F : FnP K "_law_want" (top 12) f fd)  : FnG P w K mg base CX0 1 f fd ["hall", "a", "b"] (spG K V0 3 f_law_want) := by
  refine fnG_T F sc_law_want fun cdv A outer s H E hr => ?_
  have sc := sc_law_want
  have gd := hr.gd (X := cxOf CX0 P w K mg base N_law_want "_law_want" (defScope (top 12)) f cdv A outer s H E) rfl
  exact (ss_one (s_ret (x_and (x_c (c_in gd (xv 2) (x_sub' gd (x_sub' gd (xv 0) x_int) (xv 1)))) (x_one (x_c (c_in gd (xv 1) (x_sub' gd (x_sub' gd (xv 0) x_int) (xv 2))))))))
abbrev N_law_place : List Str := ["hall", "a", "b", "row"]
theorem sc_law_place : FnScope N_law_place ["hall", "a", "b"] (defScope (top 13)) := ⟨rfl, rfl, rfl, by decide +kernel, rfl, by decide +kernel, by decide +kernel⟩
theorem ok_law_place {f : Addr} {fd : FuncData} (F : FnP K "_law_place" (top 13) f fd) (h_len : mg "len" = none) : FnG P w K mg base CX0 1 f fd ["hall", "a", "b"] (spG K V0 3 f_law_place) := by
  refine fnG_T F sc_law_place fun cdv A outer s H E hr => ?_
  have sc := sc_law_place
  have gd := hr.gd (X := cxOf CX0 P w K mg base N_law_place "_law_place" (defScope (top 13)) f cdv A outer s H E) rfl
  exact (ss_cons (s_asg (x_sub' gd (x_sub' gd (xv 0) x_int) (xv 1)) (gn 3 sc.nd)) (ss_one (s_ret (x_ite (t_c (c_is (xv 2) x_non)) (x_callB call_len opA_len rfl h_len bt_len (xa_cons (xv 3) xa_nil)) (x_ite (t_c (c_in gd (xv 2) (xv 3))) (x_index (xv 3) (xa_cons (xv 2) xa_nil)) (x_add (x_callB call_len opA_len rfl h_len bt_len (xa_cons (xv 3) xa_nil)) x_int))))))
abbrev N_law_partner : List Str := ["pairing", "person", "some", "pair"]
theorem sc_law_partner : FnScope N_law_partner ["pairing", "person"] (defScope (top 14)) := ⟨rfl, rfl, rfl, by decide +kernel, rfl, by decide +kernel, by decide +kernel⟩
theorem ok_law_partner {f : Addr} {fd : FuncData} (F : FnP K "_law_partner" (top 14) f fd)  : FnG P w K mg base CX0 1 f fd ["pairing", "person"] (spG K V0 2 f_law_partner) := by
  refine fnG_T F sc_law_partner fun cdv A outer s H E hr => ?_
  have sc := sc_law_partner
  have gd := hr.gd (X := cxOf CX0 P w K mg base N_law_partner "_law_partner" (defScope (top 14)) f cdv A outer s H E) rfl
  exact (ss_cons (s_lcF (i := 2) (own := [("pair", 3)]) gd sc.nd rfl rfl (sw_true rfl rfl rfl (by decide +kernel)) (i_seq (xv 0)) (blkOk_by (N := N_law_partner) (sc := defScope (top 14)) (by decide +kernel)) (fun _ _ _ _ _ => ⟨(gn 3 sc.nd), (ts_one (t_c (c_in gd.blk (xv 1) (xv 3)))), (x_sub (x_add (x_sub' gd.blk (xv 3) x_int) (x_sub' gd.blk (xv 3) x_int)) (xv 1))⟩)) (ss_one (s_ret (x_ite (t_c (c_ne gd (xv 2) (x_frz (xf_disp xa_nil)))) (x_sub' gd (xv 2) x_int) x_non))))
abbrev N_law_breaking : List Str := ["hall", "pairing", "found", "a", "b", "one"]
theorem sc_law_breaking : FnScope N_law_breaking ["hall", "pairing"] (defScope (top 15)) := ⟨rfl, rfl, rfl, by decide +kernel, rfl, by decide +kernel, by decide +kernel⟩
theorem ok_law_breaking {f : Addr} {fd : FuncData} (F : FnP K "_law_breaking" (top 15) f fd) (h_range : mg "range" = none) (C_law_want : Cal P w K mg base 1 "_law_want" 3 [] f_law_want) (C_law_place : Cal P w K mg base 1 "_law_place" 3 [] f_law_place) (C_law_partner : Cal P w K mg base 1 "_law_partner" 2 [] f_law_partner) : FnG P w K mg base CX0 2 f fd ["hall", "pairing"] (spG K V0 2 f_law_breaking) := by
  refine fnG_T F sc_law_breaking fun cdv A outer s H E hr => ?_
  have sc := sc_law_breaking
  have gd := hr.gd (X := cxOf CX0 P w K mg base N_law_breaking "_law_breaking" (defScope (top 15)) f cdv A outer s H E) rfl
  exact (ss_cons (s_asg (x_new (xf_disp xa_nil)) (gn 2 sc.nd)) (ss_cons (s_for gd own_pass (i_range1 rfl h_range (xa_cons (x_sub' gd (xv 0) x_int) xa_nil)) (gn 3 sc.nd) (ss_one (s_for gd own_pass (i_seq (x_frz (xf_lc (own := [("b", 4)]) gd sc.nd (i_range2 rfl h_range (xa_cons (x_add (xv 3) x_int) (xa_cons (x_sub' gd (xv 0) x_int) xa_nil))) (blkOk_by (N := N_law_breaking) (sc := defScope (top 15)) (by decide +kernel)) (fun _ _ _ _ _ => ⟨(gn 4 sc.nd), (ts_one (t_v (x_cal C_law_want hr (by decide) rfl (xa_cons (xv 0) (xa_cons (xv 3) (xa_cons (xv 4) xa_nil))) (.c (.c (.c .n))) rfl))), (xv 4)⟩)))) (gn 4 sc.nd) (ss_cons (s_asg (x_c (c_lt (x_cal C_law_place hr (by decide) rfl (xa_cons (xv 0) (xa_cons (xv 3) (xa_cons (xv 4) xa_nil))) (.c (.c (.c .n))) rfl) (x_cal C_law_place hr (by decide) rfl (xa_cons (xv 0) (xa_cons (xv 3) (xa_cons (x_cal C_law_partner hr (by decide) rfl (xa_cons (xv 1) (xa_cons (xv 3) xa_nil)) (.c (.c .n)) rfl) xa_nil))) (.c (.c (.c .n))) rfl))) (gn 5 sc.nd)) (ss_one (s_if (PW.pt (t_and (t_v (xv 5)) (t_and1 (t_c (c_lt (x_cal C_law_place hr (by decide) rfl (xa_cons (xv 0) (xa_cons (xv 4) (xa_cons (xv 3) xa_nil))) (.c (.c (.c .n))) rfl) (x_cal C_law_place hr (by decide) rfl (xa_cons (xv 0) (xa_cons (xv 4) (xa_cons (x_cal C_law_partner hr (by decide) rfl (xa_cons (xv 1) (xa_cons (xv 4) xa_nil)) (.c (.c .n)) rfl) xa_nil))) (.c (.c (.c .n))) rfl)))))) (ss_one (s_expr (x_m PySem.F.plainAttrs_list PySem.F.slot_list_append PySem.F.type_list_append mt_append opM_append (xv 2) (xa_cons (x_tup (xa_cons (xv 3) (xa_cons (xv 4) xa_nil))) xa_nil)))) ss_nil)))))) (ss_one (s_ret (x_kill (xv 2))))))
abbrev N_law_compared : List Str := ["hall", "one", "other", "found", "a", "early", "late"]
theorem sc_law_compared : FnScope N_law_compared ["hall", "one", "other"] (defScope (top 18)) := ⟨rfl, rfl, rfl, by decide +kernel, rfl, by decide +kernel, by decide +kernel⟩
theorem ok_law_compared {f : Addr} {fd : FuncData} (F : FnP K "_law_compared" (top 18) f fd) (h_range : mg "range" = none) (h_tuple : mg "tuple" = none) (C_law_partner : Cal P w K mg base 1 "_law_partner" 2 [] f_law_partner) (C_law_place : Cal P w K mg base 1 "_law_place" 3 [] f_law_place) : FnG P w K mg base CX0 2 f fd ["hall", "one", "other"] (spG K V0 3 f_law_compared) := by
  refine fnG_T F sc_law_compared fun cdv A outer s H E hr => ?_
  have sc := sc_law_compared
  have gd := hr.gd (X := cxOf CX0 P w K mg base N_law_compared "_law_compared" (defScope (top 18)) f cdv A outer s H E) rfl
  exact (ss_cons (s_asg (x_new (xf_disp xa_nil)) (gn 3 sc.nd)) (ss_cons (s_for gd own_pass (i_range1 rfl h_range (xa_cons (x_sub' gd (xv 0) x_int) xa_nil)) (gn 4 sc.nd) (ss_cons (s_p2 gd sc.nd (xa_cons (x_cal C_law_place hr (by decide) rfl (xa_cons (xv 0) (xa_cons (xv 4) (xa_cons (x_cal C_law_partner hr (by decide) rfl (xa_cons (xv 1) (xa_cons (xv 4) xa_nil)) (.c (.c .n)) rfl) xa_nil))) (.c (.c (.c .n))) rfl) (xa_cons (x_cal C_law_place hr (by decide) rfl (xa_cons (xv 0) (xa_cons (xv 4) (xa_cons (x_cal C_law_partner hr (by decide) rfl (xa_cons (xv 2) (xa_cons (xv 4) xa_nil)) (.c (.c .n)) rfl) xa_nil))) (.c (.c (.c .n))) rfl) xa_nil))) (ss_one (s_expr (x_m PySem.F.plainAttrs_list PySem.F.slot_list_append PySem.F.type_list_append mt_append opM_append (xv 3) (xa_cons (x_ite (t_c (c_lt (xv 6) (xv 5))) x_int (x_ite (t_c (c_gt (xv 6) (xv 5))) (x_sub x_int x_int) x_int)) xa_nil)))))) (ss_one (s_ret (x_callT call_tupleN opA_tuple rfl h_tuple bt_tuple (xa_cons (xv 3) xa_nil))))))
abbrev N_law : List Str := ["script", "source", "lap", "hall", "lot", "n", "p", "k", "shown", "late", "mine", "a", "others", "side", "early", "behind", "told", "b", "lost", "some"]
theorem sc_law : FnScope N_law ["script"] (defScope (top 19)) := ⟨rfl, rfl, rfl, by decide +kernel, rfl, by decide +kernel, by decide +kernel⟩
theorem ok_law {f : Addr} {fd : FuncData} (F : FnP K "law" (top 19) f fd) (h_range : mg "range" = none) (h_repr : mg "repr" = none) (h_len : mg "len" = none) (h_tuple : mg "tuple" = none) (C_law_open_cells : Cal P w K mg base 1 "_law_open_cells" 1 [] f_law_open_cells) (C_law_draw_hall : Cal P w K mg base 3 "_law_draw_hall" 3 [] f_law_draw_hall) (C_law_pick : Cal P w K mg base 1 "_law_pick" 2 [] f_law_pick) (C_cut_short : Cal P w K mg base 2 "cut_short" 3 [] f_cut_short) (C_best_for : Cal P w K mg base 2 "best_for" 2 [] f_best_for) (C_law_breaking : Cal P w K mg base 2 "_law_breaking" 2 [] f_law_breaking) (C_law_compared : Cal P w K mg base 2 "_law_compared" 3 [] f_law_compared) (C_law_partner : Cal P w K mg base 1 "_law_partner" 2 [] f_law_partner) (C_law_any_order : Cal P w K mg base 2 "_law_any_order" 2 [] f_law_any_order) (C_changed : Cal P w K mg base 1 "changed" 3 [] f_changed) : FnG P w K mg base CX0 4 f fd ["script"] (spG K V0 1 f_law) := by
  refine fnG_T F sc_law fun cdv A outer s H E hr => ?_
  have sc := sc_law
  have gd := hr.gd (X := cxOf CX0 P w K mg base N_law "law" (defScope (top 19)) f cdv A outer s H E) rfl
  exact (ss_cons (s_asg (x_cal C_law_open_cells hr (by decide) rfl (xa_cons (xv 0) xa_nil) (.c .n) rfl) (gn 1 sc.nd)) (ss_cons (s_for gd own_pass (i_range1 rfl h_range (xa_cons x_int xa_nil)) (gn 2 sc.nd) (ss_cons (s_asg (x_cal C_law_draw_hall hr (by decide) rfl (xa_cons (xv 1) (xa_cons (x_sub' gd (x_frz (xf_disp (xa_cons x_int (xa_cons x_int (xa_cons x_int (xa_cons x_int xa_nil)))))) (xv 2)) (xa_cons x_bl xa_nil))) (.c (.c (.c .n))) rfl) (g_tp gd (gs_cons (gn 3 sc.nd) (gs_cons (gn 4 sc.nd) gs_nil)))) (ss_cons (s_pT gd (xa_cons (x_sub' gd (xv 3) x_int) (xa_cons (x_cal C_law_pick hr (by decide) rfl (xa_cons (xv 1) (xa_cons (x_sub' gd (xv 3) x_int) xa_nil)) (.c (.c .n)) rfl) xa_nil)) (gs_cons (gn 5 sc.nd) (gs_cons (gn 6 sc.nd) gs_nil))) (ss_cons (s_p2 gd sc.nd (xa_cons (x_cal C_law_pick hr (by decide) rfl (xa_cons (xv 1) (xa_cons (x_add (x_callB call_len opA_len rfl h_len bt_len (xa_cons (x_sub' gd (x_sub' gd (xv 3) x_int) (xv 6)) xa_nil)) x_int) xa_nil)) (.c (.c .n)) rfl) (xa_cons (x_callB ((call_reprN gd).or (call_reprK gd)) opA_reprK rfl h_repr bt_repr (xa_cons (xv 3) xa_nil)) xa_nil))) (ss_cons (s_asg (x_tup (xa_cons (xv 5) (xa_cons (x_add (x_add (x_slice (x_sub' gd (xv 3) x_int) xo_none (xo_some (xv 6))) (x_tup (xa_cons (x_slice (x_sub' gd (x_sub' gd (xv 3) x_int) (xv 6)) xo_none (xo_some (xv 7))) xa_nil))) (x_slice (x_sub' gd (xv 3) x_int) (xo_some (x_add (xv 6) x_int)) xo_none)) xa_nil))) (gn 9 sc.nd)) (ss_cons (s_if (t_c (c_ne gd (x_callB ((call_reprN gd).or (call_reprK gd)) opA_reprK rfl h_repr bt_repr (xa_cons (x_cal C_cut_short hr (by decide) rfl (xa_cons (xv 3) (xa_cons (xv 6) (xa_cons (xv 7) xa_nil))) (.c (.c (.c .n))) rfl) xa_nil)) (x_callB ((call_reprN gd).or (call_reprK gd)) opA_reprK rfl h_repr bt_repr (xa_cons (xv 9) xa_nil)))) (ss_one (s_ret x_bl)) ss_nil) (ss_cons (s_asg (x_ite (t_c (c_in gd (xv 6) (xv 4))) (xv 4) (x_callT call_tupleN opA_tuple rfl h_tuple bt_tuple (xa_cons (x_frz (xf_lc (own := [("a", 11)]) gd sc.nd (i_range1 rfl h_range (xa_cons (xv 5) xa_nil)) (blkOk_by (N := N_law) (sc := defScope (top 19)) (by decide +kernel)) (fun _ _ _ _ _ => ⟨(gn 11 sc.nd), (ts_one (t_c (c_notIn gd.blk (xv 11) (xv 4)))), (xv 11)⟩))) xa_nil))) (gn 10 sc.nd)) (ss_cons (s_asg (x_callT call_tupleN opA_tuple rfl h_tuple bt_tuple (xa_cons (x_frz (xf_lc (own := [("a", 11)]) gd sc.nd (i_range1 rfl h_range (xa_cons (xv 5) xa_nil)) (blkOk_by (N := N_law) (sc := defScope (top 19)) (by decide +kernel)) (fun _ _ _ _ _ => ⟨(gn 11 sc.nd), (ts_one (t_c (c_notIn gd.blk (xv 11) (xv 10)))), (xv 11)⟩))) xa_nil)) (gn 12 sc.nd)) (ss_cons (s_for gd own_pass (i_seq (x_tup (xa_cons (xv 10) (xa_cons (xv 12) xa_nil)))) (gn 13 sc.nd) (ss_cons (s_pT gd (xa_cons (x_cal C_best_for hr (by decide) rfl (xa_cons (xv 3) (xa_cons (xv 13) xa_nil)) (.c (.c .n)) rfl) (xa_cons (x_cal C_best_for hr (by decide) rfl (xa_cons (xv 9) (xa_cons (xv 13) xa_nil)) (.c (.c .n)) rfl) xa_nil)) (gs_cons (gn 14 sc.nd) (gs_cons (gn 15 sc.nd) gs_nil))) (ss_cons (s_if (PW.pt (t_or (t_c (c_ne gd (x_cal C_law_breaking hr (by decide) rfl (xa_cons (xv 3) (xa_cons (xv 14) xa_nil)) (.c (.c .n)) rfl) (x_frz (xf_disp xa_nil)))) (t_or1 (t_c (c_ne gd (x_cal C_law_breaking hr (by decide) rfl (xa_cons (xv 9) (xa_cons (xv 15) xa_nil)) (.c (.c .n)) rfl) (x_frz (xf_disp xa_nil))))))) (ss_one (s_ret x_bl)) ss_nil) (ss_cons (s_asg (x_cal C_law_compared hr (by decide) rfl (xa_cons (xv 3) (xa_cons (xv 14) (xa_cons (xv 15) xa_nil))) (.c (.c (.c .n))) rfl) (gn 16 sc.nd)) (ss_cons (s_if (PW.pt (t_or (t_c (c_ne gd (x_frz (xf_lc (own := [("a", 11)]) gd sc.nd (i_seq (xv 10)) (blkOk_by (N := N_law) (sc := defScope (top 19)) (by decide +kernel)) (fun _ _ _ _ _ => ⟨(gn 11 sc.nd), (ts_one (PW.pt (t_and (t_c (c_ne gd.blk (xv 11) (xv 6))) (t_and1 (t_c (c_lt (x_sub' gd.blk (xv 16) (xv 11)) x_int)))))), (xv 11)⟩))) (x_frz (xf_disp xa_nil)))) (t_or1 (t_c (c_ne gd (x_frz (xf_lc (own := [("b", 17)]) gd sc.nd (i_seq (xv 12)) (blkOk_by (N := N_law) (sc := defScope (top 19)) (by decide +kernel)) (fun _ _ _ _ _ => ⟨(gn 17 sc.nd), (ts_one (t_c (c_gt (x_sub' gd.blk (xv 16) (xv 17)) x_int))), (xv 17)⟩))) (x_frz (xf_disp xa_nil))))))) (ss_one (s_ret x_bl)) ss_nil) (ss_cons (s_lcF (i := 18) (own := [("a", 11)]) gd sc.nd rfl rfl (sw_true rfl rfl rfl (by decide +kernel)) (i_seq (xv 10)) (blkOk_by (N := N_law) (sc := defScope (top 19)) (by decide +kernel)) (fun _ _ _ _ _ => ⟨(gn 11 sc.nd), (ts_one (PW.pt (t_and (t_c (c_ne gd.blk (xv 11) (xv 6))) (t_and1 (t_c (c_isNot (x_cal C_law_partner hr (by decide) rfl (xa_cons (xv 14) (xa_cons (xv 11) xa_nil)) (.c (.c .n)) rfl) x_non)))))), (xv 11)⟩)) (ss_one (s_if (t_c (c_ne gd (x_frz (xf_lc (own := [("a", 11)]) gd sc.nd (i_seq (xv 18)) (blkOk_by (N := N_law) (sc := defScope (top 19)) (by decide +kernel)) (fun _ _ _ _ _ => ⟨(gn 11 sc.nd), (ts_one (t_c (c_is (x_cal C_law_partner hr (by decide) rfl (xa_cons (xv 15) (xa_cons (xv 11) xa_nil)) (.c (.c .n)) rfl) x_non))), (xv 11)⟩))) (x_frz (xf_disp xa_nil)))) (ss_one (s_ret x_bl)) ss_nil)))))))) (ss_cons (s_asg (x_callT call_tupleN opA_tuple rfl h_tuple bt_tuple (xa_cons (x_slice (x_cal C_law_any_order hr (by decide) rfl (xa_cons (xv 1) (xa_cons (x_frz (xf_lc (own := [("a", 11)]) gd sc.nd (i_range1 rfl h_range (xa_cons (xv 5) xa_nil)) (blkOk_by (N := N_law) (sc := defScope (top 19)) (by decide +kernel)) (fun _ _ _ _ _ => ⟨(gn 11 sc.nd), (ts_one (t_c (c_ne gd.blk (xv 11) (xv 6)))), (xv 11)⟩))) xa_nil)) (.c (.c .n)) rfl) xo_none (xo_some (x_cal C_law_pick hr (by decide) rfl (xa_cons (xv 1) (xa_cons (xv 5) xa_nil)) (.c (.c .n)) rfl))) xa_nil)) (gn 19 sc.nd)) (ss_one (s_if (PW.pt (t_or (t_c (c_ne gd (x_callB ((call_reprN gd).or (call_reprK gd)) opA_reprK rfl h_repr bt_repr (xa_cons (x_cal C_changed hr (by decide) rfl (xa_cons (xv 3) (xa_cons (xv 6) (xa_cons (xv 19) xa_nil))) (.c (.c (.c .n))) rfl) xa_nil)) (x_callB ((call_reprN gd).or (call_reprK gd)) opA_reprK rfl h_repr bt_repr (xa_cons (x_tup (xa_cons (xv 5) (xa_cons (x_add (x_add (x_slice (x_sub' gd (xv 3) x_int) xo_none (xo_some (xv 6))) (x_tup (xa_cons (xv 19) xa_nil))) (x_slice (x_sub' gd (xv 3) x_int) (xo_some (x_add (xv 6) x_int)) xo_none)) xa_nil))) xa_nil)))) (t_or1 (t_c (c_ne gd (x_callB ((call_reprN gd).or (call_reprK gd)) opA_reprK rfl h_repr bt_repr (xa_cons (xv 3) xa_nil)) (xv 8)))))) (ss_one (s_ret x_bl)) ss_nil)))))))))))) (ss_one (s_ret x_bl))))
end
def d_law_open_cells : He.DefD := ⟨("_law_open_cells", none), "_law_open_cells", "_law_open_cells", defArgs (top 8), defBody (top 8), defScope (top 8), [], []⟩
def d_law_pick : He.DefD := ⟨("_law_pick", none), "_law_pick", "_law_pick", defArgs (top 9), defBody (top 9), defScope (top 9), [], []⟩
def d_law_any_order : He.DefD := ⟨("_law_any_order", none), "_law_any_order", "_law_any_order", defArgs (top 10), defBody (top 10), defScope (top 10), [], []⟩
def d_law_draw_hall : He.DefD := ⟨("_law_draw_hall", none), "_law_draw_hall", "_law_draw_hall", defArgs (top 11), defBody (top 11), defScope (top 11), [], []⟩
def d_changed : He.DefD := ⟨("changed", none), "changed", "changed", defArgs (top 4), defBody (top 4), defScope (top 4), [], []⟩
def d_cut_short : He.DefD := ⟨("cut_short", none), "cut_short", "cut_short", defArgs (top 5), defBody (top 5), defScope (top 5), [], []⟩
def d_do_want : He.DefD := ⟨("do_want", none), "do_want", "do_want", defArgs (top 1), defBody (top 1), defScope (top 1), [], []⟩
def d_has_rather : He.DefD := ⟨("has_rather", none), "has_rather", "has_rather", defArgs (top 2), defBody (top 2), defScope (top 2), [], []⟩
def d_best_for : He.DefD := ⟨("best_for", none), "best_for", "best_for", defArgs (top 6), defBody (top 6), defScope (top 6), [], []⟩
def d_law_want : He.DefD := ⟨("_law_want", none), "_law_want", "_law_want", defArgs (top 12), defBody (top 12), defScope (top 12), [], []⟩
def d_law_place : He.DefD := ⟨("_law_place", none), "_law_place", "_law_place", defArgs (top 13), defBody (top 13), defScope (top 13), [], []⟩
def d_law_partner : He.DefD := ⟨("_law_partner", none), "_law_partner", "_law_partner", defArgs (top 14), defBody (top 14), defScope (top 14), [], []⟩
def d_law_breaking : He.DefD := ⟨("_law_breaking", none), "_law_breaking", "_law_breaking", defArgs (top 15), defBody (top 15), defScope (top 15), [], []⟩
def d_law_compared : He.DefD := ⟨("_law_compared", none), "_law_compared", "_law_compared", defArgs (top 18), defBody (top 18), defScope (top 18), [], []⟩
def d_law : He.DefD := ⟨("law", none), "law", "law", defArgs (top 19), defBody (top 19), defScope (top 19), [], []⟩
def fn : List He.DefD := [d_law_open_cells, d_law_pick, d_law_any_order, d_law_draw_hall, d_changed, d_cut_short, d_do_want, d_has_rather, d_best_for, d_law_want, d_law_place, d_law_partner, d_law_breaking, d_law_compared, d_law]
def fa : List He.Fa := [.glo "_law_open_cells", .glo "_law_pick", .glo "_law_any_order", .glo "_law_draw_hall", .glo "changed", .glo "cut_short", .glo "do_want", .glo "has_rather", .glo "best_for", .glo "_law_want", .glo "_law_place", .glo "_law_partner", .glo "_law_breaking", .glo "_law_compared", .glo "law", .free "int", .free "abs", .free "len", .free "list", .free "range", .free "sorted", .free "tuple", .free "dict", .free "max", .free "min", .free "repr"]
abbrev R : PySem.W.OpenRow := PySem.W.OpenLaw.row PySem.Challenge.rw_pairsandprices_k58_whole_lists_cut_short
abbrev hk : PySem.W.Hook := He.hookD 4 fa fn
def ob (s : PySem.W.SharedT) : He.AlD := He.obsDG 4 fa fn (HandSHeadRun.getT s)
theorem ob_eq (s : PySem.W.SharedT) : ob s = hk.obs s.abs := He.obsDG_eq (HandSHeadRun.getT_eq s)
def lo0 : List PySem.Str := ["do_want", "has_rather", "changed", "cut_short", "best_for", "_law_open_cells", "_law_pick", "_law_any_order", "_law_draw_hall", "_law_want", "_law_place", "_law_partner", "_law_breaking", "_law_settled", "_law_draw_pairing", "_law_compared"]
abbrev lo : List PySem.Str := ["do_want", "has_rather", "changed", "cut_short", "best_for", "_law_open_cells", "_law_pick", "_law_any_order", "_law_draw_hall", "_law_want", "_law_place", "_law_partner", "_law_breaking", "_law_settled", "_law_draw_pairing", "_law_compared"]
theorem run (w : World) : HandSHeadRun.RunEq R (PySem.W.view R.prog [19]) hk ob 1420 lo w := by
  intro os
  kernel_rfl
theorem facts {P : Program} {w : World} {K : PySem.W.Frag} {h : Heap} {mg : Str → Option Value} {f : Addr} (X : K.In h) (G : h.Ns mainGlobals mg) (hfa : mg ("law" : Str) = some (.ref f)) (c : He.SaysD fa fn K) :
    ∃ fd : FuncData, (∀ (s : Shared) (v : Value), BindsTo s fd ⟨[v], []⟩ [("script", v)]) ∧ ∀ base : Heap, K.In base → base.Ns mainGlobals mg → FnG P w K mg base CX0 4 f fd ["script"] (spG K V0 1 f_law) := by
  obtain ⟨fd0, F0⟩ := c.def_ 0 (d := d_law_open_cells) rfl
  have m0 := He.glo_ok X G (c.fact 0 (f := .glo "_law_open_cells") rfl)
  obtain ⟨fd1, F1⟩ := c.def_ 1 (d := d_law_pick) rfl
  have m1 := He.glo_ok X G (c.fact 1 (f := .glo "_law_pick") rfl)
  obtain ⟨fd2, F2⟩ := c.def_ 2 (d := d_law_any_order) rfl
  have m2 := He.glo_ok X G (c.fact 2 (f := .glo "_law_any_order") rfl)
  obtain ⟨fd3, F3⟩ := c.def_ 3 (d := d_law_draw_hall) rfl
  have m3 := He.glo_ok X G (c.fact 3 (f := .glo "_law_draw_hall") rfl)
  obtain ⟨fd4, F4⟩ := c.def_ 4 (d := d_changed) rfl
  have m4 := He.glo_ok X G (c.fact 4 (f := .glo "changed") rfl)
  obtain ⟨fd5, F5⟩ := c.def_ 5 (d := d_cut_short) rfl
  have m5 := He.glo_ok X G (c.fact 5 (f := .glo "cut_short") rfl)
  obtain ⟨fd6, F6⟩ := c.def_ 6 (d := d_do_want) rfl
  have m6 := He.glo_ok X G (c.fact 6 (f := .glo "do_want") rfl)
  obtain ⟨fd7, F7⟩ := c.def_ 7 (d := d_has_rather) rfl
  have m7 := He.glo_ok X G (c.fact 7 (f := .glo "has_rather") rfl)
  obtain ⟨fd8, F8⟩ := c.def_ 8 (d := d_best_for) rfl
  have m8 := He.glo_ok X G (c.fact 8 (f := .glo "best_for") rfl)
  obtain ⟨fd9, F9⟩ := c.def_ 9 (d := d_law_want) rfl
  have m9 := He.glo_ok X G (c.fact 9 (f := .glo "_law_want") rfl)
  obtain ⟨fd10, F10⟩ := c.def_ 10 (d := d_law_place) rfl
  have m10 := He.glo_ok X G (c.fact 10 (f := .glo "_law_place") rfl)
  obtain ⟨fd11, F11⟩ := c.def_ 11 (d := d_law_partner) rfl
  have m11 := He.glo_ok X G (c.fact 11 (f := .glo "_law_partner") rfl)
  obtain ⟨fd12, F12⟩ := c.def_ 12 (d := d_law_breaking) rfl
  have m12 := He.glo_ok X G (c.fact 12 (f := .glo "_law_breaking") rfl)
  obtain ⟨fd13, F13⟩ := c.def_ 13 (d := d_law_compared) rfl
  have m13 := He.glo_ok X G (c.fact 13 (f := .glo "_law_compared") rfl)
  obtain ⟨fd14, F14⟩ := c.def_ 14 (d := d_law) rfl
  have m14 := He.glo_ok X G (c.fact 14 (f := .glo "law") rfl)
  have h_int := He.free_ok X G (c.fact 15 (f := .free "int") rfl)
  have h_abs := He.free_ok X G (c.fact 16 (f := .free "abs") rfl)
  have h_len := He.free_ok X G (c.fact 17 (f := .free "len") rfl)
  have h_list := He.free_ok X G (c.fact 18 (f := .free "list") rfl)
  have h_range := He.free_ok X G (c.fact 19 (f := .free "range") rfl)
  have h_sorted := He.free_ok X G (c.fact 20 (f := .free "sorted") rfl)
  have h_tuple := He.free_ok X G (c.fact 21 (f := .free "tuple") rfl)
  have h_dict := He.free_ok X G (c.fact 22 (f := .free "dict") rfl)
  have h_max := He.free_ok X G (c.fact 23 (f := .free "max") rfl)
  have h_min := He.free_ok X G (c.fact 24 (f := .free "min") rfl)
  have h_repr := He.free_ok X G (c.fact 25 (f := .free "repr") rfl)
  have e := hfa.symm.trans m14
  cases e
  have b := FunD.bindsA (ps := ["script"]) F14 fun _ _ _ _ _ _ us hl => match us, hl with | [_], _ => rfl
  refine ⟨fd14, fun s v => b s [v] rfl, fun base _ _ => ?_⟩
  have C_law_open_cells : Cal P w K mg base 1 "_law_open_cells" 1 [] f_law_open_cells := .mk0 F0 m0 (ok_law_open_cells F0 h_int h_abs) fun _ _ _ _ _ _ us hl => match us, hl with | [_], _ => rfl
  have C_law_pick : Cal P w K mg base 1 "_law_pick" 2 [] f_law_pick := .mk0 F1 m1 (ok_law_pick F1 h_len h_int) fun _ _ _ _ _ _ us hl => match us, hl with | [_, _], _ => rfl
  have C_law_any_order : Cal P w K mg base 2 "_law_any_order" 2 [] f_law_any_order := .mk0 F2 m2 (ok_law_any_order F2 h_list h_len h_range C_law_pick) fun _ _ _ _ _ _ us hl => match us, hl with | [_, _], _ => rfl
  have C_law_draw_hall : Cal P w K mg base 3 "_law_draw_hall" 3 [] f_law_draw_hall := .mk0 F3 m3 (ok_law_draw_hall F3 h_range h_list h_sorted h_tuple C_law_pick C_law_any_order) fun _ _ _ _ _ _ us hl => match us, hl with | [_, _, _], _ => rfl
  have C_changed : Cal P w K mg base 1 "changed" 3 [] f_changed := .mk0 F4 m4 (ok_changed F4 h_tuple) fun _ _ _ _ _ _ us hl => match us, hl with | [_, _, _], _ => rfl
  have C_cut_short : Cal P w K mg base 2 "cut_short" 3 [] f_cut_short := .mk0 F5 m5 (ok_cut_short F5  C_changed) fun _ _ _ _ _ _ us hl => match us, hl with | [_, _, _], _ => rfl
  have C_do_want : Cal P w K mg base 1 "do_want" 3 [] f_do_want := .mk0 F6 m6 (ok_do_want F6 ) fun _ _ _ _ _ _ us hl => match us, hl with | [_, _, _], _ => rfl
  have C_has_rather : Cal P w K mg base 1 "has_rather" 4 [] f_has_rather := .mk0 F7 m7 (ok_has_rather F7 ) fun _ _ _ _ _ _ us hl => match us, hl with | [_, _, _, _], _ => rfl
  have C_best_for : Cal P w K mg base 2 "best_for" 2 [] f_best_for := .mk0 F8 m8 (ok_best_for F8 h_list h_dict h_len h_max h_min h_sorted h_tuple C_do_want C_has_rather) fun _ _ _ _ _ _ us hl => match us, hl with | [_, _], _ => rfl
  have C_law_want : Cal P w K mg base 1 "_law_want" 3 [] f_law_want := .mk0 F9 m9 (ok_law_want F9 ) fun _ _ _ _ _ _ us hl => match us, hl with | [_, _, _], _ => rfl
  have C_law_place : Cal P w K mg base 1 "_law_place" 3 [] f_law_place := .mk0 F10 m10 (ok_law_place F10 h_len) fun _ _ _ _ _ _ us hl => match us, hl with | [_, _, _], _ => rfl
  have C_law_partner : Cal P w K mg base 1 "_law_partner" 2 [] f_law_partner := .mk0 F11 m11 (ok_law_partner F11 ) fun _ _ _ _ _ _ us hl => match us, hl with | [_, _], _ => rfl
  have C_law_breaking : Cal P w K mg base 2 "_law_breaking" 2 [] f_law_breaking := .mk0 F12 m12 (ok_law_breaking F12 h_range C_law_want C_law_place C_law_partner) fun _ _ _ _ _ _ us hl => match us, hl with | [_, _], _ => rfl
  have C_law_compared : Cal P w K mg base 2 "_law_compared" 3 [] f_law_compared := .mk0 F13 m13 (ok_law_compared F13 h_range h_tuple C_law_partner C_law_place) fun _ _ _ _ _ _ us hl => match us, hl with | [_, _, _], _ => rfl
  exact ok_law F14 h_range h_repr h_len h_tuple C_law_open_cells C_law_draw_hall C_law_pick C_cut_short C_best_for C_law_breaking C_law_compared C_law_partner C_law_any_order C_changed
end Wk58
open PySem PySem.W PySem.Calls PyProof.Rows in
theorem Wk58.holds (law : ∀ ns : List Int, ns.length ≤ 63 → ∃ st, Wk58.f_law [.scr ns] [] = .ok (.v (.bool true)) st) : PySem.Challenge.rw_pairsandprices_k58_whole_lists_cut_short.Holds := by
  w_on; o_law
  refine HandSHeadRun.head_any (r := OpenLaw.row PySem.Challenge.rw_pairsandprices_k58_whole_lists_cut_short) (q := view (OpenLaw.row PySem.Challenge.rw_pairsandprices_k58_whole_lists_cut_short).prog [19]) (H := Wk58.hk) (ob := Wk58.ob) (M := 1420) (loose := Wk58.lo) (d := HandSHeadRun.topDef (OpenLaw.row PySem.Challenge.rw_pairsandprices_k58_whole_lists_cut_short).prog 19) (kwd := []) Wk58.ob_eq
    (by kernel_rfl) (fun s => by kernel_rfl) Wk58.run (by kernel_rfl) (by kernel_rfl) (by kernel_rfl) (by rfl) (by first | assumption | decide +kernel) (by decide +kernel) ⟨rfl, rfl, rfl, rfl, rfl, by decide +kernel⟩ ?hw ?hc
  case hw => w_witness2
  case hc =>
    refine Fw.walkG (l := PySem.Challenge.rw_pairsandprices_k58_whole_lists_cut_short) (n := 63) (k := 4) (x := "script") (ff := Wk58.f_law) rfl (by decide) (by kernel_rfl) Fw.rm0 ?F law
    intro w mg fa h Y G hmg0
    obtain ⟨K, KX, c⟩ := Y
    have hmg : mg ("law" : PySem.Str) = some (.ref fa) := by
      have e : (HandSHeadRun.topDef (OpenLaw.row PySem.Challenge.rw_pairsandprices_k58_whole_lists_cut_short).prog 19).name = ("law" : PySem.Str) := by kernel_rfl
      rw [← e]
      exact hmg0
    obtain ⟨fd, hb, hF⟩ := Wk58.facts (P := (PySem.Challenge.rw_pairsandprices_k58_whole_lists_cut_short).prog) (w := w) KX G hmg c
    exact ⟨K, fd, KX, hb, hF⟩

/-! ### halls: what the defs compute that many laws have -/
namespace Fw.Hl
open PySem PySem.Spec PyProof.Rows L2 Fw
abbrev rowsD (rows : List (List Nat)) : PyData := .tuple (rows.map tNs)
abbrev hallD (rows : List (List Nat)) : PyData := .tuple [nI rows.length, rowsD rows]
abbrev pr (p : Nat × Nat) : PyData := tNs [p.1, p.2]
abbrev pairsD (ps : List (Nat × Nat)) : PyData := .tuple (ps.map pr)
def optD : Option Nat → PyData
  | none => .none
  | some b => nI b
def row (rows : List (List Nat)) (a : Nat) : List Nat := rows.getD a []
section
variable {rows : List (List Nat)} {a b k : Nat} {st : Sto} {ps : List (Nat × Nat)} {c : Option Nat}
theorem hall0 : subsD (.v (hallD rows)) (.v (.int 0)) st = .ok (.v (nI rows.length)) st := sub_tup (k := 0) rfl
theorem hall1 : subsD (.v (hallD rows)) (.v (.int 1)) st = .ok (.v (rowsD rows)) st := sub_tup (k := 1) rfl
theorem hall_row (h : a < rows.length) : subsD (.v (rowsD rows)) (.v (nI a)) st = .ok (.v (tNs (row rows a))) st := by
  refine sub_tup (k := a) ?_
  rw [List.getElem?_map, List.getElem?_eq_getElem h]
  unfold row
  rw [List.getD_eq_getElem?_getD, List.getElem?_eq_getElem h]
  rfl
def want (rows : List (List Nat)) (a b : Nat) : Bool := decide (b ∈ row rows a) && decide (a ∈ row rows b)
theorem want_eq (ha : a < rows.length) (hb : b < rows.length) : LC.f_do_want [.v (hallD rows), .v (nI a), .v (nI b)] st = .ok (.v (.bool (want rows a b))) st := by
  refine Out.Ok.is (fnT_ok ?_)
  unfold LC.S_do_want
  simp only [envE, so_seq, so_if, so_ret, so_retN, so_exp, so_nil, so_nx, so_rt, so_asg, so_asgG, so_par2, so_par3, ok_gNm, ok_gMore, ok_gNone, so_asgT, so_sub, so_for, ok_TB, ok_Tru, ok_notT, ok_andT, ok_orT, ok_andV, ok_orV, ok_notV, ok_iteE, ok_frz, ok_new, ok_mfArg, ok_mfBin, ok_lc, ok_M, ok_M0, ok_moNone, ok_moSome, ok_Sl,
  ok_bin, ok_un, ok_arg, ok_cons, ok_nil, ok_call, ok_var, ok_C, ok_ok, ok_stuck, ok_noX, bOf_bool, low_v, iOf_int, addD_int, subD_int, negD_int, ltD_int, leD_int, gtD_int, geD_int, fInt_int, isD_bool, isNotD_bool, tru_bool, List.map_cons, List.map_nil, List.length_cons, List.length_nil, List.replicate_succ, List.replicate_zero, List.cons_append, List.nil_append,
  List.append_nil, List.getElem?_cons_zero, List.getElem?_cons_succ, List.set_cons_zero, List.set_cons_succ, Option.some.injEq, exists_eq_left', exists_eq_left, true_and, and_true, true_implies, false_implies, implies_true, Bool.false_eq_true, reduceCtorEq, false_and, and_false, D.v.injEq, PyData.int.injEq, D.ref.injEq, p1i_int, p2_two, p3_three, decide_true, Bool.not_true, Bool.not_false, decide_eq_true_eq, decide_eq_false_iff_not, hall1, hall_row ha, hall_row hb, in_tup]
  unfold want
  by_cases h : b ∈ row rows a
  · simp [h]
  · simp [h]
theorem lwant_eq (ha : a < rows.length) (hb : b < rows.length) : LC.f_law_want [.v (hallD rows), .v (nI a), .v (nI b)] st = .ok (.v (.bool (want rows a b))) st := by
  refine Out.Ok.is (fnT_ok ?_)
  unfold LC.S_law_want
  simp only [envE, so_seq, so_if, so_ret, so_retN, so_exp, so_nil, so_nx, so_rt, so_asg, so_asgG, so_par2, so_par3, ok_gNm, ok_gMore, ok_gNone, so_asgT, so_sub, so_for, ok_TB, ok_Tru, ok_notT, ok_andT, ok_orT, ok_andV, ok_orV, ok_notV, ok_iteE, ok_frz, ok_new, ok_mfArg, ok_mfBin, ok_lc, ok_M, ok_M0, ok_moNone, ok_moSome, ok_Sl,
  ok_bin, ok_un, ok_arg, ok_cons, ok_nil, ok_call, ok_var, ok_C, ok_ok, ok_stuck, ok_noX, bOf_bool, low_v, iOf_int, addD_int, subD_int, negD_int, ltD_int, leD_int, gtD_int, geD_int, fInt_int, isD_bool, isNotD_bool, tru_bool, List.map_cons, List.map_nil, List.length_cons, List.length_nil, List.replicate_succ, List.replicate_zero, List.cons_append, List.nil_append,
  List.append_nil, List.getElem?_cons_zero, List.getElem?_cons_succ, List.set_cons_zero, List.set_cons_succ, Option.some.injEq, exists_eq_left', exists_eq_left, true_and, and_true, true_implies, false_implies, implies_true, Bool.false_eq_true, reduceCtorEq, false_and, and_false, D.v.injEq, PyData.int.injEq, D.ref.injEq, p1i_int, p2_two, p3_three, decide_true, Bool.not_true, Bool.not_false, decide_eq_true_eq, decide_eq_false_iff_not, hall1, hall_row ha, hall_row hb, in_tup]
  unfold want
  by_cases h : b ∈ row rows a
  · simp [h]
  · simp [h]
def place (rows : List (List Nat)) (a : Nat) : Option Nat → Nat
  | none => (row rows a).length
  | some b => if b ∈ row rows a then (row rows a).idxOf b else (row rows a).length + 1
theorem is_none {c : Option Nat} : isD (.v (optD c)) (.v .none) st = .ok (.v (.bool c.isNone)) st := by cases c <;> rfl
theorem isNot_none {c : Option Nat} : isNotD (.v (optD c)) (.v .none) st = .ok (.v (.bool (!c.isNone))) st := by cases c <;> rfl
theorem place_eq (ha : a < rows.length) : LC.f_law_place [.v (hallD rows), .v (nI a), .v (optD c)] st = .ok (.v (nI (place rows a c))) st := by
  refine Out.Ok.is (fnT_ok ?_)
  unfold LC.S_law_place LC.S_law_place_2
  simp only [envE, so_seq, so_if, so_ret, so_retN, so_exp, so_nil, so_nx, so_rt, so_asg, so_asgG, so_par2, so_par3, ok_gNm, ok_gMore, ok_gNone, so_asgT, so_sub, so_for, ok_TB, ok_Tru, ok_notT, ok_andT, ok_orT, ok_andV, ok_orV, ok_notV, ok_iteE, ok_frz, ok_new, ok_mfArg, ok_mfBin, ok_lc, ok_M, ok_M0, ok_moNone, ok_moSome, ok_Sl,
  ok_bin, ok_un, ok_arg, ok_cons, ok_nil, ok_call, ok_var, ok_C, ok_ok, ok_stuck, ok_noX, bOf_bool, low_v, iOf_int, addD_int, subD_int, negD_int, ltD_int, leD_int, gtD_int, geD_int, fInt_int, isD_bool, isNotD_bool, tru_bool, List.map_cons, List.map_nil, List.length_cons, List.length_nil, List.replicate_succ, List.replicate_zero, List.cons_append, List.nil_append,
  List.append_nil, List.getElem?_cons_zero, List.getElem?_cons_succ, List.set_cons_zero, List.set_cons_succ, Option.some.injEq, exists_eq_left', exists_eq_left, true_and, and_true, true_implies, false_implies, implies_true, Bool.false_eq_true, reduceCtorEq, false_and, and_false, D.v.injEq, PyData.int.injEq, D.ref.injEq, p1i_int, p2_two, p3_three, decide_true, Bool.not_true, Bool.not_false, decide_eq_true_eq, decide_eq_false_iff_not, hall1, hall_row ha, is_none, len_tup, List.length_map]
  cases c with
  | none =>
    exact ⟨fun _ => ⟨rfl, List.take_length⟩, (fun z => nomatch z)⟩
  | some b =>
    refine ⟨(fun z => nomatch z), fun _ => ?_⟩
    simp only [envE, so_seq, so_if, so_ret, so_retN, so_exp, so_nil, so_nx, so_rt, so_asg, so_asgG, so_par2, so_par3, ok_gNm, ok_gMore, ok_gNone, so_asgT, so_sub, so_for, ok_TB, ok_Tru, ok_notT, ok_andT, ok_orT, ok_andV, ok_orV, ok_notV, ok_iteE, ok_frz, ok_new, ok_mfArg, ok_mfBin, ok_lc, ok_M, ok_M0, ok_moNone, ok_moSome, ok_Sl,
  ok_bin, ok_un, ok_arg, ok_cons, ok_nil, ok_call, ok_var, ok_C, ok_ok, ok_stuck, ok_noX, bOf_bool, low_v, iOf_int, addD_int, subD_int, negD_int, ltD_int, leD_int, gtD_int, geD_int, fInt_int, isD_bool, isNotD_bool, tru_bool, List.map_cons, List.map_nil, List.length_cons, List.length_nil, List.replicate_succ, List.replicate_zero, List.cons_append, List.nil_append,
  List.append_nil, List.getElem?_cons_zero, List.getElem?_cons_succ, List.set_cons_zero, List.set_cons_succ, Option.some.injEq, exists_eq_left', exists_eq_left, true_and, and_true, true_implies, false_implies, implies_true, Bool.false_eq_true, reduceCtorEq, false_and, and_false, D.v.injEq, PyData.int.injEq, D.ref.injEq, p1i_int, p2_two, p3_three, decide_true, Bool.not_true, Bool.not_false, decide_eq_true_eq, decide_eq_false_iff_not, ok_Index, optD, in_tup, isT_tup, Bool.or_true]
    have hp : place rows a (some b) = if b ∈ row rows a then (row rows a).idxOf b else (row rows a).length + 1 := rfl
    rw [hp]
    refine ⟨fun h => ?_, fun h => ?_⟩
    · rw [index_tN h, ok_ok, if_pos h]
      exact ⟨rfl, rfl, List.take_length⟩
    · rw [if_neg h]
      exact ⟨rfl, List.take_length⟩
/-- with whom a is paired -/
def partner (ps : List (Nat × Nat)) (a : Nat) : Option Nat := (ps.find? fun p => decide (a = p.1 ∨ a = p.2)).map fun p => if a = p.1 then p.2 else p.1
theorem pair_in {p : Nat × Nat} : inU (.v (nI a)) (.v (pr p)) st = .ok (.v (.bool (decide (a = p.1 ∨ a = p.2)))) st := by
  rw [in_tup]
  congr 3
  exact decide_eq_decide.mpr (by simp)
theorem pair0 {p : Nat × Nat} : subsD (.v (pr p)) (.v (.int 0)) st = .ok (.v (nI p.1)) st := sub_tup (k := 0) rfl
theorem pair1 {p : Nat × Nat} : subsD (.v (pr p)) (.v (.int 1)) st = .ok (.v (nI p.2)) st := sub_tup (k := 1) rfl
theorem other_at {p : Nat × Nat} (h : a = p.1 ∨ a = p.2) : ((p.1 : Int) + (p.2 : Int) - (a : Int)) = ((if a = p.1 then p.2 else p.1 : Nat) : Int) := by
  split <;> omega
theorem head_partner : ∀ ps : List (Nat × Nat), (ps.filterMap fun p : Nat × Nat => if a = p.1 ∨ a = p.2 then some (if a = p.1 then p.2 else p.1) else none).head? = partner ps a
  | [] => rfl
  | p :: r => by
    have ih := head_partner r
    unfold partner at ih ⊢
    rw [List.filterMap_cons, List.find?_cons]
    by_cases h : a = p.1 ∨ a = p.2
    · rw [if_pos h, decide_eq_true h]
      rfl
    · rw [if_neg h, decide_eq_false h]
      exact ih
theorem lpartner_eq : LC.f_law_partner [.v (pairsD ps), .v (nI a)] st = .ok (.v (optD (partner ps a))) st := by
  refine Out.Ok.is (fnT_ok ?_)
  unfold LC.S_law_partner LC.law_partner_E1 LC.law_partner_T1
  simp only [envE, so_seq, so_if, so_ret, so_retN, so_exp, so_nil, so_nx, so_rt, so_asg, so_asgG, so_par2, so_par3, ok_gNm, ok_gMore, ok_gNone, so_asgT, so_sub, so_for, ok_TB, ok_Tru, ok_notT, ok_andT, ok_orT, ok_andV, ok_orV, ok_notV, ok_iteE, ok_frz, ok_new, ok_mfArg, ok_mfBin, ok_lc, ok_M, ok_M0, ok_moNone, ok_moSome, ok_Sl,
  ok_bin, ok_un, ok_arg, ok_cons, ok_nil, ok_call, ok_var, ok_C, ok_ok, ok_stuck, ok_noX, bOf_bool, low_v, iOf_int, addD_int, subD_int, negD_int, ltD_int, leD_int, gtD_int, geD_int, fInt_int, isD_bool, isNotD_bool, tru_bool, List.map_cons, List.map_nil, List.length_cons, List.length_nil, List.replicate_succ, List.replicate_zero, List.cons_append, List.nil_append,
  List.append_nil, List.getElem?_cons_zero, List.getElem?_cons_succ, List.set_cons_zero, List.set_cons_succ, Option.some.injEq, exists_eq_left', exists_eq_left, true_and, and_true, true_implies, false_implies, implies_true, Bool.false_eq_true, reduceCtorEq, false_and, and_false, D.v.injEq, PyData.int.injEq, D.ref.injEq, p1i_int, p2_two, p3_three, decide_true, Bool.not_true, Bool.not_false, decide_eq_true_eq, decide_eq_false_iff_not, ok_seq, seqW_tup, List.map_map]
  rw [lcL_mapA _ (fun p : Nat × Nat => if a = p.1 ∨ a = p.2 then some (nI (if a = p.1 then p.2 else p.1)) else none)]
  rotate_left
  · intro p _
    unfold LC.law_partner_G1 LC.law_partner_M1
    show (gNm 3 (.one (.v (pr p))) _ st).Ok _
    simp only [envE, so_seq, so_if, so_ret, so_retN, so_exp, so_nil, so_nx, so_rt, so_asg, so_asgG, so_par2, so_par3, ok_gNm, ok_gMore, ok_gNone, so_asgT, so_sub, so_for, ok_TB, ok_Tru, ok_notT, ok_andT, ok_orT, ok_andV, ok_orV, ok_notV, ok_iteE, ok_frz, ok_new, ok_mfArg, ok_mfBin, ok_lc, ok_M, ok_M0, ok_moNone, ok_moSome, ok_Sl,
  ok_bin, ok_un, ok_arg, ok_cons, ok_nil, ok_call, ok_var, ok_C, ok_ok, ok_stuck, ok_noX, bOf_bool, low_v, iOf_int, addD_int, subD_int, negD_int, ltD_int, leD_int, gtD_int, geD_int, fInt_int, isD_bool, isNotD_bool, tru_bool, List.map_cons, List.map_nil, List.length_cons, List.length_nil, List.replicate_succ, List.replicate_zero, List.cons_append, List.nil_append,
  List.append_nil, List.getElem?_cons_zero, List.getElem?_cons_succ, List.set_cons_zero, List.set_cons_succ, Option.some.injEq, exists_eq_left', exists_eq_left, true_and, and_true, true_implies, false_implies, implies_true, Bool.false_eq_true, reduceCtorEq, false_and, and_false, D.v.injEq, PyData.int.injEq, D.ref.injEq, p1i_int, p2_two, p3_three, decide_true, Bool.not_true, Bool.not_false, decide_eq_true_eq, decide_eq_false_iff_not, wipeE, pair_in, pair0, pair1]
    refine ⟨fun h => ?_, fun h => by rw [if_neg h]⟩
    rw [other_at h, if_pos h]
  rw [ok_ok]
  unfold LC.S_law_partner_2
  simp only [envE, so_seq, so_if, so_ret, so_retN, so_exp, so_nil, so_nx, so_rt, so_asg, so_asgG, so_par2, so_par3, ok_gNm, ok_gMore, ok_gNone, so_asgT, so_sub, so_for, ok_TB, ok_Tru, ok_notT, ok_andT, ok_orT, ok_andV, ok_orV, ok_notV, ok_iteE, ok_frz, ok_new, ok_mfArg, ok_mfBin, ok_lc, ok_M, ok_M0, ok_moNone, ok_moSome, ok_Sl,
  ok_bin, ok_un, ok_arg, ok_cons, ok_nil, ok_call, ok_var, ok_C, ok_ok, ok_stuck, ok_noX, bOf_bool, low_v, iOf_int, addD_int, subD_int, negD_int, ltD_int, leD_int, gtD_int, geD_int, fInt_int, isD_bool, isNotD_bool, tru_bool, List.map_cons, List.map_nil, List.length_cons, List.length_nil, List.replicate_succ, List.replicate_zero, List.cons_append, List.nil_append,
  List.append_nil, List.getElem?_cons_zero, List.getElem?_cons_succ, List.set_cons_zero, List.set_cons_succ, Option.some.injEq, exists_eq_left', exists_eq_left, true_and, and_true, true_implies, false_implies, implies_true, Bool.false_eq_true, reduceCtorEq, false_and, and_false, D.v.injEq, PyData.int.injEq, D.ref.injEq, p1i_int, p2_two, p3_three, decide_true, Bool.not_true, Bool.not_false, decide_eq_true_eq, decide_eq_false_iff_not, disp0]
  have e : ps.filterMap (fun p : Nat × Nat => if a = p.1 ∨ a = p.2 then some (nI (if a = p.1 then p.2 else p.1)) else none) = (ps.filterMap fun p : Nat × Nat => if a = p.1 ∨ a = p.2 then some (if a = p.1 then p.2 else p.1) else none).map nI := by
    rw [List.map_filterMap]
    congr 1
    funext p
    split <;> rfl
  have h2 := head_partner (a := a) ps
  rw [e]
  generalize (ps.filterMap fun p : Nat × Nat => if a = p.1 ∨ a = p.2 then some (if a = p.1 then p.2 else p.1) else none) = l at h2 ⊢
  rw [ne_nilL (shaped_nats l)]
  simp only [envE, so_seq, so_if, so_ret, so_retN, so_exp, so_nil, so_nx, so_rt, so_asg, so_asgG, so_par2, so_par3, ok_gNm, ok_gMore, ok_gNone, so_asgT, so_sub, so_for, ok_TB, ok_Tru, ok_notT, ok_andT, ok_orT, ok_andV, ok_orV, ok_notV, ok_iteE, ok_frz, ok_new, ok_mfArg, ok_mfBin, ok_lc, ok_M, ok_M0, ok_moNone, ok_moSome, ok_Sl,
  ok_bin, ok_un, ok_arg, ok_cons, ok_nil, ok_call, ok_var, ok_C, ok_ok, ok_stuck, ok_noX, bOf_bool, low_v, iOf_int, addD_int, subD_int, negD_int, ltD_int, leD_int, gtD_int, geD_int, fInt_int, isD_bool, isNotD_bool, tru_bool, List.map_cons, List.map_nil, List.length_cons, List.length_nil, List.replicate_succ, List.replicate_zero, List.cons_append, List.nil_append,
  List.append_nil, List.getElem?_cons_zero, List.getElem?_cons_succ, List.set_cons_zero, List.set_cons_succ, Option.some.injEq, exists_eq_left', exists_eq_left, true_and, and_true, true_implies, false_implies, implies_true, Bool.false_eq_true, reduceCtorEq, false_and, and_false, D.v.injEq, PyData.int.injEq, D.ref.injEq, p1i_int, p2_two, p3_three, decide_true, Bool.not_true, Bool.not_false, decide_eq_true_eq, decide_eq_false_iff_not]
  rw [← h2]
  cases l with
  | nil => exact ⟨(fun z => nomatch z), fun _ => ⟨rfl, List.take_length⟩⟩
  | cons x r =>
    refine ⟨fun _ => ?_, (fun z => nomatch z)⟩
    rw [show subsD (.v (lNs (x :: r))) (.v (.int 0)) st = .ok (.v (nI x)) st from sub_list (k := 0) rfl, ok_ok]
    exact ⟨rfl, rfl, List.take_length⟩
theorem pair_sum {p : Nat × Nat} : fSum [.v (pr p)] st = .ok (.v (.int ((p.1 : Int) + (p.2 : Int)))) st := by
  have h := sum_tup (is := [(p.1 : Int), (p.2 : Int)]) (st := st)
  simp only [List.sum_cons, List.sum_nil, Int.add_zero] at h
  exact h
theorem partner_eq : LC.f_partner_of [.v (pairsD ps), .v (nI a)] st = .ok (.v (optD (partner ps a))) st := by
  refine Out.Ok.is (fnT_ok ?_)
  unfold LC.S_partner_of LC.partner_of_E1 LC.partner_of_T1
  simp only [envE, so_seq, so_if, so_ret, so_retN, so_exp, so_nil, so_nx, so_rt, so_asg, so_asgG, so_par2, so_par3, ok_gNm, ok_gMore, ok_gNone, so_asgT, so_sub, so_for, ok_TB, ok_Tru, ok_notT, ok_andT, ok_orT, ok_andV, ok_orV, ok_notV, ok_iteE, ok_frz, ok_new, ok_mfArg, ok_mfBin, ok_lc, ok_M, ok_M0, ok_moNone, ok_moSome, ok_Sl,
  ok_bin, ok_un, ok_arg, ok_cons, ok_nil, ok_call, ok_var, ok_C, ok_ok, ok_stuck, ok_noX, bOf_bool, low_v, iOf_int, addD_int, subD_int, negD_int, ltD_int, leD_int, gtD_int, geD_int, fInt_int, isD_bool, isNotD_bool, tru_bool, List.map_cons, List.map_nil, List.length_cons, List.length_nil, List.replicate_succ, List.replicate_zero, List.cons_append, List.nil_append,
  List.append_nil, List.getElem?_cons_zero, List.getElem?_cons_succ, List.set_cons_zero, List.set_cons_succ, Option.some.injEq, exists_eq_left', exists_eq_left, true_and, and_true, true_implies, false_implies, implies_true, Bool.false_eq_true, reduceCtorEq, false_and, and_false, D.v.injEq, PyData.int.injEq, D.ref.injEq, p1i_int, p2_two, p3_three, decide_true, Bool.not_true, Bool.not_false, decide_eq_true_eq, decide_eq_false_iff_not, ok_seq, seqW_tup, List.map_map]
  rw [lcL_mapA _ (fun p : Nat × Nat => if a = p.1 ∨ a = p.2 then some (nI (if a = p.1 then p.2 else p.1)) else none)]
  rotate_left
  · intro p _
    unfold LC.partner_of_G1 LC.partner_of_M1
    show (gNm 3 (.one (.v (pr p))) _ st).Ok _
    simp only [envE, so_seq, so_if, so_ret, so_retN, so_exp, so_nil, so_nx, so_rt, so_asg, so_asgG, so_par2, so_par3, ok_gNm, ok_gMore, ok_gNone, so_asgT, so_sub, so_for, ok_TB, ok_Tru, ok_notT, ok_andT, ok_orT, ok_andV, ok_orV, ok_notV, ok_iteE, ok_frz, ok_new, ok_mfArg, ok_mfBin, ok_lc, ok_M, ok_M0, ok_moNone, ok_moSome, ok_Sl,
  ok_bin, ok_un, ok_arg, ok_cons, ok_nil, ok_call, ok_var, ok_C, ok_ok, ok_stuck, ok_noX, bOf_bool, low_v, iOf_int, addD_int, subD_int, negD_int, ltD_int, leD_int, gtD_int, geD_int, fInt_int, isD_bool, isNotD_bool, tru_bool, List.map_cons, List.map_nil, List.length_cons, List.length_nil, List.replicate_succ, List.replicate_zero, List.cons_append, List.nil_append,
  List.append_nil, List.getElem?_cons_zero, List.getElem?_cons_succ, List.set_cons_zero, List.set_cons_succ, Option.some.injEq, exists_eq_left', exists_eq_left, true_and, and_true, true_implies, false_implies, implies_true, Bool.false_eq_true, reduceCtorEq, false_and, and_false, D.v.injEq, PyData.int.injEq, D.ref.injEq, p1i_int, p2_two, p3_three, decide_true, Bool.not_true, Bool.not_false, decide_eq_true_eq, decide_eq_false_iff_not, wipeE, pair_in, pair_sum]
    refine ⟨fun h => ?_, fun h => by rw [if_neg h]⟩
    rw [other_at h, if_pos h]
  rw [ok_ok]
  unfold LC.S_partner_of_2
  simp only [envE, so_seq, so_if, so_ret, so_retN, so_exp, so_nil, so_nx, so_rt, so_asg, so_asgG, so_par2, so_par3, ok_gNm, ok_gMore, ok_gNone, so_asgT, so_sub, so_for, ok_TB, ok_Tru, ok_notT, ok_andT, ok_orT, ok_andV, ok_orV, ok_notV, ok_iteE, ok_frz, ok_new, ok_mfArg, ok_mfBin, ok_lc, ok_M, ok_M0, ok_moNone, ok_moSome, ok_Sl,
  ok_bin, ok_un, ok_arg, ok_cons, ok_nil, ok_call, ok_var, ok_C, ok_ok, ok_stuck, ok_noX, bOf_bool, low_v, iOf_int, addD_int, subD_int, negD_int, ltD_int, leD_int, gtD_int, geD_int, fInt_int, isD_bool, isNotD_bool, tru_bool, List.map_cons, List.map_nil, List.length_cons, List.length_nil, List.replicate_succ, List.replicate_zero, List.cons_append, List.nil_append,
  List.append_nil, List.getElem?_cons_zero, List.getElem?_cons_succ, List.set_cons_zero, List.set_cons_succ, Option.some.injEq, exists_eq_left', exists_eq_left, true_and, and_true, true_implies, false_implies, implies_true, Bool.false_eq_true, reduceCtorEq, false_and, and_false, D.v.injEq, PyData.int.injEq, D.ref.injEq, p1i_int, p2_two, p3_three, decide_true, Bool.not_true, Bool.not_false, decide_eq_true_eq, decide_eq_false_iff_not, disp0]
  have e : ps.filterMap (fun p : Nat × Nat => if a = p.1 ∨ a = p.2 then some (nI (if a = p.1 then p.2 else p.1)) else none) = (ps.filterMap fun p : Nat × Nat => if a = p.1 ∨ a = p.2 then some (if a = p.1 then p.2 else p.1) else none).map nI := by
    rw [List.map_filterMap]
    congr 1
    funext p
    split <;> rfl
  have h2 := head_partner (a := a) ps
  rw [e]
  generalize (ps.filterMap fun p : Nat × Nat => if a = p.1 ∨ a = p.2 then some (if a = p.1 then p.2 else p.1) else none) = l at h2 ⊢
  rw [ne_nilL (shaped_nats l)]
  simp only [envE, so_seq, so_if, so_ret, so_retN, so_exp, so_nil, so_nx, so_rt, so_asg, so_asgG, so_par2, so_par3, ok_gNm, ok_gMore, ok_gNone, so_asgT, so_sub, so_for, ok_TB, ok_Tru, ok_notT, ok_andT, ok_orT, ok_andV, ok_orV, ok_notV, ok_iteE, ok_frz, ok_new, ok_mfArg, ok_mfBin, ok_lc, ok_M, ok_M0, ok_moNone, ok_moSome, ok_Sl,
  ok_bin, ok_un, ok_arg, ok_cons, ok_nil, ok_call, ok_var, ok_C, ok_ok, ok_stuck, ok_noX, bOf_bool, low_v, iOf_int, addD_int, subD_int, negD_int, ltD_int, leD_int, gtD_int, geD_int, fInt_int, isD_bool, isNotD_bool, tru_bool, List.map_cons, List.map_nil, List.length_cons, List.length_nil, List.replicate_succ, List.replicate_zero, List.cons_append, List.nil_append,
  List.append_nil, List.getElem?_cons_zero, List.getElem?_cons_succ, List.set_cons_zero, List.set_cons_succ, Option.some.injEq, exists_eq_left', exists_eq_left, true_and, and_true, true_implies, false_implies, implies_true, Bool.false_eq_true, reduceCtorEq, false_and, and_false, D.v.injEq, PyData.int.injEq, D.ref.injEq, p1i_int, p2_two, p3_three, decide_true, Bool.not_true, Bool.not_false, decide_eq_true_eq, decide_eq_false_iff_not]
  rw [← h2]
  cases l with
  | nil => exact ⟨(fun z => nomatch z), fun _ => ⟨rfl, List.take_length⟩⟩
  | cons x r =>
    refine ⟨fun _ => ?_, (fun z => nomatch z)⟩
    rw [show subsD (.v (lNs (x :: r))) (.v (.int 0)) st = .ok (.v (nI x)) st from sub_list (k := 0) rfl, ok_ok]
    exact ⟨rfl, rfl, List.take_length⟩
def inO (l : List Nat) : Option Nat → Bool
  | none => false
  | some c => decide (c ∈ l)
theorem notIn_opt {l : List Nat} {c : Option Nat} : notInU (.v (optD c)) (.v (tNs l)) st = .ok (.v (.bool (!inO l c))) st := by
  cases c with
  | some c => exact notIn_tup
  | none =>
    show (match inS st (.v .none) (.v (tNs l)) with
      | some k => Out.ok (D.v (.bool (!k))) st
      | none => .stuck) = _
    have e : inS st (.v .none) (.v (tNs l)) = some false := by
      show (if flatP .none && (l.map nI).all flatP then some ((l.map nI).any fun y => PyData.eqv y .none) else _) = _
      rw [flat_nats]
      have z : ((l.map nI).any fun y => PyData.eqv y .none) = false := by
        rw [List.any_map]
        exact List.any_eq_false.mpr fun _ _ => by simp [PyData.eqv]
      rw [z]
      rfl
    rw [e]
    rfl
def ratherO (l : List Nat) (b : Nat) : Option Nat → Bool
  | none => true
  | some c => !decide (c ∈ l) || decide (l.idxOf b < l.idxOf c)
/-- a has b rather than c -/
def rather (rows : List (List Nat)) (a b : Nat) (c : Option Nat) : Bool := decide (b ∈ row rows a) && ratherO (row rows a) b c
theorem rather_eq (ha : a < rows.length) : LC.f_has_rather [.v (hallD rows), .v (nI a), .v (nI b), .v (optD c)] st = .ok (.v (.bool (rather rows a b c))) st := by
  refine Out.Ok.is (fnT_ok ?_)
  unfold LC.S_has_rather LC.S_has_rather_2 LC.S_has_rather_3
  simp only [envE, so_seq, so_if, so_ret, so_retN, so_exp, so_nil, so_nx, so_rt, so_asg, so_asgG, so_par2, so_par3, ok_gNm, ok_gMore, ok_gNone, so_asgT, so_sub, so_for, ok_TB, ok_Tru, ok_notT, ok_andT, ok_orT, ok_andV, ok_orV, ok_notV, ok_iteE, ok_frz, ok_new, ok_mfArg, ok_mfBin, ok_lc, ok_M, ok_M0, ok_moNone, ok_moSome, ok_Sl,
  ok_bin, ok_un, ok_arg, ok_cons, ok_nil, ok_call, ok_var, ok_C, ok_ok, ok_stuck, ok_noX, bOf_bool, low_v, iOf_int, addD_int, subD_int, negD_int, ltD_int, leD_int, gtD_int, geD_int, fInt_int, isD_bool, isNotD_bool, tru_bool, List.map_cons, List.map_nil, List.length_cons, List.length_nil, List.replicate_succ, List.replicate_zero, List.cons_append, List.nil_append,
  List.append_nil, List.getElem?_cons_zero, List.getElem?_cons_succ, List.set_cons_zero, List.set_cons_succ, Option.some.injEq, exists_eq_left', exists_eq_left, true_and, and_true, true_implies, false_implies, implies_true, Bool.false_eq_true, reduceCtorEq, false_and, and_false, D.v.injEq, PyData.int.injEq, D.ref.injEq, p1i_int, p2_two, p3_three, decide_true, Bool.not_true, Bool.not_false, decide_eq_true_eq, decide_eq_false_iff_not, hall1, hall_row ha, notIn_tup, notIn_opt, isT_tup, ok_Index, Bool.or_true]
  have e1 : isD (.v (nI b)) (.v .none) st = .ok (.v (.bool false)) st := rfl
  simp only [e1, envE, so_seq, so_if, so_ret, so_retN, so_exp, so_nil, so_nx, so_rt, so_asg, so_asgG, so_par2, so_par3, ok_gNm, ok_gMore, ok_gNone, so_asgT, so_sub, so_for, ok_TB, ok_Tru, ok_notT, ok_andT, ok_orT, ok_andV, ok_orV, ok_notV, ok_iteE, ok_frz, ok_new, ok_mfArg, ok_mfBin, ok_lc, ok_M, ok_M0, ok_moNone, ok_moSome, ok_Sl,
  ok_bin, ok_un, ok_arg, ok_cons, ok_nil, ok_call, ok_var, ok_C, ok_ok, ok_stuck, ok_noX, bOf_bool, low_v, iOf_int, addD_int, subD_int, negD_int, ltD_int, leD_int, gtD_int, geD_int, fInt_int, isD_bool, isNotD_bool, tru_bool, List.map_cons, List.map_nil, List.length_cons, List.length_nil, List.replicate_succ, List.replicate_zero, List.cons_append, List.nil_append,
  List.append_nil, List.getElem?_cons_zero, List.getElem?_cons_succ, List.set_cons_zero, List.set_cons_succ, Option.some.injEq, exists_eq_left', exists_eq_left, true_and, and_true, true_implies, false_implies, implies_true, Bool.false_eq_true, reduceCtorEq, false_and, and_false, D.v.injEq, PyData.int.injEq, D.ref.injEq, p1i_int, p2_two, p3_three, decide_true, Bool.not_true, Bool.not_false, decide_eq_true_eq, decide_eq_false_iff_not]
  unfold rather
  by_cases hb : b ∈ row rows a
  · rw [decide_eq_true hb]
    refine ⟨(fun z => nomatch z), fun _ => ?_⟩
    cases c with
    | none =>
      refine ⟨fun _ => ⟨rfl, List.take_length⟩, (fun z => nomatch z)⟩
    | some c =>
      by_cases hc : c ∈ row rows a
      · have e2 : inO (row rows a) (some c) = true := decide_eq_true hc
        have e3 : ratherO (row rows a) b (some c) = decide ((row rows a).idxOf b < (row rows a).idxOf c) := by
          show (!decide (c ∈ row rows a) || decide ((row rows a).idxOf b < (row rows a).idxOf c)) = _
          rw [decide_eq_true hc]
          rfl
        rw [e2, e3]
        refine ⟨(fun z => nomatch z), fun _ => ?_⟩
        rw [index_tN hb, ok_ok, show optD (some c) = nI c from rfl, index_tN hc, ok_ok, ltD_int, ok_ok]
        refine ⟨rfl, ?_, List.take_length⟩
        congr 2
        simp
      · have e2 : inO (row rows a) (some c) = false := decide_eq_false hc
        have e3 : ratherO (row rows a) b (some c) = true := by
          show (!decide (c ∈ row rows a) || decide ((row rows a).idxOf b < (row rows a).idxOf c)) = _
          rw [decide_eq_false hc]
          rfl
        rw [e2, e3]
        exact ⟨fun _ => ⟨rfl, List.take_length⟩, (fun z => nomatch z)⟩
  · rw [decide_eq_false hb]
    exact ⟨fun _ => ⟨rfl, List.take_length⟩, (fun z => nomatch z)⟩
def brk (rows : List (List Nat)) (ps : List (Nat × Nat)) (a b : Nat) : Bool := rather rows a b (partner ps a) && rather rows b a (partner ps b)
theorem brk_eq (ha : a < rows.length) (hb : b < rows.length) : LC.f_does_break [.v (hallD rows), .v (pairsD ps), .v (nI a), .v (nI b)] st = .ok (.v (.bool (brk rows ps a b))) st := by
  refine Out.Ok.is (fnT_ok ?_)
  unfold LC.S_does_break
  simp only [envE, so_seq, so_if, so_ret, so_retN, so_exp, so_nil, so_nx, so_rt, so_asg, so_asgG, so_par2, so_par3, ok_gNm, ok_gMore, ok_gNone, so_asgT, so_sub, so_for, ok_TB, ok_Tru, ok_notT, ok_andT, ok_orT, ok_andV, ok_orV, ok_notV, ok_iteE, ok_frz, ok_new, ok_mfArg, ok_mfBin, ok_lc, ok_M, ok_M0, ok_moNone, ok_moSome, ok_Sl,
  ok_bin, ok_un, ok_arg, ok_cons, ok_nil, ok_call, ok_var, ok_C, ok_ok, ok_stuck, ok_noX, bOf_bool, low_v, iOf_int, addD_int, subD_int, negD_int, ltD_int, leD_int, gtD_int, geD_int, fInt_int, isD_bool, isNotD_bool, tru_bool, List.map_cons, List.map_nil, List.length_cons, List.length_nil, List.replicate_succ, List.replicate_zero, List.cons_append, List.nil_append,
  List.append_nil, List.getElem?_cons_zero, List.getElem?_cons_succ, List.set_cons_zero, List.set_cons_succ, Option.some.injEq, exists_eq_left', exists_eq_left, true_and, and_true, true_implies, false_implies, implies_true, Bool.false_eq_true, reduceCtorEq, false_and, and_false, D.v.injEq, PyData.int.injEq, D.ref.injEq, p1i_int, p2_two, p3_three, decide_true, Bool.not_true, Bool.not_false, decide_eq_true_eq, decide_eq_false_iff_not, partner_eq, rather_eq ha, rather_eq hb]
  unfold brk
  cases rather rows a b (partner ps a) with
  | true => exact ⟨fun _ => ⟨rfl, List.take_length⟩, (fun z => nomatch z)⟩
  | false => exact ⟨(fun z => nomatch z), fun _ => ⟨rfl, List.take_length⟩⟩
/-- the pairs that break, of a -/
def brkOf (rows : List (List Nat)) (ps : List (Nat × Nat)) (a : Nat) : List (Nat × Nat) := (((ups (a + 1) rows.length).filter (want rows a)).filter (brk rows ps a)).map fun b => (a, b)
def breaking (rows : List (List Nat)) (ps : List (Nat × Nat)) : List (Nat × Nat) := (List.range rows.length).flatMap (brkOf rows ps)
theorem fm_filter {α β : Type} {p : α → Bool} {f : α → β} : ∀ l : List α, (l.filterMap fun b => if p b = true then some (f b) else none) = (l.filter p).map f
  | [] => rfl
  | x :: r => by
    rw [List.filterMap_cons, List.filter_cons]
    by_cases h : p x = true
    · rw [if_pos h, if_pos h, List.map_cons, ← fm_filter r]
    · rw [if_neg h, if_neg h, ← fm_filter r]
theorem brkOf_len {rows : List (List Nat)} {ps : List (Nat × Nat)} {a : Nat} : (brkOf rows ps a).length ≤ rows.length := by
  unfold brkOf
  rw [List.length_map]
  refine Nat.le_trans (List.length_filter_le _ _) (Nat.le_trans (List.length_filter_le _ _) ?_)
  unfold ups
  rw [List.length_map, List.length_range]
  omega
theorem brk_len {rows : List (List Nat)} {ps : List (Nat × Nat)} : ∀ i, ((List.range i).flatMap (brkOf rows ps)).length ≤ i * rows.length
  | 0 => by simp
  | i + 1 => by
    rw [List.range_succ, List.flatMap_append, List.length_append, Nat.succ_mul]
    have h1 := brk_len (rows := rows) (ps := ps) i
    have h2 := brkOf_len (rows := rows) (ps := ps) (a := i)
    simp only [List.flatMap_cons, List.flatMap_nil, List.append_nil]
    omega
theorem breaking_eq (hn : rows.length ≤ 50) : LC.f_breaking_pairs [.v (hallD rows), .v (pairsD ps)] st = .ok (.v (pairsD (breaking rows ps))) st := by
  refine Out.Ok.is (fnT_ok ?_)
  unfold LC.S_breaking_pairs LC.S_breaking_pairs_2 LC.breaking_pairs_E3
  simp only [envE, so_seq, so_if, so_ret, so_retN, so_exp, so_nil, so_nx, so_rt, so_asg, so_asgG, so_par2, so_par3, ok_gNm, ok_gMore, ok_gNone, so_asgT, so_sub, so_for, ok_TB, ok_Tru, ok_notT, ok_andT, ok_orT, ok_andV, ok_orV, ok_notV, ok_iteE, ok_frz, ok_new, ok_mfArg, ok_mfBin, ok_lc, ok_M, ok_M0, ok_moNone, ok_moSome, ok_Sl,
  ok_bin, ok_un, ok_arg, ok_cons, ok_nil, ok_call, ok_var, ok_C, ok_ok, ok_stuck, ok_noX, bOf_bool, low_v, iOf_int, addD_int, subD_int, negD_int, ltD_int, leD_int, gtD_int, geD_int, fInt_int, isD_bool, isNotD_bool, tru_bool, List.map_cons, List.map_nil, List.length_cons, List.length_nil, List.replicate_succ, List.replicate_zero, List.cons_append, List.nil_append,
  List.append_nil, List.getElem?_cons_zero, List.getElem?_cons_succ, List.set_cons_zero, List.set_cons_succ, Option.some.injEq, exists_eq_left', exists_eq_left, true_and, and_true, true_implies, false_implies, implies_true, Bool.false_eq_true, reduceCtorEq, false_and, and_false, D.v.injEq, PyData.int.injEq, D.ref.injEq, p1i_int, p2_two, p3_three, decide_true, Bool.not_true, Bool.not_false, decide_eq_true_eq, decide_eq_false_iff_not, disp0, ok_R1, hall0]
  refine ⟨⟨by omega, by omega⟩, ?_⟩
  rw [Int.toNat_natCast]
  refine forL_inv (fun i e s => s = st ∧ ∃ x3 x4 x5, e = [some (.v (hallD rows)), some (.v (pairsD ps)), some (.v (.list (((List.range i).flatMap (brkOf rows ps)).map pr))), x3, x4, x5]) _ _ _ 0 ?_ ?_ ⟨rfl, _, _, _, rfl⟩
  · rintro i d e s hd ⟨rfl, x3, x4, x5, rfl⟩
    obtain ⟨hi, rfl⟩ := rngI_get hd
    refine ⟨trivial, ?_⟩
    rw [Int.zero_add, Nat.zero_add]
    unfold LC.breaking_pairs_G3 LC.breaking_pairs_B1 LC.breaking_pairs_E1
    simp only [envE, so_seq, so_if, so_ret, so_retN, so_exp, so_nil, so_nx, so_rt, so_asg, so_asgG, so_par2, so_par3, ok_gNm, ok_gMore, ok_gNone, so_asgT, so_sub, so_for, ok_TB, ok_Tru, ok_notT, ok_andT, ok_orT, ok_andV, ok_orV, ok_notV, ok_iteE, ok_frz, ok_new, ok_mfArg, ok_mfBin, ok_lc, ok_M, ok_M0, ok_moNone, ok_moSome, ok_Sl,
  ok_bin, ok_un, ok_arg, ok_cons, ok_nil, ok_call, ok_var, ok_C, ok_ok, ok_stuck, ok_noX, bOf_bool, low_v, iOf_int, addD_int, subD_int, negD_int, ltD_int, leD_int, gtD_int, geD_int, fInt_int, isD_bool, isNotD_bool, tru_bool, List.map_cons, List.map_nil, List.length_cons, List.length_nil, List.replicate_succ, List.replicate_zero, List.cons_append, List.nil_append,
  List.append_nil, List.getElem?_cons_zero, List.getElem?_cons_succ, List.set_cons_zero, List.set_cons_succ, Option.some.injEq, exists_eq_left', exists_eq_left, true_and, and_true, true_implies, false_implies, implies_true, Bool.false_eq_true, reduceCtorEq, false_and, and_false, D.v.injEq, PyData.int.injEq, D.ref.injEq, p1i_int, p2_two, p3_three, decide_true, Bool.not_true, Bool.not_false, decide_eq_true_eq, decide_eq_false_iff_not, ok_R2, p2i_int, hall0]
    refine ⟨⟨by omega, by omega, by omega, by omega⟩, ?_⟩
    rw [show ((i : Int) + 1) = ((i + 1 : Nat) : Int) by omega, rng_ups]
    rw [lcL_mapA _ (fun b : Nat => if want rows i b = true then some (nI b) else none), fm_filter]
    rotate_left
    · intro b hb
      have hb2 := (mem_ups.mp hb).2
      unfold LC.breaking_pairs_G1 LC.breaking_pairs_T1 LC.breaking_pairs_M1
      simp only [envE, so_seq, so_if, so_ret, so_retN, so_exp, so_nil, so_nx, so_rt, so_asg, so_asgG, so_par2, so_par3, ok_gNm, ok_gMore, ok_gNone, so_asgT, so_sub, so_for, ok_TB, ok_Tru, ok_notT, ok_andT, ok_orT, ok_andV, ok_orV, ok_notV, ok_iteE, ok_frz, ok_new, ok_mfArg, ok_mfBin, ok_lc, ok_M, ok_M0, ok_moNone, ok_moSome, ok_Sl,
  ok_bin, ok_un, ok_arg, ok_cons, ok_nil, ok_call, ok_var, ok_C, ok_ok, ok_stuck, ok_noX, bOf_bool, low_v, iOf_int, addD_int, subD_int, negD_int, ltD_int, leD_int, gtD_int, geD_int, fInt_int, isD_bool, isNotD_bool, tru_bool, List.map_cons, List.map_nil, List.length_cons, List.length_nil, List.replicate_succ, List.replicate_zero, List.cons_append, List.nil_append,
  List.append_nil, List.getElem?_cons_zero, List.getElem?_cons_succ, List.set_cons_zero, List.set_cons_succ, Option.some.injEq, exists_eq_left', exists_eq_left, true_and, and_true, true_implies, false_implies, implies_true, Bool.false_eq_true, reduceCtorEq, false_and, and_false, D.v.injEq, PyData.int.injEq, D.ref.injEq, p1i_int, p2_two, p3_three, decide_true, Bool.not_true, Bool.not_false, decide_eq_true_eq, decide_eq_false_iff_not, wipeE, want_eq hi hb2]
      refine ⟨fun h => by rw [if_pos h], fun h => by rw [if_neg (by rw [h]; exact Bool.false_ne_true)]⟩
    rw [ok_ok]
    unfold LC.breaking_pairs_B1_2 LC.breaking_pairs_E2
    simp only [envE, so_seq, so_if, so_ret, so_retN, so_exp, so_nil, so_nx, so_rt, so_asg, so_asgG, so_par2, so_par3, ok_gNm, ok_gMore, ok_gNone, so_asgT, so_sub, so_for, ok_TB, ok_Tru, ok_notT, ok_andT, ok_orT, ok_andV, ok_orV, ok_notV, ok_iteE, ok_frz, ok_new, ok_mfArg, ok_mfBin, ok_lc, ok_M, ok_M0, ok_moNone, ok_moSome, ok_Sl,
  ok_bin, ok_un, ok_arg, ok_cons, ok_nil, ok_call, ok_var, ok_C, ok_ok, ok_stuck, ok_noX, bOf_bool, low_v, iOf_int, addD_int, subD_int, negD_int, ltD_int, leD_int, gtD_int, geD_int, fInt_int, isD_bool, isNotD_bool, tru_bool, List.map_cons, List.map_nil, List.length_cons, List.length_nil, List.replicate_succ, List.replicate_zero, List.cons_append, List.nil_append,
  List.append_nil, List.getElem?_cons_zero, List.getElem?_cons_succ, List.set_cons_zero, List.set_cons_succ, Option.some.injEq, exists_eq_left', exists_eq_left, true_and, and_true, true_implies, false_implies, implies_true, Bool.false_eq_true, reduceCtorEq, false_and, and_false, D.v.injEq, PyData.int.injEq, D.ref.injEq, p1i_int, p2_two, p3_three, decide_true, Bool.not_true, Bool.not_false, decide_eq_true_eq, decide_eq_false_iff_not, ok_seq, seqW_list, List.map_map]
    rw [lcL_mapA _ (fun b : Nat => if brk rows ps i b = true then some (pr (i, b)) else none), fm_filter]
    rotate_left
    · intro b hb
      have hb2 := (mem_ups.mp (List.mem_filter.mp hb).1).2
      unfold LC.breaking_pairs_G2 LC.breaking_pairs_T2 LC.breaking_pairs_M2
      show (gNm 5 (.one (.v (nI b))) _ s).Ok _
      simp only [envE, so_seq, so_if, so_ret, so_retN, so_exp, so_nil, so_nx, so_rt, so_asg, so_asgG, so_par2, so_par3, ok_gNm, ok_gMore, ok_gNone, so_asgT, so_sub, so_for, ok_TB, ok_Tru, ok_notT, ok_andT, ok_orT, ok_andV, ok_orV, ok_notV, ok_iteE, ok_frz, ok_new, ok_mfArg, ok_mfBin, ok_lc, ok_M, ok_M0, ok_moNone, ok_moSome, ok_Sl,
  ok_bin, ok_un, ok_arg, ok_cons, ok_nil, ok_call, ok_var, ok_C, ok_ok, ok_stuck, ok_noX, bOf_bool, low_v, iOf_int, addD_int, subD_int, negD_int, ltD_int, leD_int, gtD_int, geD_int, fInt_int, isD_bool, isNotD_bool, tru_bool, List.map_cons, List.map_nil, List.length_cons, List.length_nil, List.replicate_succ, List.replicate_zero, List.cons_append, List.nil_append,
  List.append_nil, List.getElem?_cons_zero, List.getElem?_cons_succ, List.set_cons_zero, List.set_cons_succ, Option.some.injEq, exists_eq_left', exists_eq_left, true_and, and_true, true_implies, false_implies, implies_true, Bool.false_eq_true, reduceCtorEq, false_and, and_false, D.v.injEq, PyData.int.injEq, D.ref.injEq, p1i_int, p2_two, p3_three, decide_true, Bool.not_true, Bool.not_false, decide_eq_true_eq, decide_eq_false_iff_not, wipeE, brk_eq hi hb2, tup2]
      refine ⟨fun h => by rw [if_pos h]; rfl, fun h => by rw [if_neg (by rw [h]; exact Bool.false_ne_true)]⟩
    have hlen := brk_len (rows := rows) (ps := ps) (i + 1)
    have hmul : (i + 1) * rows.length ≤ 50 * 50 := Nat.mul_le_mul (by omega) hn
    have he : ((List.range (i + 1)).flatMap (brkOf rows ps)).map pr = ((List.range i).flatMap (brkOf rows ps)).map pr ++ ((((ups (i + 1) rows.length).filter (want rows i)).filter (brk rows ps i)).map fun b => pr (i, b)) := by
      rw [List.range_succ, List.flatMap_append, List.map_append]
      congr 1
      simp only [List.flatMap_cons, List.flatMap_nil, List.append_nil]
      unfold brkOf
      rw [List.map_map]
      rfl
    have hl2 := congrArg List.length he
    rw [List.length_append, List.length_map] at hl2
    rw [ok_ok, cat_list (by omega), ok_ok, he]
    exact ⟨rfl, _, _, _, rfl⟩
  · rintro e s ⟨rfl, x3, x4, x5, rfl⟩
    refine ⟨trivial, ?_⟩
    unfold LC.S_breaking_pairs_3
    simp only [envE, so_seq, so_if, so_ret, so_retN, so_exp, so_nil, so_nx, so_rt, so_asg, so_asgG, so_par2, so_par3, ok_gNm, ok_gMore, ok_gNone, so_asgT, so_sub, so_for, ok_TB, ok_Tru, ok_notT, ok_andT, ok_orT, ok_andV, ok_orV, ok_notV, ok_iteE, ok_frz, ok_new, ok_mfArg, ok_mfBin, ok_lc, ok_M, ok_M0, ok_moNone, ok_moSome, ok_Sl,
  ok_bin, ok_un, ok_arg, ok_cons, ok_nil, ok_call, ok_var, ok_C, ok_ok, ok_stuck, ok_noX, bOf_bool, low_v, iOf_int, addD_int, subD_int, negD_int, ltD_int, leD_int, gtD_int, geD_int, fInt_int, isD_bool, isNotD_bool, tru_bool, List.map_cons, List.map_nil, List.length_cons, List.length_nil, List.replicate_succ, List.replicate_zero, List.cons_append, List.nil_append,
  List.append_nil, List.getElem?_cons_zero, List.getElem?_cons_succ, List.set_cons_zero, List.set_cons_succ, Option.some.injEq, exists_eq_left', exists_eq_left, true_and, and_true, true_implies, false_implies, implies_true, Bool.false_eq_true, reduceCtorEq, false_and, and_false, D.v.injEq, PyData.int.injEq, D.ref.injEq, p1i_int, p2_two, p3_three, decide_true, Bool.not_true, Bool.not_false, decide_eq_true_eq, decide_eq_false_iff_not, tup_list]
    refine ⟨?_, List.take_length⟩
    unfold breaking
    rw [show (rngI 0 rows.length).length = rows.length by unfold rngI; rw [List.length_map, List.length_range], Nat.zero_add]
theorem place_lt (hb : b ∈ row rows a) : decide ((place rows a (some b) : Int) < (place rows a c : Int)) = rather rows a b c := by
  have h1 := List.idxOf_lt_length_of_mem hb
  have e1 : place rows a (some b) = (row rows a).idxOf b := if_pos hb
  unfold rather
  rw [decide_eq_true hb, e1, Bool.true_and]
  cases c with
  | none =>
    have e2 : place rows a none = (row rows a).length := rfl
    rw [e2]
    exact decide_eq_true (by omega)
  | some c =>
    by_cases hc : c ∈ row rows a
    · have e2 : place rows a (some c) = (row rows a).idxOf c := if_pos hc
      rw [e2]
      show _ = (!decide (c ∈ row rows a) || decide ((row rows a).idxOf b < (row rows a).idxOf c))
      rw [decide_eq_true hc]
      simp
    · have e2 : place rows a (some c) = (row rows a).length + 1 := if_neg hc
      rw [e2]
      show _ = (!decide (c ∈ row rows a) || decide ((row rows a).idxOf b < (row rows a).idxOf c))
      rw [decide_eq_false hc]
      exact decide_eq_true (by omega)
theorem want_row (h : want rows a b = true) : b ∈ row rows a ∧ a ∈ row rows b := by
  unfold want at h
  simpa using h
theorem last_at {o : O} : (st ++ [o])[st.length]? = some o := by
  rw [List.getElem?_append_right (Nat.le_refl _), Nat.sub_self]
  rfl
theorem last_set {o u : O} : (st ++ [o]).set st.length u = st ++ [u] := by
  rw [List.set_append_right _ _ (Nat.le_refl _), Nat.sub_self]
  rfl
theorem frz_last {n : Nat} {zs : List PyData} (h : st[n]? = some (.lst zs)) : frz1 (.ref n) st = .ok (.v (.list zs)) (st.set n .dead) := by
  unfold frz1
  show (match st[n]? with
    | some o => match frzO o with
      | some z => Out.ok (D.v z) (st.set n .dead)
      | none => .stuck
    | none => .stuck) = _
  rw [h]
  rfl
theorem lbreaking_eq (hn : rows.length ≤ 50) : LC.f_law_breaking [.v (hallD rows), .v (pairsD ps)] st = .ok (.v (.list ((breaking rows ps).map pr))) st := by
  refine Out.Ok.is (fnT_ok ?_)
  unfold LC.S_law_breaking LC.S_law_breaking_2 LC.law_breaking_E3
  simp only [envE, so_seq, so_if, so_ret, so_retN, so_exp, so_nil, so_nx, so_rt, so_asg, so_asgG, so_par2, so_par3, ok_gNm, ok_gMore, ok_gNone, so_asgT, so_sub, so_for, ok_TB, ok_Tru, ok_notT, ok_andT, ok_orT, ok_andV, ok_orV, ok_notV, ok_iteE, ok_frz, ok_new, ok_mfArg, ok_mfBin, ok_lc, ok_M, ok_M0, ok_moNone, ok_moSome, ok_Sl,
  ok_bin, ok_un, ok_arg, ok_cons, ok_nil, ok_call, ok_var, ok_C, ok_ok, ok_stuck, ok_noX, bOf_bool, low_v, iOf_int, addD_int, subD_int, negD_int, ltD_int, leD_int, gtD_int, geD_int, fInt_int, isD_bool, isNotD_bool, tru_bool, List.map_cons, List.map_nil, List.length_cons, List.length_nil, List.replicate_succ, List.replicate_zero, List.cons_append, List.nil_append,
  List.append_nil, List.getElem?_cons_zero, List.getElem?_cons_succ, List.set_cons_zero, List.set_cons_succ, Option.some.injEq, exists_eq_left', exists_eq_left, true_and, and_true, true_implies, false_implies, implies_true, Bool.false_eq_true, reduceCtorEq, false_and, and_false, D.v.injEq, PyData.int.injEq, D.ref.injEq, p1i_int, p2_two, p3_three, decide_true, Bool.not_true, Bool.not_false, decide_eq_true_eq, decide_eq_false_iff_not, disp0, ok_R1, hall0]
  refine ⟨⟨by omega, by omega⟩, ?_⟩
  rw [Int.toNat_natCast]
  refine forL_inv (fun i e s => s = st ++ [.lst (((List.range i).flatMap (brkOf rows ps)).map pr)] ∧ ∃ x3 x4 x5, e = [some (.v (hallD rows)), some (.v (pairsD ps)), some (.ref st.length), x3, x4, x5]) _ _ _ 0 ?_ ?_ ⟨rfl, _, _, _, rfl⟩
  · rintro i d e s hd ⟨rfl, x3, x4, x5, rfl⟩
    obtain ⟨hi, rfl⟩ := rngI_get hd
    refine ⟨trivial, ?_⟩
    rw [Int.zero_add, Nat.zero_add]
    unfold LC.law_breaking_G3 LC.law_breaking_B1 LC.law_breaking_E2 LC.law_breaking_E1
    simp only [envE, so_seq, so_if, so_ret, so_retN, so_exp, so_nil, so_nx, so_rt, so_asg, so_asgG, so_par2, so_par3, ok_gNm, ok_gMore, ok_gNone, so_asgT, so_sub, so_for, ok_TB, ok_Tru, ok_notT, ok_andT, ok_orT, ok_andV, ok_orV, ok_notV, ok_iteE, ok_frz, ok_new, ok_mfArg, ok_mfBin, ok_lc, ok_M, ok_M0, ok_moNone, ok_moSome, ok_Sl,
  ok_bin, ok_un, ok_arg, ok_cons, ok_nil, ok_call, ok_var, ok_C, ok_ok, ok_stuck, ok_noX, bOf_bool, low_v, iOf_int, addD_int, subD_int, negD_int, ltD_int, leD_int, gtD_int, geD_int, fInt_int, isD_bool, isNotD_bool, tru_bool, List.map_cons, List.map_nil, List.length_cons, List.length_nil, List.replicate_succ, List.replicate_zero, List.cons_append, List.nil_append,
  List.append_nil, List.getElem?_cons_zero, List.getElem?_cons_succ, List.set_cons_zero, List.set_cons_succ, Option.some.injEq, exists_eq_left', exists_eq_left, true_and, and_true, true_implies, false_implies, implies_true, Bool.false_eq_true, reduceCtorEq, false_and, and_false, D.v.injEq, PyData.int.injEq, D.ref.injEq, p1i_int, p2_two, p3_three, decide_true, Bool.not_true, Bool.not_false, decide_eq_true_eq, decide_eq_false_iff_not, ok_seq, ok_R2, p2i_int, hall0]
    refine ⟨⟨by omega, by omega, by omega, by omega⟩, ?_⟩
    rw [show ((i : Int) + 1) = ((i + 1 : Nat) : Int) by omega, rng_ups]
    rw [lcL_mapA _ (fun b : Nat => if want rows i b = true then some (nI b) else none), fm_filter]
    rotate_left
    · intro b hb
      have hb2 := (mem_ups.mp hb).2
      unfold LC.law_breaking_G1 LC.law_breaking_T1 LC.law_breaking_M1
      simp only [envE, so_seq, so_if, so_ret, so_retN, so_exp, so_nil, so_nx, so_rt, so_asg, so_asgG, so_par2, so_par3, ok_gNm, ok_gMore, ok_gNone, so_asgT, so_sub, so_for, ok_TB, ok_Tru, ok_notT, ok_andT, ok_orT, ok_andV, ok_orV, ok_notV, ok_iteE, ok_frz, ok_new, ok_mfArg, ok_mfBin, ok_lc, ok_M, ok_M0, ok_moNone, ok_moSome, ok_Sl,
  ok_bin, ok_un, ok_arg, ok_cons, ok_nil, ok_call, ok_var, ok_C, ok_ok, ok_stuck, ok_noX, bOf_bool, low_v, iOf_int, addD_int, subD_int, negD_int, ltD_int, leD_int, gtD_int, geD_int, fInt_int, isD_bool, isNotD_bool, tru_bool, List.map_cons, List.map_nil, List.length_cons, List.length_nil, List.replicate_succ, List.replicate_zero, List.cons_append, List.nil_append,
  List.append_nil, List.getElem?_cons_zero, List.getElem?_cons_succ, List.set_cons_zero, List.set_cons_succ, Option.some.injEq, exists_eq_left', exists_eq_left, true_and, and_true, true_implies, false_implies, implies_true, Bool.false_eq_true, reduceCtorEq, false_and, and_false, D.v.injEq, PyData.int.injEq, D.ref.injEq, p1i_int, p2_two, p3_three, decide_true, Bool.not_true, Bool.not_false, decide_eq_true_eq, decide_eq_false_iff_not, wipeE, lwant_eq hi hb2]
      refine ⟨fun h => by rw [if_pos h], fun h => by rw [if_neg (by rw [h]; exact Bool.false_ne_true)]⟩
    rw [ok_ok, seqW_list, ok_ok]
    generalize hc : (ups (i + 1) rows.length).filter (want rows i) = cs
    have hcs : ∀ b ∈ cs, b < rows.length ∧ want rows i b = true := fun b hb => by
      rw [← hc] at hb
      exact ⟨(mem_ups.mp (List.mem_filter.mp hb).1).2, (List.mem_filter.mp hb).2⟩
    have hcl : cs.length ≤ rows.length := by
      rw [← hc]
      refine Nat.le_trans (List.length_filter_le _ _) ?_
      unfold ups
      rw [List.length_map, List.length_range]
      omega
    have hb0 := brk_len (rows := rows) (ps := ps) i
    have hmul : i * rows.length ≤ 50 * 50 := Nat.mul_le_mul (by omega) hn
    refine forL_inv (fun j e s => s = st ++ [.lst ((((List.range i).flatMap (brkOf rows ps)) ++ ((cs.take j).filter (brk rows ps i)).map fun b => (i, b)).map pr)] ∧ ∃ x4 x5, e = [some (.v (hallD rows)), some (.v (pairsD ps)), some (.ref st.length), some (.v (nI i)), x4, x5]) _ _ _ 0 ?_ ?_
      ⟨by simp, _, _, rfl⟩
    · rintro j d e s hd ⟨rfl, x4, x5, rfl⟩
      rw [List.getElem?_map, List.getElem?_map] at hd
      obtain ⟨y, hy, rfl⟩ := Option.map_eq_some_iff.mp hd
      obtain ⟨b, hb, rfl⟩ := Option.map_eq_some_iff.mp hy
      obtain ⟨hj, eb⟩ := List.getElem?_eq_some_iff.mp hb
      obtain ⟨hbn, hw⟩ := hcs b (List.mem_of_getElem? hb)
      obtain ⟨w1, w2⟩ := want_row hw
      refine ⟨trivial, ?_⟩
      unfold LC.law_breaking_G2 LC.law_breaking_B2 LC.law_breaking_B2_2
      have p1 : ∀ {x : Nat} {st : Sto}, LC.f_law_place [.v (hallD rows), .v (nI i), .v (nI x)] st = .ok (.v (nI (place rows i (some x)))) st := place_eq (c := some _) hi
      have p2 : ∀ {x : Nat} {st : Sto}, LC.f_law_place [.v (hallD rows), .v (nI b), .v (nI x)] st = .ok (.v (nI (place rows b (some x)))) st := place_eq (c := some _) hbn
      simp only [envE, so_seq, so_if, so_ret, so_retN, so_exp, so_nil, so_nx, so_rt, so_asg, so_asgG, so_par2, so_par3, ok_gNm, ok_gMore, ok_gNone, so_asgT, so_sub, so_for, ok_TB, ok_Tru, ok_notT, ok_andT, ok_orT, ok_andV, ok_orV, ok_notV, ok_iteE, ok_frz, ok_new, ok_mfArg, ok_mfBin, ok_lc, ok_M, ok_M0, ok_moNone, ok_moSome, ok_Sl,
  ok_bin, ok_un, ok_arg, ok_cons, ok_nil, ok_call, ok_var, ok_C, ok_ok, ok_stuck, ok_noX, bOf_bool, low_v, iOf_int, addD_int, subD_int, negD_int, ltD_int, leD_int, gtD_int, geD_int, fInt_int, isD_bool, isNotD_bool, tru_bool, List.map_cons, List.map_nil, List.length_cons, List.length_nil, List.replicate_succ, List.replicate_zero, List.cons_append, List.nil_append,
  List.append_nil, List.getElem?_cons_zero, List.getElem?_cons_succ, List.set_cons_zero, List.set_cons_succ, Option.some.injEq, exists_eq_left', exists_eq_left, true_and, and_true, true_implies, false_implies, implies_true, Bool.false_eq_true, reduceCtorEq, false_and, and_false, D.v.injEq, PyData.int.injEq, D.ref.injEq, p1i_int, p2_two, p3_three, decide_true, Bool.not_true, Bool.not_false, decide_eq_true_eq, decide_eq_false_iff_not, lpartner_eq, p1, p2, place_eq hi, place_eq hbn, tup2]
      have t1 := place_lt (c := partner ps i) w1
      have t2 := place_lt (c := partner ps b) w2
      have ht : (cs.take (j + 1)).filter (brk rows ps i) = (cs.take j).filter (brk rows ps i) ++ [b].filter (brk rows ps i) := by
        rw [List.take_add_one, hb, List.filter_append]
        rfl
      have hno : ¬ brk rows ps i b = true → (cs.take (j + 1)).filter (brk rows ps i) = (cs.take j).filter (brk rows ps i) := fun h => by
        rw [ht, List.filter_cons, if_neg h, List.filter_nil, List.append_nil]
      have hlt : ((cs.take j).filter (brk rows ps i)).length ≤ rows.length := by
        refine Nat.le_trans (List.length_filter_le _ _) ?_
        rw [List.length_take]
        omega
      rw [Nat.zero_add]
      refine ⟨fun h1 => ⟨fun h2 => ?_, fun h2 => ?_⟩, fun h1 => ?_⟩
      · have hbk : brk rows ps i b = true := by
          unfold brk
          rw [← t1, ← t2, decide_eq_true h1, decide_eq_true h2]
          rfl
        refine ⟨isL_ref last_at, ?_⟩
        rw [append_at last_at (by rw [List.length_map, List.length_append, List.length_map]; omega), ok_ok, last_set, ht, List.filter_cons, if_pos hbk, List.filter_nil]
        refine ⟨?_, _, _, rfl⟩
        simp
      · have hbk : ¬ brk rows ps i b = true := by
          unfold brk
          rw [← t1, ← t2, decide_eq_false h2, Bool.and_false]
          exact Bool.false_ne_true
        rw [hno hbk]
        exact ⟨rfl, _, _, rfl⟩
      · have hbk : ¬ brk rows ps i b = true := by
          unfold brk
          rw [← t1, decide_eq_false h1, Bool.false_and]
          exact Bool.false_ne_true
        rw [hno hbk]
        exact ⟨rfl, _, _, rfl⟩
    · rintro e s ⟨rfl, x4, x5, rfl⟩
      refine ⟨trivial, ?_, _, _, _, rfl⟩
      rw [Nat.zero_add, List.length_map, List.length_map, List.take_length, List.range_succ, List.flatMap_append]
      simp only [List.flatMap_cons, List.flatMap_nil, List.append_nil]
      unfold brkOf
      rw [hc]
  · rintro e s ⟨rfl, x3, x4, x5, rfl⟩
    refine ⟨trivial, ?_⟩
    unfold LC.S_law_breaking_3
    simp only [envE, so_seq, so_if, so_ret, so_retN, so_exp, so_nil, so_nx, so_rt, so_asg, so_asgG, so_par2, so_par3, ok_gNm, ok_gMore, ok_gNone, so_asgT, so_sub, so_for, ok_TB, ok_Tru, ok_notT, ok_andT, ok_orT, ok_andV, ok_orV, ok_notV, ok_iteE, ok_frz, ok_new, ok_mfArg, ok_mfBin, ok_lc, ok_M, ok_M0, ok_moNone, ok_moSome, ok_Sl,
  ok_bin, ok_un, ok_arg, ok_cons, ok_nil, ok_call, ok_var, ok_C, ok_ok, ok_stuck, ok_noX, bOf_bool, low_v, iOf_int, addD_int, subD_int, negD_int, ltD_int, leD_int, gtD_int, geD_int, fInt_int, isD_bool, isNotD_bool, tru_bool, List.map_cons, List.map_nil, List.length_cons, List.length_nil, List.replicate_succ, List.replicate_zero, List.cons_append, List.nil_append,
  List.append_nil, List.getElem?_cons_zero, List.getElem?_cons_succ, List.set_cons_zero, List.set_cons_succ, Option.some.injEq, exists_eq_left', exists_eq_left, true_and, and_true, true_implies, false_implies, implies_true, Bool.false_eq_true, reduceCtorEq, false_and, and_false, D.v.injEq, PyData.int.injEq, D.ref.injEq, p1i_int, p2_two, p3_three, decide_true, Bool.not_true, Bool.not_false, decide_eq_true_eq, decide_eq_false_iff_not]
    rw [frz_last last_at, ok_ok]
    refine ⟨rfl, ?_, ?_⟩
    · unfold breaking
      rw [show (rngI 0 rows.length).length = rows.length by unfold rngI; rw [List.length_map, List.length_range], Nat.zero_add]
    · rw [last_set]
      exact List.take_left
end
/-! sorted pairs -/
def r2 (p : Nat × Nat) : List Int := [(p.1 : Int), (p.2 : Int)]
def insP (a : Nat × Nat) : List (Nat × Nat) → List (Nat × Nat)
  | [] => [a]
  | b :: r => if lexLe (r2 a) (r2 b) then a :: b :: r else b :: insP a r
def sortP : List (Nat × Nat) → List (Nat × Nat)
  | [] => []
  | a :: r => insP a (sortP r)
theorem insP_map (a : Nat × Nat) : ∀ l : List (Nat × Nat), insR (r2 a) (l.map r2) = (insP a l).map r2
  | [] => rfl
  | b :: r => by
    rw [List.map_cons]
    unfold insR insP
    split
    · rfl
    · rw [List.map_cons, insP_map a r]
theorem sortP_map : ∀ l : List (Nat × Nat), sortR (l.map r2) = (sortP l).map r2
  | [] => rfl
  | a :: r => by
    rw [List.map_cons]
    unfold sortR sortP
    rw [sortP_map r, insP_map]
theorem rowsOf_pairs : ∀ l : List (Nat × Nat), rowsOf (l.map pr) = some (l.map r2)
  | [] => rfl
  | p :: r => by
    rw [List.map_cons, List.map_cons]
    show (match intsOf [nI p.1, nI p.2], rowsOf (r.map pr) with
      | some ns, some rs => some (ns :: rs)
      | _, _ => none) = _
    rw [rowsOf_pairs r]
    rfl
theorem sort_pairs {l : List (Nat × Nat)} {st : Sto} (hl : l.length < 64) (hb : ∀ p ∈ l, p.1 < 1000000 ∧ p.2 < 1000000) : gSort [.v (.list (l.map pr))] st = .ok ((sortP l).map pr) st := by
  cases l with
  | nil => rfl
  | cons p r =>
    show (match intsOf ((p :: r).map pr) with
      | some ns => Out.ok ((sortI ns).map PyData.int) st
      | none => match rowsOf ((p :: r).map pr) with
        | some rs => if ((p :: r).map pr).length < 64 ∧ 1 ≤ (rs.headD []).length ∧ (rs.all (rowB (rs.headD []).length)) = true then Out.ok ((sortR rs).map fun r : List Int => PyData.tuple (r.map PyData.int)) st else .stuck
        | none => .stuck) = _
    have e1 : intsOf ((p :: r).map pr) = none := rfl
    rw [e1, rowsOf_pairs]
    have e2 : (((p :: r).map r2).headD []).length = 2 := rfl
    show (if ((p :: r).map pr).length < 64 ∧ 1 ≤ (((p :: r).map r2).headD []).length ∧ (((p :: r).map r2).all (rowB (((p :: r).map r2).headD []).length)) = true then Out.ok ((sortR ((p :: r).map r2)).map fun r : List Int => PyData.tuple (r.map PyData.int)) st else .stuck) = _
    rw [e2, if_pos, sortP_map, List.map_map]
    · rfl
    refine ⟨by rw [List.length_map]; exact hl, by decide, ?_⟩
    rw [List.all_map]
    have key : ∀ q ∈ p :: r, rowB 2 (r2 q) = true := fun q hq => by
      obtain ⟨b1, b2⟩ := hb q hq
      unfold rowB
      rw [Bool.and_eq_true]
      refine ⟨rfl, List.all_eq_true.mpr fun m hm => decide_eq_true ?_⟩
      simp only [r2, List.mem_cons, List.not_mem_nil, or_false] at hm
      rcases hm with rfl | rfl
      · have h : (q.1 : Int) < 1000000 := by omega
        exact ⟨by omega, h⟩
      · have h : (q.2 : Int) < 1000000 := by omega
        exact ⟨by omega, h⟩
    refine List.all_eq_true.mpr fun q hq => ?_
    rw [Function.comp_apply]
    exact key q hq
section
variable {rows : List (List Nat)} {ps : List (Nat × Nat)} {p : Nat × Nat} {st : Sto}
def apart (p q : Nat × Nat) : Bool := !decide (q.1 = p.1 ∨ q.1 = p.2) && !decide (q.2 = p.1 ∨ q.2 = p.2)
def settle (ps : List (Nat × Nat)) (p : Nat × Nat) : List (Nat × Nat) := sortP (ps.filter (apart p) ++ [p])
theorem pair_notIn {a : Nat} : notInU (.v (nI a)) (.v (pr p)) st = .ok (.v (.bool (!decide (a = p.1 ∨ a = p.2)))) st := by
  rw [notIn_tup]
  congr 4
  exact decide_eq_decide.mpr (by simp)
theorem settled_eq (hl : ps.length < 63) (hb : ∀ q ∈ ps, q.1 < 1000000 ∧ q.2 < 1000000) (hp : p.1 < 1000000 ∧ p.2 < 1000000) (x : PyData) :
    LC.f_settled [.v x, .v (pairsD ps), .v (pr p)] st = .ok (.v (pairsD (settle ps p))) st := by
  refine Out.Ok.is (fnT_ok ?_)
  unfold LC.S_settled LC.settled_E1
  simp only [envE, so_seq, so_if, so_ret, so_retN, so_exp, so_nil, so_nx, so_rt, so_asg, so_asgG, so_par2, so_par3, ok_gNm, ok_gMore, ok_gNone, so_asgT, so_sub, so_for, ok_TB, ok_Tru, ok_notT, ok_andT, ok_orT, ok_andV, ok_orV, ok_notV, ok_iteE, ok_frz, ok_new, ok_mfArg, ok_mfBin, ok_lc, ok_M, ok_M0, ok_moNone, ok_moSome, ok_Sl,
  ok_bin, ok_un, ok_arg, ok_cons, ok_nil, ok_call, ok_var, ok_C, ok_ok, ok_stuck, ok_noX, bOf_bool, low_v, iOf_int, addD_int, subD_int, negD_int, ltD_int, leD_int, gtD_int, geD_int, fInt_int, isD_bool, isNotD_bool, tru_bool, List.map_cons, List.map_nil, List.length_cons, List.length_nil, List.replicate_succ, List.replicate_zero, List.cons_append, List.nil_append,
  List.append_nil, List.getElem?_cons_zero, List.getElem?_cons_succ, List.set_cons_zero, List.set_cons_succ, Option.some.injEq, exists_eq_left', exists_eq_left, true_and, and_true, true_implies, false_implies, implies_true, Bool.false_eq_true, reduceCtorEq, false_and, and_false, D.v.injEq, PyData.int.injEq, D.ref.injEq, p1i_int, p2_two, p3_three, decide_true, Bool.not_true, Bool.not_false, decide_eq_true_eq, decide_eq_false_iff_not, ok_seq, seqW_tup, List.map_map]
  rw [lcL_mapA _ (fun q : Nat × Nat => if apart p q = true then some (pr q) else none), fm_filter]
  rotate_left
  · intro q _
    unfold LC.settled_G1 LC.settled_T1 LC.settled_M1
    show (gNm 4 (.one (.v (pr q))) _ st).Ok _
    simp only [envE, so_seq, so_if, so_ret, so_retN, so_exp, so_nil, so_nx, so_rt, so_asg, so_asgG, so_par2, so_par3, ok_gNm, ok_gMore, ok_gNone, so_asgT, so_sub, so_for, ok_TB, ok_Tru, ok_notT, ok_andT, ok_orT, ok_andV, ok_orV, ok_notV, ok_iteE, ok_frz, ok_new, ok_mfArg, ok_mfBin, ok_lc, ok_M, ok_M0, ok_moNone, ok_moSome, ok_Sl,
  ok_bin, ok_un, ok_arg, ok_cons, ok_nil, ok_call, ok_var, ok_C, ok_ok, ok_stuck, ok_noX, bOf_bool, low_v, iOf_int, addD_int, subD_int, negD_int, ltD_int, leD_int, gtD_int, geD_int, fInt_int, isD_bool, isNotD_bool, tru_bool, List.map_cons, List.map_nil, List.length_cons, List.length_nil, List.replicate_succ, List.replicate_zero, List.cons_append, List.nil_append,
  List.append_nil, List.getElem?_cons_zero, List.getElem?_cons_succ, List.set_cons_zero, List.set_cons_succ, Option.some.injEq, exists_eq_left', exists_eq_left, true_and, and_true, true_implies, false_implies, implies_true, Bool.false_eq_true, reduceCtorEq, false_and, and_false, D.v.injEq, PyData.int.injEq, D.ref.injEq, p1i_int, p2_two, p3_three, decide_true, Bool.not_true, Bool.not_false, decide_eq_true_eq, decide_eq_false_iff_not, wipeE, pair0, pair1, pair_notIn]
    unfold apart
    by_cases h1 : q.1 = p.1 ∨ q.1 = p.2
    · rw [decide_eq_true h1]
      exact ⟨(fun z => nomatch z), fun _ => rfl⟩
    · rw [decide_eq_false h1]
      by_cases h2 : q.2 = p.1 ∨ q.2 = p.2
      · rw [decide_eq_true h2]
        exact ⟨fun _ => ⟨(fun z => nomatch z), fun _ => rfl⟩, (fun z => nomatch z)⟩
      · rw [decide_eq_false h2]
        exact ⟨fun _ => ⟨fun _ => rfl, (fun z => nomatch z)⟩, (fun z => nomatch z)⟩
  rw [ok_ok]
  unfold LC.S_settled_2
  have hlf := List.length_filter_le (apart p) ps
  simp only [envE, so_seq, so_if, so_ret, so_retN, so_exp, so_nil, so_nx, so_rt, so_asg, so_asgG, so_par2, so_par3, ok_gNm, ok_gMore, ok_gNone, so_asgT, so_sub, so_for, ok_TB, ok_Tru, ok_notT, ok_andT, ok_orT, ok_andV, ok_orV, ok_notV, ok_iteE, ok_frz, ok_new, ok_mfArg, ok_mfBin, ok_lc, ok_M, ok_M0, ok_moNone, ok_moSome, ok_Sl,
  ok_bin, ok_un, ok_arg, ok_cons, ok_nil, ok_call, ok_var, ok_C, ok_ok, ok_stuck, ok_noX, bOf_bool, low_v, iOf_int, addD_int, subD_int, negD_int, ltD_int, leD_int, gtD_int, geD_int, fInt_int, isD_bool, isNotD_bool, tru_bool, List.map_cons, List.map_nil, List.length_cons, List.length_nil, List.replicate_succ, List.replicate_zero, List.cons_append, List.nil_append,
  List.append_nil, List.getElem?_cons_zero, List.getElem?_cons_succ, List.set_cons_zero, List.set_cons_succ, Option.some.injEq, exists_eq_left', exists_eq_left, true_and, and_true, true_implies, false_implies, implies_true, Bool.false_eq_true, reduceCtorEq, false_and, and_false, D.v.injEq, PyData.int.injEq, D.ref.injEq, p1i_int, p2_two, p3_three, decide_true, Bool.not_true, Bool.not_false, decide_eq_true_eq, decide_eq_false_iff_not, disp1]
  rw [cat_list (by rw [List.length_map, List.length_singleton]; omega), ok_ok]
  rw [show (ps.filter (apart p)).map pr ++ [pr p] = (ps.filter (apart p) ++ [p]).map pr by rw [List.map_append]; rfl]
  rw [sort_pairs (by rw [List.length_append, List.length_singleton]; omega) (fun q hq => ?_), ok_ok, tup_list, ok_ok]
  · exact ⟨rfl, rfl, List.take_length⟩
  · rcases List.mem_append.mp hq with hq | hq
    · exact hb q (List.mem_filter.mp hq).1
    · rw [List.mem_singleton.mp hq]
      exact hp
theorem lsettled_eq (hl : ps.length < 63) (hb : ∀ q ∈ ps, q.1 < 1000000 ∧ q.2 < 1000000) (hp : p.1 < 1000000 ∧ p.2 < 1000000) :
    LC.f_law_settled [.v (pairsD ps), .v (pr p)] st = .ok (.v (pairsD (settle ps p))) st := by
  refine Out.Ok.is (fnT_ok ?_)
  unfold LC.S_law_settled LC.law_settled_E1
  simp only [envE, so_seq, so_if, so_ret, so_retN, so_exp, so_nil, so_nx, so_rt, so_asg, so_asgG, so_par2, so_par3, ok_gNm, ok_gMore, ok_gNone, so_asgT, so_sub, so_for, ok_TB, ok_Tru, ok_notT, ok_andT, ok_orT, ok_andV, ok_orV, ok_notV, ok_iteE, ok_frz, ok_new, ok_mfArg, ok_mfBin, ok_lc, ok_M, ok_M0, ok_moNone, ok_moSome, ok_Sl,
  ok_bin, ok_un, ok_arg, ok_cons, ok_nil, ok_call, ok_var, ok_C, ok_ok, ok_stuck, ok_noX, bOf_bool, low_v, iOf_int, addD_int, subD_int, negD_int, ltD_int, leD_int, gtD_int, geD_int, fInt_int, isD_bool, isNotD_bool, tru_bool, List.map_cons, List.map_nil, List.length_cons, List.length_nil, List.replicate_succ, List.replicate_zero, List.cons_append, List.nil_append,
  List.append_nil, List.getElem?_cons_zero, List.getElem?_cons_succ, List.set_cons_zero, List.set_cons_succ, Option.some.injEq, exists_eq_left', exists_eq_left, true_and, and_true, true_implies, false_implies, implies_true, Bool.false_eq_true, reduceCtorEq, false_and, and_false, D.v.injEq, PyData.int.injEq, D.ref.injEq, p1i_int, p2_two, p3_three, decide_true, Bool.not_true, Bool.not_false, decide_eq_true_eq, decide_eq_false_iff_not, ok_seq, seqW_tup, List.map_map]
  rw [lcL_mapA _ (fun q : Nat × Nat => if apart p q = true then some (pr q) else none), fm_filter]
  rotate_left
  · intro q _
    unfold LC.law_settled_G1 LC.law_settled_T1 LC.law_settled_M1
    show (gNm 3 (.one (.v (pr q))) _ st).Ok _
    simp only [envE, so_seq, so_if, so_ret, so_retN, so_exp, so_nil, so_nx, so_rt, so_asg, so_asgG, so_par2, so_par3, ok_gNm, ok_gMore, ok_gNone, so_asgT, so_sub, so_for, ok_TB, ok_Tru, ok_notT, ok_andT, ok_orT, ok_andV, ok_orV, ok_notV, ok_iteE, ok_frz, ok_new, ok_mfArg, ok_mfBin, ok_lc, ok_M, ok_M0, ok_moNone, ok_moSome, ok_Sl,
  ok_bin, ok_un, ok_arg, ok_cons, ok_nil, ok_call, ok_var, ok_C, ok_ok, ok_stuck, ok_noX, bOf_bool, low_v, iOf_int, addD_int, subD_int, negD_int, ltD_int, leD_int, gtD_int, geD_int, fInt_int, isD_bool, isNotD_bool, tru_bool, List.map_cons, List.map_nil, List.length_cons, List.length_nil, List.replicate_succ, List.replicate_zero, List.cons_append, List.nil_append,
  List.append_nil, List.getElem?_cons_zero, List.getElem?_cons_succ, List.set_cons_zero, List.set_cons_succ, Option.some.injEq, exists_eq_left', exists_eq_left, true_and, and_true, true_implies, false_implies, implies_true, Bool.false_eq_true, reduceCtorEq, false_and, and_false, D.v.injEq, PyData.int.injEq, D.ref.injEq, p1i_int, p2_two, p3_three, decide_true, Bool.not_true, Bool.not_false, decide_eq_true_eq, decide_eq_false_iff_not, wipeE, pair0, pair1, pair_notIn]
    unfold apart
    by_cases h1 : q.1 = p.1 ∨ q.1 = p.2
    · rw [decide_eq_true h1]
      exact ⟨(fun z => nomatch z), fun _ => rfl⟩
    · rw [decide_eq_false h1]
      by_cases h2 : q.2 = p.1 ∨ q.2 = p.2
      · rw [decide_eq_true h2]
        exact ⟨fun _ => ⟨(fun z => nomatch z), fun _ => rfl⟩, (fun z => nomatch z)⟩
      · rw [decide_eq_false h2]
        exact ⟨fun _ => ⟨fun _ => rfl, (fun z => nomatch z)⟩, (fun z => nomatch z)⟩
  rw [ok_ok]
  unfold LC.S_law_settled_2
  have hlf := List.length_filter_le (apart p) ps
  simp only [envE, so_seq, so_if, so_ret, so_retN, so_exp, so_nil, so_nx, so_rt, so_asg, so_asgG, so_par2, so_par3, ok_gNm, ok_gMore, ok_gNone, so_asgT, so_sub, so_for, ok_TB, ok_Tru, ok_notT, ok_andT, ok_orT, ok_andV, ok_orV, ok_notV, ok_iteE, ok_frz, ok_new, ok_mfArg, ok_mfBin, ok_lc, ok_M, ok_M0, ok_moNone, ok_moSome, ok_Sl,
  ok_bin, ok_un, ok_arg, ok_cons, ok_nil, ok_call, ok_var, ok_C, ok_ok, ok_stuck, ok_noX, bOf_bool, low_v, iOf_int, addD_int, subD_int, negD_int, ltD_int, leD_int, gtD_int, geD_int, fInt_int, isD_bool, isNotD_bool, tru_bool, List.map_cons, List.map_nil, List.length_cons, List.length_nil, List.replicate_succ, List.replicate_zero, List.cons_append, List.nil_append,
  List.append_nil, List.getElem?_cons_zero, List.getElem?_cons_succ, List.set_cons_zero, List.set_cons_succ, Option.some.injEq, exists_eq_left', exists_eq_left, true_and, and_true, true_implies, false_implies, implies_true, Bool.false_eq_true, reduceCtorEq, false_and, and_false, D.v.injEq, PyData.int.injEq, D.ref.injEq, p1i_int, p2_two, p3_three, decide_true, Bool.not_true, Bool.not_false, decide_eq_true_eq, decide_eq_false_iff_not, disp1]
  rw [cat_list (by rw [List.length_map, List.length_singleton]; omega), ok_ok]
  rw [show (ps.filter (apart p)).map pr ++ [pr p] = (ps.filter (apart p) ++ [p]).map pr by rw [List.map_append]; rfl]
  rw [sort_pairs (by rw [List.length_append, List.length_singleton]; omega) (fun q hq => ?_), ok_ok, tup_list, ok_ok]
  · exact ⟨rfl, rfl, List.take_length⟩
  · rcases List.mem_append.mp hq with hq | hq
    · exact hb q (List.mem_filter.mp hq).1
    · rw [List.mem_singleton.mp hq]
      exact hp
end
end Fw.Hl

/-! ### what is drawn: halls, pairings -/
namespace Fw.Hl
open PySem PySem.Spec PyProof.Rows L2 Fw
structure Hall (rows : List (List Nat)) : Prop where
  pos : 1 ≤ rows.length
  nd : ∀ a, (row rows a).Nodup
  mem : ∀ {a b}, b ∈ row rows a → b < rows.length ∧ b ≠ a
structure Lot (rows : List (List Nat)) (lot : List Nat) (sided : Bool) : Prop where
  nd : lot.Nodup
  lt : ∀ x ∈ lot, x < rows.length
  so : lot.Pairwise (· ≤ ·)
  two : sided = true → ∀ {a b}, b ∈ row rows a → (b ∈ lot ↔ ¬ a ∈ lot)
def keepB (lot : List Nat) (sided : Bool) (a x : Nat) : Bool := !decide (x = a) && (!sided || (decide (x ∈ lot) != decide (a ∈ lot)))
def optL : Option (List Nat) → PyData
  | none => .none
  | some l => lNs l
theorem isnone_optL {c : Option (List Nat)} {st : Sto} : isD (.v (optL c)) (.v .none) st = .ok (.v (.bool c.isNone)) st := by cases c <;> rfl
theorem draw_hall_ok {s : Src} {rest : Sto} {most : Nat} {sided : Bool} (h1 : 1 ≤ most) (h2 : most ≤ 50) (ok : s.ok) :
    (LC.f_law_draw_hall [.ref 1, .v (nI most), .v (.bool sided)] (s.sto rest)).Ok fun d st => ∃ (rows : List (List Nat)) (lot : List Nat) (s' : Src), d = .v (.tuple [hallD rows, tNs lot]) ∧ st = s'.sto rest ∧ s'.ok ∧ Hall rows ∧ rows.length ≤ most ∧ Lot rows lot sided := by
  refine fnT_ok ?_
  unfold LC.S_law_draw_hall
  simp only [envE, so_seq, so_if, so_ret, so_retN, so_exp, so_nil, so_nx, so_rt, so_asg, so_asgG, so_par2, so_par3, ok_gNm, ok_gMore, ok_gNone, so_asgT, so_sub, so_for, ok_TB, ok_Tru, ok_notT, ok_andT, ok_orT, ok_andV, ok_orV, ok_notV, ok_iteE, ok_frz, ok_new, ok_mfArg, ok_mfBin, ok_lc, ok_M, ok_M0, ok_moNone, ok_moSome, ok_Sl,
  ok_bin, ok_un, ok_arg, ok_cons, ok_nil, ok_call, ok_var, ok_C, ok_ok, ok_stuck, ok_noX, bOf_bool, low_v, iOf_int, addD_int, subD_int, negD_int, ltD_int, leD_int, gtD_int, geD_int, fInt_int, isD_bool, isNotD_bool, tru_bool, List.map_cons, List.map_nil, List.length_cons, List.length_nil, List.replicate_succ, List.replicate_zero, List.cons_append, List.nil_append,
  List.append_nil, List.getElem?_cons_zero, List.getElem?_cons_succ, List.set_cons_zero, List.set_cons_succ, Option.some.injEq, exists_eq_left', exists_eq_left, true_and, and_true, true_implies, false_implies, implies_true, Bool.false_eq_true, reduceCtorEq, false_and, and_false, D.v.injEq, PyData.int.injEq, D.ref.injEq, p1i_int, p2_two, p3_three, decide_true, Bool.not_true, Bool.not_false, decide_eq_true_eq, decide_eq_false_iff_not]
  refine (pickA_ok s rest most (by omega) ok).mono ?_
  rintro _ _ ⟨r1, s1, rfl, rfl, ok1, h10, h11, _⟩
  have h11 := h11 (by omega)
  obtain ⟨n, hn⟩ : ∃ n : Nat, 1 + r1 = (n : Int) := ⟨(1 + r1).toNat, by omega⟩
  have hn1 : 1 ≤ n := by omega
  have hn2 : n ≤ most := by omega
  unfold LC.S_law_draw_hall_2
  simp only [envE, so_seq, so_if, so_ret, so_retN, so_exp, so_nil, so_nx, so_rt, so_asg, so_asgG, so_par2, so_par3, ok_gNm, ok_gMore, ok_gNone, so_asgT, so_sub, so_for, ok_TB, ok_Tru, ok_notT, ok_andT, ok_orT, ok_andV, ok_orV, ok_notV, ok_iteE, ok_frz, ok_new, ok_mfArg, ok_mfBin, ok_lc, ok_M, ok_M0, ok_moNone, ok_moSome, ok_Sl,
  ok_bin, ok_un, ok_arg, ok_cons, ok_nil, ok_call, ok_var, ok_C, ok_ok, ok_stuck, ok_noX, bOf_bool, low_v, iOf_int, addD_int, subD_int, negD_int, ltD_int, leD_int, gtD_int, geD_int, fInt_int, isD_bool, isNotD_bool, tru_bool, List.map_cons, List.map_nil, List.length_cons, List.length_nil, List.replicate_succ, List.replicate_zero, List.cons_append, List.nil_append,
  List.append_nil, List.getElem?_cons_zero, List.getElem?_cons_succ, List.set_cons_zero, List.set_cons_succ, Option.some.injEq, exists_eq_left', exists_eq_left, true_and, and_true, true_implies, false_implies, implies_true, Bool.false_eq_true, reduceCtorEq, false_and, and_false, D.v.injEq, PyData.int.injEq, D.ref.injEq, p1i_int, p2_two, p3_three, decide_true, Bool.not_true, Bool.not_false, decide_eq_true_eq, decide_eq_false_iff_not, ok_Rg1, hn]
  refine ⟨rgOk_nat (by omega), ?_⟩
  rw [rg_nat]
  refine (shufA s1 rest _ _ ok1 viewS_list (by rw [List.length_map, List.length_range]; omega)).mono ?_
  rintro _ _ ⟨ys, s2, rfl, rfl, ok2, hp⟩
  obtain ⟨names, rfl, hp2⟩ := perm_unmap hp rfl
  clear hp
  unfold LC.S_law_draw_hall_3
  simp only [envE, so_seq, so_if, so_ret, so_retN, so_exp, so_nil, so_nx, so_rt, so_asg, so_asgG, so_par2, so_par3, ok_gNm, ok_gMore, ok_gNone, so_asgT, so_sub, so_for, ok_TB, ok_Tru, ok_notT, ok_andT, ok_orT, ok_andV, ok_orV, ok_notV, ok_iteE, ok_frz, ok_new, ok_mfArg, ok_mfBin, ok_lc, ok_M, ok_M0, ok_moNone, ok_moSome, ok_Sl,
  ok_bin, ok_un, ok_arg, ok_cons, ok_nil, ok_call, ok_var, ok_C, ok_ok, ok_stuck, ok_noX, bOf_bool, low_v, iOf_int, addD_int, subD_int, negD_int, ltD_int, leD_int, gtD_int, geD_int, fInt_int, isD_bool, isNotD_bool, tru_bool, List.map_cons, List.map_nil, List.length_cons, List.length_nil, List.replicate_succ, List.replicate_zero, List.cons_append, List.nil_append,
  List.append_nil, List.getElem?_cons_zero, List.getElem?_cons_succ, List.set_cons_zero, List.set_cons_succ, Option.some.injEq, exists_eq_left', exists_eq_left, true_and, and_true, true_implies, false_implies, implies_true, Bool.false_eq_true, reduceCtorEq, false_and, and_false, D.v.injEq, PyData.int.injEq, D.ref.injEq, p1i_int, p2_two, p3_three, decide_true, Bool.not_true, Bool.not_false, decide_eq_true_eq, decide_eq_false_iff_not]
  refine (pickA_ok s2 rest ((n : Int) + 1) (by omega) ok2).mono ?_
  rintro _ _ ⟨r2, s3, rfl, rfl, ok3, h20, h21, _⟩
  obtain ⟨k, rfl⟩ : ∃ k : Nat, r2 = (k : Int) := ⟨r2.toNat, by omega⟩
  simp only [envE, so_seq, so_if, so_ret, so_retN, so_exp, so_nil, so_nx, so_rt, so_asg, so_asgG, so_par2, so_par3, ok_gNm, ok_gMore, ok_gNone, so_asgT, so_sub, so_for, ok_TB, ok_Tru, ok_notT, ok_andT, ok_orT, ok_andV, ok_orV, ok_notV, ok_iteE, ok_frz, ok_new, ok_mfArg, ok_mfBin, ok_lc, ok_M, ok_M0, ok_moNone, ok_moSome, ok_Sl,
  ok_bin, ok_un, ok_arg, ok_cons, ok_nil, ok_call, ok_var, ok_C, ok_ok, ok_stuck, ok_noX, bOf_bool, low_v, iOf_int, addD_int, subD_int, negD_int, ltD_int, leD_int, gtD_int, geD_int, fInt_int, isD_bool, isNotD_bool, tru_bool, List.map_cons, List.map_nil, List.length_cons, List.length_nil, List.replicate_succ, List.replicate_zero, List.cons_append, List.nil_append,
  List.append_nil, List.getElem?_cons_zero, List.getElem?_cons_succ, List.set_cons_zero, List.set_cons_succ, Option.some.injEq, exists_eq_left', exists_eq_left, true_and, and_true, true_implies, false_implies, implies_true, Bool.false_eq_true, reduceCtorEq, false_and, and_false, D.v.injEq, PyData.int.injEq, D.ref.injEq, p1i_int, p2_two, p3_three, decide_true, Bool.not_true, Bool.not_false, decide_eq_true_eq, decide_eq_false_iff_not, slice_list, cut_take]
  rw [← List.map_take, sort_nats, ok_ok]
  generalize hlot : sortN (names.take k) = lot
  have hlp : lot.Perm (names.take k) := by rw [← hlot]; exact sortN_perm _
  have hnn : names.Nodup := hp2.nodup_iff.mpr List.nodup_range
  have hnm : ∀ x ∈ names, x < n := fun x hx => List.mem_range.mp (hp2.mem_iff.mp hx)
  have hl1 : lot.Nodup := hlp.nodup_iff.mpr (hnn.sublist (List.take_sublist _ _))
  have hl2 : ∀ x ∈ lot, x < n := fun x hx => hnm x (List.mem_of_mem_take (hlp.mem_iff.mp hx))
  have hl3 : lot.Pairwise (· ≤ ·) := by rw [← hlot]; exact sortN_sorted _
  refine (pickA_ok s3 rest 4 (by omega) ok3).mono ?_
  rintro _ _ ⟨r3, s4, rfl, rfl, ok4, h30, h31, _⟩
  have h31 := h31 (by omega)
  obtain ⟨share, hsh⟩ : ∃ m : Nat, 1 + r3 = (m : Int) := ⟨(1 + r3).toNat, by omega⟩
  simp only [envE, so_seq, so_if, so_ret, so_retN, so_exp, so_nil, so_nx, so_rt, so_asg, so_asgG, so_par2, so_par3, ok_gNm, ok_gMore, ok_gNone, so_asgT, so_sub, so_for, ok_TB, ok_Tru, ok_notT, ok_andT, ok_orT, ok_andV, ok_orV, ok_notV, ok_iteE, ok_frz, ok_new, ok_mfArg, ok_mfBin, ok_lc, ok_M, ok_M0, ok_moNone, ok_moSome, ok_Sl,
  ok_bin, ok_un, ok_arg, ok_cons, ok_nil, ok_call, ok_var, ok_C, ok_ok, ok_stuck, ok_noX, bOf_bool, low_v, iOf_int, addD_int, subD_int, negD_int, ltD_int, leD_int, gtD_int, geD_int, fInt_int, isD_bool, isNotD_bool, tru_bool, List.map_cons, List.map_nil, List.length_cons, List.length_nil, List.replicate_succ, List.replicate_zero, List.cons_append, List.nil_append,
  List.append_nil, List.getElem?_cons_zero, List.getElem?_cons_succ, List.set_cons_zero, List.set_cons_succ, Option.some.injEq, exists_eq_left', exists_eq_left, true_and, and_true, true_implies, false_implies, implies_true, Bool.false_eq_true, reduceCtorEq, false_and, and_false, D.v.injEq, PyData.int.injEq, D.ref.injEq, p1i_int, p2_two, p3_three, decide_true, Bool.not_true, Bool.not_false, decide_eq_true_eq, decide_eq_false_iff_not, hsh, disp0]
  refine ⟨by decide, ?_⟩
  unfold LC.S_law_draw_hall_4
  have hlen : List.length (s4.sto rest) = rest.length + 2 := rfl
  rw [hlen]
  refine so_cut (fun e st => ∃ (s6 : Src) (same : Option (List Nat)), st = s6.sto (rest ++ [.lst []]) ∧ s6.ok ∧ (∀ l, same = some l → l.Perm (List.range n)) ∧
    e = [some (.ref 1), some (.v (nI most)), some (.v (.bool sided)), some (.v (nI n)), some (.v (lNs names)), some (.v (lNs lot)), some (.v (nI share)), some (.ref (rest.length + 2)), some (.v (optL same)), none, none, none, none]) ?_ ?_
  · simp only [envE, so_seq, so_if, so_ret, so_retN, so_exp, so_nil, so_nx, so_rt, so_asg, so_asgG, so_par2, so_par3, ok_gNm, ok_gMore, ok_gNone, so_asgT, so_sub, so_for, ok_TB, ok_Tru, ok_notT, ok_andT, ok_orT, ok_andV, ok_orV, ok_notV, ok_iteE, ok_frz, ok_new, ok_mfArg, ok_mfBin, ok_lc, ok_M, ok_M0, ok_moNone, ok_moSome, ok_Sl,
  ok_bin, ok_un, ok_arg, ok_cons, ok_nil, ok_call, ok_var, ok_C, ok_ok, ok_stuck, ok_noX, bOf_bool, low_v, iOf_int, addD_int, subD_int, negD_int, ltD_int, leD_int, gtD_int, geD_int, fInt_int, isD_bool, isNotD_bool, tru_bool, List.map_cons, List.map_nil, List.length_cons, List.length_nil, List.replicate_succ, List.replicate_zero, List.cons_append, List.nil_append,
  List.append_nil, List.getElem?_cons_zero, List.getElem?_cons_succ, List.set_cons_zero, List.set_cons_succ, Option.some.injEq, exists_eq_left', exists_eq_left, true_and, and_true, true_implies, false_implies, implies_true, Bool.false_eq_true, reduceCtorEq, false_and, and_false, D.v.injEq, PyData.int.injEq, D.ref.injEq, p1i_int, p2_two, p3_three, decide_true, Bool.not_true, Bool.not_false, decide_eq_true_eq, decide_eq_false_iff_not, sto_app]
    refine (pickA_ok s4 (rest ++ [.lst []]) 3 (by omega) ok4).mono ?_
    rintro _ _ ⟨r4, s5, rfl, rfl, ok5, _, _, _⟩
    simp only [envE, so_seq, so_if, so_ret, so_retN, so_exp, so_nil, so_nx, so_rt, so_asg, so_asgG, so_par2, so_par3, ok_gNm, ok_gMore, ok_gNone, so_asgT, so_sub, so_for, ok_TB, ok_Tru, ok_notT, ok_andT, ok_orT, ok_andV, ok_orV, ok_notV, ok_iteE, ok_frz, ok_new, ok_mfArg, ok_mfBin, ok_lc, ok_M, ok_M0, ok_moNone, ok_moSome, ok_Sl,
  ok_bin, ok_un, ok_arg, ok_cons, ok_nil, ok_call, ok_var, ok_C, ok_ok, ok_stuck, ok_noX, bOf_bool, low_v, iOf_int, addD_int, subD_int, negD_int, ltD_int, leD_int, gtD_int, geD_int, fInt_int, isD_bool, isNotD_bool, tru_bool, List.map_cons, List.map_nil, List.length_cons, List.length_nil, List.replicate_succ, List.replicate_zero, List.cons_append, List.nil_append,
  List.append_nil, List.getElem?_cons_zero, List.getElem?_cons_succ, List.set_cons_zero, List.set_cons_succ, Option.some.injEq, exists_eq_left', exists_eq_left, true_and, and_true, true_implies, false_implies, implies_true, Bool.false_eq_true, reduceCtorEq, false_and, and_false, D.v.injEq, PyData.int.injEq, D.ref.injEq, p1i_int, p2_two, p3_three, decide_true, Bool.not_true, Bool.not_false, decide_eq_true_eq, decide_eq_false_iff_not, eqD_int, ok_Rg1]
    refine ⟨fun _ => ⟨rgOk_nat (by omega), ?_⟩, fun _ => ⟨s5, none, rfl, ok5, (fun l z => nomatch z), rfl⟩⟩
    rw [rg_nat]
    refine (shufA s5 _ _ _ ok5 viewS_list (by rw [List.length_map, List.length_range]; omega)).mono ?_
    rintro _ _ ⟨zs, s6, rfl, rfl, ok6, hq⟩
    obtain ⟨same, rfl, hq2⟩ := perm_unmap hq rfl
    exact ⟨s6, some same, rfl, ok6, fun l z => by cases z; exact hq2, rfl⟩
  · rintro e st ⟨s6, same, rfl, ok6, hsame, rfl⟩
    unfold LC.S_law_draw_hall_5 LC.law_draw_hall_E4
    simp only [envE, so_seq, so_if, so_ret, so_retN, so_exp, so_nil, so_nx, so_rt, so_asg, so_asgG, so_par2, so_par3, ok_gNm, ok_gMore, ok_gNone, so_asgT, so_sub, so_for, ok_TB, ok_Tru, ok_notT, ok_andT, ok_orT, ok_andV, ok_orV, ok_notV, ok_iteE, ok_frz, ok_new, ok_mfArg, ok_mfBin, ok_lc, ok_M, ok_M0, ok_moNone, ok_moSome, ok_Sl,
  ok_bin, ok_un, ok_arg, ok_cons, ok_nil, ok_call, ok_var, ok_C, ok_ok, ok_stuck, ok_noX, bOf_bool, low_v, iOf_int, addD_int, subD_int, negD_int, ltD_int, leD_int, gtD_int, geD_int, fInt_int, isD_bool, isNotD_bool, tru_bool, List.map_cons, List.map_nil, List.length_cons, List.length_nil, List.replicate_succ, List.replicate_zero, List.cons_append, List.nil_append,
  List.append_nil, List.getElem?_cons_zero, List.getElem?_cons_succ, List.set_cons_zero, List.set_cons_succ, Option.some.injEq, exists_eq_left', exists_eq_left, true_and, and_true, true_implies, false_implies, implies_true, Bool.false_eq_true, reduceCtorEq, false_and, and_false, D.v.injEq, PyData.int.injEq, D.ref.injEq, p1i_int, p2_two, p3_three, decide_true, Bool.not_true, Bool.not_false, decide_eq_true_eq, decide_eq_false_iff_not, ok_R1]
    refine ⟨⟨by omega, by omega⟩, ?_⟩
    rw [Int.toNat_natCast]
    refine forL_inv (fun i e st => ∃ (s7 : Src) (lists : List (List Nat)), s7.ok ∧ st = s7.sto (rest ++ [.lst (lists.map tNs)]) ∧ lists.length = i ∧ (∀ j l, lists[j]? = some l → l.Nodup ∧ ∀ b ∈ l, b < n ∧ keepB lot sided j b = true) ∧
      ∃ x9 x10 x11 x12, e = [some (.ref 1), some (.v (nI most)), some (.v (.bool sided)), some (.v (nI n)), some (.v (lNs names)), some (.v (lNs lot)), some (.v (nI share)), some (.ref (rest.length + 2)), some (.v (optL same)), x9, x10, x11, x12]) _ _ _ 0 ?_ ?_
      ⟨s6, [], ok6, rfl, rfl, (fun j l z => nomatch z), _, _, _, _, rfl⟩
    · rintro i d e st hd ⟨s7, lists, ok7, rfl, hll, hg, x9, x10, x11, x12, rfl⟩
      obtain ⟨hi, rfl⟩ := rngI_get hd
      refine ⟨trivial, ?_⟩
      rw [Int.zero_add, Nat.zero_add] at *
      unfold LC.law_draw_hall_G4 LC.law_draw_hall_B1 LC.law_draw_hall_E1
      simp only [envE, so_seq, so_if, so_ret, so_retN, so_exp, so_nil, so_nx, so_rt, so_asg, so_asgG, so_par2, so_par3, ok_gNm, ok_gMore, ok_gNone, so_asgT, so_sub, so_for, ok_TB, ok_Tru, ok_notT, ok_andT, ok_orT, ok_andV, ok_orV, ok_notV, ok_iteE, ok_frz, ok_new, ok_mfArg, ok_mfBin, ok_lc, ok_M, ok_M0, ok_moNone, ok_moSome, ok_Sl,
  ok_bin, ok_un, ok_arg, ok_cons, ok_nil, ok_call, ok_var, ok_C, ok_ok, ok_stuck, ok_noX, bOf_bool, low_v, iOf_int, addD_int, subD_int, negD_int, ltD_int, leD_int, gtD_int, geD_int, fInt_int, isD_bool, isNotD_bool, tru_bool, List.map_cons, List.map_nil, List.length_cons, List.length_nil, List.replicate_succ, List.replicate_zero, List.cons_append, List.nil_append,
  List.append_nil, List.getElem?_cons_zero, List.getElem?_cons_succ, List.set_cons_zero, List.set_cons_succ, Option.some.injEq, exists_eq_left', exists_eq_left, true_and, and_true, true_implies, false_implies, implies_true, Bool.false_eq_true, reduceCtorEq, false_and, and_false, D.v.injEq, PyData.int.injEq, D.ref.injEq, p1i_int, p2_two, p3_three, decide_true, Bool.not_true, Bool.not_false, decide_eq_true_eq, decide_eq_false_iff_not, ok_R1]
      refine ⟨⟨by omega, by omega⟩, ?_⟩
      rw [Int.toNat_natCast, rngI_nat]
      rw [lcL_mapA _ (fun x : Nat => if keepB lot sided i x = true then some (nI x) else none), fm_filter]
      rotate_left
      · intro x hx
        unfold LC.law_draw_hall_G1 LC.law_draw_hall_T1 LC.law_draw_hall_M1
        simp only [envE, so_seq, so_if, so_ret, so_retN, so_exp, so_nil, so_nx, so_rt, so_asg, so_asgG, so_par2, so_par3, ok_gNm, ok_gMore, ok_gNone, so_asgT, so_sub, so_for, ok_TB, ok_Tru, ok_notT, ok_andT, ok_orT, ok_andV, ok_orV, ok_notV, ok_iteE, ok_frz, ok_new, ok_mfArg, ok_mfBin, ok_lc, ok_M, ok_M0, ok_moNone, ok_moSome, ok_Sl,
  ok_bin, ok_un, ok_arg, ok_cons, ok_nil, ok_call, ok_var, ok_C, ok_ok, ok_stuck, ok_noX, bOf_bool, low_v, iOf_int, addD_int, subD_int, negD_int, ltD_int, leD_int, gtD_int, geD_int, fInt_int, isD_bool, isNotD_bool, tru_bool, List.map_cons, List.map_nil, List.length_cons, List.length_nil, List.replicate_succ, List.replicate_zero, List.cons_append, List.nil_append,
  List.append_nil, List.getElem?_cons_zero, List.getElem?_cons_succ, List.set_cons_zero, List.set_cons_succ, Option.some.injEq, exists_eq_left', exists_eq_left, true_and, and_true, true_implies, false_implies, implies_true, Bool.false_eq_true, reduceCtorEq, false_and, and_false, D.v.injEq, PyData.int.injEq, D.ref.injEq, p1i_int, p2_two, p3_three, decide_true, Bool.not_true, Bool.not_false, decide_eq_true_eq, decide_eq_false_iff_not, wipeE, in_list, neD_int, ne_bool]
        have e : decide ((x : Int) = (i : Int)) = decide (x = i) := decide_eq_decide.mpr (by omega)
        rw [e]
        unfold keepB
        cases decide (x = i) <;> cases sided <;> cases decide (x ∈ lot) <;> cases decide (i ∈ lot) <;> simp
      rw [ok_ok]
      generalize ho : (List.range n).filter (keepB lot sided i) = others
      have hon : others.Nodup := by rw [← ho]; exact List.nodup_range.filter _
      have hom : ∀ b ∈ others, b < n ∧ keepB lot sided i b = true := fun b hb => by
        rw [← ho] at hb
        exact ⟨List.mem_range.mp (List.mem_filter.mp hb).1, (List.mem_filter.mp hb).2⟩
      have hol : others.length ≤ n := by
        rw [← ho]
        refine Nat.le_trans (List.length_filter_le _ _) ?_
        rw [List.length_range]
        exact Nat.le_refl _
      unfold LC.law_draw_hall_B1_2
      refine so_cut (fun e st => ∃ (s8 : Src) (l : List Nat), s8.ok ∧ st = s8.sto (rest ++ [.lst (lists.map tNs)]) ∧ l.Nodup ∧ (∀ b ∈ l, b ∈ others) ∧
        e = [some (.ref 1), some (.v (nI most)), some (.v (.bool sided)), some (.v (nI n)), some (.v (lNs names)), some (.v (lNs lot)), some (.v (nI share)), some (.ref (rest.length + 2)), some (.v (optL same)), some (.v (nI i)), some (.v (lNs others)), x11, some (.v (lNs l))]) ?_ ?_
      · simp only [envE, so_seq, so_if, so_ret, so_retN, so_exp, so_nil, so_nx, so_rt, so_asg, so_asgG, so_par2, so_par3, ok_gNm, ok_gMore, ok_gNone, so_asgT, so_sub, so_for, ok_TB, ok_Tru, ok_notT, ok_andT, ok_orT, ok_andV, ok_orV, ok_notV, ok_iteE, ok_frz, ok_new, ok_mfArg, ok_mfBin, ok_lc, ok_M, ok_M0, ok_moNone, ok_moSome, ok_Sl,
  ok_bin, ok_un, ok_arg, ok_cons, ok_nil, ok_call, ok_var, ok_C, ok_ok, ok_stuck, ok_noX, bOf_bool, low_v, iOf_int, addD_int, subD_int, negD_int, ltD_int, leD_int, gtD_int, geD_int, fInt_int, isD_bool, isNotD_bool, tru_bool, List.map_cons, List.map_nil, List.length_cons, List.length_nil, List.replicate_succ, List.replicate_zero, List.cons_append, List.nil_append,
  List.append_nil, List.getElem?_cons_zero, List.getElem?_cons_succ, List.set_cons_zero, List.set_cons_succ, Option.some.injEq, exists_eq_left', exists_eq_left, true_and, and_true, true_implies, false_implies, implies_true, Bool.false_eq_true, reduceCtorEq, false_and, and_false, D.v.injEq, PyData.int.injEq, D.ref.injEq, p1i_int, p2_two, p3_three, decide_true, Bool.not_true, Bool.not_false, decide_eq_true_eq, decide_eq_false_iff_not, isnone_optL]
        refine ⟨fun _ => ?_, fun hs => ?_⟩
        · refine (shufA s7 _ _ _ ok7 viewS_list (by rw [List.length_map]; omega)).mono ?_
          rintro _ _ ⟨zs, s8, rfl, rfl, ok8, hq⟩
          obtain ⟨l, rfl, hq2⟩ := perm_unmap hq rfl
          exact ⟨s8, l, ok8, rfl, hq2.nodup_iff.mpr hon, fun b hb => hq2.mem_iff.mp hb, rfl⟩
        · cases same with
          | none => cases hs
          | some sm =>
            have hsm := hsame sm rfl
            unfold LC.law_draw_hall_E2
            simp only [envE, so_seq, so_if, so_ret, so_retN, so_exp, so_nil, so_nx, so_rt, so_asg, so_asgG, so_par2, so_par3, ok_gNm, ok_gMore, ok_gNone, so_asgT, so_sub, so_for, ok_TB, ok_Tru, ok_notT, ok_andT, ok_orT, ok_andV, ok_orV, ok_notV, ok_iteE, ok_frz, ok_new, ok_mfArg, ok_mfBin, ok_lc, ok_M, ok_M0, ok_moNone, ok_moSome, ok_Sl,
  ok_bin, ok_un, ok_arg, ok_cons, ok_nil, ok_call, ok_var, ok_C, ok_ok, ok_stuck, ok_noX, bOf_bool, low_v, iOf_int, addD_int, subD_int, negD_int, ltD_int, leD_int, gtD_int, geD_int, fInt_int, isD_bool, isNotD_bool, tru_bool, List.map_cons, List.map_nil, List.length_cons, List.length_nil, List.replicate_succ, List.replicate_zero, List.cons_append, List.nil_append,
  List.append_nil, List.getElem?_cons_zero, List.getElem?_cons_succ, List.set_cons_zero, List.set_cons_succ, Option.some.injEq, exists_eq_left', exists_eq_left, true_and, and_true, true_implies, false_implies, implies_true, Bool.false_eq_true, reduceCtorEq, false_and, and_false, D.v.injEq, PyData.int.injEq, D.ref.injEq, p1i_int, p2_two, p3_three, decide_true, Bool.not_true, Bool.not_false, decide_eq_true_eq, decide_eq_false_iff_not, ok_seq, optL, seqW_list, List.map_map]
            rw [lcL_mapA _ (fun x : Nat => if decide (x ∈ others) = true then some (nI x) else none), fm_filter]
            rotate_left
            · intro x hx
              unfold LC.law_draw_hall_G2 LC.law_draw_hall_T2 LC.law_draw_hall_M2
              show (gNm 11 (.one (.v (nI x))) _ _).Ok _
              simp only [envE, so_seq, so_if, so_ret, so_retN, so_exp, so_nil, so_nx, so_rt, so_asg, so_asgG, so_par2, so_par3, ok_gNm, ok_gMore, ok_gNone, so_asgT, so_sub, so_for, ok_TB, ok_Tru, ok_notT, ok_andT, ok_orT, ok_andV, ok_orV, ok_notV, ok_iteE, ok_frz, ok_new, ok_mfArg, ok_mfBin, ok_lc, ok_M, ok_M0, ok_moNone, ok_moSome, ok_Sl,
  ok_bin, ok_un, ok_arg, ok_cons, ok_nil, ok_call, ok_var, ok_C, ok_ok, ok_stuck, ok_noX, bOf_bool, low_v, iOf_int, addD_int, subD_int, negD_int, ltD_int, leD_int, gtD_int, geD_int, fInt_int, isD_bool, isNotD_bool, tru_bool, List.map_cons, List.map_nil, List.length_cons, List.length_nil, List.replicate_succ, List.replicate_zero, List.cons_append, List.nil_append,
  List.append_nil, List.getElem?_cons_zero, List.getElem?_cons_succ, List.set_cons_zero, List.set_cons_succ, Option.some.injEq, exists_eq_left', exists_eq_left, true_and, and_true, true_implies, false_implies, implies_true, Bool.false_eq_true, reduceCtorEq, false_and, and_false, D.v.injEq, PyData.int.injEq, D.ref.injEq, p1i_int, p2_two, p3_three, decide_true, Bool.not_true, Bool.not_false, decide_eq_true_eq, decide_eq_false_iff_not, wipeE, in_list]
              refine ⟨fun h => by rw [if_pos h], fun h => by rw [if_neg h]⟩
            rw [ok_ok]
            refine ⟨s7, _, ok7, rfl, (hsm.nodup_iff.mpr List.nodup_range).filter _, fun b hb => ?_, rfl⟩
            simpa using (List.mem_filter.mp hb).2
      · rintro e st ⟨s8, l, ok8, rfl, hnd, hmem, rfl⟩
        unfold LC.law_draw_hall_B1_3 LC.law_draw_hall_E3
        simp only [envE, so_seq, so_if, so_ret, so_retN, so_exp, so_nil, so_nx, so_rt, so_asg, so_asgG, so_par2, so_par3, ok_gNm, ok_gMore, ok_gNone, so_asgT, so_sub, so_for, ok_TB, ok_Tru, ok_notT, ok_andT, ok_orT, ok_andV, ok_orV, ok_notV, ok_iteE, ok_frz, ok_new, ok_mfArg, ok_mfBin, ok_lc, ok_M, ok_M0, ok_moNone, ok_moSome, ok_Sl,
  ok_bin, ok_un, ok_arg, ok_cons, ok_nil, ok_call, ok_var, ok_C, ok_ok, ok_stuck, ok_noX, bOf_bool, low_v, iOf_int, addD_int, subD_int, negD_int, ltD_int, leD_int, gtD_int, geD_int, fInt_int, isD_bool, isNotD_bool, tru_bool, List.map_cons, List.map_nil, List.length_cons, List.length_nil, List.replicate_succ, List.replicate_zero, List.cons_append, List.nil_append,
  List.append_nil, List.getElem?_cons_zero, List.getElem?_cons_succ, List.set_cons_zero, List.set_cons_succ, Option.some.injEq, exists_eq_left', exists_eq_left, true_and, and_true, true_implies, false_implies, implies_true, Bool.false_eq_true, reduceCtorEq, false_and, and_false, D.v.injEq, PyData.int.injEq, D.ref.injEq, p1i_int, p2_two, p3_three, decide_true, Bool.not_true, Bool.not_false, decide_eq_true_eq, decide_eq_false_iff_not, ok_seq, seqW_list, List.map_map]
        refine ⟨isL_ref sto_at, ?_⟩
        refine (lcL_some (fun x : Nat => .one (.v (nI x))) nI l s8 ok8 ?_).mono ?_
        · intro x hx s hs
          unfold LC.law_draw_hall_G3 LC.law_draw_hall_T3 LC.law_draw_hall_M3
          simp only [envE, so_seq, so_if, so_ret, so_retN, so_exp, so_nil, so_nx, so_rt, so_asg, so_asgG, so_par2, so_par3, ok_gNm, ok_gMore, ok_gNone, so_asgT, so_sub, so_for, ok_TB, ok_Tru, ok_notT, ok_andT, ok_orT, ok_andV, ok_orV, ok_notV, ok_iteE, ok_frz, ok_new, ok_mfArg, ok_mfBin, ok_lc, ok_M, ok_M0, ok_moNone, ok_moSome, ok_Sl,
  ok_bin, ok_un, ok_arg, ok_cons, ok_nil, ok_call, ok_var, ok_C, ok_ok, ok_stuck, ok_noX, bOf_bool, low_v, iOf_int, addD_int, subD_int, negD_int, ltD_int, leD_int, gtD_int, geD_int, fInt_int, isD_bool, isNotD_bool, tru_bool, List.map_cons, List.map_nil, List.length_cons, List.length_nil, List.replicate_succ, List.replicate_zero, List.cons_append, List.nil_append,
  List.append_nil, List.getElem?_cons_zero, List.getElem?_cons_succ, List.set_cons_zero, List.set_cons_succ, Option.some.injEq, exists_eq_left', exists_eq_left, true_and, and_true, true_implies, false_implies, implies_true, Bool.false_eq_true, reduceCtorEq, false_and, and_false, D.v.injEq, PyData.int.injEq, D.ref.injEq, p1i_int, p2_two, p3_three, decide_true, Bool.not_true, Bool.not_false, decide_eq_true_eq, decide_eq_false_iff_not, wipeE]
          refine (pickA_ok s _ ((share : Int) + 1) (by omega) hs).mono ?_
          rintro _ _ ⟨r, s', rfl, rfl, ok', _, _, _⟩
          simp only [envE, so_seq, so_if, so_ret, so_retN, so_exp, so_nil, so_nx, so_rt, so_asg, so_asgG, so_par2, so_par3, ok_gNm, ok_gMore, ok_gNone, so_asgT, so_sub, so_for, ok_TB, ok_Tru, ok_notT, ok_andT, ok_orT, ok_andV, ok_orV, ok_notV, ok_iteE, ok_frz, ok_new, ok_mfArg, ok_mfBin, ok_lc, ok_M, ok_M0, ok_moNone, ok_moSome, ok_Sl,
  ok_bin, ok_un, ok_arg, ok_cons, ok_nil, ok_call, ok_var, ok_C, ok_ok, ok_stuck, ok_noX, bOf_bool, low_v, iOf_int, addD_int, subD_int, negD_int, ltD_int, leD_int, gtD_int, geD_int, fInt_int, isD_bool, isNotD_bool, tru_bool, List.map_cons, List.map_nil, List.length_cons, List.length_nil, List.replicate_succ, List.replicate_zero, List.cons_append, List.nil_append,
  List.append_nil, List.getElem?_cons_zero, List.getElem?_cons_succ, List.set_cons_zero, List.set_cons_succ, Option.some.injEq, exists_eq_left', exists_eq_left, true_and, and_true, true_implies, false_implies, implies_true, Bool.false_eq_true, reduceCtorEq, false_and, and_false, D.v.injEq, PyData.int.injEq, D.ref.injEq, p1i_int, p2_two, p3_three, decide_true, Bool.not_true, Bool.not_false, decide_eq_true_eq, decide_eq_false_iff_not, eqD_int]
          exact ⟨fun _ => ⟨s', rfl, ok'⟩, fun _ => ⟨s', rfl, ok'⟩⟩
        · rintro _ _ ⟨s9, l', rfl, ok9, hsub, rfl⟩
          rw [tup_list, ok_ok, append_at sto_at (by rw [List.length_map]; omega), ok_ok, sto_set]
          refine ⟨s9, lists ++ [l'], ok9, by rw [List.map_append]; rfl, by rw [List.length_append, hll]; rfl, fun j m hm => ?_, _, _, _, _, rfl⟩
          by_cases hj : j < lists.length
          · rw [List.getElem?_append_left hj] at hm
            exact hg j m hm
          · rw [List.getElem?_append_right (by omega)] at hm
            have hj2 : j = i := by
              obtain ⟨h0, _⟩ := List.getElem?_eq_some_iff.mp hm
              rw [List.length_singleton] at h0
              omega
            subst hj2
            rw [hll, Nat.sub_self] at hm
            cases hm
            exact ⟨hnd.sublist hsub, fun b hb => hom b (hmem b (hsub.subset hb))⟩
    · rintro e st ⟨s7, lists, ok7, rfl, hll, hg, x9, x10, x11, x12, rfl⟩
      refine ⟨trivial, ?_⟩
      rw [show (rngI 0 n).length = n by unfold rngI; rw [List.length_map, List.length_range], Nat.zero_add] at hll
      subst hll
      unfold LC.S_law_draw_hall_6
      simp only [envE, so_seq, so_if, so_ret, so_retN, so_exp, so_nil, so_nx, so_rt, so_asg, so_asgG, so_par2, so_par3, ok_gNm, ok_gMore, ok_gNone, so_asgT, so_sub, so_for, ok_TB, ok_Tru, ok_notT, ok_andT, ok_orT, ok_andV, ok_orV, ok_notV, ok_iteE, ok_frz, ok_new, ok_mfArg, ok_mfBin, ok_lc, ok_M, ok_M0, ok_moNone, ok_moSome, ok_Sl,
  ok_bin, ok_un, ok_arg, ok_cons, ok_nil, ok_call, ok_var, ok_C, ok_ok, ok_stuck, ok_noX, bOf_bool, low_v, iOf_int, addD_int, subD_int, negD_int, ltD_int, leD_int, gtD_int, geD_int, fInt_int, isD_bool, isNotD_bool, tru_bool, List.map_cons, List.map_nil, List.length_cons, List.length_nil, List.replicate_succ, List.replicate_zero, List.cons_append, List.nil_append,
  List.append_nil, List.getElem?_cons_zero, List.getElem?_cons_succ, List.set_cons_zero, List.set_cons_succ, Option.some.injEq, exists_eq_left', exists_eq_left, true_and, and_true, true_implies, false_implies, implies_true, Bool.false_eq_true, reduceCtorEq, false_and, and_false, D.v.injEq, PyData.int.injEq, D.ref.injEq, p1i_int, p2_two, p3_three, decide_true, Bool.not_true, Bool.not_false, decide_eq_true_eq, decide_eq_false_iff_not, tup2, tup_of sto_at, tup_list]
      refine ⟨lists, lot, s7, rfl, ?_, ok7, ?_, hn2, ?_⟩
      · exact sto_take (more := [.lst (lists.map tNs)])
      · have key : ∀ a, (row lists a).Nodup ∧ ∀ b ∈ row lists a, b < lists.length ∧ keepB lot sided a b = true := fun a => by
          unfold row
          rw [List.getD_eq_getElem?_getD]
          cases h : lists[a]? with
          | none => exact ⟨List.nodup_nil, fun b z => nomatch z⟩
          | some l => exact hg a l h
        refine ⟨hn1, fun a => (key a).1, fun {a b} hb => ⟨((key a).2 b hb).1, ?_⟩⟩
        have := ((key a).2 b hb).2
        unfold keepB at this
        simp at this
        exact this.1
      · have key : ∀ a, ∀ b ∈ row lists a, keepB lot sided a b = true := fun a => by
          unfold row
          rw [List.getD_eq_getElem?_getD]
          cases h : lists[a]? with
          | none => exact fun b z => nomatch z
          | some l => exact fun b hb => ((hg a l h).2 b hb).2
        refine ⟨hl1, hl2, hl3, fun hs {a b} hb => ?_⟩
        have := key a b hb
        unfold keepB at this
        subst hs
        by_cases h1 : b ∈ lot <;> by_cases h2 : a ∈ lot <;> simp [h1, h2] at this ⊢
/-! pairings -/
theorem insP_perm (a : Nat × Nat) : ∀ l, (insP a l).Perm (a :: l)
  | [] => .refl _
  | b :: r => by
    unfold insP
    split
    · exact .refl _
    · exact ((insP_perm a r).cons b).trans (.swap a b r)
theorem sortP_perm : ∀ l, (sortP l).Perm l
  | [] => .refl _
  | a :: r => (insP_perm a (sortP r)).trans ((sortP_perm r).cons a)
def far (p q : Nat × Nat) : Prop := p.1 ≠ q.1 ∧ p.1 ≠ q.2 ∧ p.2 ≠ q.1 ∧ p.2 ≠ q.2
theorem far_symm {p q : Nat × Nat} (h : far p q) : far q p := ⟨h.1.symm, h.2.2.1.symm, h.2.1.symm, h.2.2.2.symm⟩
/-- pairs apart from each other, each lower one first -/
structure Prs (n : Nat) (ps : List (Nat × Nat)) : Prop where
  lt : ∀ p ∈ ps, p.1 < p.2 ∧ p.2 < n
  far : ps.Pairwise far
structure Prg (rows : List (List Nat)) (ps : List (Nat × Nat)) : Prop extends Prs rows.length ps where
  want : ∀ p ∈ ps, want rows p.1 p.2 = true
theorem Prs.perm {n : Nat} {ps qs : List (Nat × Nat)} (h : Prs n ps) (p : qs.Perm ps) : Prs n qs :=
  ⟨fun q hq => h.lt q (p.mem_iff.mp hq), (p.pairwise_iff far_symm).mpr h.far⟩
theorem sub_len {α : Type} [DecidableEq α] : ∀ {l m : List α}, l.Nodup → (∀ x ∈ l, x ∈ m) → l.length ≤ m.length
  | [], _, _, _ => Nat.zero_le _
  | a :: r, m, nd, h => by
    obtain ⟨h1, h2⟩ := List.nodup_cons.mp nd
    have ha := h a List.mem_cons_self
    have ih := sub_len (m := m.erase a) h2 fun x hx => (List.mem_erase_of_ne fun (e : x = a) => h1 (e ▸ hx)).mpr (h x (List.mem_cons_of_mem _ hx))
    have hp := List.length_pos_of_mem ha
    rw [List.length_erase_of_mem ha] at ih
    rw [List.length_cons]
    omega
theorem Prs.len {n : Nat} {ps : List (Nat × Nat)} (h : Prs n ps) : ps.length ≤ n := by
  have h1 : (ps.map (·.1)).Nodup := List.pairwise_map.mpr (h.far.imp fun h => h.1)
  have h2 := sub_len (m := List.range n) h1 fun x hx => by
    obtain ⟨p, hp, rfl⟩ := List.mem_map.mp hx
    have := h.lt p hp
    exact List.mem_range.mpr (by omega)
  rw [List.length_map, List.length_range] at h2
  exact h2
/-- the pairs that want each other, of a -/
def wantOf (rows : List (List Nat)) (a : Nat) : List (Nat × Nat) := ((ups (a + 1) rows.length).filter (want rows a)).map fun b => (a, b)
def wanting (rows : List (List Nat)) : List (Nat × Nat) := (List.range rows.length).flatMap (wantOf rows)
theorem wantOf_len {rows : List (List Nat)} {a : Nat} : (wantOf rows a).length ≤ rows.length := by
  unfold wantOf
  rw [List.length_map]
  refine Nat.le_trans (List.length_filter_le _ _) ?_
  unfold ups
  rw [List.length_map, List.length_range]
  omega
theorem want_len {rows : List (List Nat)} : ∀ i, ((List.range i).flatMap (wantOf rows)).length ≤ i * rows.length
  | 0 => by simp
  | i + 1 => by
    rw [List.range_succ, List.flatMap_append, List.length_append, Nat.succ_mul]
    have h1 := want_len (rows := rows) i
    have h2 := wantOf_len (rows := rows) (a := i)
    simp only [List.flatMap_cons, List.flatMap_nil, List.append_nil]
    omega
theorem mem_wanting {rows : List (List Nat)} {p : Nat × Nat} (h : p ∈ wanting rows) : p.1 < p.2 ∧ p.2 < rows.length ∧ want rows p.1 p.2 = true := by
  obtain ⟨a, _, hp⟩ := List.mem_flatMap.mp h
  obtain ⟨b, hb, rfl⟩ := List.mem_map.mp hp
  obtain ⟨h1, h2⟩ := List.mem_filter.mp hb
  have := mem_ups.mp h1
  exact ⟨by show a < b; omega, this.2, h2⟩
theorem shaped_prs (ps : List (Nat × Nat)) : SeqAt.shaped (.list (ps.map pr)) = true ∧ SeqAt.shaped (pairsD ps) = true := by
  have key : ∀ l : List (Nat × Nat), PyData.canLayAll0 (l.map pr) = true ∧ PyData.depthAll (l.map pr) ≤ 1 := fun l => by
    induction l with
    | nil => exact ⟨rfl, by simp [PyData.depthAll]⟩
    | cons a r ih =>
      rw [List.map_cons, PyData.canLayAll0, PyData.depthAll, ih.1]
      refine ⟨by simp [PyData.canLay0, PyData.canLayAll0], Nat.max_le.mpr ⟨by simp [PyData.depth, PyData.depthAll], ih.2⟩⟩
  obtain ⟨k1, k2⟩ := key ps
  unfold SeqAt.shaped
  rw [PyData.canLay0, PyData.depth, PyData.canLay0, PyData.depth, k1]
  have h : PyData.depthAll (ps.map pr) + 1 ≤ 2 := by omega
  rw [Bool.true_and]
  exact ⟨decide_eq_true (Nat.le_trans h (by decide)), decide_eq_true (Nat.le_trans h (by decide))⟩
theorem draw_pairing_srt {s : Src} {rest : Sto} {rows : List (List Nat)} (hn : rows.length ≤ 50) (ok : s.ok) :
    (LC.f_law_draw_pairing [.ref 1, .v (hallD rows)] (s.sto rest)).Ok fun d st => ∃ (ps : List (Nat × Nat)) (s' : Src), d = .v (pairsD ps) ∧ st = s'.sto rest ∧ s'.ok ∧ Prg rows ps ∧ ∃ qs, ps = sortP qs ∧ Prg rows qs := by
  refine fnT_ok ?_
  unfold LC.S_law_draw_pairing
  simp only [envE, so_seq, so_if, so_ret, so_retN, so_exp, so_nil, so_nx, so_rt, so_asg, so_asgG, so_par2, so_par3, ok_gNm, ok_gMore, ok_gNone, so_asgT, so_sub, so_for, ok_TB, ok_Tru, ok_notT, ok_andT, ok_orT, ok_andV, ok_orV, ok_notV, ok_iteE, ok_frz, ok_new, ok_mfArg, ok_mfBin, ok_lc, ok_M, ok_M0, ok_moNone, ok_moSome, ok_Sl,
  ok_bin, ok_un, ok_arg, ok_cons, ok_nil, ok_call, ok_var, ok_C, ok_ok, ok_stuck, ok_noX, bOf_bool, low_v, iOf_int, addD_int, subD_int, negD_int, ltD_int, leD_int, gtD_int, geD_int, fInt_int, isD_bool, isNotD_bool, tru_bool, List.map_cons, List.map_nil, List.length_cons, List.length_nil, List.replicate_succ, List.replicate_zero, List.cons_append, List.nil_append,
  List.append_nil, List.getElem?_cons_zero, List.getElem?_cons_succ, List.set_cons_zero, List.set_cons_succ, Option.some.injEq, exists_eq_left', exists_eq_left, true_and, and_true, true_implies, false_implies, implies_true, Bool.false_eq_true, reduceCtorEq, false_and, and_false, D.v.injEq, PyData.int.injEq, D.ref.injEq, p1i_int, p2_two, p3_three, decide_true, Bool.not_true, Bool.not_false, decide_eq_true_eq, decide_eq_false_iff_not, disp0]
  unfold LC.S_law_draw_pairing_2 LC.law_draw_pairing_E2
  simp only [envE, so_seq, so_if, so_ret, so_retN, so_exp, so_nil, so_nx, so_rt, so_asg, so_asgG, so_par2, so_par3, ok_gNm, ok_gMore, ok_gNone, so_asgT, so_sub, so_for, ok_TB, ok_Tru, ok_notT, ok_andT, ok_orT, ok_andV, ok_orV, ok_notV, ok_iteE, ok_frz, ok_new, ok_mfArg, ok_mfBin, ok_lc, ok_M, ok_M0, ok_moNone, ok_moSome, ok_Sl,
  ok_bin, ok_un, ok_arg, ok_cons, ok_nil, ok_call, ok_var, ok_C, ok_ok, ok_stuck, ok_noX, bOf_bool, low_v, iOf_int, addD_int, subD_int, negD_int, ltD_int, leD_int, gtD_int, geD_int, fInt_int, isD_bool, isNotD_bool, tru_bool, List.map_cons, List.map_nil, List.length_cons, List.length_nil, List.replicate_succ, List.replicate_zero, List.cons_append, List.nil_append,
  List.append_nil, List.getElem?_cons_zero, List.getElem?_cons_succ, List.set_cons_zero, List.set_cons_succ, Option.some.injEq, exists_eq_left', exists_eq_left, true_and, and_true, true_implies, false_implies, implies_true, Bool.false_eq_true, reduceCtorEq, false_and, and_false, D.v.injEq, PyData.int.injEq, D.ref.injEq, p1i_int, p2_two, p3_three, decide_true, Bool.not_true, Bool.not_false, decide_eq_true_eq, decide_eq_false_iff_not, ok_R1, hall0]
  refine ⟨⟨by omega, by omega⟩, ?_⟩
  rw [Int.toNat_natCast]
  have hlen : List.length (s.sto rest) = rest.length + 2 := rfl
  rw [hlen]
  refine forL_inv (fun i e st => st = s.sto rest ∧ ∃ x3 x4 x5 x6 x7, e = [some (.ref 1), some (.v (hallD rows)), some (.v (.list (((List.range i).flatMap (wantOf rows)).map pr))), x3, x4, x5, x6, x7]) _ _ _ 0 ?_ ?_ ⟨rfl, _, _, _, _, _, rfl⟩
  · rintro i d e st hd ⟨rfl, x3, x4, x5, x6, x7, rfl⟩
    obtain ⟨hi, rfl⟩ := rngI_get hd
    refine ⟨trivial, ?_⟩
    rw [Int.zero_add, Nat.zero_add]
    unfold LC.law_draw_pairing_G2 LC.law_draw_pairing_B1 LC.law_draw_pairing_E1
    simp only [envE, so_seq, so_if, so_ret, so_retN, so_exp, so_nil, so_nx, so_rt, so_asg, so_asgG, so_par2, so_par3, ok_gNm, ok_gMore, ok_gNone, so_asgT, so_sub, so_for, ok_TB, ok_Tru, ok_notT, ok_andT, ok_orT, ok_andV, ok_orV, ok_notV, ok_iteE, ok_frz, ok_new, ok_mfArg, ok_mfBin, ok_lc, ok_M, ok_M0, ok_moNone, ok_moSome, ok_Sl,
  ok_bin, ok_un, ok_arg, ok_cons, ok_nil, ok_call, ok_var, ok_C, ok_ok, ok_stuck, ok_noX, bOf_bool, low_v, iOf_int, addD_int, subD_int, negD_int, ltD_int, leD_int, gtD_int, geD_int, fInt_int, isD_bool, isNotD_bool, tru_bool, List.map_cons, List.map_nil, List.length_cons, List.length_nil, List.replicate_succ, List.replicate_zero, List.cons_append, List.nil_append,
  List.append_nil, List.getElem?_cons_zero, List.getElem?_cons_succ, List.set_cons_zero, List.set_cons_succ, Option.some.injEq, exists_eq_left', exists_eq_left, true_and, and_true, true_implies, false_implies, implies_true, Bool.false_eq_true, reduceCtorEq, false_and, and_false, D.v.injEq, PyData.int.injEq, D.ref.injEq, p1i_int, p2_two, p3_three, decide_true, Bool.not_true, Bool.not_false, decide_eq_true_eq, decide_eq_false_iff_not, ok_R2, p2i_int, hall0]
    refine ⟨⟨by omega, by omega, by omega, by omega⟩, ?_⟩
    rw [show ((i : Int) + 1) = ((i + 1 : Nat) : Int) by omega, rng_ups]
    rw [lcL_mapA _ (fun b : Nat => if want rows i b = true then some (pr (i, b)) else none), fm_filter]
    rotate_left
    · intro b hb
      have hb2 := (mem_ups.mp hb).2
      unfold LC.law_draw_pairing_G1 LC.law_draw_pairing_T1 LC.law_draw_pairing_M1
      simp only [envE, so_seq, so_if, so_ret, so_retN, so_exp, so_nil, so_nx, so_rt, so_asg, so_asgG, so_par2, so_par3, ok_gNm, ok_gMore, ok_gNone, so_asgT, so_sub, so_for, ok_TB, ok_Tru, ok_notT, ok_andT, ok_orT, ok_andV, ok_orV, ok_notV, ok_iteE, ok_frz, ok_new, ok_mfArg, ok_mfBin, ok_lc, ok_M, ok_M0, ok_moNone, ok_moSome, ok_Sl,
  ok_bin, ok_un, ok_arg, ok_cons, ok_nil, ok_call, ok_var, ok_C, ok_ok, ok_stuck, ok_noX, bOf_bool, low_v, iOf_int, addD_int, subD_int, negD_int, ltD_int, leD_int, gtD_int, geD_int, fInt_int, isD_bool, isNotD_bool, tru_bool, List.map_cons, List.map_nil, List.length_cons, List.length_nil, List.replicate_succ, List.replicate_zero, List.cons_append, List.nil_append,
  List.append_nil, List.getElem?_cons_zero, List.getElem?_cons_succ, List.set_cons_zero, List.set_cons_succ, Option.some.injEq, exists_eq_left', exists_eq_left, true_and, and_true, true_implies, false_implies, implies_true, Bool.false_eq_true, reduceCtorEq, false_and, and_false, D.v.injEq, PyData.int.injEq, D.ref.injEq, p1i_int, p2_two, p3_three, decide_true, Bool.not_true, Bool.not_false, decide_eq_true_eq, decide_eq_false_iff_not, wipeE, lwant_eq hi hb2, tup2]
      refine ⟨fun h => by rw [if_pos h]; rfl, fun h => by rw [if_neg (by rw [h]; exact Bool.false_ne_true)]⟩
    have hlen := want_len (rows := rows) (i + 1)
    have hmul : (i + 1) * rows.length ≤ 50 * 50 := Nat.mul_le_mul (by omega) hn
    have he : ((List.range (i + 1)).flatMap (wantOf rows)).map pr = ((List.range i).flatMap (wantOf rows)).map pr ++ (((ups (i + 1) rows.length).filter (want rows i)).map fun b => pr (i, b)) := by
      rw [List.range_succ, List.flatMap_append, List.map_append]
      congr 1
      simp only [List.flatMap_cons, List.flatMap_nil, List.append_nil]
      unfold wantOf
      rw [List.map_map]
      rfl
    have hl2 := congrArg List.length he
    rw [List.length_append, List.length_map] at hl2
    rw [ok_ok, cat_list (by omega), ok_ok, he]
    exact ⟨rfl, _, _, _, _, _, rfl⟩
  · rintro e st ⟨rfl, x3, x4, x5, x6, x7, rfl⟩
    refine ⟨trivial, ?_⟩
    rw [show (rngI 0 rows.length).length = rows.length by unfold rngI; rw [List.length_map, List.length_range], Nat.zero_add]
    show (LC.S_law_draw_pairing_3 [some (.ref 1), some (.v (hallD rows)), some (.v (.list ((wanting rows).map pr))), x3, x4, x5, x6, x7] (s.sto rest)).Ok _ _
    have hwl : (wanting rows).length ≤ 50 * 50 := Nat.le_trans (want_len _) (Nat.mul_le_mul hn hn)
    unfold LC.S_law_draw_pairing_3
    simp only [envE, so_seq, so_if, so_ret, so_retN, so_exp, so_nil, so_nx, so_rt, so_asg, so_asgG, so_par2, so_par3, ok_gNm, ok_gMore, ok_gNone, so_asgT, so_sub, so_for, ok_TB, ok_Tru, ok_notT, ok_andT, ok_orT, ok_andV, ok_orV, ok_notV, ok_iteE, ok_frz, ok_new, ok_mfArg, ok_mfBin, ok_lc, ok_M, ok_M0, ok_moNone, ok_moSome, ok_Sl,
  ok_bin, ok_un, ok_arg, ok_cons, ok_nil, ok_call, ok_var, ok_C, ok_ok, ok_stuck, ok_noX, bOf_bool, low_v, iOf_int, addD_int, subD_int, negD_int, ltD_int, leD_int, gtD_int, geD_int, fInt_int, isD_bool, isNotD_bool, tru_bool, List.map_cons, List.map_nil, List.length_cons, List.length_nil, List.replicate_succ, List.replicate_zero, List.cons_append, List.nil_append,
  List.append_nil, List.getElem?_cons_zero, List.getElem?_cons_succ, List.set_cons_zero, List.set_cons_succ, Option.some.injEq, exists_eq_left', exists_eq_left, true_and, and_true, true_implies, false_implies, implies_true, Bool.false_eq_true, reduceCtorEq, false_and, and_false, D.v.injEq, PyData.int.injEq, D.ref.injEq, p1i_int, p2_two, p3_three, decide_true, Bool.not_true, Bool.not_false, decide_eq_true_eq, decide_eq_false_iff_not, disp0, sto_app]
    unfold LC.S_law_draw_pairing_4 LC.law_draw_pairing_E4
    simp only [envE, so_seq, so_if, so_ret, so_retN, so_exp, so_nil, so_nx, so_rt, so_asg, so_asgG, so_par2, so_par3, ok_gNm, ok_gMore, ok_gNone, so_asgT, so_sub, so_for, ok_TB, ok_Tru, ok_notT, ok_andT, ok_orT, ok_andV, ok_orV, ok_notV, ok_iteE, ok_frz, ok_new, ok_mfArg, ok_mfBin, ok_lc, ok_M, ok_M0, ok_moNone, ok_moSome, ok_Sl,
  ok_bin, ok_un, ok_arg, ok_cons, ok_nil, ok_call, ok_var, ok_C, ok_ok, ok_stuck, ok_noX, bOf_bool, low_v, iOf_int, addD_int, subD_int, negD_int, ltD_int, leD_int, gtD_int, geD_int, fInt_int, isD_bool, isNotD_bool, tru_bool, List.map_cons, List.map_nil, List.length_cons, List.length_nil, List.replicate_succ, List.replicate_zero, List.cons_append, List.nil_append,
  List.append_nil, List.getElem?_cons_zero, List.getElem?_cons_succ, List.set_cons_zero, List.set_cons_succ, Option.some.injEq, exists_eq_left', exists_eq_left, true_and, and_true, true_implies, false_implies, implies_true, Bool.false_eq_true, reduceCtorEq, false_and, and_false, D.v.injEq, PyData.int.injEq, D.ref.injEq, p1i_int, p2_two, p3_three, decide_true, Bool.not_true, Bool.not_false, decide_eq_true_eq, decide_eq_false_iff_not, ok_seq]
    have hwl2 : ((wanting rows).map pr).length ≤ 1000000 := by
      rw [List.length_map]
      exact Nat.le_trans hwl (by decide)
    have hv : viewS (s.sto (rest ++ [.lst []])) (.v (.list ((wanting rows).map pr))) = some ((wanting rows).map pr) := viewS_list
    have hsh := shufA s (rest ++ [.lst []]) (.v (.list ((wanting rows).map pr))) ((wanting rows).map pr) ok hv hwl2
    refine hsh.mono ?_
    rintro _ _ ⟨ys, s2, rfl, rfl, ok2, hp⟩
    obtain ⟨cs, rfl, hp2⟩ := perm_unmap hp rfl
    clear hp
    simp only [seqW_list, ok_ok, List.map_map]
    refine forL_inv (fun i e st => ∃ (s3 : Src) (ps : List (Nat × Nat)), s3.ok ∧ st = s3.sto (rest ++ [.lst (ps.map pr)]) ∧ Prg rows ps ∧ ∃ x3 x4 x6 x7, e = [some (.ref 1), some (.v (hallD rows)), some (.v (.list ((wanting rows).map pr))), x3, x4, some (.ref (rest.length + 2)), x6, x7]) _ _ _ 0 ?_ ?_
      ⟨s2, [], ok2, rfl, ⟨⟨fun p z => (nomatch z), .nil⟩, fun p z => nomatch z⟩, _, _, _, _, rfl⟩
    · rintro i d e st hd ⟨s3, ps, ok3, rfl, hps, x3, x4, x6, x7, rfl⟩
      rw [List.getElem?_map] at hd
      obtain ⟨p, hpi, rfl⟩ := Option.map_eq_some_iff.mp hd
      have hpm := mem_wanting (hp2.mem_iff.mp (List.mem_of_getElem? hpi))
      refine ⟨trivial, ?_⟩
      unfold LC.law_draw_pairing_G4 LC.law_draw_pairing_B2 LC.law_draw_pairing_E3
      show (gNm 6 (.one (.v (pr p))) _ _).Ok _
      simp only [envE, so_seq, so_if, so_ret, so_retN, so_exp, so_nil, so_nx, so_rt, so_asg, so_asgG, so_par2, so_par3, ok_gNm, ok_gMore, ok_gNone, so_asgT, so_sub, so_for, ok_TB, ok_Tru, ok_notT, ok_andT, ok_orT, ok_andV, ok_orV, ok_notV, ok_iteE, ok_frz, ok_new, ok_mfArg, ok_mfBin, ok_lc, ok_M, ok_M0, ok_moNone, ok_moSome, ok_Sl,
  ok_bin, ok_un, ok_arg, ok_cons, ok_nil, ok_call, ok_var, ok_C, ok_ok, ok_stuck, ok_noX, bOf_bool, low_v, iOf_int, addD_int, subD_int, negD_int, ltD_int, leD_int, gtD_int, geD_int, fInt_int, isD_bool, isNotD_bool, tru_bool, List.map_cons, List.map_nil, List.length_cons, List.length_nil, List.replicate_succ, List.replicate_zero, List.cons_append, List.nil_append,
  List.append_nil, List.getElem?_cons_zero, List.getElem?_cons_succ, List.set_cons_zero, List.set_cons_succ, Option.some.injEq, exists_eq_left', exists_eq_left, true_and, and_true, true_implies, false_implies, implies_true, Bool.false_eq_true, reduceCtorEq, false_and, and_false, D.v.injEq, PyData.int.injEq, D.ref.injEq, p1i_int, p2_two, p3_three, decide_true, Bool.not_true, Bool.not_false, decide_eq_true_eq, decide_eq_false_iff_not, ok_seq]
      rw [seqW_ref sto_at, ok_ok]
      have hc : chk (some (rest.length + 2, ps.map pr)) (s3.sto (rest ++ [.lst (ps.map pr)])) := sto_at
      rw [List.map_map, lcL_mapW _ (fun q : Nat × Nat => if decide (q.1 = p.1 ∨ q.1 = p.2) || decide (q.2 = p.1 ∨ q.2 = p.2) then some (pr q) else none) hc, fm_filter]
      rotate_left
      · intro q hq
        unfold LC.law_draw_pairing_G3 LC.law_draw_pairing_T2 LC.law_draw_pairing_M2
        show (gNm 7 (.one (.v (pr q))) _ _).Ok _
        simp only [envE, so_seq, so_if, so_ret, so_retN, so_exp, so_nil, so_nx, so_rt, so_asg, so_asgG, so_par2, so_par3, ok_gNm, ok_gMore, ok_gNone, so_asgT, so_sub, so_for, ok_TB, ok_Tru, ok_notT, ok_andT, ok_orT, ok_andV, ok_orV, ok_notV, ok_iteE, ok_frz, ok_new, ok_mfArg, ok_mfBin, ok_lc, ok_M, ok_M0, ok_moNone, ok_moSome, ok_Sl,
  ok_bin, ok_un, ok_arg, ok_cons, ok_nil, ok_call, ok_var, ok_C, ok_ok, ok_stuck, ok_noX, bOf_bool, low_v, iOf_int, addD_int, subD_int, negD_int, ltD_int, leD_int, gtD_int, geD_int, fInt_int, isD_bool, isNotD_bool, tru_bool, List.map_cons, List.map_nil, List.length_cons, List.length_nil, List.replicate_succ, List.replicate_zero, List.cons_append, List.nil_append,
  List.append_nil, List.getElem?_cons_zero, List.getElem?_cons_succ, List.set_cons_zero, List.set_cons_succ, Option.some.injEq, exists_eq_left', exists_eq_left, true_and, and_true, true_implies, false_implies, implies_true, Bool.false_eq_true, reduceCtorEq, false_and, and_false, D.v.injEq, PyData.int.injEq, D.ref.injEq, p1i_int, p2_two, p3_three, decide_true, Bool.not_true, Bool.not_false, decide_eq_true_eq, decide_eq_false_iff_not, wipeE, pair0, pair1, pair_in]
        by_cases h1 : q.1 = p.1 ∨ q.1 = p.2 <;> by_cases h2 : q.2 = p.1 ∨ q.2 = p.2 <;> simp [h1, h2]
      generalize hnear : ps.filter (fun q => decide (q.1 = p.1 ∨ q.1 = p.2) || decide (q.2 = p.1 ∨ q.2 = p.2)) = near
      rw [ok_ok, disp0, ok_ok, eq_nilL (shaped_prs near).1, ok_ok]
      refine ⟨_, rfl, fun hk => ?_, fun _ => ⟨s3, ps, ok3, rfl, hps, _, _, _, _, rfl⟩⟩
      refine (pickA_ok s3 (rest ++ [.lst (ps.map pr)]) 4 (by omega) ok3).mono ?_
      rintro _ _ ⟨r, s4, rfl, rfl, ok4, _, _, _⟩
      simp only [envE, so_seq, so_if, so_ret, so_retN, so_exp, so_nil, so_nx, so_rt, so_asg, so_asgG, so_par2, so_par3, ok_gNm, ok_gMore, ok_gNone, so_asgT, so_sub, so_for, ok_TB, ok_Tru, ok_notT, ok_andT, ok_orT, ok_andV, ok_orV, ok_notV, ok_iteE, ok_frz, ok_new, ok_mfArg, ok_mfBin, ok_lc, ok_M, ok_M0, ok_moNone, ok_moSome, ok_Sl,
  ok_bin, ok_un, ok_arg, ok_cons, ok_nil, ok_call, ok_var, ok_C, ok_ok, ok_stuck, ok_noX, bOf_bool, low_v, iOf_int, addD_int, subD_int, negD_int, ltD_int, leD_int, gtD_int, geD_int, fInt_int, isD_bool, isNotD_bool, tru_bool, List.map_cons, List.map_nil, List.length_cons, List.length_nil, List.replicate_succ, List.replicate_zero, List.cons_append, List.nil_append,
  List.append_nil, List.getElem?_cons_zero, List.getElem?_cons_succ, List.set_cons_zero, List.set_cons_succ, Option.some.injEq, exists_eq_left', exists_eq_left, true_and, and_true, true_implies, false_implies, implies_true, Bool.false_eq_true, reduceCtorEq, false_and, and_false, D.v.injEq, PyData.int.injEq, D.ref.injEq, p1i_int, p2_two, p3_three, decide_true, Bool.not_true, Bool.not_false, decide_eq_true_eq, decide_eq_false_iff_not]
      refine ⟨fun _ => ⟨isL_ref sto_at, ?_⟩, fun _ => ⟨s4, ps, ok4, rfl, hps, _, _, _, _, rfl⟩⟩
      have hlp := hps.len
      rw [append_at sto_at (by rw [List.length_map]; omega), ok_ok, sto_set]
      have hfar : ∀ q ∈ ps, far q p := fun q hq => by
        have hno : near = [] := by
          cases near with
          | nil => rfl
          | cons a r => exact absurd hk (by simp)
        have h := List.filter_eq_nil_iff.mp (hnear.trans hno) q hq
        simp at h
        exact ⟨h.1.1, h.1.2, h.2.1, h.2.2⟩
      refine ⟨s4, ps ++ [p], ok4, by rw [List.map_append]; rfl, ⟨⟨fun q hq => ?_, ?_⟩, fun q hq => ?_⟩, _, _, _, _, rfl⟩
      · rcases List.mem_append.mp hq with hq | hq
        · exact hps.lt q hq
        · rw [List.mem_singleton.mp hq]; exact ⟨hpm.1, hpm.2.1⟩
      · exact List.pairwise_append.mpr ⟨hps.far, List.pairwise_singleton _ _, fun q hq z hz => by rw [List.mem_singleton.mp hz]; exact hfar q hq⟩
      · rcases List.mem_append.mp hq with hq | hq
        · exact hps.want q hq
        · rw [List.mem_singleton.mp hq]; exact hpm.2.2
    · rintro e st ⟨s3, ps, ok3, rfl, hps, x3, x4, x6, x7, rfl⟩
      refine ⟨trivial, ?_⟩
      unfold LC.S_law_draw_pairing_5
      have hl := hps.len
      have hso : gSort [.ref (rest.length + 2)] (s3.sto (rest ++ [.lst (ps.map pr)])) = .ok ((sortP ps).map pr) (s3.sto (rest ++ [.lst (ps.map pr)])) := by
        refine Eq.trans ?_ (sort_pairs (l := ps) (st := s3.sto (rest ++ [.lst (ps.map pr)])) (by omega) fun p hp => by have := hps.lt p hp; omega)
        have e : viewL (s3.sto (rest ++ [.lst (ps.map pr)])) (.ref (rest.length + 2)) = viewL (s3.sto (rest ++ [.lst (ps.map pr)])) (.v (.list (ps.map pr))) := viewS_ref sto_at
        unfold gSort
        simp only [e]
      simp only [envE, so_seq, so_if, so_ret, so_retN, so_exp, so_nil, so_nx, so_rt, so_asg, so_asgG, so_par2, so_par3, ok_gNm, ok_gMore, ok_gNone, so_asgT, so_sub, so_for, ok_TB, ok_Tru, ok_notT, ok_andT, ok_orT, ok_andV, ok_orV, ok_notV, ok_iteE, ok_frz, ok_new, ok_mfArg, ok_mfBin, ok_lc, ok_M, ok_M0, ok_moNone, ok_moSome, ok_Sl,
  ok_bin, ok_un, ok_arg, ok_cons, ok_nil, ok_call, ok_var, ok_C, ok_ok, ok_stuck, ok_noX, bOf_bool, low_v, iOf_int, addD_int, subD_int, negD_int, ltD_int, leD_int, gtD_int, geD_int, fInt_int, isD_bool, isNotD_bool, tru_bool, List.map_cons, List.map_nil, List.length_cons, List.length_nil, List.replicate_succ, List.replicate_zero, List.cons_append, List.nil_append,
  List.append_nil, List.getElem?_cons_zero, List.getElem?_cons_succ, List.set_cons_zero, List.set_cons_succ, Option.some.injEq, exists_eq_left', exists_eq_left, true_and, and_true, true_implies, false_implies, implies_true, Bool.false_eq_true, reduceCtorEq, false_and, and_false, D.v.injEq, PyData.int.injEq, D.ref.injEq, p1i_int, p2_two, p3_three, decide_true, Bool.not_true, Bool.not_false, decide_eq_true_eq, decide_eq_false_iff_not, hso, tup_list]
      have hp := sortP_perm ps
      exact ⟨sortP ps, s3, rfl, sto_take (more := [.lst (ps.map pr)]), ok3, ⟨hps.toPrs.perm hp, fun p hq => hps.want p (hp.mem_iff.mp hq)⟩, ps, rfl, hps⟩
theorem draw_pairing_ok {s : Src} {rest : Sto} {rows : List (List Nat)} (hn : rows.length ≤ 50) (ok : s.ok) :
    (LC.f_law_draw_pairing [.ref 1, .v (hallD rows)] (s.sto rest)).Ok fun d st => ∃ (ps : List (Nat × Nat)) (s' : Src), d = .v (pairsD ps) ∧ st = s'.sto rest ∧ s'.ok ∧ Prg rows ps :=
  (draw_pairing_srt hn ok).mono fun _ _ ⟨ps, s', h1, h2, h3, h4, _⟩ => ⟨ps, s', h1, h2, h3, h4⟩
end Fw.Hl

/-! ### who breaks, who is with whom -/
namespace Fw.Hl
open Fw
section
variable {rows : List (List Nat)} {ps : List (Nat × Nat)} {a b c p q x n : Nat} {L : List Nat} {side : Nat → Bool}
def Br (rows : List (List Nat)) (ps : List (Nat × Nat)) (a b : Nat) : Prop := want rows a b = true ∧ rather rows a b (partner ps a) = true ∧ rather rows b a (partner ps b) = true
theorem want_symm : want rows a b = want rows b a := by
  unfold want
  rw [Bool.and_comm]
theorem Br.symm (h : Br rows ps a b) : Br rows ps b a := ⟨want_symm ▸ h.1, h.2.2, h.2.1⟩
theorem Br.row (h : Br rows ps a b) : b ∈ row rows a ∧ a ∈ row rows b := want_row h.1
theorem rather_iff {o : Option Nat} (hb : b ∈ row rows a) : rather rows a b o = true ↔ place rows a (some b) < place rows a o := by
  rw [← place_lt hb, decide_eq_true_eq]
  omega
theorem mem_brk : (a, b) ∈ breaking rows ps ↔ a < b ∧ b < rows.length ∧ Br rows ps a b := by
  unfold breaking
  rw [List.mem_flatMap]
  constructor
  · rintro ⟨a', ha', h⟩
    unfold brkOf at h
    obtain ⟨b', hb', e⟩ := List.mem_map.mp h
    cases e
    obtain ⟨h1, h2⟩ := List.mem_filter.mp hb'
    obtain ⟨h3, h4⟩ := List.mem_filter.mp h1
    have h5 := mem_ups.mp h3
    unfold brk at h2
    rw [Bool.and_eq_true] at h2
    exact ⟨by omega, h5.2, h4, h2.1, h2.2⟩
  · rintro ⟨h1, h2, h3, h4, h5⟩
    refine ⟨a, List.mem_range.mpr (by omega), List.mem_map.mpr ⟨b, List.mem_filter.mpr ⟨List.mem_filter.mpr ⟨mem_ups.mpr ⟨by omega, h2⟩, h3⟩, ?_⟩, rfl⟩⟩
    unfold brk
    rw [h4, h5]
    rfl
theorem far_of {l : List (Nat × Nat)} (h : l.Pairwise far) : ∀ {p q}, p ∈ l → q ∈ l → p = q ∨ far p q := by
  induction l with
  | nil => exact fun hp => nomatch hp
  | cons a r ih =>
    intro p q hp hq
    obtain ⟨h1, h2⟩ := List.pairwise_cons.mp h
    rcases List.mem_cons.mp hp with e1 | hp
    · rcases List.mem_cons.mp hq with e2 | hq
      · exact .inl (e1.trans e2.symm)
      · exact .inr (e1 ▸ h1 q hq)
    · rcases List.mem_cons.mp hq with e2 | hq
      · exact .inr (e2 ▸ far_symm (h1 p hp))
      · exact ih h2 hp hq
theorem partner_iff (h : Prs n ps) : partner ps a = some c ↔ (a, c) ∈ ps ∨ (c, a) ∈ ps := by
  unfold partner
  rw [Option.map_eq_some_iff]
  constructor
  · rintro ⟨p, hp, e⟩
    have hm := List.mem_of_find?_eq_some hp
    have ha : a = p.1 ∨ a = p.2 := by simpa using List.find?_some hp
    by_cases h1 : a = p.1
    · rw [if_pos h1] at e
      left
      rw [h1, ← e]
      exact hm
    · rw [if_neg h1] at e
      right
      rw [← e, ha.resolve_left h1]
      exact hm
  · intro hm
    have hex : ∃ q ∈ ps, decide (a = q.1 ∨ a = q.2) = true ∧ (q = (a, c) ∨ q = (c, a)) := by
      rcases hm with hm | hm
      · exact ⟨_, hm, by simp, .inl rfl⟩
      · exact ⟨_, hm, by simp, .inr rfl⟩
    obtain ⟨q, hq, hqa, hqe⟩ := hex
    cases hf : ps.find? (fun p => decide (a = p.1 ∨ a = p.2)) with
    | none => exact absurd hqa (List.find?_eq_none.mp hf q hq)
    | some r =>
      have hr := List.mem_of_find?_eq_some hf
      have hra : a = r.1 ∨ a = r.2 := by simpa using List.find?_some hf
      have hqa : a = q.1 ∨ a = q.2 := by simpa using hqa
      have hrq : r = q := by
        rcases far_of h.far hr hq with e | e
        · exact e
        · obtain ⟨e1, e2, e3, e4⟩ := e
          rcases hra with u | u <;> rcases hqa with w | w
          · exact absurd (u.symm.trans w) e1
          · exact absurd (u.symm.trans w) e2
          · exact absurd (u.symm.trans w) e3
          · exact absurd (u.symm.trans w) e4
      refine ⟨r, rfl, ?_⟩
      have hlt := h.lt q hq
      rw [hrq]
      rcases hqe with e | e
      · rw [e, if_pos rfl]
      · rw [e] at hlt ⊢
        rw [if_neg (by show ¬ a = c; have := hlt.1; have : c < a := this; omega)]
theorem partner_symm (h : Prs n ps) (e : partner ps a = some c) : partner ps c = some a := (partner_iff h).mpr ((partner_iff h).mp e).symm
theorem partner_ne (h : Prs n ps) (e : partner ps a = some c) : a ≠ c := by
  rcases (partner_iff h).mp e with m | m
  · have := (h.lt _ m).1; intro q; rw [q] at this; exact absurd this (Nat.lt_irrefl _)
  · have := (h.lt _ m).1; intro q; rw [q] at this; exact absurd this (Nat.lt_irrefl _)
theorem partner_want (h : Prg rows ps) (e : partner ps a = some c) : want rows a c = true := by
  rcases (partner_iff h.toPrs).mp e with m | m
  · exact h.want _ m
  · rw [want_symm]; exact h.want _ m
theorem row_len (H : Hall rows) : (row rows a).length ≤ rows.length := by
  have := sub_len (m := List.range rows.length) (H.nd a) fun x hx => List.mem_range.mpr (H.mem hx).1
  rw [List.length_range] at this
  exact this
end
end Fw.Hl

/-! ### asking in turn: one side asks down its lists, the other one holds the best -/
namespace Fw.Da
open Fw Fw.Hl
section
variable {rows : List (List Nat)} {μ : List (Nat × Nat)} {S : List Nat} {a b m w x y : Nat} {sd : Nat → Bool}
def wr (rows : List (List Nat)) (a : Nat) : List Nat := (row rows a).filter (want rows a)
theorem mem_wr : b ∈ wr rows a ↔ want rows a b = true := by
  unfold wr
  rw [List.mem_filter]
  exact ⟨fun h => h.2, fun h => ⟨(want_row h).1, h⟩⟩
theorem place_row (h : b ∈ row rows a) : place rows a (some b) = (row rows a).idxOf b := if_pos h
/-- the places go up along a list -/
theorem up_idx : ∀ {l : List Nat}, l.Nodup → l.Pairwise fun x y => l.idxOf x < l.idxOf y
  | [], _ => .nil
  | c :: r, nd => by
    obtain ⟨h1, h2⟩ := List.nodup_cons.mp nd
    have ne : ∀ {z}, z ∈ r → (c :: r).idxOf z = r.idxOf z + 1 := fun {z} hz => by
      have hcz : c ≠ z := fun e => h1 (e ▸ hz)
      rw [List.idxOf_cons, show (c == z) = false by simpa using hcz]
      rfl
    refine List.pairwise_cons.mpr ⟨fun z hz => ?_, ?_⟩
    · rw [List.idxOf_cons_self, ne hz]
      exact Nat.succ_pos _
    · refine (up_idx h2).imp_of_mem fun {u v} hu hv huv => ?_
      rw [ne hu, ne hv]
      omega
theorem wr_up (H : Hall rows) : (wr rows a).Pairwise fun x y => place rows a (some x) < place rows a (some y) := by
  have h := (up_idx (H.nd a)).filter (want rows a)
  refine h.imp_of_mem fun {u v} hu hv huv => ?_
  rw [place_row (List.mem_filter.mp hu).1, place_row (List.mem_filter.mp hv).1]
  exact huv
theorem wr_at (H : Hall rows) {i j : Nat} {u v : Nat} (hi : (wr rows a)[i]? = some u) (hj : (wr rows a)[j]? = some v) (h : i < j) : place rows a (some u) < place rows a (some v) := by
  obtain ⟨h1, rfl⟩ := List.getElem?_eq_some_iff.mp hi
  obtain ⟨h2, rfl⟩ := List.getElem?_eq_some_iff.mp hj
  exact List.pairwise_iff_getElem.mp (wr_up H) i j h1 h2 h
theorem wr_idx (h : want rows a b = true) : ∃ i : Nat, (wr rows a)[i]? = some b := List.getElem?_of_mem (mem_wr.mpr h)
structure Two (rows : List (List Nat)) (sd : Nat → Bool) (S : List Nat) : Prop where
  hall : Hall rows
  two : ∀ {a b}, b ∈ row rows a → sd b = !sd a
  nd : S.Nodup
  mem : ∀ {a}, a ∈ S ↔ a < rows.length ∧ sd a = true
/-- who holds whom: (w, m): w holds m -/
abbrev Held := List (Nat × Nat)
structure St (rows : List (List Nat)) (S : List Nat) (ask : Nat → Nat) (hd : Held) (free : List Nat) : Prop where
  keys : (hd.map (·.1)).Nodup
  fnd : free.Nodup
  fin : ∀ {m}, m ∈ free → m ∈ S
  held : ∀ {w m}, (w, m) ∈ hd → m ∈ S ∧ ¬ m ∈ free ∧ 0 < ask m ∧ (wr rows m)[ask m - 1]? = some w
  done : ∀ {m}, m ∈ S → ¬ m ∈ free → (∃ w, (w, m) ∈ hd) ∨ (wr rows m).length ≤ ask m
  le : ∀ {m}, ask m ≤ (wr rows m).length
  asked : ∀ {m}, m ∈ S → ∀ {j w}, j < ask m → (wr rows m)[j]? = some w → ∃ m', (w, m') ∈ hd ∧ (m' = m ∨ place rows w (some m') < place rows w (some m))
  opt : ∀ {μ}, Prg rows μ → breaking rows μ = [] → ∀ {m}, m ∈ S → ∀ {j w}, j < ask m → (wr rows m)[j]? = some w → ¬ (w, m) ∈ hd → partner μ m ≠ some w
theorem key_uniq {hd : Held} (h : (hd.map (·.1)).Nodup) {w m m' : Nat} (h1 : (w, m) ∈ hd) (h2 : (w, m') ∈ hd) : m = m' := by
  induction hd with
  | nil => cases h1
  | cons p r ih =>
    rw [List.map_cons] at h
    obtain ⟨h3, h4⟩ := List.nodup_cons.mp h
    rcases List.mem_cons.mp h1 with e1 | h1 <;> rcases List.mem_cons.mp h2 with e2 | h2
    · have := e1.trans e2.symm; exact congrArg (·.2) this
    · exact absurd (List.mem_map_of_mem (f := (·.1)) h2) (by rw [← e1] at h3; exact h3)
    · exact absurd (List.mem_map_of_mem (f := (·.1)) h1) (by rw [← e2] at h3; exact h3)
    · exact ih h4 h1 h2
theorem start (nd : S.Nodup) : St rows S (fun _ => 0) [] S :=
  ⟨.nil, nd, id, (fun h => nomatch h), fun h1 h2 => absurd h1 h2, Nat.zero_le _, (by intro m _ j w h; exact absurd h (Nat.not_lt_zero _)), (by intro μ _ _ m _ j w h; exact absurd h (Nat.not_lt_zero _))⟩
def inc (ask : Nat → Nat) (a : Nat) : Nat → Nat := fun x => if x = a then ask x + 1 else ask x
theorem inc_same {ask : Nat → Nat} : inc ask a a = ask a + 1 := if_pos rfl
theorem inc_ne {ask : Nat → Nat} (h : x ≠ a) : inc ask a x = ask x := if_neg h
variable {ask : Nat → Nat} {hd : Held} {free : List Nat}
/-- nobody of a calm pairing is with whom let them go -/
theorem let_go (T : Two rows sd S) {h r : Nat} (hs : h ∈ S) (k : Nat) (hk : (wr rows h)[k]? = some w) (before : ∀ {μ}, Prg rows μ → breaking rows μ = [] → ∀ {j v}, j < k → (wr rows h)[j]? = some v → partner μ h ≠ some v)
    (better : place rows w (some h) < place rows w (some r)) (pμ : Prg rows μ) (bμ : breaking rows μ = []) : partner μ r ≠ some w := fun e => by
  have e2 := partner_symm pμ.toPrs e
  have hwant : want rows h w = true := mem_wr.mp (List.mem_of_getElem? hk)
  have hrow := want_row hwant
  have hrw := want_row (partner_want pμ e2)
  have hne : h ≠ r := fun z => by rw [z] at better; exact Nat.lt_irrefl _ better
  have h1 : rather rows w h (partner μ w) = true := by rw [e2]; exact (rather_iff hrow.2).mpr better
  have h2 : rather rows h w (partner μ h) = true := by
    refine (rather_iff hrow.1).mpr ?_
    cases q : partner μ h with
    | none =>
      rw [place_row hrow.1]
      exact List.idxOf_lt_length_of_mem hrow.1
    | some v =>
      have hwv := partner_want pμ q
      obtain ⟨j, hj⟩ := wr_idx hwv
      rcases Nat.lt_trichotomy j k with c | c | c
      · exact absurd q (before pμ bμ c hj)
      · subst c
        rw [hk] at hj
        cases hj
        have := partner_symm pμ.toPrs q
        rw [e2] at this
        exact absurd (Option.some.inj this) (fun z => hne z.symm)
      · exact wr_at T.hall hk hj c
  have hB : Br rows μ h w := ⟨hwant, h2, h1⟩
  have hh := (T.hall.mem hrow.2).1
  have hw := (T.hall.mem hrow.1).1
  have hnw := (T.hall.mem hrow.1).2
  by_cases c : h < w
  · have := mem_brk.mpr ⟨c, hw, hB⟩
    rw [bμ] at this
    cases this
  · have := mem_brk.mpr ⟨by omega, hh, hB.symm⟩
    rw [bμ] at this
    cases this
/-- one who asked all: nothing changes -/
theorem stay (s : St rows S ask hd (free ++ [a])) (h : (wr rows a).length ≤ ask a) : St rows S ask hd free := by
  have nf := List.nodup_append.mp s.fnd
  refine ⟨s.keys, nf.1, fun h => s.fin (List.mem_append_left _ h), fun h => ?_, fun {m} hm hf => ?_, s.le, s.asked, s.opt⟩
  · obtain ⟨h1, h2, h3, h4⟩ := s.held h
    exact ⟨h1, fun z => h2 (List.mem_append_left _ z), h3, h4⟩
  · by_cases e : m = a
    · subst e; exact .inr h
    · exact s.done hm fun z => (List.mem_append.mp z).elim hf fun z => e (List.mem_singleton.mp z)
/-- a asks w -/
structure Ask (rows : List (List Nat)) (S : List Nat) (ask : Nat → Nat) (hd : Held) (free : List Nat) (a w : Nat) : Prop where
  st : St rows S ask hd (free ++ [a])
  ask : (wr rows a)[ask a]? = some w
/-- w holds nobody yet -/
theorem take_new (T : Two rows sd S) (A : Ask rows S ask hd free a w) (hno : ∀ m, ¬ (w, m) ∈ hd) : St rows S (inc ask a) (hd ++ [(w, a)]) free := by
  have s := A.st
  have nf := List.nodup_append.mp s.fnd
  have naf : ¬ a ∈ free := fun z => nf.2.2 a z a (List.mem_singleton_self _) rfl
  have aS : a ∈ S := s.fin (List.mem_append_right _ (List.mem_singleton_self _))
  have hlt := (List.getElem?_eq_some_iff.mp A.ask).1
  have nah : ∀ {v}, ¬ (v, a) ∈ hd := fun h => (s.held h).2.1 (List.mem_append_right _ (List.mem_singleton_self _))
  have old : ∀ {m j}, j < inc ask a m → (m = a ∧ j = ask a) ∨ j < ask m := fun {m j} h => by
    by_cases e : m = a
    · subst e; rw [inc_same] at h; by_cases q : j = ask m
      · exact .inl ⟨rfl, q⟩
      · exact .inr (by omega)
    · rw [inc_ne e] at h; exact .inr h
  refine ⟨?_, nf.1, fun h => s.fin (List.mem_append_left _ h), fun {v m} h => ?_, fun {m} hm hf => ?_, fun {m} => ?_, fun {m} hm {j v} hj hv => ?_, fun {μ} pμ bμ {m} hm {j v} hj hv hn => ?_⟩
  · rw [List.map_append]
    refine List.nodup_append.mpr ⟨s.keys, by simp, fun u hu v hv => ?_⟩
    obtain ⟨p, hp, rfl⟩ := List.mem_map.mp hu
    have hv : v = w := by simpa using hv
    rw [hv]
    exact fun e => hno p.2 (by rw [← e]; exact hp)
  · rcases List.mem_append.mp h with h | h
    · obtain ⟨h1, h2, h3, h4⟩ := s.held h
      have hma : m ≠ a := fun e => nah (e ▸ h)
      rw [inc_ne hma]
      exact ⟨h1, fun z => h2 (List.mem_append_left _ z), h3, h4⟩
    · cases List.mem_singleton.mp h
      rw [inc_same]
      exact ⟨aS, naf, Nat.succ_pos _, A.ask⟩
  · by_cases e : m = a
    · subst e; exact .inl ⟨w, List.mem_append_right _ (List.mem_singleton_self _)⟩
    · rw [inc_ne e]
      exact (s.done hm fun z => (List.mem_append.mp z).elim hf fun z => e (List.mem_singleton.mp z)).imp (fun ⟨v, h⟩ => ⟨v, List.mem_append_left _ h⟩) id
  · by_cases e : m = a
    · subst e; rw [inc_same]; omega
    · rw [inc_ne e]; exact s.le
  · rcases old hj with ⟨rfl, rfl⟩ | hj
    · rw [A.ask] at hv; cases hv
      exact ⟨m, List.mem_append_right _ (List.mem_singleton_self _), .inl rfl⟩
    · obtain ⟨m', h1, h2⟩ := s.asked hm hj hv
      exact ⟨m', List.mem_append_left _ h1, h2⟩
  · rcases old hj with ⟨rfl, rfl⟩ | hj
    · rw [A.ask] at hv; cases hv
      exact absurd (List.mem_append_right _ (List.mem_singleton_self _)) hn
    · exact s.opt pμ bμ hm hj hv fun z => hn (List.mem_append_left _ z)
/-- w keeps whom it holds -/
theorem keep (T : Two rows sd S) (A : Ask rows S ask hd free a w) {h : Nat} (hh : (w, h) ∈ hd) (hb : place rows w (some h) < place rows w (some a)) : St rows S (inc ask a) hd (free ++ [a]) := by
  have s := A.st
  have aS : a ∈ S := s.fin (List.mem_append_right _ (List.mem_singleton_self _))
  have hlt := (List.getElem?_eq_some_iff.mp A.ask).1
  have nah : ∀ {v}, ¬ (v, a) ∈ hd := fun h => (s.held h).2.1 (List.mem_append_right _ (List.mem_singleton_self _))
  have old : ∀ {m j}, j < inc ask a m → (m = a ∧ j = ask a) ∨ j < ask m := fun {m j} h => by
    by_cases e : m = a
    · subst e; rw [inc_same] at h; by_cases q : j = ask m
      · exact .inl ⟨rfl, q⟩
      · exact .inr (by omega)
    · rw [inc_ne e] at h; exact .inr h
  refine ⟨s.keys, s.fnd, s.fin, fun {v m} h => ?_, fun {m} hm hf => ?_, fun {m} => ?_, fun {m} hm {j v} hj hv => ?_, fun {μ} pμ bμ {m} hm {j v} hj hv hn => ?_⟩
  · have hma : m ≠ a := fun e => nah (e ▸ h)
    rw [inc_ne hma]
    exact s.held h
  · have e : m ≠ a := fun e => hf (e ▸ List.mem_append_right _ (List.mem_singleton_self _))
    rw [inc_ne e]
    exact s.done hm hf
  · by_cases e : m = a
    · subst e; rw [inc_same]; omega
    · rw [inc_ne e]; exact s.le
  · rcases old hj with ⟨rfl, rfl⟩ | hj
    · rw [A.ask] at hv; cases hv
      exact ⟨h, hh, .inr hb⟩
    · exact s.asked hm hj hv
  · rcases old hj with ⟨rfl, rfl⟩ | hj
    · rw [A.ask] at hv; cases hv
      obtain ⟨h1, h2, h3, h4⟩ := s.held hh
      refine let_go T h1 (ask h - 1) h4 (fun {μ} pμ bμ {j v} hj hv => s.opt pμ bμ h1 (by omega) hv fun z => ?_) hb pμ bμ
      have e := (s.held z).2.2.2
      have hnd := wr_at T.hall hv e hj
      exact Nat.lt_irrefl _ hnd
    · exact s.opt pμ bμ hm hj hv hn
def swap (hd : Held) (w a : Nat) : Held := hd.map fun p => if p.1 = w then (w, a) else p
theorem mem_swap {v m : Nat} {hd : Held} {h : Nat} (hh : (w, h) ∈ hd) : (v, m) ∈ swap hd w a ↔ (v = w ∧ m = a) ∨ (v ≠ w ∧ (v, m) ∈ hd) := by
  unfold swap
  rw [List.mem_map]
  constructor
  · rintro ⟨p, hp, e⟩
    split at e
    · cases e; exact .inl ⟨rfl, rfl⟩
    · rename_i hn; subst e; exact .inr ⟨hn, hp⟩
  · rintro (⟨rfl, rfl⟩ | ⟨h1, h2⟩)
    · exact ⟨(v, h), hh, if_pos rfl⟩
    · exact ⟨(v, m), h2, if_neg h1⟩
theorem swap_keys {hd : Held} : (swap hd w a).map (·.1) = hd.map (·.1) := by
  unfold swap
  rw [List.map_map]
  refine List.map_congr_left fun p _ => ?_
  show (if p.1 = w then (w, a) else p).1 = p.1
  split
  · rename_i e; exact e.symm
  · rfl
/-- w takes a, and lets go whom it holds -/
theorem take_better (T : Two rows sd S) (A : Ask rows S ask hd free a w) {h : Nat} (hh : (w, h) ∈ hd) (hb : place rows w (some a) < place rows w (some h)) : St rows S (inc ask a) (swap hd w a) (free ++ [h]) := by
  have s := A.st
  have nf := List.nodup_append.mp s.fnd
  have naf : ¬ a ∈ free := fun z => nf.2.2 a z a (List.mem_singleton_self _) rfl
  have aS : a ∈ S := s.fin (List.mem_append_right _ (List.mem_singleton_self _))
  have hlt := (List.getElem?_eq_some_iff.mp A.ask).1
  have nah : ∀ {v}, ¬ (v, a) ∈ hd := fun h => (s.held h).2.1 (List.mem_append_right _ (List.mem_singleton_self _))
  obtain ⟨g1, g2, g3, g4⟩ := s.held hh
  have hna : h ≠ a := fun e => nah (e ▸ hh)
  have nhf : ¬ h ∈ free := fun z => g2 (List.mem_append_left _ z)
  have old : ∀ {m j}, j < inc ask a m → (m = a ∧ j = ask a) ∨ j < ask m := fun {m j} h => by
    by_cases e : m = a
    · subst e; rw [inc_same] at h; by_cases q : j = ask m
      · exact .inl ⟨rfl, q⟩
      · exact .inr (by omega)
    · rw [inc_ne e] at h; exact .inr h
  have one : ∀ {v m}, (v, m) ∈ hd → v ≠ w → m ≠ h := fun {v m} hv hn e => by
    subst e
    have := (s.held hv).2.2.2
    rw [g4] at this
    exact hn (Option.some.inj this).symm
  refine ⟨by rw [swap_keys]; exact s.keys, ?_, fun {m} hm => ?_, fun {v m} hv => ?_, fun {m} hm hf => ?_, fun {m} => ?_, fun {m} hm {j v} hj hv => ?_, fun {μ} pμ bμ {m} hm {j v} hj hv hn => ?_⟩
  · exact List.nodup_append.mpr ⟨nf.1, by simp, fun u hu v hv => by rw [List.mem_singleton.mp hv]; exact fun e => nhf (e ▸ hu)⟩
  · rcases List.mem_append.mp hm with hm | hm
    · exact s.fin (List.mem_append_left _ hm)
    · rw [List.mem_singleton.mp hm]; exact g1
  · rcases (mem_swap hh).mp hv with ⟨rfl, rfl⟩ | ⟨h1, h2⟩
    · rw [inc_same]
      exact ⟨aS, fun z => (List.mem_append.mp z).elim naf fun z => hna (List.mem_singleton.mp z).symm, Nat.succ_pos _, A.ask⟩
    · obtain ⟨k1, k2, k3, k4⟩ := s.held h2
      have hma : m ≠ a := fun e => nah (e ▸ h2)
      rw [inc_ne hma]
      exact ⟨k1, fun z => (List.mem_append.mp z).elim (fun z => k2 (List.mem_append_left _ z)) fun z => one h2 h1 (List.mem_singleton.mp z), k3, k4⟩
  · by_cases e : m = a
    · subst e; exact .inl ⟨w, (mem_swap hh).mpr (.inl ⟨rfl, rfl⟩)⟩
    · rw [inc_ne e]
      have hmh : m ≠ h := fun e => hf (e ▸ List.mem_append_right _ (List.mem_singleton_self _))
      rcases s.done hm (fun z => (List.mem_append.mp z).elim (fun z => hf (List.mem_append_left _ z)) fun z => e (List.mem_singleton.mp z)) with ⟨v, hv⟩ | q
      · refine .inl ⟨v, (mem_swap hh).mpr (.inr ⟨fun z => ?_, hv⟩)⟩
        subst z
        exact hmh (key_uniq s.keys hv hh)
      · exact .inr q
  · by_cases e : m = a
    · subst e; rw [inc_same]; omega
    · rw [inc_ne e]; exact s.le
  · rcases old hj with ⟨rfl, rfl⟩ | hj
    · rw [A.ask] at hv; cases hv
      exact ⟨m, (mem_swap hh).mpr (.inl ⟨rfl, rfl⟩), .inl rfl⟩
    · obtain ⟨m', h1, h2⟩ := s.asked hm hj hv
      by_cases e : v = w
      · subst e
        have := key_uniq s.keys h1 hh
        subst this
        refine ⟨a, (mem_swap hh).mpr (.inl ⟨rfl, rfl⟩), .inr ?_⟩
        rcases h2 with rfl | h2
        · exact hb
        · omega
      · exact ⟨m', (mem_swap hh).mpr (.inr ⟨e, h1⟩), h2⟩
  · rcases old hj with ⟨rfl, rfl⟩ | hj
    · rw [A.ask] at hv; cases hv
      exact absurd ((mem_swap hh).mpr (.inl ⟨rfl, rfl⟩)) hn
    · by_cases hin : (v, m) ∈ hd
      · have hvw : v = w := Classical.byContradiction fun e => hn ((mem_swap hh).mpr (.inr ⟨e, hin⟩))
        subst hvw
        have := key_uniq s.keys hin hh
        subst this
        refine let_go T aS (ask a) A.ask (fun {μ} pμ bμ {j v} hj hv => s.opt pμ bμ aS hj hv nah) hb pμ bμ
      · exact s.opt pμ bμ hm hj hv hin
end
end Fw.Da

namespace Fw.Da
open Fw Fw.Hl
section
variable {rows : List (List Nat)} {μ : List (Nat × Nat)} {S : List Nat} {a b m w x y : Nat} {sd : Nat → Bool} {ask : Nat → Nat} {hd : Held} {free : List Nat}
def mm (p : Nat × Nat) : Nat × Nat := (min p.1 p.2, max p.1 p.2)
def outc (hd : Held) : List (Nat × Nat) := sortP (hd.map mm)
theorem St.wants (s : St rows S ask hd free) (h : (w, m) ∈ hd) : want rows m w = true := mem_wr.mp (List.mem_of_getElem? (s.held h).2.2.2)
theorem St.sides (T : Two rows sd S) (s : St rows S ask hd free) (h : (w, m) ∈ hd) : sd m = true ∧ sd w = false := by
  have h1 := (T.mem.mp (s.held h).1).2
  refine ⟨h1, ?_⟩
  rw [T.two (want_row (s.wants h)).1, h1]
  rfl
theorem St.one (s : St rows S ask hd free) {v : Nat} (h1 : (w, m) ∈ hd) (h2 : (v, m) ∈ hd) : w = v := by
  have e1 := (s.held h1).2.2.2
  have e2 := (s.held h2).2.2.2
  rw [e1] at e2
  exact Option.some.inj e2
theorem out_prg (T : Two rows sd S) (s : St rows S ask hd free) : Prg rows (outc hd) := by
  have hp := sortP_perm (hd.map mm)
  have hlt : ∀ p ∈ hd.map mm, p.1 < p.2 ∧ p.2 < rows.length ∧ want rows p.1 p.2 = true := fun p hp => by
    obtain ⟨⟨w, m⟩, hq, rfl⟩ := List.mem_map.mp hp
    have hw := s.wants hq
    have hr := want_row hw
    have h1 := T.hall.mem hr.1
    have h2 := T.hall.mem hr.2
    unfold mm
    refine ⟨by show min w m < max w m; omega, by show max w m < rows.length; omega, ?_⟩
    show want rows (min w m) (max w m) = true
    by_cases c : w ≤ m
    · rw [Nat.min_eq_left c, Nat.max_eq_right c, want_symm]; exact hw
    · rw [Nat.min_eq_right (by omega), Nat.max_eq_left (by omega)]; exact hw
  have hfar : (hd.map mm).Pairwise far := by
    refine List.pairwise_map.mpr ((List.pairwise_map.mp s.keys).imp_of_mem ?_)
    rintro ⟨w, m⟩ ⟨v, k⟩ h1 h2 hne
    have hne : w ≠ v := hne
    have s1 := s.sides T h1
    have s2 := s.sides T h2
    have d1 : m ≠ k := fun e => by subst e; exact hne (s.one h1 h2)
    have d2 : w ≠ k := fun e => by rw [e, s2.1] at s1; exact absurd s1.2 (by decide)
    have d3 : m ≠ v := fun e => by rw [e, s2.2] at s1; exact absurd s1.1 (by decide)
    unfold mm far
    simp only
    omega
  exact ⟨⟨fun p h => let z := hlt p (hp.mem_iff.mp h); ⟨z.1, z.2.1⟩, (hp.pairwise_iff far_symm).mpr hfar⟩, fun p h => (hlt p (hp.mem_iff.mp h)).2.2⟩
theorem out_partner (T : Two rows sd S) (s : St rows S ask hd free) (hm : m ∈ S) : partner (outc hd) m = some w ↔ (w, m) ∈ hd := by
  have P := (out_prg T s).toPrs
  have hs := (T.mem.mp hm).2
  rw [partner_iff P]
  unfold outc
  rw [(sortP_perm _).mem_iff, (sortP_perm _).mem_iff]
  constructor
  · intro h
    have key : ∃ q ∈ hd, mm q = (m, w) ∨ mm q = (w, m) := by
      rcases h with h | h
      · obtain ⟨q, hq, e⟩ := List.mem_map.mp h; exact ⟨q, hq, .inl e⟩
      · obtain ⟨q, hq, e⟩ := List.mem_map.mp h; exact ⟨q, hq, .inr e⟩
    obtain ⟨⟨v, k⟩, hq, e⟩ := key
    have sq := s.sides T hq
    have e : (v = w ∧ k = m) ∨ (v = m ∧ k = w) := by
      unfold mm at e
      simp only [Prod.mk.injEq] at e
      omega
    rcases e with ⟨rfl, rfl⟩ | ⟨rfl, rfl⟩
    · exact hq
    · rw [hs] at sq
      exact absurd sq.2 (by decide)
  · intro h
    have hmem : mm (w, m) ∈ hd.map mm := List.mem_map_of_mem h
    unfold mm at hmem
    by_cases c : w ≤ m
    · right
      have e : (min w m, max w m) = (w, m) := by rw [Nat.min_eq_left c, Nat.max_eq_right c]
      have hmem : (min w m, max w m) ∈ hd.map mm := hmem
      rw [e] at hmem
      exact hmem
    · left
      have e : (min w m, max w m) = (m, w) := by rw [Nat.min_eq_right (by omega), Nat.max_eq_left (by omega)]
      have hmem : (min w m, max w m) ∈ hd.map mm := hmem
      rw [e] at hmem
      exact hmem
/-- whom the asker prefers to its partner, it has asked -/
theorem asked_all (T : Two rows sd S) (s : St rows S ask hd []) (hm : m ∈ S) (hw : want rows m w = true) (hb : place rows m (some w) < place rows m (partner (outc hd) m)) : ∃ j : Nat, j < ask m ∧ (wr rows m)[j]? = some w := by
  obtain ⟨j, hj⟩ := wr_idx hw
  refine ⟨j, ?_, hj⟩
  rcases s.done hm (fun z => nomatch z) with ⟨v, hv⟩ | h
  · rw [(out_partner T s hm).mpr hv] at hb
    obtain ⟨h1, h2, h3, h4⟩ := s.held hv
    refine Classical.byContradiction fun hno => ?_
    rcases Nat.lt_or_ge (ask m - 1) j with c | c
    · have := wr_at T.hall h4 hj c
      omega
    · omega
  · have := (List.getElem?_eq_some_iff.mp hj).1
    omega
/-- nobody breaks it -/
theorem out_calm (T : Two rows sd S) (s : St rows S ask hd []) : breaking rows (outc hd) = [] := by
  refine List.eq_nil_iff_forall_not_mem.mpr fun p hp => ?_
  obtain ⟨h1, h2, h3⟩ := mem_brk.mp (show (p.1, p.2) ∈ breaking rows (outc hd) from hp)
  have P := (out_prg T s).toPrs
  have key : ∀ {m w}, m ∈ S → Br rows (outc hd) m w → False := fun {m w} hm hB => by
    have hrow := hB.row
    obtain ⟨j, hj, hjw⟩ := asked_all T s hm hB.1 ((rather_iff hrow.1).mp hB.2.1)
    obtain ⟨m', h4, h5⟩ := s.asked hm hj hjw
    have hm' := (s.held h4).1
    have e := partner_symm P ((out_partner T s hm').mpr h4)
    have hr := (rather_iff hrow.2).mp hB.2.2
    rw [e] at hr
    rcases h5 with rfl | h5
    · exact Nat.lt_irrefl _ hr
    · omega
  by_cases c : sd p.1 = true
  · exact key (T.mem.mpr ⟨by omega, c⟩) h3
  · refine key (T.mem.mpr ⟨h2, ?_⟩) h3.symm
    rw [T.two h3.row.1]
    cases h : sd p.1 with
    | true => exact absurd h c
    | false => rfl
/-- none is better for an asker, of those that nobody breaks -/
theorem out_best (T : Two rows sd S) (s : St rows S ask hd []) (pμ : Prg rows μ) (bμ : breaking rows μ = []) (hm : m ∈ S) : place rows m (partner (outc hd) m) ≤ place rows m (partner μ m) := by
  refine Nat.le_of_not_lt fun hlt => ?_
  cases e : partner μ m with
  | none =>
    rw [e] at hlt
    have h1 : place rows m (partner (outc hd) m) ≤ (row rows m).length := by
      cases e2 : partner (outc hd) m with
      | none => exact Nat.le_refl _
      | some v =>
        have hr := (want_row (partner_want (out_prg T s) e2)).1
        rw [place_row hr]
        exact Nat.le_of_lt (List.idxOf_lt_length_of_mem hr)
    have hlt : (row rows m).length < _ := hlt
    omega
  | some w =>
    rw [e] at hlt
    have hw := partner_want pμ e
    obtain ⟨j, hj, hjw⟩ := asked_all T s hm hw hlt
    refine s.opt pμ bμ hm hj hjw (fun z => ?_) e
    rw [(out_partner T s hm).mpr z] at hlt
    exact Nat.lt_irrefl _ hlt
/-- how far the asking is from its end -/
def todo (rows : List (List Nat)) (S : List Nat) (ask : Nat → Nat) (free : List Nat) : Nat := 2 * (S.map fun a => (wr rows a).length - ask a).sum + free.length
theorem sum_step {l : List Nat} {f g : Nat → Nat} (nd : l.Nodup) (ha : a ∈ l) (h1 : f a < g a) (h2 : ∀ b, b ≠ a → f b = g b) : (l.map f).sum < (l.map g).sum := by
  induction l with
  | nil => cases ha
  | cons b r ih =>
    obtain ⟨n1, n2⟩ := List.nodup_cons.mp nd
    rw [List.map_cons, List.map_cons, List.sum_cons, List.sum_cons]
    rcases List.mem_cons.mp ha with rfl | ha
    · have : r.map f = r.map g := List.map_congr_left fun c hc => h2 c fun e => n1 (e ▸ hc)
      rw [this]
      omega
    · have := ih n2 ha
      have hb : b ≠ a := fun e => n1 (e ▸ ha)
      rw [h2 b hb]
      omega
theorem todo_ask (nd : S.Nodup) (ha : a ∈ S) (hlt : ask a < (wr rows a).length) {f1 f2 : List Nat} (hf : f1.length ≤ f2.length + 1) : todo rows S (inc ask a) f1 < todo rows S ask f2 := by
  have := sum_step (f := fun b => (wr rows b).length - inc ask a b) (g := fun b => (wr rows b).length - ask b) nd ha (by show _ - inc ask a a < _; rw [inc_same]; omega) (fun b hb => by show _ - inc ask a b = _; rw [inc_ne hb])
  unfold todo
  omega
end
end Fw.Da

/-! ### two pairings that nobody breaks -/
namespace Fw.Da
open Fw Fw.Hl
section
variable {rows : List (List Nat)} {μ ν : List (Nat × Nat)} {S : List Nat} {a b m w : Nat} {sd : Nat → Bool}
structure Clm (rows : List (List Nat)) (μ : List (Nat × Nat)) : Prop where
  prg : Prg rows μ
  no : breaking rows μ = []
/-- better off by μ than by ν -/
def bet (rows : List (List Nat)) (μ ν : List (Nat × Nat)) (a : Nat) : Bool := decide (place rows a (partner μ a) < place rows a (partner ν a))
theorem pl_le (h : Prg rows μ) : place rows a (partner μ a) ≤ (row rows a).length := by
  cases e : partner μ a with
  | none => exact Nat.le_refl _
  | some v =>
    rw [place_row (want_row (partner_want h e)).1]
    exact Nat.le_of_lt (List.idxOf_lt_length_of_mem (want_row (partner_want h e)).1)
theorem Clm.nobody (T : Hall rows) (c : Clm rows μ) : ¬ Br rows μ a b := fun hB => by
  have h1 := T.mem hB.row.2
  have h2 := T.mem hB.row.1
  by_cases q : a < b
  · have := mem_brk.mpr ⟨q, h2.1, hB⟩
    rw [c.no] at this
    cases this
  · have := mem_brk.mpr ⟨by have := h2.2; omega, h1.1, hB.symm⟩
    rw [c.no] at this
    cases this
/-- whom one better off is with, is worse off -/
theorem other_off (T : Hall rows) (cμ : Clm rows μ) (cν : Clm rows ν) (h : bet rows μ ν a = true) : ∃ b, partner μ a = some b ∧ bet rows ν μ b = true := by
  have h := of_decide_eq_true h
  cases e : partner μ a with
  | none =>
    rw [e] at h
    have := pl_le (a := a) cν.prg
    have h : (row rows a).length < _ := h
    omega
  | some b =>
    refine ⟨b, rfl, decide_eq_true ?_⟩
    rw [e] at h
    have hw := partner_want cμ.prg e
    have hr := want_row hw
    have e2 := partner_symm cμ.prg.toPrs e
    rw [e2]
    have h1 : rather rows a b (partner ν a) = true := (rather_iff hr.1).mpr h
    refine Nat.lt_of_not_le fun hle => ?_
    rcases Nat.lt_or_eq_of_le hle with c | c
    · exact cν.nobody T ⟨hw, h1, (rather_iff hr.2).mpr c⟩
    · cases e3 : partner ν b with
      | none =>
        rw [e3] at c
        rw [place_row hr.2] at c
        have : (row rows b).idxOf a = (row rows b).length := c
        have := List.idxOf_lt_length_of_mem hr.2
        omega
      | some d =>
        rw [e3] at c
        have hd := (want_row (partner_want cν.prg e3)).1
        rw [place_row hr.2, place_row hd] at c
        have q1 := List.getElem_idxOf (List.idxOf_lt_length_of_mem hr.2)
        have q2 := List.getElem_idxOf (List.idxOf_lt_length_of_mem hd)
        have : a = d := by rw [← q1, ← q2]; congr 1
        subst this
        have e4 := partner_symm cν.prg.toPrs e3
        rw [e4] at h
        exact Nat.lt_irrefl _ h
theorem onto {A B : List Nat} (nA : A.Nodup) (nB : B.Nodup) (f : Nat → Nat) (hf : ∀ a ∈ A, f a ∈ B) (inj : ∀ a ∈ A, ∀ b ∈ A, f a = f b → a = b) (hl : B.length ≤ A.length) : ∀ b ∈ B, ∃ a ∈ A, f a = b := by
  intro b hb
  refine Classical.byContradiction fun hno => ?_
  have nd : (A.map f).Nodup := List.pairwise_map.mpr (nA.imp_of_mem fun {x y} hx hy h e => h (inj x hx y hy e))
  have hnb : ¬ b ∈ A.map f := fun h => by
    obtain ⟨a, ha, e⟩ := List.mem_map.mp h
    exact hno ⟨a, ha, e⟩
  have := sub_len (l := b :: A.map f) (m := B) (List.nodup_cons.mpr ⟨hnb, nd⟩) fun x hx => by
    rcases List.mem_cons.mp hx with rfl | hx
    · exact hb
    · obtain ⟨a, ha, rfl⟩ := List.mem_map.mp hx
      exact hf a ha
  rw [List.length_cons, List.length_map] at this
  omega
def pf (μ : List (Nat × Nat)) (a : Nat) : Nat := (partner μ a).getD 0
theorem le_of {A B : List Nat} (nA : A.Nodup) (f : Nat → Nat) (hf : ∀ a ∈ A, f a ∈ B) (inj : ∀ a ∈ A, ∀ b ∈ A, f a = f b → a = b) : A.length ≤ B.length := by
  have nd : (A.map f).Nodup := List.pairwise_map.mpr (nA.imp_of_mem fun {x y} hx hy h e => h (inj x hx y hy e))
  have := sub_len (m := B) nd fun x hx => by
    obtain ⟨a, ha, rfl⟩ := List.mem_map.mp hx
    exact hf a ha
  rw [List.length_map] at this
  exact this
/-- the other way about: one worse off is with one better off -/
theorem worse_off (T : Hall rows) (two : ∀ {a b}, b ∈ row rows a → sd b = !sd a) (cμ : Clm rows μ) (cν : Clm rows ν) (h : bet rows ν μ b = true) : ∃ a, partner μ b = some a ∧ bet rows μ ν a = true := by
  have hbn : b < rows.length := by
    obtain ⟨c, e, _⟩ := other_off T cν cμ h
    exact (T.mem (want_row (partner_want cν.prg e)).2).1
  let A := (List.range rows.length).filter fun a => bet rows μ ν a && (sd a != sd b)
  let B := (List.range rows.length).filter fun a => bet rows ν μ a && (sd a == sd b)
  have mA : ∀ {a}, a ∈ A ↔ a < rows.length ∧ bet rows μ ν a = true ∧ sd a ≠ sd b := fun {a} => by
    show a ∈ (List.range rows.length).filter _ ↔ _
    rw [List.mem_filter, List.mem_range, Bool.and_eq_true]
    cases sd a <;> cases sd b <;> simp
  have mB : ∀ {a}, a ∈ B ↔ a < rows.length ∧ bet rows ν μ a = true ∧ sd a = sd b := fun {a} => by
    show a ∈ (List.range rows.length).filter _ ↔ _
    rw [List.mem_filter, List.mem_range, Bool.and_eq_true]
    cases sd a <;> cases sd b <;> simp
  have go : ∀ {μ ν : List (Nat × Nat)}, Clm rows μ → Clm rows ν → ∀ {a}, bet rows μ ν a = true → partner μ a = some (pf μ a) ∧ pf μ a < rows.length ∧ bet rows ν μ (pf μ a) = true ∧ sd (pf μ a) = !sd a := fun {μ ν} cμ cν {a} h => by
    obtain ⟨c, e, h2⟩ := other_off T cμ cν h
    have e2 : pf μ a = c := by unfold pf; rw [e]; rfl
    have hr := want_row (partner_want cμ.prg e)
    rw [e2]
    exact ⟨e, (T.mem hr.1).1, h2, two hr.1⟩
  have inj : ∀ {μ ν : List (Nat × Nat)}, Clm rows μ → Clm rows ν → ∀ {a c}, bet rows μ ν a = true → bet rows μ ν c = true → pf μ a = pf μ c → a = c := fun {μ ν} cμ cν {a c} h1 h2 e => by
    have g1 := (go cμ cν h1).1
    have g2 := (go cμ cν h2).1
    rw [e] at g1
    have q1 := partner_symm cμ.prg.toPrs g1
    have q2 := partner_symm cμ.prg.toPrs g2
    rw [q1] at q2
    exact Option.some.inj q2
  have fAB : ∀ a ∈ A, pf μ a ∈ B := fun a ha => by
    obtain ⟨h1, h2, h3⟩ := mA.mp ha
    obtain ⟨g1, g2, g3, g4⟩ := go cμ cν h2
    refine mB.mpr ⟨g2, g3, ?_⟩
    rw [g4]
    cases hx : sd a <;> cases hy : sd b <;> simp [hx, hy] at h3 ⊢
  have fBA : ∀ a ∈ B, pf ν a ∈ A := fun a ha => by
    obtain ⟨h1, h2, h3⟩ := mB.mp ha
    obtain ⟨g1, g2, g3, g4⟩ := go cν cμ h2
    refine mA.mpr ⟨g2, g3, ?_⟩
    rw [g4, h3]
    cases sd b <;> simp
  have nA : A.Nodup := List.nodup_range.filter _
  have nB : B.Nodup := List.nodup_range.filter _
  have l2 := le_of nB (pf ν) fBA fun x hx y hy e => inj cν cμ (mB.mp hx).2.1 (mB.mp hy).2.1 e
  obtain ⟨a, ha, e⟩ := onto nA nB (pf μ) fAB (fun x hx y hy e => inj cμ cν (mA.mp hx).2.1 (mA.mp hy).2.1 e) l2 b (mB.mpr ⟨hbn, h, rfl⟩)
  obtain ⟨h1, h2, h3⟩ := mA.mp ha
  have g := (go cμ cν h2).1
  rw [e] at g
  exact ⟨a, partner_symm cμ.prg.toPrs g, h2⟩
theorem pl_inj (hμ : Prg rows μ) (hν : Prg rows ν) (e : place rows a (partner μ a) = place rows a (partner ν a)) : partner μ a = partner ν a := by
  cases e1 : partner μ a with
  | none =>
    cases e2 : partner ν a with
    | none => rfl
    | some c =>
      rw [e1, e2] at e
      have hr := (want_row (partner_want hν e2)).1
      rw [place_row hr] at e
      have e : (row rows a).length = _ := e
      have := List.idxOf_lt_length_of_mem hr
      omega
  | some b =>
    have hb := (want_row (partner_want hμ e1)).1
    cases e2 : partner ν a with
    | none =>
      rw [e1, e2] at e
      rw [place_row hb] at e
      have e : _ = (row rows a).length := e
      have := List.idxOf_lt_length_of_mem hb
      omega
    | some c =>
      rw [e1, e2] at e
      have hc := (want_row (partner_want hν e2)).1
      rw [place_row hb, place_row hc] at e
      have q1 := List.getElem_idxOf (List.idxOf_lt_length_of_mem hb)
      have q2 := List.getElem_idxOf (List.idxOf_lt_length_of_mem hc)
      have : b = c := by rw [← q1, ← q2]; congr 1
      rw [this]
/-- the same people are paired -/
theorem same_people (T : Hall rows) (two : ∀ {a b}, b ∈ row rows a → sd b = !sd a) (cμ : Clm rows μ) (cν : Clm rows ν) (h : partner μ a ≠ none) : partner ν a ≠ none := fun z => by
  have hb : bet rows μ ν a = true := by
    refine decide_eq_true ?_
    rw [z]
    cases e : partner μ a with
    | none => exact absurd e h
    | some b =>
      have hr := (want_row (partner_want cμ.prg e)).1
      rw [place_row hr]
      exact List.idxOf_lt_length_of_mem hr
  obtain ⟨c, e, _⟩ := worse_off T two cν cμ hb
  rw [z] at e
  cases e
/-- a pair of one alone: the one gains, the other one loses -/
theorem pair_split (T : Hall rows) (two : ∀ {a b}, b ∈ row rows a → sd b = !sd a) (cμ : Clm rows μ) (cν : Clm rows ν) (e : partner μ a = some b) (hne : partner ν a ≠ some b) : (bet rows μ ν a = true ∧ bet rows ν μ b = true) ∨ (bet rows ν μ a = true ∧ bet rows μ ν b = true) := by
  rcases Nat.lt_trichotomy (place rows a (partner μ a)) (place rows a (partner ν a)) with c | c | c
  · have h : bet rows μ ν a = true := decide_eq_true c
    obtain ⟨d, e2, h2⟩ := other_off T cμ cν h
    rw [e] at e2
    cases e2
    exact .inl ⟨h, h2⟩
  · exact absurd (by rw [← pl_inj cμ.prg cν.prg c]; exact e) hne
  · have h : bet rows ν μ a = true := decide_eq_true c
    obtain ⟨d, e2, h2⟩ := worse_off T two cμ cν h
    rw [e] at e2
    cases e2
    exact .inr ⟨h, h2⟩
end
end Fw.Da

/-! ### best_for: what it computes -/
namespace Fw.Da
open PySem PySem.Spec PyProof.Rows L2 Fw Fw.Hl
section
variable {rows : List (List Nat)} {μ : List (Nat × Nat)} {S : List Nat} {a b m w x y n : Nat} {sd : Nat → Bool} {ask : Nat → Nat} {hd : Held} {free : List Nat} {st : Sto} {kvs : List (PyData × D)}
theorem keq_nat : keq false (nI a) (nI b) = decide (a = b) := by
  show decide (key1 (nI a) = key1 (nI b)) = _
  refine decide_eq_decide.mpr ⟨fun h => ?_, fun h => by rw [h]⟩
  have h : some (Sum.inl (a : Int) : Key) = some (.inl (b : Int)) := h
  have h := Option.some.inj h
  have h : (a : Int) = (b : Int) := by injection h
  omega
theorem viewK_dct (h : st[n]? = some (.dct false kvs)) : viewK st (.ref n) = some (false, kvs) := by
  show (match st[n]? with
    | some (.dct t kvs) => some (t, kvs)
    | some (.lck t kvs) => some (t, kvs)
    | _ => none) = _
  rw [h]
theorem find_dct (h : st[n]? = some (.dct false kvs)) : findS st (.ref n) (.v (nI a)) = some (getK false kvs (nI a)) := by
  unfold findS
  rw [viewK_dct h]
  rfl
theorem sub_dct {d : D} (h : st[n]? = some (.dct false kvs)) (hg : getK false kvs (nI a) = some d) : subsD (.ref n) (.v (nI a)) st = .ok d st := by
  unfold subsD
  rw [viewK_dct h]
  show lookD (.ref n) (.v (nI a)) st = _
  unfold lookD
  rw [find_dct h, hg]
theorem notIn_dct (h : st[n]? = some (.dct false kvs)) : notInU (.v (nI a)) (.ref n) st = .ok (.v (.bool (!(getK false kvs (nI a)).isSome))) st := by
  unfold notInU
  rw [viewK_dct h]
  show dnotinD (.v (nI a)) (.ref n) st = _
  unfold dnotinD
  rw [find_dct h]
theorem set_dct {v : Nat} (h : st[n]? = some (.dct false kvs)) (hl : kvs.length < 1000000) : setU (.ref n) (.v (nI a)) (.v (nI v)) st = .ok () (st.set n (.dct false (putD kvs (nI a) (.v (nI v))))) := by
  have e1 : lAt st (.ref n) = none := by
    show (match st[n]? with
      | some (.lst zs) => some (n, zs)
      | _ => none) = _
    rw [h]
  have e2 : kAt st (.ref n) = some kvs := by
    show (match st[n]? with
      | some (.dct false kvs) => some kvs
      | _ => none) = _
    rw [h]
  unfold setU
  rw [e1, e2]
  show (if kvs.length < lim ∧ (D.v (nI v)).low n = true then _ else _) = _
  rw [if_pos ⟨hl, rfl⟩]
def askK (S : List Nat) (ask : Nat → Nat) : List (PyData × D) := S.map fun a => (nI a, D.v (nI (ask a)))
def heldK (hd : Held) : List (PyData × D) := hd.map fun p => (nI p.1, D.v (nI p.2))
theorem ask_get (h : a ∈ S) : getK false (askK S ask) (nI a) = some (.v (nI (ask a))) := by
  unfold getK askK
  induction S with
  | nil => cases h
  | cons b r ih =>
    rw [List.map_cons, List.find?_cons]
    show Option.map (fun x => x.2) (match keq false (nI b) (nI a) with
      | true => some (nI b, D.v (nI (ask b)))
      | false => _) = _
    rw [keq_nat]
    by_cases e : b = a
    · rw [decide_eq_true e, e]; rfl
    · rw [decide_eq_false e]
      exact ih ((List.mem_cons.mp h).resolve_left fun z => e z.symm)
theorem held_get : getK false (heldK hd) (nI w) = (hd.find? fun p => decide (p.1 = w)).map fun p => .v (nI p.2) := by
  unfold getK heldK
  induction hd with
  | nil => rfl
  | cons p r ih =>
    rw [List.map_cons, List.find?_cons, List.find?_cons]
    show Option.map (fun x => x.2) (match keq false (nI p.1) (nI w) with
      | true => some (nI p.1, D.v (nI p.2))
      | false => _) = _
    rw [keq_nat]
    cases decide (p.1 = w) with
    | true => rfl
    | false => exact ih
theorem any_key : ∀ {l : List (PyData × D)} {ks : List Nat}, l.map (·.1) = ks.map nI → (l.any fun p => keq false p.1 (nI a)) = decide (a ∈ ks)
  | [], [], _ => by simp
  | [], _ :: _, h => nomatch h
  | _ :: _, [], h => nomatch h
  | p :: r, k :: ks, h => by
    rw [List.map_cons, List.map_cons] at h
    have h1 := List.head_eq_of_cons_eq h
    have h2 := List.tail_eq_of_cons_eq h
    rw [List.any_cons, h1, keq_nat, any_key h2]
    by_cases e : k = a
    · subst e; simp
    · have e2 : ¬ a = k := fun z => e z.symm
      simp [e, e2]
theorem ask_keys : (askK S ask).map (·.1) = S.map nI := by unfold askK; rw [List.map_map]; rfl
theorem held_keys : (heldK hd).map (·.1) = (hd.map (·.1)).map nI := by unfold heldK; rw [List.map_map, List.map_map]; rfl
theorem ask_put (h : a ∈ S) : putD (askK S ask) (nI a) (.v (nI (ask a + 1))) = askK S (inc ask a) := by
  unfold putD
  rw [any_key ask_keys, if_pos (decide_eq_true h)]
  unfold askK
  rw [List.map_map]
  refine List.map_congr_left fun b _ => ?_
  show (if keq false (nI b) (nI a) = true then (nI b, D.v (nI (ask a + 1))) else (nI b, D.v (nI (ask b)))) = (nI b, D.v (nI (inc ask a b)))
  rw [keq_nat]
  by_cases e : b = a
  · rw [decide_eq_true e, if_pos rfl, e, inc_same]
  · rw [decide_eq_false e, if_neg Bool.false_ne_true, inc_ne e]
theorem held_put (h : ¬ w ∈ hd.map (·.1)) : putD (heldK hd) (nI w) (.v (nI a)) = heldK (hd ++ [(w, a)]) := by
  unfold putD
  rw [any_key held_keys, if_neg (by simpa using h)]
  unfold heldK
  rw [List.map_append]
  rfl
theorem held_swap (h : w ∈ hd.map (·.1)) : putD (heldK hd) (nI w) (.v (nI a)) = heldK (swap hd w a) := by
  unfold putD
  rw [any_key held_keys, if_pos (decide_eq_true h)]
  unfold heldK swap
  rw [List.map_map, List.map_map]
  refine List.map_congr_left fun p _ => ?_
  show (if keq false (nI p.1) (nI w) = true then (nI p.1, D.v (nI a)) else (nI p.1, D.v (nI p.2))) = (nI (if p.1 = w then (w, a) else p).1, D.v (nI (if p.1 = w then (w, a) else p).2))
  rw [keq_nat]
  by_cases e : p.1 = w
  · rw [decide_eq_true e, if_pos rfl, if_pos e, e]
  · rw [decide_eq_false e, if_neg Bool.false_ne_true, if_neg e]
theorem put_new : ∀ {l acc : List Nat}, (acc ++ l).Nodup → putAll (askK acc ask) (askK l ask) = askK (acc ++ l) ask
  | [], acc, _ => by rw [List.append_nil]; rfl
  | b :: r, acc, nd => by
    have nb : ¬ b ∈ acc := fun h => (List.nodup_append.mp nd).2.2 b h b List.mem_cons_self rfl
    have e : putD (askK acc ask) (nI b) (.v (nI (ask b))) = askK (acc ++ [b]) ask := by
      unfold putD
      rw [any_key ask_keys, if_neg (by simpa using nb)]
      unfold askK
      rw [List.map_append]
      rfl
    have e2 : acc ++ [b] ++ r = acc ++ b :: r := by rw [List.append_assoc]; rfl
    show putAll (putD (askK acc ask) (nI b) (.v (nI (ask b)))) (askK r ask) = _
    rw [e, put_new (by rw [e2]; exact nd), e2]
theorem pairs_ask : ∀ l : List Nat, pairsP (l.map fun a => PyData.tuple [nI a, nI (ask a)]) = some (askK l ask)
  | [] => rfl
  | a :: r => by
    rw [List.map_cons]
    show (match key1 (nI a), pairsP (r.map fun a => PyData.tuple [nI a, nI (ask a)]) with
      | some _, some l => some ((nI a, D.v (nI (ask a))) :: l)
      | _, _ => none) = _
    rw [pairs_ask r]
    rfl
theorem dict_ask (nd : S.Nodup) : fDictP [.v (.list (S.map fun a => PyData.tuple [nI a, nI (ask a)]))] st = .ok (.ref st.length) (st ++ [O.dct false (askK S ask)]) := by
  show (match pairsP (S.map fun a => PyData.tuple [nI a, nI (ask a)]) with
    | some kvs => Out.ok (D.ref st.length) (st ++ [O.dct false (putAll [] kvs)])
    | none => .stuck) = _
  rw [pairs_ask]
  show Out.ok (D.ref st.length) (st ++ [O.dct false (putAll (askK [] ask) (askK S ask))]) = _
  rw [put_new (acc := []) nd]
  rfl
/-! the store while it asks -/
def bst (st : Sto) (A B : List (PyData × D)) (F : List PyData) : Sto := st ++ [O.dct false A, O.dct false B, O.lst F]
variable {A A' B B' : List (PyData × D)} {F F' : List PyData}
theorem b0 : (bst st A B F)[st.length]? = some (O.dct false A) := by unfold bst; rw [List.getElem?_append_right (Nat.le_refl _), Nat.sub_self]; rfl
theorem b1 : (bst st A B F)[st.length + 1]? = some (O.dct false B) := by unfold bst; rw [List.getElem?_append_right (by omega), show st.length + 1 - st.length = 1 by omega]; rfl
theorem b2 : (bst st A B F)[st.length + 2]? = some (O.lst F) := by unfold bst; rw [List.getElem?_append_right (by omega), show st.length + 2 - st.length = 2 by omega]; rfl
theorem set0 : (bst st A B F).set st.length (O.dct false A') = bst st A' B F := by unfold bst; rw [List.set_append_right _ _ (Nat.le_refl _), Nat.sub_self]; rfl
theorem set1 : (bst st A B F).set (st.length + 1) (O.dct false B') = bst st A B' F := by unfold bst; rw [List.set_append_right _ _ (by omega), show st.length + 1 - st.length = 1 by omega]; rfl
theorem set2 : (bst st A B F).set (st.length + 2) (O.lst F') = bst st A B F' := by unfold bst; rw [List.set_append_right _ _ (by omega), show st.length + 2 - st.length = 2 by omega]; rfl
theorem btake : (bst st A B F).take st.length = st := List.take_left
theorem ne_nilR {zs : List PyData} (hst : st[n]? = some (.lst zs)) (hs : SeqAt.shaped (.list zs) = true) : neD (.ref n) (.v (.list [])) st = .ok (.v (.bool (!zs.isEmpty))) st := by
  have hv : viewL st (.ref n) = some zs := viewS_ref hst
  have e : eqS st (.ref n) (.v (.list [])) = eqS st (.v (.list zs)) (.v (.list [])) := by
    show Fw.eqT st (.ref n) (.v (.list [])) = Fw.eqT st (.v (.list zs)) (.v (.list []))
    unfold Fw.eqT viewP
    simp only [hv, Option.map_some]
  have q := ne_nilL (st := st) hs
  unfold neD at q ⊢
  rw [e]
  exact q
theorem pop_ref {zs : List PyData} {z : PyData} (h : st[n]? = some (.lst (zs ++ [z]))) : fmPop (.ref n) [] st = .ok (.v z) (st.set n (.lst zs)) := by
  unfold fmPop
  have e : lAt st (.ref n) = some (n, zs ++ [z]) := by
    show (match st[n]? with
      | some (.lst zs) => some (n, zs)
      | _ => none) = _
    rw [h]
  rw [e]
  show (match (zs ++ [z])[(zs ++ [z]).length - 1]? with
    | some d => Out.ok (D.v d) (st.set n (.lst (zs ++ [z]).dropLast))
    | none => .stuck) = _
  rw [List.length_append, List.length_singleton, Nat.add_sub_cancel, List.getElem?_append_right (Nat.le_refl _), Nat.sub_self, List.dropLast_concat]
  rfl
theorem ok_Lock {i : Nat} {m : ME} {env : Ev} {P : D → Sto → Prop} (he : env[i]? = some (some (.ref n))) (h : st[n]? = some (.dct false kvs)) :
    (mLock i m env st).Ok P ↔ (m env (st.set n (.lck false kvs))).Ok fun d s1 => P d (s1.set n (.dct false kvs)) := by
  unfold mLock
  rw [he]
  show (match st[n]? with
    | some (.dct false kvs) => (m env (st.set n (.lck false kvs))).bind fun d s1 => .ok d (s1.set n (.dct false kvs))
    | _ => .stuck).Ok P ↔ _
  rw [h]
  exact ok_bind
theorem items_lck {i : Nat} {env : Ev} {P : List Itm × Wt → Sto → Prop} (he : env[i]? = some (some (.ref n))) (h : st[n]? = some (.lck false kvs)) : (miItems (mVar i) env st).Ok P ↔ P (itemsI kvs, none) st := by
  unfold miItems
  have e : mVar i env st = .ok (.ref n) st := by
    unfold mVar
    rw [he]
  rw [e]
  show (match st[n]? with
    | some (.lck false kvs) => Out.ok (itemsI kvs, none) st
    | _ => .stuck).Ok P ↔ _
  rw [h]
  exact Iff.rfl
end
end Fw.Da

namespace Fw.Da
open PySem PySem.Spec PyProof.Rows L2 Fw Fw.Hl
section
variable {rows : List (List Nat)} {S : List Nat} {sd : Nat → Bool} {st : Sto}
theorem ok_Dnew {b : Bool} {env : Ev} {P : D → Sto → Prop} : (mDnew b env st).Ok P ↔ P (.ref st.length) (st ++ [O.dct b []]) := Iff.rfl
theorem bst_eq {A : List (PyData × D)} {F : List PyData} : st ++ [O.dct false A] ++ [O.dct false []] ++ [O.lst F] = bst st A [] F := by
  unfold bst
  simp
theorem place_inj {w a b : Nat} (ha : a ∈ row rows w) (hb : b ∈ row rows w) (e : place rows w (some a) = place rows w (some b)) : a = b := by
  rw [place_row ha, place_row hb] at e
  have q1 := List.getElem_idxOf (List.idxOf_lt_length_of_mem ha)
  have q2 := List.getElem_idxOf (List.idxOf_lt_length_of_mem hb)
  rw [← q1, ← q2]
  congr 1
theorem held_none {hd : Held} {w : Nat} (h : (getK false (heldK hd) (nI w)).isSome = false) : ¬ w ∈ hd.map (·.1) := fun hin => by
  obtain ⟨p, hp, e⟩ := List.mem_map.mp hin
  rw [held_get] at h
  cases q : hd.find? (fun p => decide (p.1 = w)) with
  | none => exact absurd (decide_eq_true e) (List.find?_eq_none.mp q p hp)
  | some r => rw [q] at h; cases h
theorem held_some {hd : Held} {w : Nat} (h : (getK false (heldK hd) (nI w)).isSome = true) : ∃ m, (w, m) ∈ hd ∧ getK false (heldK hd) (nI w) = some (.v (nI m)) := by
  rw [held_get] at h ⊢
  cases q : hd.find? (fun p => decide (p.1 = w)) with
  | none => rw [q] at h; cases h
  | some r =>
    have h1 : r.1 = w := by simpa using List.find?_some q
    refine ⟨r.2, ?_, rfl⟩
    rw [← h1]
    exact List.mem_of_find?_eq_some q
theorem best_ok (T : Two rows sd S) (hn : rows.length ≤ 50) :
    (LD.f_best_for [.v (hallD rows), .v (tNs S)] st).Ok fun d s => s = st ∧ ∃ (ask : Nat → Nat) (hd : Held), d = .v (pairsD (outc hd)) ∧ St rows S ask hd [] := by
  have hSn : S.length ≤ rows.length := by
    have := sub_len (m := List.range rows.length) T.nd fun x hx => List.mem_range.mpr (T.mem.mp hx).1
    rw [List.length_range] at this
    exact this
  have hwl : ∀ a, (wr rows a).length ≤ rows.length := fun a => by
    unfold wr
    exact Nat.le_trans (List.length_filter_le _ _) (row_len T.hall)
  refine fnT_ok ?_
  unfold LD.S_best_for
  simp only [envE, so_seq, so_if, so_ret, so_retN, so_exp, so_nil, so_nx, so_rt, so_asg, so_asgG, so_par2, so_par3, ok_gNm, ok_gMore, ok_gNone, so_asgT, so_sub, so_for, ok_TB, ok_Tru, ok_notT, ok_andT, ok_orT, ok_andV, ok_orV, ok_notV, ok_iteE, ok_frz, ok_new, ok_mfArg, ok_mfBin, ok_lc, ok_M, ok_M0, ok_moNone, ok_moSome, ok_Sl,
  ok_bin, ok_un, ok_arg, ok_cons, ok_nil, ok_call, ok_var, ok_C, ok_ok, ok_stuck, ok_noX, bOf_bool, low_v, iOf_int, addD_int, subD_int, negD_int, ltD_int, leD_int, gtD_int, geD_int, fInt_int, isD_bool, isNotD_bool, tru_bool, List.map_cons, List.map_nil, List.length_cons, List.length_nil, List.replicate_succ, List.replicate_zero, List.cons_append, List.nil_append,
  List.append_nil, List.getElem?_cons_zero, List.getElem?_cons_succ, List.set_cons_zero, List.set_cons_succ, Option.some.injEq, exists_eq_left', exists_eq_left, true_and, and_true, true_implies, false_implies, implies_true, Bool.false_eq_true, reduceCtorEq, false_and, and_false, D.v.injEq, PyData.int.injEq, D.ref.injEq, p1i_int, p2_two, p3_three, decide_true, Bool.not_true, Bool.not_false, decide_eq_true_eq, decide_eq_false_iff_not]
  unfold LD.best_for_E1 LD.best_for_T1
  simp only [envE, so_seq, so_if, so_ret, so_retN, so_exp, so_nil, so_nx, so_rt, so_asg, so_asgG, so_par2, so_par3, ok_gNm, ok_gMore, ok_gNone, so_asgT, so_sub, so_for, ok_TB, ok_Tru, ok_notT, ok_andT, ok_orT, ok_andV, ok_orV, ok_notV, ok_iteE, ok_frz, ok_new, ok_mfArg, ok_mfBin, ok_lc, ok_M, ok_M0, ok_moNone, ok_moSome, ok_Sl,
  ok_bin, ok_un, ok_arg, ok_cons, ok_nil, ok_call, ok_var, ok_C, ok_ok, ok_stuck, ok_noX, bOf_bool, low_v, iOf_int, addD_int, subD_int, negD_int, ltD_int, leD_int, gtD_int, geD_int, fInt_int, isD_bool, isNotD_bool, tru_bool, List.map_cons, List.map_nil, List.length_cons, List.length_nil, List.replicate_succ, List.replicate_zero, List.cons_append, List.nil_append,
  List.append_nil, List.getElem?_cons_zero, List.getElem?_cons_succ, List.set_cons_zero, List.set_cons_succ, Option.some.injEq, exists_eq_left', exists_eq_left, true_and, and_true, true_implies, false_implies, implies_true, Bool.false_eq_true, reduceCtorEq, false_and, and_false, D.v.injEq, PyData.int.injEq, D.ref.injEq, p1i_int, p2_two, p3_three, decide_true, Bool.not_true, Bool.not_false, decide_eq_true_eq, decide_eq_false_iff_not, ok_seq, seqW_tup, List.map_map]
  rw [lcL_all _ (fun a : Nat => .tuple [nI a, nI 0])]
  rotate_left
  · intro a _
    unfold LD.best_for_G1 LD.best_for_M1
    show (gNm 5 (.one (.v (nI a))) _ _).Ok _
    simp only [envE, so_seq, so_if, so_ret, so_retN, so_exp, so_nil, so_nx, so_rt, so_asg, so_asgG, so_par2, so_par3, ok_gNm, ok_gMore, ok_gNone, so_asgT, so_sub, so_for, ok_TB, ok_Tru, ok_notT, ok_andT, ok_orT, ok_andV, ok_orV, ok_notV, ok_iteE, ok_frz, ok_new, ok_mfArg, ok_mfBin, ok_lc, ok_M, ok_M0, ok_moNone, ok_moSome, ok_Sl,
  ok_bin, ok_un, ok_arg, ok_cons, ok_nil, ok_call, ok_var, ok_C, ok_ok, ok_stuck, ok_noX, bOf_bool, low_v, iOf_int, addD_int, subD_int, negD_int, ltD_int, leD_int, gtD_int, geD_int, fInt_int, isD_bool, isNotD_bool, tru_bool, List.map_cons, List.map_nil, List.length_cons, List.length_nil, List.replicate_succ, List.replicate_zero, List.cons_append, List.nil_append,
  List.append_nil, List.getElem?_cons_zero, List.getElem?_cons_succ, List.set_cons_zero, List.set_cons_succ, Option.some.injEq, exists_eq_left', exists_eq_left, true_and, and_true, true_implies, false_implies, implies_true, Bool.false_eq_true, reduceCtorEq, false_and, and_false, D.v.injEq, PyData.int.injEq, D.ref.injEq, p1i_int, p2_two, p3_three, decide_true, Bool.not_true, Bool.not_false, decide_eq_true_eq, decide_eq_false_iff_not, wipeE, tup2]
    rfl
  rw [ok_ok]
  have hda := dict_ask (st := st) (ask := fun _ => 0) T.nd
  rw [hda, ok_ok]
  rw [ok_Dnew, list_of viewS_tup, ok_ok, bst_eq, show (st ++ [O.dct false (askK S fun _ => 0)]).length = st.length + 1 by simp, show (st ++ [O.dct false (askK S fun _ => 0)] ++ [O.dct false []]).length = st.length + 2 by simp]
  unfold LD.S_best_for_2
  have htodo : todo rows S (fun _ => 0) S ≤ 2 * (50 * 50) + 50 := by
    have key : ∀ l : List Nat, (l.map fun a => (wr rows a).length - 0).sum ≤ l.length * rows.length := fun l => by
      induction l with
      | nil => simp
      | cons a r ih =>
        rw [List.map_cons, List.sum_cons, List.length_cons, Nat.succ_mul]
        have := hwl a
        omega
    have h1 := key S
    have h2 : S.length * rows.length ≤ 50 * 50 := Nat.mul_le_mul (Nat.le_trans hSn hn) hn
    show 2 * (S.map fun a => (wr rows a).length - 0).sum + S.length ≤ _
    omega
  simp only [envE, so_seq, so_if, so_ret, so_retN, so_exp, so_nil, so_nx, so_rt, so_asg, so_asgG, so_par2, so_par3, ok_gNm, ok_gMore, ok_gNone, so_asgT, so_sub, so_for, ok_TB, ok_Tru, ok_notT, ok_andT, ok_orT, ok_andV, ok_orV, ok_notV, ok_iteE, ok_frz, ok_new, ok_mfArg, ok_mfBin, ok_lc, ok_M, ok_M0, ok_moNone, ok_moSome, ok_Sl,
  ok_bin, ok_un, ok_arg, ok_cons, ok_nil, ok_call, ok_var, ok_C, ok_ok, ok_stuck, ok_noX, bOf_bool, low_v, iOf_int, addD_int, subD_int, negD_int, ltD_int, leD_int, gtD_int, geD_int, fInt_int, isD_bool, isNotD_bool, tru_bool, List.map_cons, List.map_nil, List.length_cons, List.length_nil, List.replicate_succ, List.replicate_zero, List.cons_append, List.nil_append,
  List.append_nil, List.getElem?_cons_zero, List.getElem?_cons_succ, List.set_cons_zero, List.set_cons_succ, Option.some.injEq, exists_eq_left', exists_eq_left, true_and, and_true, true_implies, false_implies, implies_true, Bool.false_eq_true, reduceCtorEq, false_and, and_false, D.v.injEq, PyData.int.injEq, D.ref.injEq, p1i_int, p2_two, p3_three, decide_true, Bool.not_true, Bool.not_false, decide_eq_true_eq, decide_eq_false_iff_not]
  refine whileL_inv (fun k e s => ∃ (ask : Nat → Nat) (hd : Held) (free : List Nat), St rows S ask hd free ∧ k = todo rows S ask free ∧ s = bst st (askK S ask) (heldK hd) (free.map nI) ∧
    ∃ x5 x6 x7 x8 x9 x10, e = [some (.v (hallD rows)), some (.v (tNs S)), some (.ref st.length), some (.ref (st.length + 1)), some (.ref (st.length + 2)), x5, x6, x7, x8, x9, x10]) ?_ 1000000 (todo rows S (fun _ => 0) S) _ _ (by omega) ?_
  · rintro k e s ⟨ask, hd, free, s0, hk, rfl, x5, x6, x7, x8, x9, x10, rfl⟩
    unfold LD.best_for_T3
    simp only [envE, so_seq, so_if, so_ret, so_retN, so_exp, so_nil, so_nx, so_rt, so_asg, so_asgG, so_par2, so_par3, ok_gNm, ok_gMore, ok_gNone, so_asgT, so_sub, so_for, ok_TB, ok_Tru, ok_notT, ok_andT, ok_orT, ok_andV, ok_orV, ok_notV, ok_iteE, ok_frz, ok_new, ok_mfArg, ok_mfBin, ok_lc, ok_M, ok_M0, ok_moNone, ok_moSome, ok_Sl,
  ok_bin, ok_un, ok_arg, ok_cons, ok_nil, ok_call, ok_var, ok_C, ok_ok, ok_stuck, ok_noX, bOf_bool, low_v, iOf_int, addD_int, subD_int, negD_int, ltD_int, leD_int, gtD_int, geD_int, fInt_int, isD_bool, isNotD_bool, tru_bool, List.map_cons, List.map_nil, List.length_cons, List.length_nil, List.replicate_succ, List.replicate_zero, List.cons_append, List.nil_append,
  List.append_nil, List.getElem?_cons_zero, List.getElem?_cons_succ, List.set_cons_zero, List.set_cons_succ, Option.some.injEq, exists_eq_left', exists_eq_left, true_and, and_true, true_implies, false_implies, implies_true, Bool.false_eq_true, reduceCtorEq, false_and, and_false, D.v.injEq, PyData.int.injEq, D.ref.injEq, p1i_int, p2_two, p3_three, decide_true, Bool.not_true, Bool.not_false, decide_eq_true_eq, decide_eq_false_iff_not, disp0, ne_nilR b2 (shaped_nats free)]
    have hhl : hd.length ≤ rows.length := by
      have := sub_len (m := List.range rows.length) s0.keys fun x hx => by
        obtain ⟨p, hp, rfl⟩ := List.mem_map.mp hx
        exact List.mem_range.mpr (T.hall.mem (want_row (s0.wants (w := p.1) (m := p.2) hp)).1).1
      rw [List.length_map, List.length_range] at this
      exact this
    refine ⟨fun hne => ?_, fun hemp => ?_⟩
    · have hne : free ≠ [] := fun e => by rw [e] at hne; cases hne
      obtain ⟨f, a, rfl⟩ : ∃ f a, free = f ++ [a] := ⟨free.dropLast, free.getLast hne, (List.dropLast_concat_getLast hne).symm⟩
      have aS : a ∈ S := s0.fin (List.mem_append_right _ (List.mem_singleton_self _))
      have han := (T.mem.mp aS).1
      have hfl : f.length ≤ 50 := by
        have := sub_len (m := S) s0.fnd fun x hx => s0.fin hx
        rw [List.length_append, List.length_singleton] at this
        omega
      unfold LD.best_for_B1
      have hpop : fmPop (.ref (st.length + 2)) [] (bst st (askK S ask) (heldK hd) ((f ++ [a]).map nI)) = .ok (.v (nI a)) (bst st (askK S ask) (heldK hd) (f.map nI)) := by
        rw [List.map_append]
        have := pop_ref (st := bst st (askK S ask) (heldK hd) (f.map nI ++ [nI a])) b2
        rw [set2] at this
        exact this
      simp only [envE, so_seq, so_if, so_ret, so_retN, so_exp, so_nil, so_nx, so_rt, so_asg, so_asgG, so_par2, so_par3, ok_gNm, ok_gMore, ok_gNone, so_asgT, so_sub, so_for, ok_TB, ok_Tru, ok_notT, ok_andT, ok_orT, ok_andV, ok_orV, ok_notV, ok_iteE, ok_frz, ok_new, ok_mfArg, ok_mfBin, ok_lc, ok_M, ok_M0, ok_moNone, ok_moSome, ok_Sl,
  ok_bin, ok_un, ok_arg, ok_cons, ok_nil, ok_call, ok_var, ok_C, ok_ok, ok_stuck, ok_noX, bOf_bool, low_v, iOf_int, addD_int, subD_int, negD_int, ltD_int, leD_int, gtD_int, geD_int, fInt_int, isD_bool, isNotD_bool, tru_bool, List.map_cons, List.map_nil, List.length_cons, List.length_nil, List.replicate_succ, List.replicate_zero, List.cons_append, List.nil_append,
  List.append_nil, List.getElem?_cons_zero, List.getElem?_cons_succ, List.set_cons_zero, List.set_cons_succ, Option.some.injEq, exists_eq_left', exists_eq_left, true_and, and_true, true_implies, false_implies, implies_true, Bool.false_eq_true, reduceCtorEq, false_and, and_false, D.v.injEq, PyData.int.injEq, D.ref.injEq, p1i_int, p2_two, p3_three, decide_true, Bool.not_true, Bool.not_false, decide_eq_true_eq, decide_eq_false_iff_not, hpop]
      refine ⟨isL_ref b2, ?_⟩
      unfold LD.best_for_B1_2 LD.best_for_E2
      simp only [envE, so_seq, so_if, so_ret, so_retN, so_exp, so_nil, so_nx, so_rt, so_asg, so_asgG, so_par2, so_par3, ok_gNm, ok_gMore, ok_gNone, so_asgT, so_sub, so_for, ok_TB, ok_Tru, ok_notT, ok_andT, ok_orT, ok_andV, ok_orV, ok_notV, ok_iteE, ok_frz, ok_new, ok_mfArg, ok_mfBin, ok_lc, ok_M, ok_M0, ok_moNone, ok_moSome, ok_Sl,
  ok_bin, ok_un, ok_arg, ok_cons, ok_nil, ok_call, ok_var, ok_C, ok_ok, ok_stuck, ok_noX, bOf_bool, low_v, iOf_int, addD_int, subD_int, negD_int, ltD_int, leD_int, gtD_int, geD_int, fInt_int, isD_bool, isNotD_bool, tru_bool, List.map_cons, List.map_nil, List.length_cons, List.length_nil, List.replicate_succ, List.replicate_zero, List.cons_append, List.nil_append,
  List.append_nil, List.getElem?_cons_zero, List.getElem?_cons_succ, List.set_cons_zero, List.set_cons_succ, Option.some.injEq, exists_eq_left', exists_eq_left, true_and, and_true, true_implies, false_implies, implies_true, Bool.false_eq_true, reduceCtorEq, false_and, and_false, D.v.injEq, PyData.int.injEq, D.ref.injEq, p1i_int, p2_two, p3_three, decide_true, Bool.not_true, Bool.not_false, decide_eq_true_eq, decide_eq_false_iff_not, ok_seq, hall1, hall_row han, seqW_tup, List.map_map]
      rw [lcL_mapA _ (fun b : Nat => if want rows a b = true then some (nI b) else none), fm_filter]
      rotate_left
      · intro b hb
        have hb2 := (T.hall.mem hb).1
        unfold LD.best_for_G2 LD.best_for_T2 LD.best_for_M2
        show (gNm 8 (.one (.v (nI b))) _ _).Ok _
        simp only [envE, so_seq, so_if, so_ret, so_retN, so_exp, so_nil, so_nx, so_rt, so_asg, so_asgG, so_par2, so_par3, ok_gNm, ok_gMore, ok_gNone, so_asgT, so_sub, so_for, ok_TB, ok_Tru, ok_notT, ok_andT, ok_orT, ok_andV, ok_orV, ok_notV, ok_iteE, ok_frz, ok_new, ok_mfArg, ok_mfBin, ok_lc, ok_M, ok_M0, ok_moNone, ok_moSome, ok_Sl,
  ok_bin, ok_un, ok_arg, ok_cons, ok_nil, ok_call, ok_var, ok_C, ok_ok, ok_stuck, ok_noX, bOf_bool, low_v, iOf_int, addD_int, subD_int, negD_int, ltD_int, leD_int, gtD_int, geD_int, fInt_int, isD_bool, isNotD_bool, tru_bool, List.map_cons, List.map_nil, List.length_cons, List.length_nil, List.replicate_succ, List.replicate_zero, List.cons_append, List.nil_append,
  List.append_nil, List.getElem?_cons_zero, List.getElem?_cons_succ, List.set_cons_zero, List.set_cons_succ, Option.some.injEq, exists_eq_left', exists_eq_left, true_and, and_true, true_implies, false_implies, implies_true, Bool.false_eq_true, reduceCtorEq, false_and, and_false, D.v.injEq, PyData.int.injEq, D.ref.injEq, p1i_int, p2_two, p3_three, decide_true, Bool.not_true, Bool.not_false, decide_eq_true_eq, decide_eq_false_iff_not, wipeE, want_eq han hb2]
        refine ⟨fun h => by rw [if_pos h], fun h => by rw [if_neg (by rw [h]; exact Bool.false_ne_true)]⟩
      rw [ok_ok, show (row rows a).filter (want rows a) = wr rows a from rfl]
      unfold LD.best_for_B1_3
      simp only [envE, so_seq, so_if, so_ret, so_retN, so_exp, so_nil, so_nx, so_rt, so_asg, so_asgG, so_par2, so_par3, ok_gNm, ok_gMore, ok_gNone, so_asgT, so_sub, so_for, ok_TB, ok_Tru, ok_notT, ok_andT, ok_orT, ok_andV, ok_orV, ok_notV, ok_iteE, ok_frz, ok_new, ok_mfArg, ok_mfBin, ok_lc, ok_M, ok_M0, ok_moNone, ok_moSome, ok_Sl,
  ok_bin, ok_un, ok_arg, ok_cons, ok_nil, ok_call, ok_var, ok_C, ok_ok, ok_stuck, ok_noX, bOf_bool, low_v, iOf_int, addD_int, subD_int, negD_int, ltD_int, leD_int, gtD_int, geD_int, fInt_int, isD_bool, isNotD_bool, tru_bool, List.map_cons, List.map_nil, List.length_cons, List.length_nil, List.replicate_succ, List.replicate_zero, List.cons_append, List.nil_append,
  List.append_nil, List.getElem?_cons_zero, List.getElem?_cons_succ, List.set_cons_zero, List.set_cons_succ, Option.some.injEq, exists_eq_left', exists_eq_left, true_and, and_true, true_implies, false_implies, implies_true, Bool.false_eq_true, reduceCtorEq, false_and, and_false, D.v.injEq, PyData.int.injEq, D.ref.injEq, p1i_int, p2_two, p3_three, decide_true, Bool.not_true, Bool.not_false, decide_eq_true_eq, decide_eq_false_iff_not, sub_dct b0 (ask_get aS), Fw.len_list, List.length_map]
      have hka : (askK S ask).length < 1000000 := by unfold askK; rw [List.length_map]; omega
      have hkh : (heldK hd).length < 1000000 := by unfold heldK; rw [List.length_map]; omega
      refine ⟨fun hlt => ?_, fun hge => ?_⟩
      · have hlt : ask a < (wr rows a).length := by omega
        obtain ⟨w, hw⟩ : ∃ w, (wr rows a)[ask a]? = some w := ⟨_, List.getElem?_eq_getElem hlt⟩
        have A : Ask rows S ask hd f a w := ⟨s0, hw⟩
        have hwant : want rows a w = true := mem_wr.mp (List.mem_of_getElem? hw)
        have hrow := want_row hwant
        have hwn := (T.hall.mem hrow.1).1
        have hadd : ∀ st, addD (.v (nI (ask a))) (.v (.int 1)) st = .ok (.v (nI (ask a + 1))) st := fun st => by rw [addD_int]; rfl
        rw [show ∀ st, subsD (.v (.list ((wr rows a).map nI))) (.v (nI (ask a))) st = .ok (.v (nI w)) st from fun st => sub_list (k := ask a) (by rw [List.getElem?_map, hw]; rfl), ok_ok, sub_dct b0 (ask_get aS), ok_ok, hadd, ok_ok, set_dct b0 hka, ok_ok, ask_put aS, set0, notIn_dct b1, ok_ok]
        refine ⟨_, rfl, fun hno => ?_, fun hyes => ?_⟩
        · have hnk := held_none (hd := hd) (w := w) (by simpa only [Bool.not_eq_true'] using hno)
          rw [set_dct b1 hkh, ok_ok, held_put hnk, set1]
          exact ⟨todo rows S (inc ask a) f, by rw [hk]; exact todo_ask T.nd aS hlt (by rw [List.length_append]; omega), inc ask a, hd ++ [(w, a)], f, take_new T A (fun m hm => hnk (List.mem_map_of_mem (f := (·.1)) hm)), rfl, rfl, _, _, _, _, _, _, rfl⟩
        · obtain ⟨h, hh, hg⟩ := held_some (hd := hd) (w := w) (by simpa only [Bool.not_eq_false'] using hyes)
          have hra : ∀ st, LD.f_has_rather [.v (hallD rows), .v (nI w), .v (nI a), .v (nI h)] st = .ok (.v (.bool (rather rows w a (some h)))) st := fun st => rather_eq (c := some h) hwn
          have hhr := want_row (s0.wants hh)
          have hin : w ∈ hd.map (·.1) := List.mem_map_of_mem (f := (·.1)) hh
          have hfl2 : (f.map nI).length < 1000000 := by rw [List.length_map]; omega
          rw [sub_dct b1 hg, ok_ok, hra, ok_ok]
          refine ⟨rather rows w a (some h), rfl, fun hb => ⟨isL_ref b2, ?_⟩, fun hb => ⟨isL_ref b2, ?_⟩⟩
          · have hlt2 := (rather_iff hrow.2).mp hb
            rw [sub_dct b1 hg, ok_ok, Fw.append_at b2 hfl2, ok_ok, set2, set_dct b1 hkh, ok_ok, held_swap hin, set1]
            exact ⟨todo rows S (inc ask a) (f ++ [h]), by rw [hk]; exact todo_ask T.nd aS hlt (by simp only [List.length_append, List.length_singleton]; omega), inc ask a, swap hd w a, f ++ [h], take_better T A hh hlt2, rfl, by rw [List.map_append]; rfl, _, _, _, _, _, _, rfl⟩
          · have hnlt : ¬ place rows w (some a) < place rows w (some h) := fun z => by
              rw [← rather_iff hrow.2, hb] at z
              exact absurd z Bool.false_ne_true
            have hne : a ≠ h := fun e => (s0.held hh).2.1 (e ▸ List.mem_append_right _ (List.mem_singleton_self _))
            have hpl : place rows w (some h) < place rows w (some a) := Nat.lt_of_le_of_ne (Nat.le_of_not_lt hnlt) fun e => hne (place_inj hhr.2 hrow.2 e).symm
            rw [Fw.append_at b2 hfl2, ok_ok, set2]
            exact ⟨todo rows S (inc ask a) (f ++ [a]), by rw [hk]; exact todo_ask T.nd aS hlt (by omega), inc ask a, hd, f ++ [a], keep T A hh hpl, rfl, by rw [List.map_append]; rfl, _, _, _, _, _, _, rfl⟩
      · exact ⟨todo rows S ask f, by rw [hk]; unfold todo; rw [List.length_append, List.length_singleton]; omega, ask, hd, f, stay s0 (by omega), rfl, rfl, _, _, _, _, _, _, rfl⟩
    · have he : free = [] := by cases free <;> first | rfl | cases hemp
      subst he
      unfold LD.S_best_for_3
      simp only [envE, so_seq, so_if, so_ret, so_retN, so_exp, so_nil, so_nx, so_rt, so_asg, so_asgG, so_par2, so_par3, ok_gNm, ok_gMore, ok_gNone, so_asgT, so_sub, so_for, ok_TB, ok_Tru, ok_notT, ok_andT, ok_orT, ok_andV, ok_orV, ok_notV, ok_iteE, ok_frz, ok_new, ok_mfArg, ok_mfBin, ok_lc, ok_M, ok_M0, ok_moNone, ok_moSome, ok_Sl,
  ok_bin, ok_un, ok_arg, ok_cons, ok_nil, ok_call, ok_var, ok_C, ok_ok, ok_stuck, ok_noX, bOf_bool, low_v, iOf_int, addD_int, subD_int, negD_int, ltD_int, leD_int, gtD_int, geD_int, fInt_int, isD_bool, isNotD_bool, tru_bool, List.map_cons, List.map_nil, List.length_cons, List.length_nil, List.replicate_succ, List.replicate_zero, List.cons_append, List.nil_append,
  List.append_nil, List.getElem?_cons_zero, List.getElem?_cons_succ, List.set_cons_zero, List.set_cons_succ, Option.some.injEq, exists_eq_left', exists_eq_left, true_and, and_true, true_implies, false_implies, implies_true, Bool.false_eq_true, reduceCtorEq, false_and, and_false, D.v.injEq, PyData.int.injEq, D.ref.injEq, p1i_int, p2_two, p3_three, decide_true, Bool.not_true, Bool.not_false, decide_eq_true_eq, decide_eq_false_iff_not]
      rw [ok_Lock rfl b1]
      have hlck : ((bst st (askK S ask) (heldK hd) []).set (st.length + 1) (.lck false (heldK hd)))[st.length + 1]? = some (.lck false (heldK hd)) := List.getElem?_set_self (by unfold bst; rw [List.length_append]; show st.length + 1 < st.length + 3; omega)
      simp only [envE, so_seq, so_if, so_ret, so_retN, so_exp, so_nil, so_nx, so_rt, so_asg, so_asgG, so_par2, so_par3, ok_gNm, ok_gMore, ok_gNone, so_asgT, so_sub, so_for, ok_TB, ok_Tru, ok_notT, ok_andT, ok_orT, ok_andV, ok_orV, ok_notV, ok_iteE, ok_frz, ok_new, ok_mfArg, ok_mfBin, ok_lc, ok_M, ok_M0, ok_moNone, ok_moSome, ok_Sl,
  ok_bin, ok_un, ok_arg, ok_cons, ok_nil, ok_call, ok_var, ok_C, ok_ok, ok_stuck, ok_noX, bOf_bool, low_v, iOf_int, addD_int, subD_int, negD_int, ltD_int, leD_int, gtD_int, geD_int, fInt_int, isD_bool, isNotD_bool, tru_bool, List.map_cons, List.map_nil, List.length_cons, List.length_nil, List.replicate_succ, List.replicate_zero, List.cons_append, List.nil_append,
  List.append_nil, List.getElem?_cons_zero, List.getElem?_cons_succ, List.set_cons_zero, List.set_cons_succ, Option.some.injEq, exists_eq_left', exists_eq_left, true_and, and_true, true_implies, false_implies, implies_true, Bool.false_eq_true, reduceCtorEq, false_and, and_false, D.v.injEq, PyData.int.injEq, D.ref.injEq, p1i_int, p2_two, p3_three, decide_true, Bool.not_true, Bool.not_false, decide_eq_true_eq, decide_eq_false_iff_not]
      unfold LD.best_for_E3 LD.best_for_T4
      rw [items_lck rfl hlck]
      have hits : itemsI (heldK hd) = hd.map fun p => Itm.many [.v (nI p.1), .v (nI p.2)] := by
        unfold itemsI heldK
        rw [List.map_map]
        rfl
      rw [hits, lcL_all _ (fun p : Nat × Nat => pr (mm p))]
      rotate_left
      · intro p _
        unfold LD.best_for_G3 LD.best_for_M3
        rw [ok_gTp2]
        have hmin : ((min (p.1 : Int) (p.2 : Int)) : Int) = ((min p.1 p.2 : Nat) : Int) := by omega
        have hmax : ((max (p.1 : Int) (p.2 : Int)) : Int) = ((max p.1 p.2 : Nat) : Int) := by omega
        simp only [envE, so_seq, so_if, so_ret, so_retN, so_exp, so_nil, so_nx, so_rt, so_asg, so_asgG, so_par2, so_par3, ok_gNm, ok_gMore, ok_gNone, so_asgT, so_sub, so_for, ok_TB, ok_Tru, ok_notT, ok_andT, ok_orT, ok_andV, ok_orV, ok_notV, ok_iteE, ok_frz, ok_new, ok_mfArg, ok_mfBin, ok_lc, ok_M, ok_M0, ok_moNone, ok_moSome, ok_Sl,
  ok_bin, ok_un, ok_arg, ok_cons, ok_nil, ok_call, ok_var, ok_C, ok_ok, ok_stuck, ok_noX, bOf_bool, low_v, iOf_int, addD_int, subD_int, negD_int, ltD_int, leD_int, gtD_int, geD_int, fInt_int, isD_bool, isNotD_bool, tru_bool, List.map_cons, List.map_nil, List.length_cons, List.length_nil, List.replicate_succ, List.replicate_zero, List.cons_append, List.nil_append,
  List.append_nil, List.getElem?_cons_zero, List.getElem?_cons_succ, List.set_cons_zero, List.set_cons_succ, Option.some.injEq, exists_eq_left', exists_eq_left, true_and, and_true, true_implies, false_implies, implies_true, Bool.false_eq_true, reduceCtorEq, false_and, and_false, D.v.injEq, PyData.int.injEq, D.ref.injEq, p1i_int, p2_two, p3_three, decide_true, Bool.not_true, Bool.not_false, decide_eq_true_eq, decide_eq_false_iff_not, wipeE, bMin_int, bMax_int, tup2, hmin, hmax]
        rfl
      rw [ok_ok]
      have hP := out_prg T s0
      have hset : ((bst st (askK S ask) (heldK hd) []).set (st.length + 1) (.lck false (heldK hd))).set (st.length + 1) (.dct false (heldK hd)) = bst st (askK S ask) (heldK hd) [] := by
        rw [List.set_set, set1]
      have hmm : hd.map (fun p : Nat × Nat => pr (mm p)) = (hd.map mm).map pr := by rw [List.map_map]; rfl
      have hb : ∀ p ∈ hd.map mm, p.1 < 1000000 ∧ p.2 < 1000000 := fun p hp => by
        have := hP.lt p ((sortP_perm _).mem_iff.mpr hp)
        omega
      rw [hset, hmm, sort_pairs (by rw [List.length_map]; omega) hb, ok_ok, tup_list, ok_ok]
      exact ⟨rfl, btake, ask, hd, rfl, s0⟩
  · exact ⟨fun _ => 0, [], S, start T.nd, rfl, rfl, _, _, _, _, _, _, rfl⟩
end
end Fw.Da

/-! ### all pairings; two compared -/
namespace Fw.Da
open PySem PySem.Spec PyProof.Rows L2 Fw Fw.Hl
section
variable {rows : List (List Nat)} {ps qs μ ν : List (Nat × Nat)} {a b n i : Nat} {st : Sto}
theorem row_ok {p : Nat × Nat} (h : p.1 < 1000000 ∧ p.2 < 1000000) : RowOk 2 (r2 p) := by
  refine rowB_ok ?_
  unfold rowB
  rw [Bool.and_eq_true]
  refine ⟨rfl, List.all_eq_true.mpr fun m hm => decide_eq_true ?_⟩
  simp only [r2, List.mem_cons, List.not_mem_nil, or_false] at hm
  rcases hm with rfl | rfl
  · exact ⟨by omega, show (p.1 : Int) < 1000000 by omega⟩
  · exact ⟨by omega, show (p.2 : Int) < 1000000 by omega⟩
theorem r2_inj {p q : Nat × Nat} (h : r2 p = r2 q) : p = q := by
  unfold r2 at h
  simp only [List.cons.injEq, and_true] at h
  exact Prod.ext (by omega) (by omega)
theorem map_r2 : ∀ {l m : List (Nat × Nat)}, l.map r2 = m.map r2 → l = m
  | [], [], _ => rfl
  | [], _ :: _, h => nomatch h
  | _ :: _, [], h => nomatch h
  | a :: r, b :: s, h => by
    rw [List.map_cons, List.map_cons] at h
    have h1 := List.head_eq_of_cons_eq h
    have h2 := List.tail_eq_of_cons_eq h
    rw [r2_inj h1, map_r2 h2]
theorem sortP_eq (hp : ps.Perm qs) (h : ∀ p ∈ qs, p.1 < 1000000 ∧ p.2 < 1000000) : sortP ps = sortP qs := by
  apply map_r2
  rw [← sortP_map, ← sortP_map]
  have h1 : ∀ r ∈ qs.map r2, RowOk 2 r := fun r hr => by
    obtain ⟨p, hp, rfl⟩ := List.mem_map.mp hr
    exact row_ok (h p hp)
  have h2 : ∀ r ∈ ps.map r2, RowOk 2 r := fun r hr => h1 r ((hp.map r2).mem_iff.mp hr)
  exact sortR_uniq h1 ((sortR_perm _).trans (hp.map r2)) (sortR_sorted h2)
/-- told in order -/
def Srt (ps : List (Nat × Nat)) : Prop := ps = sortP ps
theorem prs_bd (h : Prs n ps) (hn : n ≤ 50) : ∀ p ∈ ps, p.1 < 1000000 ∧ p.2 < 1000000 := fun p hp => by have := h.lt p hp; omega
theorem srt_sort (h : Prs n ps) (hn : n ≤ 50) : Srt (sortP ps) := (sortP_eq (sortP_perm ps) (prs_bd h hn)).symm
/-- pairings told in order are the same, if they pair alike -/
theorem srt_same (hn : n ≤ 50) (h1 : Prs n ps) (h2 : Prs n qs) (s1 : Srt ps) (s2 : Srt qs) (h : ∀ p, p ∈ ps ↔ p ∈ qs) : ps = qs := by
  have nd : ∀ {l : List (Nat × Nat)}, Prs n l → l.Nodup := fun {l} hl => hl.far.imp fun {a b} hf e => hf.1 (by rw [e])
  have hperm : ps.Perm qs := (List.perm_ext_iff_of_nodup (nd h1) (nd h2)).mpr h
  rw [s1, s2]
  exact sortP_eq hperm (prs_bd h2 hn)
theorem prg_same (hn : rows.length ≤ 50) (h1 : Prg rows μ) (h2 : Prg rows ν) (s1 : Srt μ) (s2 : Srt ν) (h : ∀ a, partner μ a = partner ν a) : μ = ν := by
  have half : ∀ {μ ν : List (Nat × Nat)}, Prg rows μ → Prg rows ν → (∀ a, partner μ a = partner ν a) → ∀ p ∈ μ, p ∈ ν := fun {μ ν} h1 h2 h p hp => by
    have e : partner μ p.1 = some p.2 := (partner_iff h1.toPrs).mpr (.inl hp)
    rw [h] at e
    rcases (partner_iff h2.toPrs).mp e with e | e
    · exact e
    · have := (h1.lt p hp).1
      have := (h2.lt _ e).1
      have : p.2 < p.1 := this
      omega
  exact srt_same hn h1.toPrs h2.toPrs s1 s2 fun p => ⟨half h1 h2 h p, half h2 h1 (fun a => (h a).symm) p⟩
/-- one pairing more by those who can be with a -/
def more (rows : List (List Nat)) (a : Nat) (ps : List (Nat × Nat)) : List (List (Nat × Nat)) := if partner ps a = none then (((ups (a + 1) rows.length).filter (want rows a)).filter fun b => decide (partner ps b = none)).map fun b => sortP (ps ++ [(a, b)]) else []
def upto (rows : List (List Nat)) : Nat → List (List (Nat × Nat))
  | 0 => [[]]
  | a + 1 => upto rows a ++ (upto rows a).flatMap (more rows a)
theorem more_len : (more rows a ps).length ≤ rows.length - (a + 1) := by
  unfold more
  split
  · rw [List.length_map]
    refine Nat.le_trans (List.length_filter_le _ _) (Nat.le_trans (List.length_filter_le _ _) ?_)
    unfold ups
    rw [List.length_map, List.length_range]
    exact Nat.le_refl _
  · exact Nat.zero_le _
theorem flat_len {α β : Type} {f : α → List β} {k : Nat} (h : ∀ x, (f x).length ≤ k) : ∀ l : List α, (l.flatMap f).length ≤ l.length * k
  | [] => by simp
  | x :: r => by
    rw [List.flatMap_cons, List.length_append, List.length_cons, Nat.succ_mul]
    have := flat_len h r
    have := h x
    omega
def cnt (n : Nat) : Nat → Nat
  | 0 => 1
  | a + 1 => cnt n a * (1 + (n - (a + 1)))
theorem upto_len : ∀ a, (upto rows a).length ≤ cnt rows.length a
  | 0 => Nat.le_refl _
  | a + 1 => by
    unfold upto cnt
    rw [List.length_append, Nat.mul_add, Nat.mul_one]
    have h1 := upto_len a
    have h2 := flat_len (f := more rows a) (k := rows.length - (a + 1)) (fun x => more_len) (upto rows a)
    have h3 := Nat.mul_le_mul_right (rows.length - (a + 1)) h1
    omega
theorem cnt_le (hn : n ≤ 7) (ha : a ≤ n) : cnt n a ≤ 5040 := by
  have : n = 0 ∨ n = 1 ∨ n = 2 ∨ n = 3 ∨ n = 4 ∨ n = 5 ∨ n = 6 ∨ n = 7 := by omega
  have key : ∀ n, n < 8 → ∀ a, a < n + 1 → cnt n a ≤ 5040 := by decide
  exact key n (by omega) a (by omega)
/-- the pairs whose lower one is below a -/
def below (a : Nat) (ps : List (Nat × Nat)) : List (Nat × Nat) := ps.filter fun p => decide (p.1 < a)
theorem upto_ok (hn : rows.length ≤ 50) : ∀ a, a ≤ rows.length → ∀ ps ∈ upto rows a, Prg rows ps ∧ Srt ps
  | 0, _, ps, h => by
    have e : ps = [] := by simpa [upto] using h
    subst e
    exact ⟨⟨⟨(fun p z => nomatch z), .nil⟩, fun p z => nomatch z⟩, rfl⟩
  | a + 1, ha, ps, h => by
    have ih := upto_ok hn a (by omega)
    unfold upto at h
    rcases List.mem_append.mp h with h | h
    · exact ih ps h
    · obtain ⟨qs, hq, hm⟩ := List.mem_flatMap.mp h
      obtain ⟨g1, g2⟩ := ih qs hq
      unfold more at hm
      split at hm
      · rename_i hpa
        obtain ⟨b, hb, rfl⟩ := List.mem_map.mp hm
        obtain ⟨hb1, hb2⟩ := List.mem_filter.mp hb
        obtain ⟨hb3, hb4⟩ := List.mem_filter.mp hb1
        have hb5 := mem_ups.mp hb3
        have hpb : partner qs b = none := of_decide_eq_true hb2
        have none_far : ∀ {c}, partner qs c = none → ∀ q ∈ qs, q.1 ≠ c ∧ q.2 ≠ c := fun {c} hc q hq => by
          refine ⟨fun e => ?_, fun e => ?_⟩
          · have : partner qs c = some q.2 := (partner_iff g1.toPrs).mpr (.inl (by rw [← e]; exact hq))
            rw [hc] at this; cases this
          · have : partner qs c = some q.1 := (partner_iff g1.toPrs).mpr (.inr (by rw [← e]; exact hq))
            rw [hc] at this; cases this
        have hP : Prs rows.length (qs ++ [(a, b)]) := ⟨fun p hp => by
            rcases List.mem_append.mp hp with hp | hp
            · exact g1.lt p hp
            · rw [List.mem_singleton.mp hp]; exact ⟨by show a < b; omega, hb5.2⟩,
          List.pairwise_append.mpr ⟨g1.far, List.pairwise_singleton _ _, fun q hq r hr => by
            rw [List.mem_singleton.mp hr]
            have n1 := none_far hpa q hq
            have n2 := none_far hpb q hq
            exact ⟨n1.1, n2.1, n1.2, n2.2⟩⟩⟩
        have hp := sortP_perm (qs ++ [(a, b)])
        refine ⟨⟨hP.perm hp, fun p hp' => ?_⟩, srt_sort hP hn⟩
        rcases List.mem_append.mp (hp.mem_iff.mp hp') with h | h
        · exact g1.want p h
        · rw [List.mem_singleton.mp h]; exact hb4
      · cases hm
/-- each pairing is come to -/
theorem upto_all (hn : rows.length ≤ 50) (h : Prg rows μ) : ∀ a, a ≤ rows.length → sortP (below a μ) ∈ upto rows a
  | 0, _ => by
    have e : below 0 μ = [] := by
      unfold below
      exact List.filter_eq_nil_iff.mpr fun p _ => by simp
    rw [e]
    exact List.mem_singleton_self _
  | a + 1, ha => by
    have ih := upto_all hn h a (by omega)
    unfold upto
    have hsub : ∀ {k}, Prs rows.length (below k μ) := fun {k} => ⟨fun p hp => h.lt p (List.mem_filter.mp hp).1, h.far.filter _⟩
    have hb0 : Prs rows.length (sortP (below a μ)) := hsub.perm (sortP_perm _)
    by_cases hex : ∃ b, (a, b) ∈ μ
    · obtain ⟨b, hb⟩ := hex
      have hlt := h.lt _ hb
      have hw := h.want _ hb
      refine List.mem_append_right _ (List.mem_flatMap.mpr ⟨_, ih, ?_⟩)
      have nobody : ∀ {c}, (c = a ∨ c = b) → partner (sortP (below a μ)) c = none := fun {c} hc => by
        cases e : partner (sortP (below a μ)) c with
        | none => rfl
        | some d =>
          have hq : ∃ q ∈ μ, q.1 < a ∧ (q = (c, d) ∨ q = (d, c)) := by
            rcases (partner_iff hb0).mp e with m | m
            · have m := List.mem_filter.mp ((sortP_perm _).mem_iff.mp m)
              exact ⟨_, m.1, of_decide_eq_true m.2, .inl rfl⟩
            · have m := List.mem_filter.mp ((sortP_perm _).mem_iff.mp m)
              exact ⟨_, m.1, of_decide_eq_true m.2, .inr rfl⟩
          obtain ⟨q, hq, hqa, hqe⟩ := hq
          rcases far_of h.far hq hb with e2 | e2
          · rw [e2] at hqa
            exact absurd hqa (Nat.lt_irrefl _)
          · obtain ⟨f1, f2, f3, f4⟩ := e2
            rcases hc with rfl | rfl <;> rcases hqe with rfl | rfl
            · exact absurd rfl f1
            · exact absurd rfl f3
            · exact absurd rfl f2
            · exact absurd rfl f4
      unfold more
      rw [if_pos (nobody (.inl rfl))]
      refine List.mem_map.mpr ⟨b, List.mem_filter.mpr ⟨List.mem_filter.mpr ⟨mem_ups.mpr ⟨hlt.1, hlt.2⟩, hw⟩, decide_eq_true (nobody (.inr rfl))⟩, ?_⟩
      have nd : ∀ {l : List (Nat × Nat)}, Prs rows.length l → l.Nodup := fun {l} hl => hl.far.imp fun {a b} hf e => hf.1 (by rw [e])
      have hab : ¬ (a, b) ∈ below a μ := fun z => absurd (of_decide_eq_true (List.mem_filter.mp z).2) (Nat.lt_irrefl _)
      have p1 : (sortP (below a μ) ++ [(a, b)]).Perm (below (a + 1) μ) := by
        refine ((sortP_perm _).append_right _).trans ((List.perm_ext_iff_of_nodup ?_ (nd hsub)).mpr fun p => ?_)
        · exact List.nodup_append.mpr ⟨nd hsub, by simp, fun u hu v hv => by rw [List.mem_singleton.mp hv]; exact fun e => hab (e ▸ hu)⟩
        · unfold below
          rw [List.mem_append, List.mem_filter, List.mem_filter, List.mem_singleton, decide_eq_true_eq, decide_eq_true_eq]
          constructor
          · rintro (⟨h1, h2⟩ | rfl)
            · exact ⟨h1, by omega⟩
            · exact ⟨hb, Nat.lt_succ_self _⟩
          · rintro ⟨h1, h2⟩
            by_cases c : p.1 < a
            · exact .inl ⟨h1, c⟩
            · have e : p.1 = a := by omega
              rcases far_of h.far h1 hb with e2 | e2
              · exact .inr e2
              · exact absurd e e2.1
      exact sortP_eq p1 (prs_bd hsub hn)
    · refine List.mem_append_left _ ?_
      have e : below (a + 1) μ = below a μ := by
        unfold below
        refine List.filter_congr fun p hp => decide_eq_decide.mpr ⟨fun h1 => ?_, fun h1 => by omega⟩
        refine Classical.byContradiction fun hno => hex ⟨p.2, ?_⟩
        have : p.1 = a := by omega
        rw [← this]
        exact hp
      rw [e]
      exact ih
theorem all_in (hn : rows.length ≤ 50) (h : Prg rows μ) (s : Srt μ) : μ ∈ upto rows rows.length := by
  have := upto_all hn h rows.length (Nat.le_refl _)
  have e : below rows.length μ = μ := List.filter_eq_self.mpr fun p hp => decide_eq_true (by have := h.lt p hp; omega)
  rw [e, ← s] at this
  exact this
end
end Fw.Da

namespace Fw.Da
open PySem PySem.Spec PyProof.Rows L2 Fw Fw.Hl
section
variable {rows : List (List Nat)} {ps qs μ ν : List (Nat × Nat)} {a b n i : Nat} {st : Sto}
theorem sort_pairsV {l : List (Nat × Nat)} (h1 : 1 ≤ l.length) (hl : l.length < 64) (hb : ∀ p ∈ l, p.1 < 1000000 ∧ p.2 < 1000000) : gSortV [.v (.tuple (l.map pr))] st = .ok ((sortP l).map pr) st := by
  cases l with
  | nil => exact absurd h1 (by decide)
  | cons p r =>
    show (match rowsOf ((p :: r).map pr) with
      | some rs => if ((p :: r).map pr).length < 64 ∧ 1 ≤ (rs.headD []).length ∧ (rs.all (rowB (rs.headD []).length)) = true then Out.ok ((sortR rs).map fun r : List Int => PyData.tuple (r.map PyData.int)) st else .stuck
      | none => .stuck) = _
    rw [rowsOf_pairs]
    have e2 : (((p :: r).map r2).headD []).length = 2 := rfl
    show (if ((p :: r).map pr).length < 64 ∧ 1 ≤ (((p :: r).map r2).headD []).length ∧ (((p :: r).map r2).all (rowB (((p :: r).map r2).headD []).length)) = true then Out.ok ((sortR ((p :: r).map r2)).map fun r : List Int => PyData.tuple (r.map PyData.int)) st else .stuck) = _
    rw [e2, if_pos, sortP_map, List.map_map]
    · rfl
    refine ⟨by rw [List.length_map]; exact hl, by decide, ?_⟩
    rw [List.all_map]
    refine List.all_eq_true.mpr fun q hq => ?_
    rw [Function.comp_apply]
    obtain ⟨b1, b2⟩ := hb q hq
    unfold rowB
    rw [Bool.and_eq_true]
    refine ⟨rfl, List.all_eq_true.mpr fun m hm => decide_eq_true ?_⟩
    simp only [r2, List.mem_cons, List.not_mem_nil, or_false] at hm
    rcases hm with rfl | rfl
    · exact ⟨by omega, show (q.1 : Int) < 1000000 by omega⟩
    · exact ⟨by omega, show (q.2 : Int) < 1000000 by omega⟩
theorem add_tupD {xs ys : List PyData} (h : xs.length + ys.length ≤ 1000000) : addD (.v (.tuple xs)) (.v (.tuple ys)) st = .ok (.v (.tuple (xs ++ ys))) st := by
  show (if xs.length + ys.length ≤ lim then Out.ok (D.v (.tuple (xs ++ ys))) st else .stuck) = _
  rw [if_pos (show xs.length + ys.length ≤ lim from h)]
theorem isnone_opt {c : Option Nat} : isD (.v (optD c)) (.v .none) st = .ok (.v (.bool c.isNone)) st := by cases c <;> rfl
theorem none_dec {c : Option Nat} : c.isNone = decide (c = none) := by cases c <;> simp
theorem pairings_eq (hn : rows.length ≤ 7) : LD.f_law_pairings [.v (hallD rows)] st = .ok (.v (.list ((upto rows rows.length).map pairsD))) st := by
  refine Out.Ok.is (fnT_ok ?_)
  unfold LD.S_law_pairings LD.S_law_pairings_2 LD.law_pairings_E5
  simp only [envE, so_seq, so_if, so_ret, so_retN, so_exp, so_nil, so_nx, so_rt, so_asg, so_asgG, so_par2, so_par3, ok_gNm, ok_gMore, ok_gNone, so_asgT, so_sub, so_for, ok_TB, ok_Tru, ok_notT, ok_andT, ok_orT, ok_andV, ok_orV, ok_notV, ok_iteE, ok_frz, ok_new, ok_mfArg, ok_mfBin, ok_lc, ok_M, ok_M0, ok_moNone, ok_moSome, ok_Sl,
  ok_bin, ok_un, ok_arg, ok_cons, ok_nil, ok_call, ok_var, ok_C, ok_ok, ok_stuck, ok_noX, bOf_bool, low_v, iOf_int, addD_int, subD_int, negD_int, ltD_int, leD_int, gtD_int, geD_int, fInt_int, isD_bool, isNotD_bool, tru_bool, List.map_cons, List.map_nil, List.length_cons, List.length_nil, List.replicate_succ, List.replicate_zero, List.cons_append, List.nil_append,
  List.append_nil, List.getElem?_cons_zero, List.getElem?_cons_succ, List.set_cons_zero, List.set_cons_succ, Option.some.injEq, exists_eq_left', exists_eq_left, true_and, and_true, true_implies, false_implies, implies_true, Bool.false_eq_true, reduceCtorEq, false_and, and_false, D.v.injEq, PyData.int.injEq, D.ref.injEq, p1i_int, p2_two, p3_three, decide_true, Bool.not_true, Bool.not_false, decide_eq_true_eq, decide_eq_false_iff_not, tup0, disp1, ok_R1, hall0]
  refine ⟨⟨by omega, by omega⟩, ?_⟩
  rw [Int.toNat_natCast]
  refine forL_inv (fun i e s => s = st ∧ ∃ x2 x3 x4 x5 x6, e = [some (.v (hallD rows)), some (.v (.list ((upto rows i).map pairsD))), x2, x3, x4, x5, x6]) _ _ _ 0 ?_ ?_ ⟨rfl, _, _, _, _, _, rfl⟩
  · rintro i d e s hd ⟨rfl, x2, x3, x4, x5, x6, rfl⟩
    obtain ⟨hi, rfl⟩ := rngI_get hd
    refine ⟨trivial, ?_⟩
    rw [Int.zero_add, Nat.zero_add]
    have hok := upto_ok (rows := rows) (by omega) i (by omega)
    have hE : (upto rows i).length ≤ 5040 := Nat.le_trans (upto_len i) (cnt_le hn (by omega))
    have hup : upto rows (i + 1) = upto rows i ++ (upto rows i).flatMap (more rows i) := rfl
    have hfl := flat_len (f := more rows i) (k := 7) (fun x => Nat.le_trans more_len (by omega))
    rw [hup]
    unfold LD.law_pairings_G5 LD.law_pairings_B1
    generalize upto rows i = E at hok hE
    have hgl : ∀ t, gList [.v (.list (E.map pairsD))] t = .ok (E.map pairsD) t := fun t => list_of viewS_list
    simp only [envE, so_seq, so_if, so_ret, so_retN, so_exp, so_nil, so_nx, so_rt, so_asg, so_asgG, so_par2, so_par3, ok_gNm, ok_gMore, ok_gNone, so_asgT, so_sub, so_for, ok_TB, ok_Tru, ok_notT, ok_andT, ok_orT, ok_andV, ok_orV, ok_notV, ok_iteE, ok_frz, ok_new, ok_mfArg, ok_mfBin, ok_lc, ok_M, ok_M0, ok_moNone, ok_moSome, ok_Sl,
  ok_bin, ok_un, ok_arg, ok_cons, ok_nil, ok_call, ok_var, ok_C, ok_ok, ok_stuck, ok_noX, bOf_bool, low_v, iOf_int, addD_int, subD_int, negD_int, ltD_int, leD_int, gtD_int, geD_int, fInt_int, isD_bool, isNotD_bool, tru_bool, List.map_cons, List.map_nil, List.length_cons, List.length_nil, List.replicate_succ, List.replicate_zero, List.cons_append, List.nil_append,
  List.append_nil, List.getElem?_cons_zero, List.getElem?_cons_succ, List.set_cons_zero, List.set_cons_succ, Option.some.injEq, exists_eq_left', exists_eq_left, true_and, and_true, true_implies, false_implies, implies_true, Bool.false_eq_true, reduceCtorEq, false_and, and_false, D.v.injEq, PyData.int.injEq, D.ref.injEq, p1i_int, p2_two, p3_three, decide_true, Bool.not_true, Bool.not_false, decide_eq_true_eq, decide_eq_false_iff_not, hgl]
    unfold LD.law_pairings_B1_2 LD.law_pairings_E4
    simp only [envE, so_seq, so_if, so_ret, so_retN, so_exp, so_nil, so_nx, so_rt, so_asg, so_asgG, so_par2, so_par3, ok_gNm, ok_gMore, ok_gNone, so_asgT, so_sub, so_for, ok_TB, ok_Tru, ok_notT, ok_andT, ok_orT, ok_andV, ok_orV, ok_notV, ok_iteE, ok_frz, ok_new, ok_mfArg, ok_mfBin, ok_lc, ok_M, ok_M0, ok_moNone, ok_moSome, ok_Sl,
  ok_bin, ok_un, ok_arg, ok_cons, ok_nil, ok_call, ok_var, ok_C, ok_ok, ok_stuck, ok_noX, bOf_bool, low_v, iOf_int, addD_int, subD_int, negD_int, ltD_int, leD_int, gtD_int, geD_int, fInt_int, isD_bool, isNotD_bool, tru_bool, List.map_cons, List.map_nil, List.length_cons, List.length_nil, List.replicate_succ, List.replicate_zero, List.cons_append, List.nil_append,
  List.append_nil, List.getElem?_cons_zero, List.getElem?_cons_succ, List.set_cons_zero, List.set_cons_succ, Option.some.injEq, exists_eq_left', exists_eq_left, true_and, and_true, true_implies, false_implies, implies_true, Bool.false_eq_true, reduceCtorEq, false_and, and_false, D.v.injEq, PyData.int.injEq, D.ref.injEq, p1i_int, p2_two, p3_three, decide_true, Bool.not_true, Bool.not_false, decide_eq_true_eq, decide_eq_false_iff_not, ok_seq, seqW_list, List.map_map]
    refine forL_inv (fun j e t => t = s ∧ ∃ x4 x5 x6, e = [some (.v (hallD rows)), some (.v (.list (E.map pairsD))), some (.v (nI i)), some (.v (.list ((E ++ (E.take j).flatMap (more rows i)).map pairsD))), x4, x5, x6]) _ _ _ 0 ?_ ?_ ⟨rfl, x4, x5, x6, by simp⟩
    · rintro j d e t hd ⟨rfl, x4, x5, x6, rfl⟩
      rw [List.getElem?_map] at hd
      obtain ⟨p, hp, rfl⟩ := Option.map_eq_some_iff.mp hd
      obtain ⟨hP, hS⟩ := hok p (List.mem_of_getElem? hp)
      have hpl := hP.len
      refine ⟨trivial, ?_⟩
      rw [Nat.zero_add]
      have ht : (E.take (j + 1)).flatMap (more rows i) = (E.take j).flatMap (more rows i) ++ more rows i p := by
        rw [List.take_add_one, hp, List.flatMap_append]
        simp
      rw [ht]
      have hl1 := hfl (E.take j)
      have hl2 : (E.take j).length ≤ 5040 := by rw [List.length_take]; omega
      have hl3 := more_len (rows := rows) (a := i) (ps := p)
      unfold LD.law_pairings_G4 LD.law_pairings_B2
      show (gNm 4 (.one (.v (pairsD p))) _ _).Ok _
      simp only [envE, so_seq, so_if, so_ret, so_retN, so_exp, so_nil, so_nx, so_rt, so_asg, so_asgG, so_par2, so_par3, ok_gNm, ok_gMore, ok_gNone, so_asgT, so_sub, so_for, ok_TB, ok_Tru, ok_notT, ok_andT, ok_orT, ok_andV, ok_orV, ok_notV, ok_iteE, ok_frz, ok_new, ok_mfArg, ok_mfBin, ok_lc, ok_M, ok_M0, ok_moNone, ok_moSome, ok_Sl,
  ok_bin, ok_un, ok_arg, ok_cons, ok_nil, ok_call, ok_var, ok_C, ok_ok, ok_stuck, ok_noX, bOf_bool, low_v, iOf_int, addD_int, subD_int, negD_int, ltD_int, leD_int, gtD_int, geD_int, fInt_int, isD_bool, isNotD_bool, tru_bool, List.map_cons, List.map_nil, List.length_cons, List.length_nil, List.replicate_succ, List.replicate_zero, List.cons_append, List.nil_append,
  List.append_nil, List.getElem?_cons_zero, List.getElem?_cons_succ, List.set_cons_zero, List.set_cons_succ, Option.some.injEq, exists_eq_left', exists_eq_left, true_and, and_true, true_implies, false_implies, implies_true, Bool.false_eq_true, reduceCtorEq, false_and, and_false, D.v.injEq, PyData.int.injEq, D.ref.injEq, p1i_int, p2_two, p3_three, decide_true, Bool.not_true, Bool.not_false, decide_eq_true_eq, decide_eq_false_iff_not, lpartner_eq, isnone_opt]
      refine ⟨fun hno => ?_, fun hyes => ?_⟩
      · have hno : partner p i = none := by rw [none_dec] at hno; exact of_decide_eq_true hno
        unfold LD.law_pairings_E1
        simp only [envE, so_seq, so_if, so_ret, so_retN, so_exp, so_nil, so_nx, so_rt, so_asg, so_asgG, so_par2, so_par3, ok_gNm, ok_gMore, ok_gNone, so_asgT, so_sub, so_for, ok_TB, ok_Tru, ok_notT, ok_andT, ok_orT, ok_andV, ok_orV, ok_notV, ok_iteE, ok_frz, ok_new, ok_mfArg, ok_mfBin, ok_lc, ok_M, ok_M0, ok_moNone, ok_moSome, ok_Sl,
  ok_bin, ok_un, ok_arg, ok_cons, ok_nil, ok_call, ok_var, ok_C, ok_ok, ok_stuck, ok_noX, bOf_bool, low_v, iOf_int, addD_int, subD_int, negD_int, ltD_int, leD_int, gtD_int, geD_int, fInt_int, isD_bool, isNotD_bool, tru_bool, List.map_cons, List.map_nil, List.length_cons, List.length_nil, List.replicate_succ, List.replicate_zero, List.cons_append, List.nil_append,
  List.append_nil, List.getElem?_cons_zero, List.getElem?_cons_succ, List.set_cons_zero, List.set_cons_succ, Option.some.injEq, exists_eq_left', exists_eq_left, true_and, and_true, true_implies, false_implies, implies_true, Bool.false_eq_true, reduceCtorEq, false_and, and_false, D.v.injEq, PyData.int.injEq, D.ref.injEq, p1i_int, p2_two, p3_three, decide_true, Bool.not_true, Bool.not_false, decide_eq_true_eq, decide_eq_false_iff_not, ok_R2, p2i_int, hall0]
        refine ⟨⟨by omega, by omega, by omega, by omega⟩, ?_⟩
        rw [show ((i : Int) + 1) = ((i + 1 : Nat) : Int) by omega, rng_ups]
        rw [lcL_mapA _ (fun b : Nat => if want rows i b = true then some (nI b) else none), fm_filter]
        rotate_left
        · intro b hb
          have hb2 := (mem_ups.mp hb).2
          unfold LD.law_pairings_G1 LD.law_pairings_T1 LD.law_pairings_M1
          simp only [envE, so_seq, so_if, so_ret, so_retN, so_exp, so_nil, so_nx, so_rt, so_asg, so_asgG, so_par2, so_par3, ok_gNm, ok_gMore, ok_gNone, so_asgT, so_sub, so_for, ok_TB, ok_Tru, ok_notT, ok_andT, ok_orT, ok_andV, ok_orV, ok_notV, ok_iteE, ok_frz, ok_new, ok_mfArg, ok_mfBin, ok_lc, ok_M, ok_M0, ok_moNone, ok_moSome, ok_Sl,
  ok_bin, ok_un, ok_arg, ok_cons, ok_nil, ok_call, ok_var, ok_C, ok_ok, ok_stuck, ok_noX, bOf_bool, low_v, iOf_int, addD_int, subD_int, negD_int, ltD_int, leD_int, gtD_int, geD_int, fInt_int, isD_bool, isNotD_bool, tru_bool, List.map_cons, List.map_nil, List.length_cons, List.length_nil, List.replicate_succ, List.replicate_zero, List.cons_append, List.nil_append,
  List.append_nil, List.getElem?_cons_zero, List.getElem?_cons_succ, List.set_cons_zero, List.set_cons_succ, Option.some.injEq, exists_eq_left', exists_eq_left, true_and, and_true, true_implies, false_implies, implies_true, Bool.false_eq_true, reduceCtorEq, false_and, and_false, D.v.injEq, PyData.int.injEq, D.ref.injEq, p1i_int, p2_two, p3_three, decide_true, Bool.not_true, Bool.not_false, decide_eq_true_eq, decide_eq_false_iff_not, wipeE, lwant_eq hi hb2]
          refine ⟨fun h => by rw [if_pos h], fun h => by rw [if_neg (by rw [h]; exact Bool.false_ne_true)]⟩
        rw [ok_ok]
        unfold LD.law_pairings_E2
        simp only [envE, so_seq, so_if, so_ret, so_retN, so_exp, so_nil, so_nx, so_rt, so_asg, so_asgG, so_par2, so_par3, ok_gNm, ok_gMore, ok_gNone, so_asgT, so_sub, so_for, ok_TB, ok_Tru, ok_notT, ok_andT, ok_orT, ok_andV, ok_orV, ok_notV, ok_iteE, ok_frz, ok_new, ok_mfArg, ok_mfBin, ok_lc, ok_M, ok_M0, ok_moNone, ok_moSome, ok_Sl,
  ok_bin, ok_un, ok_arg, ok_cons, ok_nil, ok_call, ok_var, ok_C, ok_ok, ok_stuck, ok_noX, bOf_bool, low_v, iOf_int, addD_int, subD_int, negD_int, ltD_int, leD_int, gtD_int, geD_int, fInt_int, isD_bool, isNotD_bool, tru_bool, List.map_cons, List.map_nil, List.length_cons, List.length_nil, List.replicate_succ, List.replicate_zero, List.cons_append, List.nil_append,
  List.append_nil, List.getElem?_cons_zero, List.getElem?_cons_succ, List.set_cons_zero, List.set_cons_succ, Option.some.injEq, exists_eq_left', exists_eq_left, true_and, and_true, true_implies, false_implies, implies_true, Bool.false_eq_true, reduceCtorEq, false_and, and_false, D.v.injEq, PyData.int.injEq, D.ref.injEq, p1i_int, p2_two, p3_three, decide_true, Bool.not_true, Bool.not_false, decide_eq_true_eq, decide_eq_false_iff_not, ok_seq, seqW_list, List.map_map]
        rw [lcL_mapA _ (fun b : Nat => if decide (partner p b = none) = true then some (nI b) else none), fm_filter]
        rotate_left
        · intro b hb
          unfold LD.law_pairings_G2 LD.law_pairings_T2 LD.law_pairings_M2
          show (gNm 6 (.one (.v (nI b))) _ _).Ok _
          simp only [envE, so_seq, so_if, so_ret, so_retN, so_exp, so_nil, so_nx, so_rt, so_asg, so_asgG, so_par2, so_par3, ok_gNm, ok_gMore, ok_gNone, so_asgT, so_sub, so_for, ok_TB, ok_Tru, ok_notT, ok_andT, ok_orT, ok_andV, ok_orV, ok_notV, ok_iteE, ok_frz, ok_new, ok_mfArg, ok_mfBin, ok_lc, ok_M, ok_M0, ok_moNone, ok_moSome, ok_Sl,
  ok_bin, ok_un, ok_arg, ok_cons, ok_nil, ok_call, ok_var, ok_C, ok_ok, ok_stuck, ok_noX, bOf_bool, low_v, iOf_int, addD_int, subD_int, negD_int, ltD_int, leD_int, gtD_int, geD_int, fInt_int, isD_bool, isNotD_bool, tru_bool, List.map_cons, List.map_nil, List.length_cons, List.length_nil, List.replicate_succ, List.replicate_zero, List.cons_append, List.nil_append,
  List.append_nil, List.getElem?_cons_zero, List.getElem?_cons_succ, List.set_cons_zero, List.set_cons_succ, Option.some.injEq, exists_eq_left', exists_eq_left, true_and, and_true, true_implies, false_implies, implies_true, Bool.false_eq_true, reduceCtorEq, false_and, and_false, D.v.injEq, PyData.int.injEq, D.ref.injEq, p1i_int, p2_two, p3_three, decide_true, Bool.not_true, Bool.not_false, decide_eq_true_eq, decide_eq_false_iff_not, wipeE, lpartner_eq, isnone_opt, none_dec]
          refine ⟨fun h => by rw [if_pos h], fun h => by rw [if_neg h]⟩
        rw [ok_ok]
        unfold LD.law_pairings_E3 LD.law_pairings_T3
        simp only [envE, so_seq, so_if, so_ret, so_retN, so_exp, so_nil, so_nx, so_rt, so_asg, so_asgG, so_par2, so_par3, ok_gNm, ok_gMore, ok_gNone, so_asgT, so_sub, so_for, ok_TB, ok_Tru, ok_notT, ok_andT, ok_orT, ok_andV, ok_orV, ok_notV, ok_iteE, ok_frz, ok_new, ok_mfArg, ok_mfBin, ok_lc, ok_M, ok_M0, ok_moNone, ok_moSome, ok_Sl,
  ok_bin, ok_un, ok_arg, ok_cons, ok_nil, ok_call, ok_var, ok_C, ok_ok, ok_stuck, ok_noX, bOf_bool, low_v, iOf_int, addD_int, subD_int, negD_int, ltD_int, leD_int, gtD_int, geD_int, fInt_int, isD_bool, isNotD_bool, tru_bool, List.map_cons, List.map_nil, List.length_cons, List.length_nil, List.replicate_succ, List.replicate_zero, List.cons_append, List.nil_append,
  List.append_nil, List.getElem?_cons_zero, List.getElem?_cons_succ, List.set_cons_zero, List.set_cons_succ, Option.some.injEq, exists_eq_left', exists_eq_left, true_and, and_true, true_implies, false_implies, implies_true, Bool.false_eq_true, reduceCtorEq, false_and, and_false, D.v.injEq, PyData.int.injEq, D.ref.injEq, p1i_int, p2_two, p3_three, decide_true, Bool.not_true, Bool.not_false, decide_eq_true_eq, decide_eq_false_iff_not, ok_seq, seqW_list, List.map_map]
        rw [lcL_all _ (fun b : Nat => pairsD (sortP (p ++ [(i, b)])))]
        rotate_left
        · intro b hb
          have hb2 := (mem_ups.mp (List.mem_filter.mp (List.mem_filter.mp hb).1).1).2
          unfold LD.law_pairings_G3 LD.law_pairings_M3
          show (gNm 6 (.one (.v (nI b))) _ _).Ok _
          have had : ∀ t, addD (.v (pairsD p)) (.v (.tuple [.tuple [nI i, nI b]])) t = .ok (.v (.tuple ((p ++ [(i, b)]).map pr))) t := fun t => by
            rw [add_tupD (by rw [List.length_map]; show p.length + 1 ≤ _; omega), List.map_append]
            rfl
          have hso : ∀ t, gSortV [.v (.tuple ((p ++ [(i, b)]).map pr))] t = .ok ((sortP (p ++ [(i, b)])).map pr) t := fun t => sort_pairsV (by simp) (by rw [List.length_append, List.length_singleton]; omega) fun q hq => by
            rcases List.mem_append.mp hq with hq | hq
            · have := hP.lt q hq; omega
            · rw [List.mem_singleton.mp hq]; exact ⟨by show i < 1000000; omega, by show b < 1000000; omega⟩
          simp only [envE, so_seq, so_if, so_ret, so_retN, so_exp, so_nil, so_nx, so_rt, so_asg, so_asgG, so_par2, so_par3, ok_gNm, ok_gMore, ok_gNone, so_asgT, so_sub, so_for, ok_TB, ok_Tru, ok_notT, ok_andT, ok_orT, ok_andV, ok_orV, ok_notV, ok_iteE, ok_frz, ok_new, ok_mfArg, ok_mfBin, ok_lc, ok_M, ok_M0, ok_moNone, ok_moSome, ok_Sl,
  ok_bin, ok_un, ok_arg, ok_cons, ok_nil, ok_call, ok_var, ok_C, ok_ok, ok_stuck, ok_noX, bOf_bool, low_v, iOf_int, addD_int, subD_int, negD_int, ltD_int, leD_int, gtD_int, geD_int, fInt_int, isD_bool, isNotD_bool, tru_bool, List.map_cons, List.map_nil, List.length_cons, List.length_nil, List.replicate_succ, List.replicate_zero, List.cons_append, List.nil_append,
  List.append_nil, List.getElem?_cons_zero, List.getElem?_cons_succ, List.set_cons_zero, List.set_cons_succ, Option.some.injEq, exists_eq_left', exists_eq_left, true_and, and_true, true_implies, false_implies, implies_true, Bool.false_eq_true, reduceCtorEq, false_and, and_false, D.v.injEq, PyData.int.injEq, D.ref.injEq, p1i_int, p2_two, p3_three, decide_true, Bool.not_true, Bool.not_false, decide_eq_true_eq, decide_eq_false_iff_not, wipeE, tup2, tup1, had, hso, tup_list]
        have hm : (((ups (i + 1) rows.length).filter (want rows i)).filter fun b => decide (partner p b = none)).map (fun b => pairsD (sortP (p ++ [(i, b)]))) = (more rows i p).map pairsD := by
          unfold more
          rw [if_pos hno, List.map_map]
          rfl
        rw [hm, ok_ok, cat_list (by rw [List.length_map, List.length_map, List.length_append]; omega), ok_ok, ← List.map_append, List.append_assoc]
        exact ⟨rfl, _, _, _, rfl⟩
      · have hyes : ¬ partner p i = none := by rw [none_dec] at hyes; exact of_decide_eq_false hyes
        have hm : more rows i p = [] := if_neg hyes
        rw [hm, List.append_nil]
        exact ⟨_, _, _, rfl⟩
    · rintro e t ⟨rfl, x4, x5, x6, rfl⟩
      refine ⟨trivial, ?_⟩
      unfold LD.law_pairings_B1_3
      simp only [envE, so_seq, so_if, so_ret, so_retN, so_exp, so_nil, so_nx, so_rt, so_asg, so_asgG, so_par2, so_par3, ok_gNm, ok_gMore, ok_gNone, so_asgT, so_sub, so_for, ok_TB, ok_Tru, ok_notT, ok_andT, ok_orT, ok_andV, ok_orV, ok_notV, ok_iteE, ok_frz, ok_new, ok_mfArg, ok_mfBin, ok_lc, ok_M, ok_M0, ok_moNone, ok_moSome, ok_Sl,
  ok_bin, ok_un, ok_arg, ok_cons, ok_nil, ok_call, ok_var, ok_C, ok_ok, ok_stuck, ok_noX, bOf_bool, low_v, iOf_int, addD_int, subD_int, negD_int, ltD_int, leD_int, gtD_int, geD_int, fInt_int, isD_bool, isNotD_bool, tru_bool, List.map_cons, List.map_nil, List.length_cons, List.length_nil, List.replicate_succ, List.replicate_zero, List.cons_append, List.nil_append,
  List.append_nil, List.getElem?_cons_zero, List.getElem?_cons_succ, List.set_cons_zero, List.set_cons_succ, Option.some.injEq, exists_eq_left', exists_eq_left, true_and, and_true, true_implies, false_implies, implies_true, Bool.false_eq_true, reduceCtorEq, false_and, and_false, D.v.injEq, PyData.int.injEq, D.ref.injEq, p1i_int, p2_two, p3_three, decide_true, Bool.not_true, Bool.not_false, decide_eq_true_eq, decide_eq_false_iff_not]
      rw [List.length_map, Nat.zero_add, List.take_length]
      exact ⟨_, _, _, _, _, rfl⟩
  · rintro e s ⟨rfl, x2, x3, x4, x5, x6, rfl⟩
    refine ⟨trivial, ?_⟩
    unfold LD.S_law_pairings_3
    simp only [envE, so_seq, so_if, so_ret, so_retN, so_exp, so_nil, so_nx, so_rt, so_asg, so_asgG, so_par2, so_par3, ok_gNm, ok_gMore, ok_gNone, so_asgT, so_sub, so_for, ok_TB, ok_Tru, ok_notT, ok_andT, ok_orT, ok_andV, ok_orV, ok_notV, ok_iteE, ok_frz, ok_new, ok_mfArg, ok_mfBin, ok_lc, ok_M, ok_M0, ok_moNone, ok_moSome, ok_Sl,
  ok_bin, ok_un, ok_arg, ok_cons, ok_nil, ok_call, ok_var, ok_C, ok_ok, ok_stuck, ok_noX, bOf_bool, low_v, iOf_int, addD_int, subD_int, negD_int, ltD_int, leD_int, gtD_int, geD_int, fInt_int, isD_bool, isNotD_bool, tru_bool, List.map_cons, List.map_nil, List.length_cons, List.length_nil, List.replicate_succ, List.replicate_zero, List.cons_append, List.nil_append,
  List.append_nil, List.getElem?_cons_zero, List.getElem?_cons_succ, List.set_cons_zero, List.set_cons_succ, Option.some.injEq, exists_eq_left', exists_eq_left, true_and, and_true, true_implies, false_implies, implies_true, Bool.false_eq_true, reduceCtorEq, false_and, and_false, D.v.injEq, PyData.int.injEq, D.ref.injEq, p1i_int, p2_two, p3_three, decide_true, Bool.not_true, Bool.not_false, decide_eq_true_eq, decide_eq_false_iff_not]
    rw [show (rngI 0 rows.length).length = rows.length by unfold rngI; rw [List.length_map, List.length_range], Nat.zero_add]
    exact ⟨rfl, List.take_length⟩
/-- one and another compared by a: who gains by the other one -/
def cmpI (rows : List (List Nat)) (μ ν : List (Nat × Nat)) (a : Nat) : Int := if place rows a (partner ν a) < place rows a (partner μ a) then 1 else if place rows a (partner μ a) < place rows a (partner ν a) then -1 else 0
def cmpL (rows : List (List Nat)) (μ ν : List (Nat × Nat)) : List Int := (List.range rows.length).map (cmpI rows μ ν)
theorem lcompared_eq (hn : rows.length ≤ 50) : LD.f_law_compared [.v (hallD rows), .v (pairsD μ), .v (pairsD ν)] st = .ok (.v (.tuple ((cmpL rows μ ν).map .int))) st := by
  refine Out.Ok.is (fnT_ok ?_)
  unfold LD.S_law_compared LD.S_law_compared_2 LD.law_compared_E1
  simp only [envE, so_seq, so_if, so_ret, so_retN, so_exp, so_nil, so_nx, so_rt, so_asg, so_asgG, so_par2, so_par3, ok_gNm, ok_gMore, ok_gNone, so_asgT, so_sub, so_for, ok_TB, ok_Tru, ok_notT, ok_andT, ok_orT, ok_andV, ok_orV, ok_notV, ok_iteE, ok_frz, ok_new, ok_mfArg, ok_mfBin, ok_lc, ok_M, ok_M0, ok_moNone, ok_moSome, ok_Sl,
  ok_bin, ok_un, ok_arg, ok_cons, ok_nil, ok_call, ok_var, ok_C, ok_ok, ok_stuck, ok_noX, bOf_bool, low_v, iOf_int, addD_int, subD_int, negD_int, ltD_int, leD_int, gtD_int, geD_int, fInt_int, isD_bool, isNotD_bool, tru_bool, List.map_cons, List.map_nil, List.length_cons, List.length_nil, List.replicate_succ, List.replicate_zero, List.cons_append, List.nil_append,
  List.append_nil, List.getElem?_cons_zero, List.getElem?_cons_succ, List.set_cons_zero, List.set_cons_succ, Option.some.injEq, exists_eq_left', exists_eq_left, true_and, and_true, true_implies, false_implies, implies_true, Bool.false_eq_true, reduceCtorEq, false_and, and_false, D.v.injEq, PyData.int.injEq, D.ref.injEq, p1i_int, p2_two, p3_three, decide_true, Bool.not_true, Bool.not_false, decide_eq_true_eq, decide_eq_false_iff_not, disp0, ok_R1, hall0]
  refine ⟨⟨by omega, by omega⟩, ?_⟩
  rw [Int.toNat_natCast]
  refine forL_inv (fun i e s => s = st ++ [.lst (((List.range i).map (cmpI rows μ ν)).map .int)] ∧ ∃ x4 x5 x6, e = [some (.v (hallD rows)), some (.v (pairsD μ)), some (.v (pairsD ν)), some (.ref st.length), x4, x5, x6]) _ _ _ 0 ?_ ?_ ⟨rfl, _, _, _, rfl⟩
  · rintro i d e s hd ⟨rfl, x4, x5, x6, rfl⟩
    obtain ⟨hi, rfl⟩ := rngI_get hd
    refine ⟨trivial, ?_⟩
    rw [Int.zero_add, Nat.zero_add]
    unfold LD.law_compared_G1 LD.law_compared_B1
    simp only [envE, so_seq, so_if, so_ret, so_retN, so_exp, so_nil, so_nx, so_rt, so_asg, so_asgG, so_par2, so_par3, ok_gNm, ok_gMore, ok_gNone, so_asgT, so_sub, so_for, ok_TB, ok_Tru, ok_notT, ok_andT, ok_orT, ok_andV, ok_orV, ok_notV, ok_iteE, ok_frz, ok_new, ok_mfArg, ok_mfBin, ok_lc, ok_M, ok_M0, ok_moNone, ok_moSome, ok_Sl,
  ok_bin, ok_un, ok_arg, ok_cons, ok_nil, ok_call, ok_var, ok_C, ok_ok, ok_stuck, ok_noX, bOf_bool, low_v, iOf_int, addD_int, subD_int, negD_int, ltD_int, leD_int, gtD_int, geD_int, fInt_int, isD_bool, isNotD_bool, tru_bool, List.map_cons, List.map_nil, List.length_cons, List.length_nil, List.replicate_succ, List.replicate_zero, List.cons_append, List.nil_append,
  List.append_nil, List.getElem?_cons_zero, List.getElem?_cons_succ, List.set_cons_zero, List.set_cons_succ, Option.some.injEq, exists_eq_left', exists_eq_left, true_and, and_true, true_implies, false_implies, implies_true, Bool.false_eq_true, reduceCtorEq, false_and, and_false, D.v.injEq, PyData.int.injEq, D.ref.injEq, p1i_int, p2_two, p3_three, decide_true, Bool.not_true, Bool.not_false, decide_eq_true_eq, decide_eq_false_iff_not, lpartner_eq, Hl.place_eq hi]
    unfold LD.law_compared_B1_2
    simp only [envE, so_seq, so_if, so_ret, so_retN, so_exp, so_nil, so_nx, so_rt, so_asg, so_asgG, so_par2, so_par3, ok_gNm, ok_gMore, ok_gNone, so_asgT, so_sub, so_for, ok_TB, ok_Tru, ok_notT, ok_andT, ok_orT, ok_andV, ok_orV, ok_notV, ok_iteE, ok_frz, ok_new, ok_mfArg, ok_mfBin, ok_lc, ok_M, ok_M0, ok_moNone, ok_moSome, ok_Sl,
  ok_bin, ok_un, ok_arg, ok_cons, ok_nil, ok_call, ok_var, ok_C, ok_ok, ok_stuck, ok_noX, bOf_bool, low_v, iOf_int, addD_int, subD_int, negD_int, ltD_int, leD_int, gtD_int, geD_int, fInt_int, isD_bool, isNotD_bool, tru_bool, List.map_cons, List.map_nil, List.length_cons, List.length_nil, List.replicate_succ, List.replicate_zero, List.cons_append, List.nil_append,
  List.append_nil, List.getElem?_cons_zero, List.getElem?_cons_succ, List.set_cons_zero, List.set_cons_succ, Option.some.injEq, exists_eq_left', exists_eq_left, true_and, and_true, true_implies, false_implies, implies_true, Bool.false_eq_true, reduceCtorEq, false_and, and_false, D.v.injEq, PyData.int.injEq, D.ref.injEq, p1i_int, p2_two, p3_three, decide_true, Bool.not_true, Bool.not_false, decide_eq_true_eq, decide_eq_false_iff_not]
    have hr : ((List.range (i + 1)).map (cmpI rows μ ν)).map PyData.int = ((List.range i).map (cmpI rows μ ν)).map PyData.int ++ [.int (cmpI rows μ ν i)] := by
      rw [List.range_succ, List.map_append, List.map_append]
      rfl
    have hll : (((List.range i).map (cmpI rows μ ν)).map PyData.int).length < 1000000 := by
      rw [List.length_map, List.length_map, List.length_range]
      omega
    refine ⟨isL_ref last_at, fun h => ?_, fun h => ⟨fun h2 => ?_, fun h2 => ?_⟩⟩
    · have e : cmpI rows μ ν i = 1 := by unfold cmpI; rw [if_pos (by omega)]
      rw [Fw.append_at last_at hll, ok_ok, last_set, hr, e]
      exact ⟨rfl, _, _, _, rfl⟩
    · have e : cmpI rows μ ν i = -1 := by unfold cmpI; rw [if_neg (by omega), if_pos (by omega)]
      rw [show (0 : Int) - 1 = -1 by decide, Fw.append_at last_at hll, ok_ok, last_set, hr, e]
      exact ⟨rfl, _, _, _, rfl⟩
    · have e : cmpI rows μ ν i = 0 := by unfold cmpI; rw [if_neg (by omega), if_neg (by omega)]
      rw [Fw.append_at last_at hll, ok_ok, last_set, hr, e]
      exact ⟨rfl, _, _, _, rfl⟩
  · rintro e s ⟨rfl, x4, x5, x6, rfl⟩
    refine ⟨trivial, ?_⟩
    unfold LD.S_law_compared_3
    simp only [envE, so_seq, so_if, so_ret, so_retN, so_exp, so_nil, so_nx, so_rt, so_asg, so_asgG, so_par2, so_par3, ok_gNm, ok_gMore, ok_gNone, so_asgT, so_sub, so_for, ok_TB, ok_Tru, ok_notT, ok_andT, ok_orT, ok_andV, ok_orV, ok_notV, ok_iteE, ok_frz, ok_new, ok_mfArg, ok_mfBin, ok_lc, ok_M, ok_M0, ok_moNone, ok_moSome, ok_Sl,
  ok_bin, ok_un, ok_arg, ok_cons, ok_nil, ok_call, ok_var, ok_C, ok_ok, ok_stuck, ok_noX, bOf_bool, low_v, iOf_int, addD_int, subD_int, negD_int, ltD_int, leD_int, gtD_int, geD_int, fInt_int, isD_bool, isNotD_bool, tru_bool, List.map_cons, List.map_nil, List.length_cons, List.length_nil, List.replicate_succ, List.replicate_zero, List.cons_append, List.nil_append,
  List.append_nil, List.getElem?_cons_zero, List.getElem?_cons_succ, List.set_cons_zero, List.set_cons_succ, Option.some.injEq, exists_eq_left', exists_eq_left, true_and, and_true, true_implies, false_implies, implies_true, Bool.false_eq_true, reduceCtorEq, false_and, and_false, D.v.injEq, PyData.int.injEq, D.ref.injEq, p1i_int, p2_two, p3_three, decide_true, Bool.not_true, Bool.not_false, decide_eq_true_eq, decide_eq_false_iff_not, tup_of last_at]
    rw [show (rngI 0 rows.length).length = rows.length by unfold rngI; rw [List.length_map, List.length_range], Nat.zero_add]
    exact ⟨rfl, List.take_left⟩
end
end Fw.Da

/-! ### a list cut short: who gains, who loses -/
namespace Fw.Da
open Fw Fw.Hl
section
variable {rows cut : List (List Nat)} {μ ν : List (Nat × Nat)} {S : List Nat} {a b m w p : Nat} {sd : Nat → Bool}
structure Fn (rows : List (List Nat)) (f : Nat → Option Nat) : Prop where
  sym : ∀ {a b}, f a = some b → f b = some a
  want : ∀ {a b}, f a = some b → want rows a b = true
def toPs (n : Nat) (f : Nat → Option Nat) : List (Nat × Nat) := (List.range n).filterMap fun a => match f a with
  | some b => if a < b then some (a, b) else none
  | none => none
theorem mem_toPs {n : Nat} {f : Nat → Option Nat} : (a, b) ∈ toPs n f ↔ a < n ∧ f a = some b ∧ a < b := by
  unfold toPs
  rw [List.mem_filterMap]
  constructor
  · rintro ⟨x, hx, e⟩
    have hx := List.mem_range.mp hx
    cases e2 : f x with
    | none => rw [e2] at e; cases e
    | some c =>
      rw [e2] at e
      by_cases h : x < c
      · have e : (if x < c then some (x, c) else none) = some (a, b) := e
        rw [if_pos h] at e
        cases e
        exact ⟨hx, e2, h⟩
      · have e : (if x < c then some (x, c) else none) = some (a, b) := e
        rw [if_neg h] at e
        cases e
  · rintro ⟨h1, h2, h3⟩
    refine ⟨a, List.mem_range.mpr h1, ?_⟩
    rw [h2]
    exact if_pos h3
theorem toPs_prg (T : Hall rows) {f : Nat → Option Nat} (F : Fn rows f) : Prg rows (toPs rows.length f) := by
  refine ⟨⟨fun q hq => ?_, ?_⟩, fun q hq => F.want (mem_toPs.mp hq).2.1⟩
  · obtain ⟨h1, h2, h3⟩ := mem_toPs.mp (show (q.1, q.2) ∈ _ from hq)
    exact ⟨h3, (T.mem (want_row (F.want h2)).1).1⟩
  · unfold toPs
    refine List.pairwise_filterMap.mpr ?_
    refine List.nodup_range.imp ?_
    intro x y hxy q hq r hr
    have g : ∀ {x : Nat} {q : Nat × Nat}, (match f x with | some b => if x < b then some (x, b) else none | none => none) = some q → q.1 = x ∧ f x = some q.2 ∧ f q.2 = some x ∧ x < q.2 := fun {x q} h => by
      cases e : f x with
      | none => rw [e] at h; cases h
      | some c =>
        rw [e] at h
        have h : (if x < c then some (x, c) else none) = some q := h
        by_cases l : x < c
        · rw [if_pos l] at h
          cases h
          exact ⟨rfl, rfl, F.sym e, l⟩
        · rw [if_neg l] at h
          cases h
    obtain ⟨q1, q2, q3, q4⟩ := g hq
    obtain ⟨r1, r2, r3, r4⟩ := g hr
    have n3 : ∀ {x y u v : Nat}, f x = some u → f y = some v → x < u → y < v → x ≠ v := fun {x y u v} e1 e2 l1 l2 e => by
      have e3 := F.sym e2
      rw [← e, e1] at e3
      have := Option.some.inj e3
      omega
    refine ⟨by rw [q1, r1]; exact hxy, by rw [q1]; exact n3 q2 r2 q4 r4, by rw [r1]; exact (n3 r2 q2 r4 q4).symm, fun e => hxy ?_⟩
    rw [e, r3] at q3
    exact (Option.some.inj q3).symm
theorem toPs_partner (T : Hall rows) {f : Nat → Option Nat} (F : Fn rows f) : partner (toPs rows.length f) a = f a := by
  have P := (toPs_prg T F).toPrs
  have key : ∀ c, partner (toPs rows.length f) a = some c ↔ f a = some c := fun c => by
    rw [partner_iff P]
    constructor
    · rintro (h | h)
      · exact (mem_toPs.mp h).2.1
      · exact F.sym (mem_toPs.mp h).2.1
    · intro h
      have w := want_row (F.want h)
      have h1 := T.mem w.1
      have h2 := T.mem w.2
      by_cases l : a < c
      · exact .inl (mem_toPs.mpr ⟨h2.1, h, l⟩)
      · exact .inr (mem_toPs.mpr ⟨h1.1, F.sym h, by have := h1.2; omega⟩)
  cases e : f a with
  | none =>
    cases e2 : partner (toPs rows.length f) a with
    | none => rfl
    | some c => rw [(key c).mp e2] at e; cases e
  | some c => exact (key c).mpr e
theorem clm_of (T : Hall rows) (P : Prg rows μ) (h : ∀ a b, ¬ Br rows μ a b) : Clm rows μ := by
  refine ⟨P, ?_⟩
  cases e : breaking rows μ with
  | nil => rfl
  | cons q r =>
    have := mem_brk.mp (show (q.1, q.2) ∈ breaking rows μ by rw [e]; exact List.mem_cons_self)
    exact absurd this.2.2 (h _ _)
theorem br_iff {ps : List (Nat × Nat)} : Br rows ps a b ↔ want rows a b = true ∧ place rows a (some b) < place rows a (partner ps a) ∧ place rows b (some a) < place rows b (partner ps b) := by
  constructor
  · intro h
    exact ⟨h.1, (rather_iff h.row.1).mp h.2.1, (rather_iff h.row.2).mp h.2.2⟩
  · rintro ⟨h1, h2, h3⟩
    have hr := want_row h1
    exact ⟨h1, (rather_iff hr.1).mpr h2, (rather_iff hr.2).mpr h3⟩
/-- nobody has somebody rather than the own partner, if that one would, too -/
theorem Clm.hold (T : Hall rows) (c : Clm rows μ) (h1 : want rows a b = true) (h2 : place rows a (some b) < place rows a (partner μ a)) : place rows b (partner μ b) < place rows b (some a) := by
  have hr := want_row h1
  refine Nat.lt_of_not_le fun hle => ?_
  rcases Nat.lt_or_eq_of_le hle with q | q
  · exact c.nobody T (br_iff.mpr ⟨h1, h2, q⟩)
  · cases e3 : partner μ b with
    | none =>
      rw [e3, place_row hr.2] at q
      have q : (row rows b).idxOf a = (row rows b).length := q
      have := List.idxOf_lt_length_of_mem hr.2
      omega
    | some d =>
      rw [e3] at q
      have hd := (want_row (partner_want c.prg e3)).1
      rw [place_row hr.2, place_row hd] at q
      have q1 := List.getElem_idxOf (List.idxOf_lt_length_of_mem hr.2)
      have q2 := List.getElem_idxOf (List.idxOf_lt_length_of_mem hd)
      have : a = d := by rw [← q1, ← q2]; congr 1
      subst this
      rw [partner_symm c.prg.toPrs e3] at h2
      exact Nat.lt_irrefl _ h2
theorem idx_take {l : List Nat} {k : Nat} (h : b ∈ l.take k) : l.idxOf b = (l.take k).idxOf b := by
  have e : l.idxOf b = (l.take k ++ l.drop k).idxOf b := by rw [List.take_append_drop]
  rw [e, List.idxOf_append, if_pos h]
structure Cut (rows cut : List (List Nat)) (p k : Nat) : Prop where
  len : cut.length = rows.length
  off : ∀ {a}, a ≠ p → row cut a = row rows a
  at_ : row cut p = (row rows p).take k
section
variable {k : Nat} (C : Cut rows cut p k)
include C
theorem Cut.sub : b ∈ row cut a → b ∈ row rows a := fun h => by
  by_cases e : a = p
  · subst e
    rw [C.at_] at h
    exact List.mem_of_mem_take h
  · rw [C.off e] at h
    exact h
theorem Cut.hall (H : Hall rows) : Hall cut := ⟨by rw [C.len]; exact H.pos, fun a => by
  by_cases e : a = p
  · subst e
    rw [C.at_]
    exact (List.take_sublist _ _).nodup (H.nd _)
  · rw [C.off e]
    exact H.nd _, fun h => by
  rw [C.len]
  exact H.mem (C.sub h)⟩
theorem Cut.want (h : want cut a b = true) : want rows a b = true := by
  have := want_row h
  unfold Hl.want
  rw [decide_eq_true (C.sub this.1), decide_eq_true (C.sub this.2)]
  rfl
theorem Cut.wanted (ha : a ≠ p) (hb : b ≠ p) (h : Hl.want rows a b = true) : Hl.want cut a b = true := by
  unfold Hl.want at h ⊢
  rw [C.off ha, C.off hb]
  exact h
theorem Cut.pl (ha : a ≠ p) {o : Option Nat} : place cut a o = place rows a o := by
  unfold place
  rw [C.off ha]
theorem Cut.plp (hb : b ∈ row cut p) : place cut p (some b) = place rows p (some b) := by
  rw [place_row hb, place_row (C.sub hb), C.at_]
  rw [C.at_] at hb
  exact (idx_take hb).symm
theorem Cut.ahead (hb : b ∈ row cut p) (hw : w ∈ row rows p) (hn : ¬ w ∈ row cut p) : place rows p (some b) < place rows p (some w) := by
  rw [place_row (C.sub hb), place_row hw]
  rw [C.at_] at hb hn
  have h1 := List.idxOf_lt_length_of_mem hb
  rw [← idx_take hb] at h1
  rw [List.length_take] at h1
  refine Nat.lt_of_not_le fun hle => hn ?_
  have h2 := List.idxOf_lt_length_of_mem hw
  rw [List.mem_take_iff_getElem]
  exact ⟨_, by omega, List.getElem_idxOf h2⟩
/-- those with whom a person is, of the cut list: nobody breaks it in the cut hall -/
theorem Cut.down (H : Hall rows) (c : Clm rows μ) (hp : ∀ w, partner μ p = some w → w ∈ row cut p) : Clm cut μ := by
  have hw : ∀ {a b}, partner μ a = some b → Hl.want cut a b = true := fun {a b} e => by
    by_cases ha : a = p
    · subst ha
      have h1 := hp _ e
      have h2 := (want_row (partner_want c.prg e)).2
      rw [← C.off (H.mem (C.sub h1)).2] at h2
      unfold Hl.want
      rw [decide_eq_true h1, decide_eq_true h2]
      rfl
    · by_cases hb : b = p
      · subst hb
        have e2 := partner_symm c.prg.toPrs e
        have h1 := hp _ e2
        have h2 := (want_row (partner_want c.prg e)).1
        rw [← C.off ha] at h2
        unfold Hl.want
        rw [decide_eq_true h1, decide_eq_true h2]
        rfl
      · exact C.wanted ha hb (partner_want c.prg e)
  refine clm_of (C.hall H) ⟨⟨fun q hq => by rw [C.len]; exact c.prg.lt q hq, c.prg.far⟩, fun q hq => hw ((partner_iff c.prg.toPrs).mpr (.inl hq))⟩ fun a b hB => ?_
  have half : ∀ {a b}, Hl.want cut a b = true → place cut a (some b) < place cut a (partner μ a) → place rows a (some b) < place rows a (partner μ a) := fun {a b} h1 h2 => by
    by_cases ha : a = p
    · subst ha
      have hb := (want_row h1).1
      rw [C.plp hb] at h2
      cases e : partner μ a with
      | none =>
        rw [place_row (C.sub hb)]
        exact List.idxOf_lt_length_of_mem (C.sub hb)
      | some w =>
        rw [e, C.plp (hp w e)] at h2
        exact h2
    · rw [C.pl ha, C.pl ha] at h2
      exact h2
  obtain ⟨h1, h2, h3⟩ := br_iff.mp hB
  exact c.nobody H (br_iff.mpr ⟨C.want h1, half h1 h2, half (by rw [want_symm]; exact h1) h3⟩)
/-- one that has somebody of the cut list: nobody breaks it in the hall -/
theorem Cut.up (H : Hall rows) (c : Clm cut μ) (hp : partner μ p ≠ none) : Clm rows μ := by
  refine clm_of H ⟨⟨fun q hq => by rw [← C.len]; exact c.prg.lt q hq, c.prg.far⟩, fun q hq => C.want (c.prg.want q hq)⟩ fun a b hB => ?_
  obtain ⟨v, hv⟩ : ∃ v, partner μ p = some v := by
    cases e : partner μ p with
    | none => exact absurd e hp
    | some v => exact ⟨v, rfl⟩
  have hvc := (want_row (partner_want c.prg hv)).1
  have inn : ∀ {b}, b ∈ row rows p → place rows p (some b) < place rows p (partner μ p) → b ∈ row cut p := fun {b} h1 h2 => Classical.byContradiction fun hn => by
    have := C.ahead hvc h1 hn
    rw [hv] at h2
    omega
  obtain ⟨h1, h2, h3⟩ := br_iff.mp hB
  have hr := want_row h1
  have one : ∀ {a b}, b ∈ row rows a → place rows a (some b) < place rows a (partner μ a) → b ∈ row cut a ∧ place cut a (some b) < place cut a (partner μ a) := fun {a b} h1 h2 => by
    by_cases ha : a = p
    · subst ha
      have := inn h1 h2
      refine ⟨this, ?_⟩
      rw [hv] at h2 ⊢
      rw [C.plp this, C.plp hvc]
      exact h2
    · rw [C.off ha, C.pl ha, C.pl ha]
      exact ⟨h1, h2⟩
  have q1 := one hr.1 h2
  have q2 := one hr.2 h3
  refine c.nobody (C.hall H) (br_iff.mpr ⟨?_, q1.2, q2.2⟩)
  unfold Hl.want
  rw [decide_eq_true q1.1, decide_eq_true q2.1]
  rfl
end
end
end Fw.Da

/-! ### a list cut short: the two best pairings -/
namespace Fw.Da
open Fw Fw.Hl
section
variable {rows cut : List (List Nat)} {μ ν : List (Nat × Nat)} {a b m w p k : Nat} {sd : Nat → Bool}
structure Sides (rows cut : List (List Nat)) (sd : Nat → Bool) (p k : Nat) (μ ν : List (Nat × Nat)) : Prop where
  hall : Hall rows
  two : ∀ {a b}, b ∈ row rows a → sd b = !sd a
  ct : Cut rows cut p k
  one : Clm rows μ
  oth : Clm cut ν
  off : partner ν p = none
/-- gains by the hall, of p's side -/
structure InS (rows : List (List Nat)) (sd : Nat → Bool) (p : Nat) (μ ν : List (Nat × Nat)) (m : Nat) : Prop where
  side : sd m = sd p
  ne : m ≠ p
  up : place rows m (partner μ m) < place rows m (partner ν m)
def InT (rows : List (List Nat)) (sd : Nat → Bool) (p : Nat) (μ ν : List (Nat × Nat)) (w : Nat) : Prop := ∃ m, InS rows sd p μ ν m ∧ partner μ m = some w
section
variable (Z : Sides rows cut sd p k μ ν)
include Z
theorem Sides.other (h : want rows a b = true) : sd b = !sd a := Z.two (want_row h).1
theorem Sides.step (h : InS rows sd p μ ν m) : ∃ w m2, partner μ m = some w ∧ partner ν w = some m2 ∧ place rows w (some m2) < place rows w (some m) ∧ InS rows sd p μ ν m2 ∧ sd w = !sd p := by
  have hc := Z.ct.hall Z.hall
  have hup := h.up
  cases e : partner μ m with
  | none =>
    rw [e] at hup
    have := pl_le (a := m) Z.oth.prg
    rw [Z.ct.pl h.ne, Z.ct.off h.ne] at this
    have hup : (row rows m).length < _ := hup
    omega
  | some w =>
    rw [e] at hup
    have hw := partner_want Z.one.prg e
    have hsw : sd w = !sd p := by rw [Z.other hw, h.side]
    have hwp : w ≠ p := fun e => by rw [e] at hsw; cases hq : sd p <;> rw [hq] at hsw <;> cases hsw
    have q := Z.oth.hold hc (Z.ct.wanted h.ne hwp hw) (by rw [Z.ct.pl h.ne, Z.ct.pl h.ne]; exact hup)
    rw [Z.ct.pl hwp, Z.ct.pl hwp] at q
    cases e2 : partner ν w with
    | none =>
      rw [e2] at q
      rw [place_row (want_row hw).2] at q
      have := List.idxOf_lt_length_of_mem (want_row hw).2
      have q : (row rows w).length < _ := q
      omega
    | some m2 =>
      rw [e2] at q
      have hm2 := Z.ct.want (partner_want Z.oth.prg e2)
      have hne : m2 ≠ p := fun e => by
        have := partner_symm Z.oth.prg.toPrs e2
        rw [e, Z.off] at this
        cases this
      have hs2 : sd m2 = sd p := by rw [Z.other hm2, hsw]; cases sd p <;> rfl
      have q2 := Z.one.hold Z.hall hm2 (by rw [partner_symm Z.one.prg.toPrs e]; exact q)
      rw [← partner_symm Z.oth.prg.toPrs e2] at q2
      exact ⟨w, m2, rfl, e2, q, ⟨hs2, hne, q2⟩, hsw⟩
theorem Sides.lt (h : InS rows sd p μ ν m) : m < rows.length := by
  obtain ⟨w, _, e, _⟩ := Z.step h
  exact (Z.hall.mem (want_row (partner_want Z.one.prg e)).2).1
open Classical in
theorem Sides.back (h : InS rows sd p μ ν m) : ∃ w m0, partner ν m = some w ∧ partner μ w = some m0 ∧ InS rows sd p μ ν m0 := by
  let A := (List.range rows.length).filter fun a => decide (InS rows sd p μ ν a)
  have mA : ∀ {a}, a ∈ A ↔ InS rows sd p μ ν a := fun {a} => by
    show a ∈ (List.range rows.length).filter _ ↔ _
    rw [List.mem_filter, List.mem_range, decide_eq_true_eq]
    exact ⟨fun h => h.2, fun h => ⟨Z.lt h, h⟩⟩
  have nA : A.Nodup := List.nodup_range.filter _
  have go : ∀ {a}, InS rows sd p μ ν a → partner μ a = some (pf μ a) ∧ partner ν (pf μ a) = some (pf ν (pf μ a)) ∧ InS rows sd p μ ν (pf ν (pf μ a)) := fun {a} h => by
    obtain ⟨w, m2, e1, e2, _, h2, _⟩ := Z.step h
    have e3 : pf μ a = w := by unfold pf; rw [e1]; rfl
    have e4 : pf ν w = m2 := by unfold pf; rw [e2]; rfl
    rw [e3, e4]
    exact ⟨e1, e2, h2⟩
  obtain ⟨a, ha, e⟩ := onto nA nA (fun a => pf ν (pf μ a)) (fun a ha => mA.mpr (go (mA.mp ha)).2.2) (fun x hx y hy e => by
    obtain ⟨x1, x2, _⟩ := go (mA.mp hx)
    obtain ⟨y1, y2, _⟩ := go (mA.mp hy)
    rw [show pf ν (pf μ x) = pf ν (pf μ y) from e] at x2
    have x3 := partner_symm Z.oth.prg.toPrs x2
    have y3 := partner_symm Z.oth.prg.toPrs y2
    rw [x3] at y3
    rw [Option.some.inj y3] at x1
    have x4 := partner_symm Z.one.prg.toPrs x1
    have y4 := partner_symm Z.one.prg.toPrs y1
    rw [x4] at y4
    exact Option.some.inj y4) (Nat.le_refl _) m (mA.mpr h)
  obtain ⟨h1, h2, h3⟩ := go (mA.mp ha)
  have e : pf ν (pf μ a) = m := e
  rw [e] at h2
  exact ⟨pf μ a, a, partner_symm Z.oth.prg.toPrs h2, partner_symm Z.one.prg.toPrs h1, mA.mp ha⟩
theorem Sides.tSide (h : InT rows sd p μ ν w) : sd w = !sd p := by
  obtain ⟨m, h1, e⟩ := h
  rw [Z.other (partner_want Z.one.prg e), h1.side]
/-- of either lot -/
def InU (rows : List (List Nat)) (sd : Nat → Bool) (p : Nat) (μ ν : List (Nat × Nat)) (a : Nat) : Prop := InS rows sd p μ ν a ∨ InT rows sd p μ ν a
theorem Sides.uS (hs : sd a = sd p) (h : InU rows sd p μ ν a) : InS rows sd p μ ν a := h.resolve_right fun t => by
  have := Z.tSide t
  rw [hs] at this
  cases hq : sd p <;> rw [hq] at this <;> cases this
theorem Sides.uT (hs : sd a = !sd p) (h : InU rows sd p μ ν a) : InT rows sd p μ ν a := h.resolve_left fun t => by
  have := t.side
  rw [hs] at this
  cases hq : sd p <;> rw [hq] at this <;> cases this
theorem Sides.une (h : InU rows sd p μ ν a) : a ≠ p := fun e => by
  rcases h with h | h
  · exact h.ne e
  · have := Z.tSide h
    rw [e] at this
    cases hq : sd p <;> rw [hq] at this <;> cases this
theorem Sides.u1 (h : InU rows sd p μ ν a) (e : partner μ a = some b) : InU rows sd p μ ν b := by
  rcases h with h | ⟨m, h, e2⟩
  · exact .inr ⟨a, h, e⟩
  · rw [partner_symm Z.one.prg.toPrs e2] at e
    cases e
    exact .inl h
theorem Sides.u2 (h : InU rows sd p μ ν a) (e : partner ν a = some b) : InU rows sd p μ ν b := by
  rcases h with h | ⟨m, h, e2⟩
  · obtain ⟨w, m0, e1, e2, h2⟩ := Z.back h
    rw [e1] at e
    cases e
    exact .inr ⟨m0, h2, partner_symm Z.one.prg.toPrs e2⟩
  · obtain ⟨w, m2, e3, e4, _, h2, _⟩ := Z.step h
    rw [e2] at e3
    cases e3
    rw [e4] at e
    cases e
    exact .inl h2
/-- who gains on the other side by the cut hall, is with one of S by it -/
theorem Sides.gain (hs : sd w = !sd p) (h : place rows w (partner ν w) < place rows w (partner μ w)) : ∃ m, partner ν w = some m ∧ InS rows sd p μ ν m := by
  have hwp : w ≠ p := fun e => by rw [e] at hs; cases hq : sd p <;> rw [hq] at hs <;> cases hs
  cases e : partner ν w with
  | none =>
    rw [e] at h
    have := pl_le (a := w) Z.one.prg
    have h : (row rows w).length < _ := h
    omega
  | some m =>
    rw [e] at h
    have hw := Z.ct.want (partner_want Z.oth.prg e)
    have e2 := partner_symm Z.oth.prg.toPrs e
    have q := Z.one.hold Z.hall hw h
    rw [← e2] at q
    refine ⟨m, rfl, by rw [Z.other hw, hs]; cases sd p <;> rfl, fun z => ?_, q⟩
    rw [z, Z.off] at e2
    cases e2
theorem Sides.tGain (h : InT rows sd p μ ν w) : place rows w (partner ν w) < place rows w (partner μ w) := by
  obtain ⟨m, h, e⟩ := h
  obtain ⟨w', m2, e3, e4, q, _, _⟩ := Z.step h
  rw [e] at e3
  cases e3
  rw [e4, partner_symm Z.one.prg.toPrs e]
  exact q
open Classical in
/-- as by μ for those of U, as by ν for all others -/
theorem Sides.mixA (hk : ∀ w ∈ row cut p, place rows p (some w) < place rows p (partner μ p)) : ∃ l, Clm cut l ∧ ∀ a, InU rows sd p μ ν a → partner l a = partner μ a := by
  have hc := Z.ct.hall Z.hall
  let f : Nat → Option Nat := fun a => if InU rows sd p μ ν a then partner μ a else partner ν a
  have fU : ∀ {a}, InU rows sd p μ ν a → f a = partner μ a := fun h => if_pos h
  have fN : ∀ {a}, ¬ InU rows sd p μ ν a → f a = partner ν a := fun h => if_neg h
  have F : Fn cut f := by
    refine ⟨fun {a b} e => ?_, fun {a b} e => ?_⟩
    · by_cases h : InU rows sd p μ ν a
      · rw [fU h] at e
        rw [fU (Z.u1 h e)]
        exact partner_symm Z.one.prg.toPrs e
      · rw [fN h] at e
        have e2 := partner_symm Z.oth.prg.toPrs e
        rw [fN fun hb => h (Z.u2 hb e2)]
        exact e2
    · by_cases h : InU rows sd p μ ν a
      · rw [fU h] at e
        exact Z.ct.wanted (Z.une h) (Z.une (Z.u1 h e)) (partner_want Z.one.prg e)
      · rw [fN h] at e
        exact partner_want Z.oth.prg e
  have fp : ∀ {a}, partner (toPs cut.length f) a = f a := fun {a} => toPs_partner hc F
  have half : ∀ m w, sd m = sd p → ¬ Br cut (toPs cut.length f) m w := fun m w hm hB => by
    obtain ⟨h1, h2, h3⟩ := br_iff.mp hB
    rw [fp] at h2 h3
    have hw := Z.ct.want h1
    have hsw : sd w = !sd p := by rw [Z.other hw, hm]
    have hwp : w ≠ p := fun e => by rw [e] at hsw; cases hq : sd p <;> rw [hq] at hsw <;> cases hsw
    by_cases u1 : InU rows sd p μ ν m
    · have hmp := Z.une u1
      rw [fU u1] at h2
      by_cases u2 : InU rows sd p μ ν w
      · rw [fU u2] at h3
        rw [Z.ct.pl hwp, Z.ct.pl hwp] at h3
        rw [Z.ct.pl hmp, Z.ct.pl hmp] at h2
        exact Z.one.nobody Z.hall (br_iff.mpr ⟨hw, h2, h3⟩)
      · rw [fN u2] at h3
        have := (Z.uS hm u1).up
        rw [← Z.ct.pl hmp, ← Z.ct.pl hmp] at this
        exact Z.oth.nobody hc (br_iff.mpr ⟨h1, Nat.lt_trans h2 this, h3⟩)
    · rw [fN u1] at h2
      by_cases u2 : InU rows sd p μ ν w
      · rw [fU u2] at h3
        rw [Z.ct.pl hwp, Z.ct.pl hwp] at h3
        by_cases hmp : m = p
        · subst hmp
          exact Z.one.nobody Z.hall (br_iff.mpr ⟨hw, hk w (want_row h1).1, h3⟩)
        · rw [Z.ct.pl hmp, Z.ct.pl hmp] at h2
          refine Z.one.nobody Z.hall (br_iff.mpr ⟨hw, Nat.lt_of_lt_of_le h2 (Nat.le_of_not_lt fun z => u1 (.inl ⟨hm, hmp, z⟩)), h3⟩)
      · rw [fN u2] at h3
        exact Z.oth.nobody hc (br_iff.mpr ⟨h1, h2, h3⟩)
  refine ⟨toPs cut.length f, clm_of hc (toPs_prg hc F) fun a b hB => ?_, fun a h => by rw [fp, fU h]⟩
  by_cases hs : sd a = sd p
  · exact half a b hs hB
  · refine half b a ?_ hB.symm
    have := Z.other (Z.ct.want hB.1)
    rw [this]
    cases h1 : sd a <;> cases h2 : sd p <;> simp [h1, h2] at hs ⊢
open Classical in
/-- as by ν for those of U, as by μ for all others -/
theorem Sides.mixB : ∃ l, Clm rows l ∧ ∀ a, InU rows sd p μ ν a → partner l a = partner ν a := by
  have hc := Z.ct.hall Z.hall
  let f : Nat → Option Nat := fun a => if InU rows sd p μ ν a then partner ν a else partner μ a
  have fU : ∀ {a}, InU rows sd p μ ν a → f a = partner ν a := fun h => if_pos h
  have fN : ∀ {a}, ¬ InU rows sd p μ ν a → f a = partner μ a := fun h => if_neg h
  have F : Fn rows f := by
    refine ⟨fun {a b} e => ?_, fun {a b} e => ?_⟩
    · by_cases h : InU rows sd p μ ν a
      · rw [fU h] at e
        rw [fU (Z.u2 h e)]
        exact partner_symm Z.oth.prg.toPrs e
      · rw [fN h] at e
        have e2 := partner_symm Z.one.prg.toPrs e
        rw [fN fun hb => h (Z.u1 hb e2)]
        exact e2
    · by_cases h : InU rows sd p μ ν a
      · rw [fU h] at e
        exact Z.ct.want (partner_want Z.oth.prg e)
      · rw [fN h] at e
        exact partner_want Z.one.prg e
  have fp : ∀ {a}, partner (toPs rows.length f) a = f a := fun {a} => toPs_partner Z.hall F
  have half : ∀ m w, sd m = sd p → ¬ Br rows (toPs rows.length f) m w := fun m w hm hB => by
    obtain ⟨h1, h2, h3⟩ := br_iff.mp hB
    rw [fp] at h2 h3
    have hsw : sd w = !sd p := by rw [Z.other h1, hm]
    have hwp : w ≠ p := fun e => by rw [e] at hsw; cases hq : sd p <;> rw [hq] at hsw <;> cases hsw
    by_cases u1 : InU rows sd p μ ν m
    · have hmp := Z.une u1
      rw [fU u1] at h2
      have key : place rows w (some m) < place rows w (partner ν w) → False := fun h3 => by
        rw [← Z.ct.pl hwp, ← Z.ct.pl hwp] at h3
        rw [← Z.ct.pl hmp, ← Z.ct.pl hmp] at h2
        exact Z.oth.nobody hc (br_iff.mpr ⟨Z.ct.wanted hmp hwp h1, h2, h3⟩)
      by_cases u2 : InU rows sd p μ ν w
      · rw [fU u2] at h3
        exact key h3
      · rw [fN u2] at h3
        refine key (Nat.lt_of_not_le fun z => u2 ?_)
        obtain ⟨m2, e, hs⟩ := Z.gain hsw (Nat.lt_of_le_of_lt z h3)
        exact Z.u2 (.inl hs) (partner_symm Z.oth.prg.toPrs e)
    · rw [fN u1] at h2
      refine Z.one.nobody Z.hall (br_iff.mpr ⟨h1, h2, ?_⟩)
      by_cases u2 : InU rows sd p μ ν w
      · rw [fU u2] at h3
        exact Nat.lt_trans h3 (Z.tGain (Z.uT hsw u2))
      · rw [fN u2] at h3
        exact h3
  refine ⟨toPs rows.length f, clm_of Z.hall (toPs_prg Z.hall F) fun a b hB => ?_, fun a h => by rw [fp, fU h]⟩
  by_cases hs : sd a = sd p
  · exact half a b hs hB
  · refine half b a ?_ hB.symm
    rw [Z.other hB.1]
    cases h1 : sd a <;> cases h2 : sd p <;> simp [h1, h2] at hs ⊢
end
/-- what a cut list brings -/
structure Brings (rows : List (List Nat)) (sd : Nat → Bool) (p : Nat) (μ ν : List (Nat × Nat)) : Prop where
  mine : ∀ {m}, sd m = sd p → m ≠ p → place rows m (partner ν m) ≤ place rows m (partner μ m)
  theirs : ∀ {w}, sd w = !sd p → place rows w (partner μ w) ≤ place rows w (partner ν w)
theorem Sides.brings (Z : Sides rows cut sd p k μ ν) (h : ∀ m, ¬ InS rows sd p μ ν m) : Brings rows sd p μ ν := by
  refine ⟨fun {m} hs hne => Nat.le_of_not_lt fun z => h m ⟨hs, hne, z⟩, fun {w} hs => Nat.le_of_not_lt fun z => ?_⟩
  obtain ⟨m2, _, hS⟩ := Z.gain hs z
  exact h m2 hS
section
variable (H : Hall rows) (two : ∀ {a b}, b ∈ row rows a → sd b = !sd a) (C : Cut rows cut p k) (cμ : Clm rows μ) (cν : Clm cut ν)
include H two C cμ cν
theorem brings_asked (bμ : ∀ {l}, Clm rows l → ∀ {w}, w < rows.length → sd w = !sd p → place rows w (partner μ w) ≤ place rows w (partner l w)) : Brings rows sd p μ ν := by
  by_cases off : partner ν p = none
  · have Z : Sides rows cut sd p k μ ν := ⟨H, two, C, cμ, cν, off⟩
    refine Z.brings fun m hS => ?_
    obtain ⟨l, cl, hl⟩ := Z.mixB
    obtain ⟨w, m2, e, _, _, _, hw⟩ := Z.step hS
    have hT : InT rows sd p μ ν w := ⟨m, hS, e⟩
    have := bμ cl (H.mem (want_row (partner_want cμ.prg e)).1).1 hw
    rw [hl w (.inr hT)] at this
    have := Z.tGain hT
    omega
  · have cu := C.up H cν off
    have th : ∀ {w}, sd w = !sd p → place rows w (partner μ w) ≤ place rows w (partner ν w) := fun {w} hs => Nat.le_of_not_lt fun z => by
      obtain ⟨b, e, _⟩ := other_off H cu cμ (decide_eq_true z)
      have := bμ cu (H.mem (want_row (partner_want cu.prg e)).2).1 hs
      omega
    refine ⟨fun {m} hs hne => Nat.le_of_not_lt fun z => ?_, th⟩
    obtain ⟨b, e, hb⟩ := other_off H cμ cu (decide_eq_true z)
    have := th (w := b) (by rw [two (want_row (partner_want cμ.prg e)).1, hs])
    have := of_decide_eq_true hb
    omega
theorem brings_asks (hp : p < rows.length) (bμ : ∀ {l}, Clm rows l → ∀ {m}, m < rows.length → sd m = sd p → place rows m (partner μ m) ≤ place rows m (partner l m))
    (bν : ∀ {l}, Clm cut l → ∀ {m}, m < rows.length → sd m = sd p → place cut m (partner ν m) ≤ place cut m (partner l m)) : Brings rows sd p μ ν := by
  have hc := C.hall H
  have two' : ∀ {a b}, b ∈ row cut a → sd b = !sd a := fun h => two (C.sub h)
  by_cases off : partner ν p = none
  · have Z : Sides rows cut sd p k μ ν := ⟨H, two, C, cμ, cν, off⟩
    refine Z.brings fun m hS => ?_
    by_cases hin : ∃ w, partner μ p = some w ∧ w ∈ row cut p
    · obtain ⟨w, e, hw⟩ := hin
      have cd := C.down H cμ fun w' e' => by rw [e] at e'; cases e'; exact hw
      exact same_people hc two' cd cν (by rw [e]; exact fun z => nomatch z) off
    · have hk : ∀ w ∈ row cut p, place rows p (some w) < place rows p (partner μ p) := fun w hw => by
        cases e : partner μ p with
        | none =>
          rw [place_row (C.sub hw)]
          exact List.idxOf_lt_length_of_mem (C.sub hw)
        | some v => exact C.ahead hw (want_row (partner_want cμ.prg e)).1 fun z => hin ⟨v, e, z⟩
      obtain ⟨l, cl, hl⟩ := Z.mixA hk
      have := bν cl (Z.lt hS) hS.side
      rw [hl m (.inl hS), C.pl hS.ne, C.pl hS.ne] at this
      have := hS.up
      omega
  · have cu := C.up H cν off
    obtain ⟨v, hv⟩ : ∃ v, partner ν p = some v := by
      cases e : partner ν p with
      | none => exact absurd e off
      | some v => exact ⟨v, rfl⟩
    have hvc := (want_row (partner_want cν.prg hv)).1
    have hpp := bμ cu hp rfl
    rw [hv] at hpp
    have hd : ∀ w, partner μ p = some w → w ∈ row cut p := fun w e => Classical.byContradiction fun hn => by
      have := C.ahead hvc (want_row (partner_want cμ.prg e)).1 hn
      rw [e] at hpp
      omega
    have cd := C.down H cμ hd
    have mine : ∀ {m}, sd m = sd p → m ≠ p → place rows m (partner ν m) ≤ place rows m (partner μ m) := fun {m} hs hne => Nat.le_of_not_lt fun z => by
      obtain ⟨b, e, _⟩ := other_off H cμ cu (decide_eq_true z)
      have := bν cd (H.mem (want_row (partner_want cμ.prg e)).2).1 hs
      rw [C.pl hne, C.pl hne] at this
      omega
    refine ⟨mine, fun {w} hs => Nat.le_of_not_lt fun z => ?_⟩
    obtain ⟨b, e, hb⟩ := other_off H cu cμ (decide_eq_true z)
    have hb := of_decide_eq_true hb
    have hsb : sd b = sd p := by rw [two (want_row (partner_want cu.prg e)).1, hs]; cases sd p <;> rfl
    by_cases q : b = p
    · subst q
      have h2 := bν cd hp rfl
      rw [hv, C.plp hvc] at h2
      rw [hv] at hb
      cases e3 : partner μ b with
      | none =>
        rw [e3] at hb hpp
        rw [place_row (C.sub hvc)] at hpp
        have := List.idxOf_lt_length_of_mem (C.sub hvc)
        have hpp : (row rows b).length ≤ _ := hpp
        omega
      | some u =>
        rw [e3, C.plp (hd u e3)] at h2
        rw [e3] at hb
        omega
    · have := mine hsb q
      omega
end
end
end Fw.Da

/-! ### the best pairing of a side; a hall with a list told anew -/
namespace Fw.Da
open PySem PySem.Spec PyProof.Rows L2 Fw Fw.Hl
section
variable {rows : List (List Nat)} {ps qs μ ν l : List (Nat × Nat)} {S : List Nat} {sd : Nat → Bool} {a b n i p k : Nat} {st : Sto}
theorem rep_prs (h : Prs n ps) (hn : n ≤ 10) : Rep (pairsD ps) 30 2 := rep_tup (w := 2) (k := 1) (w' := 10) (fun x hx => by
  obtain ⟨p, hp, rfl⟩ := List.mem_map.mp hx
  have hb := h.lt p hp
  refine rep_tNs (l := [p.1, p.2]) (fun k hk => ?_) (Nat.le_refl _)
  simp only [List.mem_cons, List.not_mem_nil, or_false] at hk
  have h1 : p.1 < n := by omega
  rcases hk with rfl | rfl
  · exact Nat.lt_trans h1 (Nat.lt_of_le_of_lt hn (by decide))
  · exact Nat.lt_trans hb.2 (Nat.lt_of_le_of_lt hn (by decide))) (by rw [List.length_map]; exact Nat.le_trans h.len hn)
theorem rep_hall (H : Hall rows) (hn : rows.length ≤ 10) : Rep (hallD rows) 300 3 := by
  have r1 : Rep (rowsD rows) (10 * (10 + 1)) 2 := rep_tup (w := 10) (k := 1) (w' := 10) (fun x hx => by
    obtain ⟨l, hl, rfl⟩ := List.mem_map.mp hx
    obtain ⟨i, hi, rfl⟩ := List.getElem_of_mem hl
    have hr : row rows i = rows[i] := by
      unfold row
      rw [List.getD_eq_getElem?_getD, List.getElem?_eq_getElem hi]
      rfl
    rw [← hr]
    exact rep_tNs (fun k hk => Nat.lt_trans (H.mem hk).1 (Nat.lt_of_le_of_lt hn (by decide))) (Nat.le_trans (row_len H) hn)) (by rw [List.length_map]; exact hn)
  refine (rep_tup (w := 110) (k := 2) (w' := 2) (fun x hx => ?_) (Nat.le_refl _)).mono (by decide) (by decide)
  simp only [List.mem_cons, List.not_mem_nil, or_false] at hx
  rcases hx with rfl | rfl
  · refine rep_int ?_
    show ((rows.length : Int)).natAbs < 10 ^ 12
    rw [Int.natAbs_natCast]
    exact Nat.lt_of_le_of_lt hn (by decide)
  · exact r1
theorem cmp_val : cmpI rows μ ν a = 1 ∨ cmpI rows μ ν a = -1 ∨ cmpI rows μ ν a = 0 := by
  unfold cmpI
  split
  · exact .inl rfl
  · split
    · exact .inr (.inl rfl)
    · exact .inr (.inr rfl)
theorem sub_cmp (ha : a < rows.length) : subsD (.v (.tuple ((cmpL rows μ ν).map .int))) (.v (nI a)) st = .ok (.v (.int (cmpI rows μ ν a))) st := by
  refine sub_tup (k := a) ?_
  unfold cmpL
  rw [List.getElem?_map, List.getElem?_map, List.getElem?_range ha]
  rfl
theorem cmp_up (h : bet rows ν μ a = true) : cmpI rows μ ν a = 1 := by
  have h := of_decide_eq_true h
  unfold cmpI
  rw [if_pos h]
theorem cmp_down (h : bet rows μ ν a = true) : cmpI rows μ ν a = -1 := by
  have h := of_decide_eq_true h
  unfold cmpI
  rw [if_neg (by omega), if_pos h]
theorem same_on (T : Two rows sd S) (hn : rows.length ≤ 50) (h1 : Prg rows μ) (h2 : Prg rows ν) (s1 : Srt μ) (s2 : Srt ν) (h : ∀ a ∈ S, partner μ a = partner ν a) : μ = ν := by
  refine prg_same hn h1 h2 s1 s2 fun a => ?_
  by_cases ha : a ∈ S
  · exact h a ha
  · have half : ∀ {μ ν : List (Nat × Nat)}, Prg rows μ → Prg rows ν → (∀ a ∈ S, partner μ a = partner ν a) → ∀ c, partner μ a = some c → partner ν a = some c := fun {μ ν} h1 h2 h c e => by
      have hr := want_row (partner_want h1 e)
      have hc := (T.hall.mem hr.1).1
      have ha2 := (T.hall.mem hr.2).1
      have hcS : c ∈ S := T.mem.mpr ⟨hc, by
        rw [T.two hr.1]
        cases q : sd a with
        | true => exact absurd (T.mem.mpr ⟨ha2, q⟩) ha
        | false => rfl⟩
      have e2 := partner_symm h1.toPrs e
      rw [h c hcS] at e2
      exact partner_symm h2.toPrs e2
    cases e : partner μ a with
    | some c => exact (half h1 h2 h c e).symm
    | none =>
      cases e2 : partner ν a with
      | none => rfl
      | some c => rw [half h2 h1 (fun a ha => (h a ha).symm) c e2] at e; cases e
structure Top (rows : List (List Nat)) (S : List Nat) (μ : List (Nat × Nat)) : Prop where
  clm : Clm rows μ
  srt : Srt μ
  best : ∀ {ν}, Clm rows ν → ∀ {m}, m ∈ S → place rows m (partner μ m) ≤ place rows m (partner ν m)
theorem top_of (T : Two rows sd S) (hn : rows.length ≤ 50) {ask : Nat → Nat} {hd : Held} (s : St rows S ask hd []) : Top rows S (outc hd) := by
  have hp := out_prg T s
  refine ⟨⟨hp, out_calm T s⟩, ?_, fun {ν} c {m} hm => out_best T s c.prg c.no hm⟩
  unfold outc at hp ⊢
  exact (sortP_eq (sortP_perm _) fun p h => by have := hp.lt p ((sortP_perm _).mem_iff.mpr h); omega).symm
theorem top_uniq (T : Two rows sd S) (hn : rows.length ≤ 50) (h1 : Top rows S μ) (h2 : Top rows S ν) : μ = ν :=
  same_on T hn h1.clm.prg h2.clm.prg h1.srt h2.srt fun a ha => pl_inj h1.clm.prg h2.clm.prg (Nat.le_antisymm (h1.best h2.clm ha) (h2.best h1.clm ha))
theorem for_eq (T : Two rows sd S) (hn : rows.length ≤ 50) : ∃ μ, Top rows S μ ∧ ∀ st, LD.f_best_for [.v (hallD rows), .v (tNs S)] st = .ok (.v (pairsD μ)) st := by
  obtain ⟨d, s, e, _, ask, hd, _, s0⟩ := (best_ok (st := []) T hn).eq
  have M := top_of T hn s0
  refine ⟨_, M, fun st => ?_⟩
  obtain ⟨d, s, e, rfl, ask2, hd2, rfl, s2⟩ := (best_ok (st := st) T hn).eq
  rw [top_uniq T hn M (top_of T hn s2)]
  exact e
/-- the hall in which p has the list r -/
def anew (rows : List (List Nat)) (p : Nat) (r : List Nat) : List (List Nat) := rows.take p ++ [r] ++ rows.drop (p + 1)
theorem anew_len {r : List Nat} (hp : p < rows.length) : (anew rows p r).length = rows.length := by
  unfold anew
  simp only [List.length_append, List.length_take, List.length_drop, List.length_singleton]
  omega
theorem anew_at {r : List Nat} (hp : p < rows.length) : row (anew rows p r) p = r := by
  unfold row anew
  rw [List.getD_eq_getElem?_getD, List.append_assoc, List.getElem?_append_right (by rw [List.length_take]; omega), List.length_take, Nat.min_eq_left (Nat.le_of_lt hp), Nat.sub_self]
  rfl
theorem anew_off {r : List Nat} (hp : p < rows.length) (h : a ≠ p) : row (anew rows p r) a = row rows a := by
  unfold row anew
  rw [List.getD_eq_getElem?_getD, List.getD_eq_getElem?_getD, List.append_assoc]
  have hl : (rows.take p).length = p := by rw [List.length_take]; omega
  by_cases q : a < p
  · rw [List.getElem?_append_left (by omega), List.getElem?_take_of_lt q]
  · rw [List.getElem?_append_right (by omega), List.getElem?_append_right (by rw [hl, List.length_singleton]; omega), hl, List.length_singleton, List.getElem?_drop, show p + 1 + (a - p - 1) = a by omega]
theorem anew_hall {r : List Nat} (H : Hall rows) (hp : p < rows.length) (nd : r.Nodup) (h : ∀ b ∈ r, b < rows.length ∧ b ≠ p) : Hall (anew rows p r) := by
  refine ⟨by rw [anew_len hp]; exact H.pos, fun a => ?_, fun {a b} hb => ?_⟩
  · by_cases e : a = p
    · subst e; rw [anew_at hp]; exact nd
    · rw [anew_off hp e]; exact H.nd a
  · rw [anew_len hp]
    by_cases e : a = p
    · subst e; rw [anew_at hp] at hb; exact h b hb
    · rw [anew_off hp e] at hb; exact H.mem hb
theorem anew_cut (hp : p < rows.length) : Cut rows (anew rows p ((row rows p).take k)) p k := ⟨anew_len hp, fun h => anew_off hp h, anew_at hp⟩
theorem anew_D {r : List Nat} (hp : p < rows.length) : hallD (anew rows p r) = .tuple [nI rows.length, .tuple ((rows.map tNs).take p ++ [tNs r] ++ (rows.map tNs).drop (p + 1))] := by
  show PyData.tuple [nI (anew rows p r).length, rowsD (anew rows p r)] = _
  rw [anew_len hp]
  unfold anew rowsD
  rw [List.map_append, List.map_append, List.map_take, List.map_drop]
  rfl
theorem add1 {p : Nat} {st : Sto} : addD (.v (nI p)) (.v (.int 1)) st = .ok (.v (.int ((p + 1 : Nat) : Int))) st := by rw [addD_int]; rfl
theorem anew_add {r : List Nat} (hn : rows.length ≤ 50) (hp : p < rows.length) : addD (.v (.tuple ((rows.map tNs).take p))) (.v (.tuple [tNs r])) st = .ok (.v (.tuple ((rows.map tNs).take p ++ [tNs r]))) st := add_tupD (by simp only [List.length_take, List.length_map, List.length_singleton]; omega)
theorem anew_add2 {r : List Nat} (hn : rows.length ≤ 50) (hp : p < rows.length) : addD (.v (.tuple ((rows.map tNs).take p ++ [tNs r]))) (.v (.tuple ((rows.map tNs).drop (p + 1)))) st = .ok (.v (.tuple ((rows.map tNs).take p ++ [tNs r] ++ (rows.map tNs).drop (p + 1)))) st := add_tupD (by simp only [List.length_append, List.length_take, List.length_drop, List.length_map, List.length_singleton]; omega)
theorem cutp_take {α : Type} {l : List α} : cutP l none (some (p : Int)) = l.take p := cut_take l p
theorem cutp_drop {α : Type} {l : List α} : cutP l (some ((p : Int) + 1)) none = l.drop (p + 1) := cut_drop l (p + 1)
theorem changed_eq {d : D} {r : List Nat} (hn : rows.length ≤ 50) (hp : p < rows.length) (hd : ∀ st, fTuple [d] st = .ok (.v (tNs r)) st) : LD.f_changed [.v (hallD rows), .v (nI p), d] st = .ok (.v (hallD (anew rows p r))) st := by
  refine Out.Ok.is (fnT_ok ?_)
  unfold LD.S_changed LD.S_changed_2
  simp only [envE, so_seq, so_if, so_ret, so_retN, so_exp, so_nil, so_nx, so_rt, so_asg, so_asgG, so_par2, so_par3, ok_gNm, ok_gMore, ok_gNone, so_asgT, so_sub, so_for, ok_TB, ok_Tru, ok_notT, ok_andT, ok_orT, ok_andV, ok_orV, ok_notV, ok_iteE, ok_frz, ok_new, ok_mfArg, ok_mfBin, ok_lc, ok_M, ok_M0, ok_moNone, ok_moSome, ok_Sl,
  ok_bin, ok_un, ok_arg, ok_cons, ok_nil, ok_call, ok_var, ok_C, ok_ok, ok_stuck, ok_noX, bOf_bool, low_v, iOf_int, addD_int, subD_int, negD_int, ltD_int, leD_int, gtD_int, geD_int, fInt_int, isD_bool, isNotD_bool, tru_bool, List.map_cons, List.map_nil, List.length_cons, List.length_nil, List.replicate_succ, List.replicate_zero, List.cons_append, List.nil_append,
  List.append_nil, List.getElem?_cons_zero, List.getElem?_cons_succ, List.set_cons_zero, List.set_cons_succ, Option.some.injEq, exists_eq_left', exists_eq_left, true_and, and_true, true_implies, false_implies, implies_true, Bool.false_eq_true, reduceCtorEq, false_and, and_false, D.v.injEq, PyData.int.injEq, D.ref.injEq, p1i_int, p2_two, p3_three, decide_true, Bool.not_true, Bool.not_false, decide_eq_true_eq, decide_eq_false_iff_not, hall0, hall1, hd, tup1, slice_tup, add1, tup2]
  rw [cut_take, show ((p : Int) + 1) = ((p + 1 : Nat) : Int) from rfl, cut_drop, anew_add hn hp, ok_ok, anew_add2 hn hp, ok_ok, tup2, ok_ok]
  exact ⟨rfl, by rw [anew_D hp], List.take_length⟩
theorem cutshort_eq (H : Hall rows) (hn : rows.length ≤ 50) (hp : p < rows.length) : LD.f_cut_short [.v (hallD rows), .v (nI p), .v (nI k)] st = .ok (.v (hallD (anew rows p ((row rows p).take k)))) st := by
  refine Out.Ok.is (fnT_ok ?_)
  unfold LD.S_cut_short
  have hc : ∀ t, LD.f_changed [.v (hallD rows), .v (nI p), .v (tNs ((row rows p).take k))] t = .ok (.v (hallD (anew rows p ((row rows p).take k)))) t := fun t => changed_eq hn hp fun st => rfl
  simp only [envE, so_seq, so_if, so_ret, so_retN, so_exp, so_nil, so_nx, so_rt, so_asg, so_asgG, so_par2, so_par3, ok_gNm, ok_gMore, ok_gNone, so_asgT, so_sub, so_for, ok_TB, ok_Tru, ok_notT, ok_andT, ok_orT, ok_andV, ok_orV, ok_notV, ok_iteE, ok_frz, ok_new, ok_mfArg, ok_mfBin, ok_lc, ok_M, ok_M0, ok_moNone, ok_moSome, ok_Sl,
  ok_bin, ok_un, ok_arg, ok_cons, ok_nil, ok_call, ok_var, ok_C, ok_ok, ok_stuck, ok_noX, bOf_bool, low_v, iOf_int, addD_int, subD_int, negD_int, ltD_int, leD_int, gtD_int, geD_int, fInt_int, isD_bool, isNotD_bool, tru_bool, List.map_cons, List.map_nil, List.length_cons, List.length_nil, List.replicate_succ, List.replicate_zero, List.cons_append, List.nil_append,
  List.append_nil, List.getElem?_cons_zero, List.getElem?_cons_succ, List.set_cons_zero, List.set_cons_succ, Option.some.injEq, exists_eq_left', exists_eq_left, true_and, and_true, true_implies, false_implies, implies_true, Bool.false_eq_true, reduceCtorEq, false_and, and_false, D.v.injEq, PyData.int.injEq, D.ref.injEq, p1i_int, p2_two, p3_three, decide_true, Bool.not_true, Bool.not_false, decide_eq_true_eq, decide_eq_false_iff_not, hall1, hall_row hp, slice_tup, cutp_take, ← List.map_take, hc]
  exact List.take_length
end
end Fw.Da

namespace Wk58
open PySem PySem.Spec PyProof.Rows L2 Fw Fw.Hl Fw.Da
section
variable {rows : List (List Nat)} {μ ν : List (Nat × Nat)} {S M O : List Nat} {sd : Nat → Bool} {a b n i p k : Nat} {st : Sto}
theorem two_anew (T : Two rows sd S) (hp : p < rows.length) : Two (anew rows p ((row rows p).take k)) sd S :=
  ⟨(anew_cut hp).hall T.hall, fun h => T.two ((anew_cut hp).sub h), T.nd, fun {a} => by rw [anew_len hp]; exact T.mem⟩
structure Both (rows : List (List Nat)) (sd : Nat → Bool) (p k : Nat) (S : List Nat) (μ ν : List (Nat × Nat)) : Prop where
  one : Clm rows μ
  oth : Clm (anew rows p ((row rows p).take k)) ν
  eq1 : ∀ st, f_best_for [.v (hallD rows), .v (tNs S)] st = .ok (.v (pairsD μ)) st
  eq2 : ∀ st, f_best_for [.v (hallD (anew rows p ((row rows p).take k))), .v (tNs S)] st = .ok (.v (pairsD ν)) st
  br : Brings rows sd p μ ν
theorem both_mine (T : Two rows sd S) (hn : rows.length ≤ 50) (hp : p < rows.length) (hs : sd p = true) : ∃ μ ν, Both rows sd p k S μ ν := by
  obtain ⟨μ, M1, e1⟩ := for_eq T hn
  have T2 := two_anew (k := k) T hp
  obtain ⟨ν, M2, e2⟩ := for_eq T2 (by rw [anew_len hp]; exact hn)
  refine ⟨μ, ν, M1.clm, M2.clm, e1, e2, brings_asks T.hall T.two (anew_cut hp) M1.clm M2.clm hp (fun {l} c {m} h1 h2 => M1.best c (T.mem.mpr ⟨h1, by rw [h2, hs]⟩)) fun {l} c {m} h1 h2 => M2.best c (T.mem.mpr ⟨h1, by rw [h2, hs]⟩)⟩
theorem both_theirs (H : ∀ {a b}, b ∈ row rows a → sd b = !sd a) (T : Two rows (fun a => !sd a) S) (hn : rows.length ≤ 50) (hp : p < rows.length) (hs : sd p = true) : ∃ μ ν, Both rows sd p k S μ ν := by
  obtain ⟨μ, M1, e1⟩ := for_eq T hn
  have T2 := two_anew (k := k) T hp
  obtain ⟨ν, M2, e2⟩ := for_eq T2 (by rw [anew_len hp]; exact hn)
  refine ⟨μ, ν, M1.clm, M2.clm, e1, e2, brings_asked T.hall H (anew_cut hp) M1.clm M2.clm (fun {l} c {m} h1 h2 => M1.best c (T.mem.mpr ⟨h1, by rw [h2, hs]; rfl⟩))⟩
theorem hnil : ∀ l : List Nat, l.filterMap (fun _ => (none : Option PyData)) = []
  | [] => rfl
  | _ :: r => hnil r
theorem hn0 {t : Sto} : neD (.v (.list [])) (.v (.list [])) t = .ok (.v (.bool false)) t := ne_nilL (xs := []) (shaped_prs []).1
theorem ne_nat {x y : Nat} {t : Sto} : neD (.v (nI x)) (.v (nI y)) t = .ok (.v (.bool (!decide (x = y)))) t := by
  rw [show neD (.v (nI x)) (.v (nI y)) t = _ from neD_int]
  congr 4
  exact decide_eq_decide.mpr (by omega)
theorem env20 {e : Ev} (h : e.length = 20) : ∃ a0 a1 a2 a3 a4 a5 a6 a7 a8 a9 a10 a11 a12 a13 a14 a15 a16 a17 a18 a19 : Option D, e = [a0, a1, a2, a3, a4, a5, a6, a7, a8, a9, a10, a11, a12, a13, a14, a15, a16, a17, a18, a19] := match e, h with | [a0, a1, a2, a3, a4, a5, a6, a7, a8, a9, a10, a11, a12, a13, a14, a15, a16, a17, a18, a19], _ => ⟨a0, a1, a2, a3, a4, a5, a6, a7, a8, a9, a10, a11, a12, a13, a14, a15, a16, a17, a18, a19, rfl⟩
theorem side_ok (B : Both rows sd p k S μ ν) (H : Hall rows) (hn : rows.length ≤ 10) (hp : p < rows.length) (hs : sd p = true) (hM : ∀ a ∈ M, a < rows.length ∧ sd a = true) (hO : ∀ b ∈ O, b < rows.length ∧ sd b = false) {s : Src} (a0 a2 d4 d5 d7 d8 a11 a14 a15 a16 a17 a18 a19 : Option D) :
    (law_B2 [a0, some (.ref 1), a2, some (.v (hallD rows)), d4, d5, some (.v (nI p)), d7, d8, some (.v (hallD (anew rows p ((row rows p).take k)))), some (.v (tNs M)), a11, some (.v (tNs O)), some (.v (tNs S)), a14, a15, a16, a17, a18, a19] (s.sto [])).Ok (fun e t => t = s.sto [] ∧ ∃ b11 b14 b15 b16 b17 b18, e = [a0, some (.ref 1), a2, some (.v (hallD rows)), d4, d5, some (.v (nI p)), d7, d8, some (.v (hallD (anew rows p ((row rows p).take k)))), some (.v (tNs M)), b11, some (.v (tNs O)), some (.v (tNs S)), b14, b15, b16, b17, b18, a19]) (fun _ _ => False) := by
  have hn50 : rows.length ≤ 50 := by omega
  have hn50' : (anew rows p ((row rows p).take k)).length ≤ 50 := by rw [anew_len hp]; exact hn50
  unfold law_B2
  simp only [envE, so_seq, so_if, so_ret, so_retN, so_exp, so_nil, so_nx, so_rt, so_asg, so_asgG, so_par2, so_par3, ok_gNm, ok_gMore, ok_gNone, so_asgT, so_sub, so_for, ok_TB, ok_Tru, ok_notT, ok_andT, ok_orT, ok_andV, ok_orV, ok_notV, ok_iteE, ok_frz, ok_new, ok_mfArg, ok_mfBin, ok_lc, ok_M, ok_M0, ok_moNone, ok_moSome, ok_Sl,
  ok_bin, ok_un, ok_arg, ok_cons, ok_nil, ok_call, ok_var, ok_C, ok_ok, ok_stuck, ok_noX, bOf_bool, low_v, iOf_int, addD_int, subD_int, negD_int, ltD_int, leD_int, gtD_int, geD_int, fInt_int, isD_bool, isNotD_bool, tru_bool, List.map_cons, List.map_nil, List.length_cons, List.length_nil, List.replicate_succ, List.replicate_zero, List.cons_append, List.nil_append,
  List.append_nil, List.getElem?_cons_zero, List.getElem?_cons_succ, List.set_cons_zero, List.set_cons_succ, Option.some.injEq, exists_eq_left', exists_eq_left, true_and, and_true, true_implies, false_implies, implies_true, Bool.false_eq_true, reduceCtorEq, false_and, and_false, D.v.injEq, PyData.int.injEq, D.ref.injEq, p1i_int, p2_two, p3_three, decide_true, Bool.not_true, Bool.not_false, decide_eq_true_eq, decide_eq_false_iff_not, B.eq1, B.eq2]
  refine ⟨by decide, ?_⟩
  unfold law_B2_2
  simp only [envE, so_seq, so_if, so_ret, so_retN, so_exp, so_nil, so_nx, so_rt, so_asg, so_asgG, so_par2, so_par3, ok_gNm, ok_gMore, ok_gNone, so_asgT, so_sub, so_for, ok_TB, ok_Tru, ok_notT, ok_andT, ok_orT, ok_andV, ok_orV, ok_notV, ok_iteE, ok_frz, ok_new, ok_mfArg, ok_mfBin, ok_lc, ok_M, ok_M0, ok_moNone, ok_moSome, ok_Sl,
  ok_bin, ok_un, ok_arg, ok_cons, ok_nil, ok_call, ok_var, ok_C, ok_ok, ok_stuck, ok_noX, bOf_bool, low_v, iOf_int, addD_int, subD_int, negD_int, ltD_int, leD_int, gtD_int, geD_int, fInt_int, isD_bool, isNotD_bool, tru_bool, List.map_cons, List.map_nil, List.length_cons, List.length_nil, List.replicate_succ, List.replicate_zero, List.cons_append, List.nil_append,
  List.append_nil, List.getElem?_cons_zero, List.getElem?_cons_succ, List.set_cons_zero, List.set_cons_succ, Option.some.injEq, exists_eq_left', exists_eq_left, true_and, and_true, true_implies, false_implies, implies_true, Bool.false_eq_true, reduceCtorEq, false_and, and_false, D.v.injEq, PyData.int.injEq, D.ref.injEq, p1i_int, p2_two, p3_three, decide_true, Bool.not_true, Bool.not_false, decide_eq_true_eq, decide_eq_false_iff_not, lbreaking_eq hn50, lbreaking_eq hn50', B.one.no, B.oth.no, disp0, hn0]
  unfold law_B2_3
  simp only [envE, so_seq, so_if, so_ret, so_retN, so_exp, so_nil, so_nx, so_rt, so_asg, so_asgG, so_par2, so_par3, ok_gNm, ok_gMore, ok_gNone, so_asgT, so_sub, so_for, ok_TB, ok_Tru, ok_notT, ok_andT, ok_orT, ok_andV, ok_orV, ok_notV, ok_iteE, ok_frz, ok_new, ok_mfArg, ok_mfBin, ok_lc, ok_M, ok_M0, ok_moNone, ok_moSome, ok_Sl,
  ok_bin, ok_un, ok_arg, ok_cons, ok_nil, ok_call, ok_var, ok_C, ok_ok, ok_stuck, ok_noX, bOf_bool, low_v, iOf_int, addD_int, subD_int, negD_int, ltD_int, leD_int, gtD_int, geD_int, fInt_int, isD_bool, isNotD_bool, tru_bool, List.map_cons, List.map_nil, List.length_cons, List.length_nil, List.replicate_succ, List.replicate_zero, List.cons_append, List.nil_append,
  List.append_nil, List.getElem?_cons_zero, List.getElem?_cons_succ, List.set_cons_zero, List.set_cons_succ, Option.some.injEq, exists_eq_left', exists_eq_left, true_and, and_true, true_implies, false_implies, implies_true, Bool.false_eq_true, reduceCtorEq, false_and, and_false, D.v.injEq, PyData.int.injEq, D.ref.injEq, p1i_int, p2_two, p3_three, decide_true, Bool.not_true, Bool.not_false, decide_eq_true_eq, decide_eq_false_iff_not, lcompared_eq hn50]
  unfold law_B2_4 law_E4
  simp only [envE, so_seq, so_if, so_ret, so_retN, so_exp, so_nil, so_nx, so_rt, so_asg, so_asgG, so_par2, so_par3, ok_gNm, ok_gMore, ok_gNone, so_asgT, so_sub, so_for, ok_TB, ok_Tru, ok_notT, ok_andT, ok_orT, ok_andV, ok_orV, ok_notV, ok_iteE, ok_frz, ok_new, ok_mfArg, ok_mfBin, ok_lc, ok_M, ok_M0, ok_moNone, ok_moSome, ok_Sl,
  ok_bin, ok_un, ok_arg, ok_cons, ok_nil, ok_call, ok_var, ok_C, ok_ok, ok_stuck, ok_noX, bOf_bool, low_v, iOf_int, addD_int, subD_int, negD_int, ltD_int, leD_int, gtD_int, geD_int, fInt_int, isD_bool, isNotD_bool, tru_bool, List.map_cons, List.map_nil, List.length_cons, List.length_nil, List.replicate_succ, List.replicate_zero, List.cons_append, List.nil_append,
  List.append_nil, List.getElem?_cons_zero, List.getElem?_cons_succ, List.set_cons_zero, List.set_cons_succ, Option.some.injEq, exists_eq_left', exists_eq_left, true_and, and_true, true_implies, false_implies, implies_true, Bool.false_eq_true, reduceCtorEq, false_and, and_false, D.v.injEq, PyData.int.injEq, D.ref.injEq, p1i_int, p2_two, p3_three, decide_true, Bool.not_true, Bool.not_false, decide_eq_true_eq, decide_eq_false_iff_not, ok_seq, seqW_tup, List.map_map]
  have gn : ∀ {a : Nat}, a ∈ M → a < rows.length := fun h => (hM _ h).1
  rw [lcL_mapA _ (fun _ => none)]
  rotate_left
  · intro a ha
    unfold law_G4 law_T4 law_M4
    show (gNm 11 (.one (.v (nI a))) _ _).Ok _
    simp only [envE, so_seq, so_if, so_ret, so_retN, so_exp, so_nil, so_nx, so_rt, so_asg, so_asgG, so_par2, so_par3, ok_gNm, ok_gMore, ok_gNone, so_asgT, so_sub, so_for, ok_TB, ok_Tru, ok_notT, ok_andT, ok_orT, ok_andV, ok_orV, ok_notV, ok_iteE, ok_frz, ok_new, ok_mfArg, ok_mfBin, ok_lc, ok_M, ok_M0, ok_moNone, ok_moSome, ok_Sl,
  ok_bin, ok_un, ok_arg, ok_cons, ok_nil, ok_call, ok_var, ok_C, ok_ok, ok_stuck, ok_noX, bOf_bool, low_v, iOf_int, addD_int, subD_int, negD_int, ltD_int, leD_int, gtD_int, geD_int, fInt_int, isD_bool, isNotD_bool, tru_bool, List.map_cons, List.map_nil, List.length_cons, List.length_nil, List.replicate_succ, List.replicate_zero, List.cons_append, List.nil_append,
  List.append_nil, List.getElem?_cons_zero, List.getElem?_cons_succ, List.set_cons_zero, List.set_cons_succ, Option.some.injEq, exists_eq_left', exists_eq_left, true_and, and_true, true_implies, false_implies, implies_true, Bool.false_eq_true, reduceCtorEq, false_and, and_false, D.v.injEq, PyData.int.injEq, D.ref.injEq, p1i_int, p2_two, p3_three, decide_true, Bool.not_true, Bool.not_false, decide_eq_true_eq, decide_eq_false_iff_not, wipeE, ne_nat, sub_cmp (gn ha)]
    intro hne hlt
    have hap : a ≠ p := by simpa using hne
    have := B.br.mine (m := a) (by rw [(hM a ha).2, hs]) hap
    unfold cmpI at hlt
    split at hlt
    · omega
    · rw [if_neg (by omega)] at hlt
      omega
  rw [hnil]
  simp only [envE, so_seq, so_if, so_ret, so_retN, so_exp, so_nil, so_nx, so_rt, so_asg, so_asgG, so_par2, so_par3, ok_gNm, ok_gMore, ok_gNone, so_asgT, so_sub, so_for, ok_TB, ok_Tru, ok_notT, ok_andT, ok_orT, ok_andV, ok_orV, ok_notV, ok_iteE, ok_frz, ok_new, ok_mfArg, ok_mfBin, ok_lc, ok_M, ok_M0, ok_moNone, ok_moSome, ok_Sl,
  ok_bin, ok_un, ok_arg, ok_cons, ok_nil, ok_call, ok_var, ok_C, ok_ok, ok_stuck, ok_noX, bOf_bool, low_v, iOf_int, addD_int, subD_int, negD_int, ltD_int, leD_int, gtD_int, geD_int, fInt_int, isD_bool, isNotD_bool, tru_bool, List.map_cons, List.map_nil, List.length_cons, List.length_nil, List.replicate_succ, List.replicate_zero, List.cons_append, List.nil_append,
  List.append_nil, List.getElem?_cons_zero, List.getElem?_cons_succ, List.set_cons_zero, List.set_cons_succ, Option.some.injEq, exists_eq_left', exists_eq_left, true_and, and_true, true_implies, false_implies, implies_true, Bool.false_eq_true, reduceCtorEq, false_and, and_false, D.v.injEq, PyData.int.injEq, D.ref.injEq, p1i_int, p2_two, p3_three, decide_true, Bool.not_true, Bool.not_false, decide_eq_true_eq, decide_eq_false_iff_not, disp0, hn0]
  unfold law_E3
  simp only [envE, so_seq, so_if, so_ret, so_retN, so_exp, so_nil, so_nx, so_rt, so_asg, so_asgG, so_par2, so_par3, ok_gNm, ok_gMore, ok_gNone, so_asgT, so_sub, so_for, ok_TB, ok_Tru, ok_notT, ok_andT, ok_orT, ok_andV, ok_orV, ok_notV, ok_iteE, ok_frz, ok_new, ok_mfArg, ok_mfBin, ok_lc, ok_M, ok_M0, ok_moNone, ok_moSome, ok_Sl,
  ok_bin, ok_un, ok_arg, ok_cons, ok_nil, ok_call, ok_var, ok_C, ok_ok, ok_stuck, ok_noX, bOf_bool, low_v, iOf_int, addD_int, subD_int, negD_int, ltD_int, leD_int, gtD_int, geD_int, fInt_int, isD_bool, isNotD_bool, tru_bool, List.map_cons, List.map_nil, List.length_cons, List.length_nil, List.replicate_succ, List.replicate_zero, List.cons_append, List.nil_append,
  List.append_nil, List.getElem?_cons_zero, List.getElem?_cons_succ, List.set_cons_zero, List.set_cons_succ, Option.some.injEq, exists_eq_left', exists_eq_left, true_and, and_true, true_implies, false_implies, implies_true, Bool.false_eq_true, reduceCtorEq, false_and, and_false, D.v.injEq, PyData.int.injEq, D.ref.injEq, p1i_int, p2_two, p3_three, decide_true, Bool.not_true, Bool.not_false, decide_eq_true_eq, decide_eq_false_iff_not, ok_seq, seqW_tup, List.map_map]
  rw [lcL_mapA _ (fun _ => none)]
  rotate_left
  · intro b hb
    unfold law_G3 law_T3 law_M3
    show (gNm 17 (.one (.v (nI b))) _ _).Ok _
    simp only [envE, so_seq, so_if, so_ret, so_retN, so_exp, so_nil, so_nx, so_rt, so_asg, so_asgG, so_par2, so_par3, ok_gNm, ok_gMore, ok_gNone, so_asgT, so_sub, so_for, ok_TB, ok_Tru, ok_notT, ok_andT, ok_orT, ok_andV, ok_orV, ok_notV, ok_iteE, ok_frz, ok_new, ok_mfArg, ok_mfBin, ok_lc, ok_M, ok_M0, ok_moNone, ok_moSome, ok_Sl,
  ok_bin, ok_un, ok_arg, ok_cons, ok_nil, ok_call, ok_var, ok_C, ok_ok, ok_stuck, ok_noX, bOf_bool, low_v, iOf_int, addD_int, subD_int, negD_int, ltD_int, leD_int, gtD_int, geD_int, fInt_int, isD_bool, isNotD_bool, tru_bool, List.map_cons, List.map_nil, List.length_cons, List.length_nil, List.replicate_succ, List.replicate_zero, List.cons_append, List.nil_append,
  List.append_nil, List.getElem?_cons_zero, List.getElem?_cons_succ, List.set_cons_zero, List.set_cons_succ, Option.some.injEq, exists_eq_left', exists_eq_left, true_and, and_true, true_implies, false_implies, implies_true, Bool.false_eq_true, reduceCtorEq, false_and, and_false, D.v.injEq, PyData.int.injEq, D.ref.injEq, p1i_int, p2_two, p3_three, decide_true, Bool.not_true, Bool.not_false, decide_eq_true_eq, decide_eq_false_iff_not, wipeE, sub_cmp (hO b hb).1]
    intro hgt
    have := B.br.theirs (w := b) (by rw [(hO b hb).2, hs]; rfl)
    unfold cmpI at hgt
    rw [if_neg (by omega)] at hgt
    split at hgt <;> omega
  rw [hnil]
  simp only [envE, so_seq, so_if, so_ret, so_retN, so_exp, so_nil, so_nx, so_rt, so_asg, so_asgG, so_par2, so_par3, ok_gNm, ok_gMore, ok_gNone, so_asgT, so_sub, so_for, ok_TB, ok_Tru, ok_notT, ok_andT, ok_orT, ok_andV, ok_orV, ok_notV, ok_iteE, ok_frz, ok_new, ok_mfArg, ok_mfBin, ok_lc, ok_M, ok_M0, ok_moNone, ok_moSome, ok_Sl,
  ok_bin, ok_un, ok_arg, ok_cons, ok_nil, ok_call, ok_var, ok_C, ok_ok, ok_stuck, ok_noX, bOf_bool, low_v, iOf_int, addD_int, subD_int, negD_int, ltD_int, leD_int, gtD_int, geD_int, fInt_int, isD_bool, isNotD_bool, tru_bool, List.map_cons, List.map_nil, List.length_cons, List.length_nil, List.replicate_succ, List.replicate_zero, List.cons_append, List.nil_append,
  List.append_nil, List.getElem?_cons_zero, List.getElem?_cons_succ, List.set_cons_zero, List.set_cons_succ, Option.some.injEq, exists_eq_left', exists_eq_left, true_and, and_true, true_implies, false_implies, implies_true, Bool.false_eq_true, reduceCtorEq, false_and, and_false, D.v.injEq, PyData.int.injEq, D.ref.injEq, p1i_int, p2_two, p3_three, decide_true, Bool.not_true, Bool.not_false, decide_eq_true_eq, decide_eq_false_iff_not, disp0, hn0]
  unfold law_B2_5 law_E5
  simp only [envE, so_seq, so_if, so_ret, so_retN, so_exp, so_nil, so_nx, so_rt, so_asg, so_asgG, so_par2, so_par3, ok_gNm, ok_gMore, ok_gNone, so_asgT, so_sub, so_for, ok_TB, ok_Tru, ok_notT, ok_andT, ok_orT, ok_andV, ok_orV, ok_notV, ok_iteE, ok_frz, ok_new, ok_mfArg, ok_mfBin, ok_lc, ok_M, ok_M0, ok_moNone, ok_moSome, ok_Sl,
  ok_bin, ok_un, ok_arg, ok_cons, ok_nil, ok_call, ok_var, ok_C, ok_ok, ok_stuck, ok_noX, bOf_bool, low_v, iOf_int, addD_int, subD_int, negD_int, ltD_int, leD_int, gtD_int, geD_int, fInt_int, isD_bool, isNotD_bool, tru_bool, List.map_cons, List.map_nil, List.length_cons, List.length_nil, List.replicate_succ, List.replicate_zero, List.cons_append, List.nil_append,
  List.append_nil, List.getElem?_cons_zero, List.getElem?_cons_succ, List.set_cons_zero, List.set_cons_succ, Option.some.injEq, exists_eq_left', exists_eq_left, true_and, and_true, true_implies, false_implies, implies_true, Bool.false_eq_true, reduceCtorEq, false_and, and_false, D.v.injEq, PyData.int.injEq, D.ref.injEq, p1i_int, p2_two, p3_three, decide_true, Bool.not_true, Bool.not_false, decide_eq_true_eq, decide_eq_false_iff_not, ok_seq, seqW_tup, List.map_map]
  rw [lcL_mapA _ (fun a : Nat => if (!decide (a = p) && !(partner μ a).isNone) = true then some (nI a) else none), fm_filter]
  rotate_left
  · intro a ha
    unfold law_G5 law_T5 law_M5
    show (gNm 11 (.one (.v (nI a))) _ _).Ok _
    simp only [envE, so_seq, so_if, so_ret, so_retN, so_exp, so_nil, so_nx, so_rt, so_asg, so_asgG, so_par2, so_par3, ok_gNm, ok_gMore, ok_gNone, so_asgT, so_sub, so_for, ok_TB, ok_Tru, ok_notT, ok_andT, ok_orT, ok_andV, ok_orV, ok_notV, ok_iteE, ok_frz, ok_new, ok_mfArg, ok_mfBin, ok_lc, ok_M, ok_M0, ok_moNone, ok_moSome, ok_Sl,
  ok_bin, ok_un, ok_arg, ok_cons, ok_nil, ok_call, ok_var, ok_C, ok_ok, ok_stuck, ok_noX, bOf_bool, low_v, iOf_int, addD_int, subD_int, negD_int, ltD_int, leD_int, gtD_int, geD_int, fInt_int, isD_bool, isNotD_bool, tru_bool, List.map_cons, List.map_nil, List.length_cons, List.length_nil, List.replicate_succ, List.replicate_zero, List.cons_append, List.nil_append,
  List.append_nil, List.getElem?_cons_zero, List.getElem?_cons_succ, List.set_cons_zero, List.set_cons_succ, Option.some.injEq, exists_eq_left', exists_eq_left, true_and, and_true, true_implies, false_implies, implies_true, Bool.false_eq_true, reduceCtorEq, false_and, and_false, D.v.injEq, PyData.int.injEq, D.ref.injEq, p1i_int, p2_two, p3_three, decide_true, Bool.not_true, Bool.not_false, decide_eq_true_eq, decide_eq_false_iff_not, wipeE, ne_nat, lpartner_eq, Hl.isNot_none]
    refine ⟨fun h1 => ⟨fun h2 => ?_, fun h2 => ?_⟩, fun h1 => ?_⟩
    · rw [if_pos (by rw [h1, h2]; rfl)]
    · rw [if_neg (by rw [h1, h2]; exact Bool.false_ne_true)]
    · rw [if_neg (by rw [h1]; exact Bool.false_ne_true)]
  have hL : ∀ a ∈ M.filter (fun a => !decide (a = p) && !(partner μ a).isNone), a ∈ M ∧ a ≠ p ∧ partner μ a ≠ none := fun a h => by
    obtain ⟨h1, h2⟩ := List.mem_filter.mp h
    rw [Bool.and_eq_true] at h2
    exact ⟨h1, by simpa using h2.1, fun e => by rw [e] at h2; cases h2.2⟩
  generalize M.filter (fun a => !decide (a = p) && !(partner μ a).isNone) = L at hL
  rw [ok_ok]
  unfold law_B2_6 law_E6
  simp only [envE, so_seq, so_if, so_ret, so_retN, so_exp, so_nil, so_nx, so_rt, so_asg, so_asgG, so_par2, so_par3, ok_gNm, ok_gMore, ok_gNone, so_asgT, so_sub, so_for, ok_TB, ok_Tru, ok_notT, ok_andT, ok_orT, ok_andV, ok_orV, ok_notV, ok_iteE, ok_frz, ok_new, ok_mfArg, ok_mfBin, ok_lc, ok_M, ok_M0, ok_moNone, ok_moSome, ok_Sl,
  ok_bin, ok_un, ok_arg, ok_cons, ok_nil, ok_call, ok_var, ok_C, ok_ok, ok_stuck, ok_noX, bOf_bool, low_v, iOf_int, addD_int, subD_int, negD_int, ltD_int, leD_int, gtD_int, geD_int, fInt_int, isD_bool, isNotD_bool, tru_bool, List.map_cons, List.map_nil, List.length_cons, List.length_nil, List.replicate_succ, List.replicate_zero, List.cons_append, List.nil_append,
  List.append_nil, List.getElem?_cons_zero, List.getElem?_cons_succ, List.set_cons_zero, List.set_cons_succ, Option.some.injEq, exists_eq_left', exists_eq_left, true_and, and_true, true_implies, false_implies, implies_true, Bool.false_eq_true, reduceCtorEq, false_and, and_false, D.v.injEq, PyData.int.injEq, D.ref.injEq, p1i_int, p2_two, p3_three, decide_true, Bool.not_true, Bool.not_false, decide_eq_true_eq, decide_eq_false_iff_not, ok_seq, seqW_list, List.map_map]
  rw [lcL_mapA _ (fun _ => none)]
  rotate_left
  · intro a ha
    obtain ⟨h1, h2, h3⟩ := hL a ha
    have hv : partner ν a ≠ none := fun e => by
      have := B.br.mine (m := a) (by rw [(hM a h1).2, hs]) h2
      rw [e] at this
      cases e2 : partner μ a with
      | none => exact h3 e2
      | some v =>
        rw [e2] at this
        have hr := (want_row (partner_want B.one.prg e2)).1
        rw [place_row hr] at this
        have q : (row rows a).length ≤ (row rows a).idxOf v := this
        have := List.idxOf_lt_length_of_mem hr
        omega
    unfold law_G6 law_T6 law_M6
    show (gNm 11 (.one (.v (nI a))) _ _).Ok _
    simp only [envE, so_seq, so_if, so_ret, so_retN, so_exp, so_nil, so_nx, so_rt, so_asg, so_asgG, so_par2, so_par3, ok_gNm, ok_gMore, ok_gNone, so_asgT, so_sub, so_for, ok_TB, ok_Tru, ok_notT, ok_andT, ok_orT, ok_andV, ok_orV, ok_notV, ok_iteE, ok_frz, ok_new, ok_mfArg, ok_mfBin, ok_lc, ok_M, ok_M0, ok_moNone, ok_moSome, ok_Sl,
  ok_bin, ok_un, ok_arg, ok_cons, ok_nil, ok_call, ok_var, ok_C, ok_ok, ok_stuck, ok_noX, bOf_bool, low_v, iOf_int, addD_int, subD_int, negD_int, ltD_int, leD_int, gtD_int, geD_int, fInt_int, isD_bool, isNotD_bool, tru_bool, List.map_cons, List.map_nil, List.length_cons, List.length_nil, List.replicate_succ, List.replicate_zero, List.cons_append, List.nil_append,
  List.append_nil, List.getElem?_cons_zero, List.getElem?_cons_succ, List.set_cons_zero, List.set_cons_succ, Option.some.injEq, exists_eq_left', exists_eq_left, true_and, and_true, true_implies, false_implies, implies_true, Bool.false_eq_true, reduceCtorEq, false_and, and_false, D.v.injEq, PyData.int.injEq, D.ref.injEq, p1i_int, p2_two, p3_three, decide_true, Bool.not_true, Bool.not_false, decide_eq_true_eq, decide_eq_false_iff_not, wipeE, lpartner_eq, Hl.is_none]
    intro z
    exact absurd (Option.isNone_iff_eq_none.mp z) hv
  rw [hnil]
  simp only [envE, so_seq, so_if, so_ret, so_retN, so_exp, so_nil, so_nx, so_rt, so_asg, so_asgG, so_par2, so_par3, ok_gNm, ok_gMore, ok_gNone, so_asgT, so_sub, so_for, ok_TB, ok_Tru, ok_notT, ok_andT, ok_orT, ok_andV, ok_orV, ok_notV, ok_iteE, ok_frz, ok_new, ok_mfArg, ok_mfBin, ok_lc, ok_M, ok_M0, ok_moNone, ok_moSome, ok_Sl,
  ok_bin, ok_un, ok_arg, ok_cons, ok_nil, ok_call, ok_var, ok_C, ok_ok, ok_stuck, ok_noX, bOf_bool, low_v, iOf_int, addD_int, subD_int, negD_int, ltD_int, leD_int, gtD_int, geD_int, fInt_int, isD_bool, isNotD_bool, tru_bool, List.map_cons, List.map_nil, List.length_cons, List.length_nil, List.replicate_succ, List.replicate_zero, List.cons_append, List.nil_append,
  List.append_nil, List.getElem?_cons_zero, List.getElem?_cons_succ, List.set_cons_zero, List.set_cons_succ, Option.some.injEq, exists_eq_left', exists_eq_left, true_and, and_true, true_implies, false_implies, implies_true, Bool.false_eq_true, reduceCtorEq, false_and, and_false, D.v.injEq, PyData.int.injEq, D.ref.injEq, p1i_int, p2_two, p3_three, decide_true, Bool.not_true, Bool.not_false, decide_eq_true_eq, decide_eq_false_iff_not, disp0, hn0]
  exact ⟨_, _, _, _, _, _, rfl⟩
theorem rest_ok (T1 : Two rows sd M) (hn : rows.length ≤ 10) (hp : p < rows.length) (hs : sd p = true) {s : Src} (ok : s.ok) (a0 a2 a4 a7 a11 a12 a13 a14 a15 a16 a17 a18 a19 : Option D) :
    (law_B1_7 [a0, some (.ref 1), a2, some (.v (hallD rows)), a4, some (.v (nI rows.length)), some (.v (nI p)), a7, some (.v (.str (hallD rows).shown)), some (.v (hallD (anew rows p ((row rows p).take k)))), some (.v (tNs M)), a11, a12, a13, a14, a15, a16, a17, a18, a19] (s.sto [])).Ok (fun e t => ∃ s' : Src, e.length = 20 ∧ e[1]? = some (some (.ref 1)) ∧ t = s'.sto [] ∧ s'.ok) (fun _ _ => False) := by
  have H := T1.hall
  have hn50 : rows.length ≤ 50 := by omega
  have hrh := rep_hall H (show rows.length ≤ 10 by omega)
  have T2 : Two rows (fun a => !sd a) ((List.range rows.length).filter fun a => !decide (a ∈ M)) := ⟨H, fun {a b} hb => by
    show (!sd b) = !(!sd a)
    rw [T1.two hb], List.nodup_range.filter _, fun {a} => by
      rw [List.mem_filter, List.mem_range]
      constructor
      · rintro ⟨h1, h2⟩
        refine ⟨h1, ?_⟩
        cases q : sd a with
        | false => rfl
        | true => rw [decide_eq_true (T1.mem.mpr ⟨h1, q⟩)] at h2; cases h2
      · rintro ⟨h1, h2⟩
        refine ⟨h1, ?_⟩
        have : ¬ a ∈ M := fun z => by rw [(T1.mem.mp z).2] at h2; cases h2
        rw [decide_eq_false this]
        rfl⟩
  unfold law_B1_7 law_E2
  simp only [envE, so_seq, so_if, so_ret, so_retN, so_exp, so_nil, so_nx, so_rt, so_asg, so_asgG, so_par2, so_par3, ok_gNm, ok_gMore, ok_gNone, so_asgT, so_sub, so_for, ok_TB, ok_Tru, ok_notT, ok_andT, ok_orT, ok_andV, ok_orV, ok_notV, ok_iteE, ok_frz, ok_new, ok_mfArg, ok_mfBin, ok_lc, ok_M, ok_M0, ok_moNone, ok_moSome, ok_Sl,
  ok_bin, ok_un, ok_arg, ok_cons, ok_nil, ok_call, ok_var, ok_C, ok_ok, ok_stuck, ok_noX, bOf_bool, low_v, iOf_int, addD_int, subD_int, negD_int, ltD_int, leD_int, gtD_int, geD_int, fInt_int, isD_bool, isNotD_bool, tru_bool, List.map_cons, List.map_nil, List.length_cons, List.length_nil, List.replicate_succ, List.replicate_zero, List.cons_append, List.nil_append,
  List.append_nil, List.getElem?_cons_zero, List.getElem?_cons_succ, List.set_cons_zero, List.set_cons_succ, Option.some.injEq, exists_eq_left', exists_eq_left, true_and, and_true, true_implies, false_implies, implies_true, Bool.false_eq_true, reduceCtorEq, false_and, and_false, D.v.injEq, PyData.int.injEq, D.ref.injEq, p1i_int, p2_two, p3_three, decide_true, Bool.not_true, Bool.not_false, decide_eq_true_eq, decide_eq_false_iff_not, ok_R1]
  refine ⟨⟨by omega, by omega⟩, ?_⟩
  rw [Int.toNat_natCast, rngI_nat, lcL_mapA _ (fun a : Nat => if (!decide (a ∈ M)) = true then some (nI a) else none), fm_filter]
  rotate_left
  · intro a _
    unfold law_G2 law_T2 law_M2
    simp only [envE, so_seq, so_if, so_ret, so_retN, so_exp, so_nil, so_nx, so_rt, so_asg, so_asgG, so_par2, so_par3, ok_gNm, ok_gMore, ok_gNone, so_asgT, so_sub, so_for, ok_TB, ok_Tru, ok_notT, ok_andT, ok_orT, ok_andV, ok_orV, ok_notV, ok_iteE, ok_frz, ok_new, ok_mfArg, ok_mfBin, ok_lc, ok_M, ok_M0, ok_moNone, ok_moSome, ok_Sl,
  ok_bin, ok_un, ok_arg, ok_cons, ok_nil, ok_call, ok_var, ok_C, ok_ok, ok_stuck, ok_noX, bOf_bool, low_v, iOf_int, addD_int, subD_int, negD_int, ltD_int, leD_int, gtD_int, geD_int, fInt_int, isD_bool, isNotD_bool, tru_bool, List.map_cons, List.map_nil, List.length_cons, List.length_nil, List.replicate_succ, List.replicate_zero, List.cons_append, List.nil_append,
  List.append_nil, List.getElem?_cons_zero, List.getElem?_cons_succ, List.set_cons_zero, List.set_cons_succ, Option.some.injEq, exists_eq_left', exists_eq_left, true_and, and_true, true_implies, false_implies, implies_true, Bool.false_eq_true, reduceCtorEq, false_and, and_false, D.v.injEq, PyData.int.injEq, D.ref.injEq, p1i_int, p2_two, p3_three, decide_true, Bool.not_true, Bool.not_false, decide_eq_true_eq, decide_eq_false_iff_not, wipeE, notIn_tup]
    refine ⟨fun h => by rw [if_pos h], fun h => by rw [if_neg (by rw [h]; exact Bool.false_ne_true)]⟩
  rw [ok_ok, tup_list, ok_ok]
  generalize (List.range rows.length).filter (fun a => !decide (a ∈ M)) = O at T2
  obtain ⟨μ1, ν1, B1⟩ := both_mine (k := k) T1 hn50 hp hs
  obtain ⟨μ2, ν2, B2⟩ := both_theirs (k := k) T1.two T2 hn50 hp hs
  have hM : ∀ a ∈ M, a < rows.length ∧ sd a = true := fun a h => T1.mem.mp h
  have hO : ∀ b ∈ O, b < rows.length ∧ sd b = false := fun b h => by
    have := T2.mem.mp h
    refine ⟨this.1, ?_⟩
    have h2 := this.2
    cases q : sd b with
    | false => rfl
    | true => rw [q] at h2; cases h2
  unfold law_B1_8
  refine so_cut (fun e t => t = s.sto [] ∧ ∃ b11 b13 b14 b15 b16 b17 b18, e = [a0, some (.ref 1), a2, some (.v (hallD rows)), a4, some (.v (nI rows.length)), some (.v (nI p)), a7, some (.v (.str (hallD rows).shown)), some (.v (hallD (anew rows p ((row rows p).take k)))), some (.v (tNs M)), b11, some (.v (tNs O)), b13, b14, b15, b16, b17, b18, a19]) ?_ ?_
  · unfold law_E7
    simp only [envE, so_seq, so_if, so_ret, so_retN, so_exp, so_nil, so_nx, so_rt, so_asg, so_asgG, so_par2, so_par3, ok_gNm, ok_gMore, ok_gNone, so_asgT, so_sub, so_for, ok_TB, ok_Tru, ok_notT, ok_andT, ok_orT, ok_andV, ok_orV, ok_notV, ok_iteE, ok_frz, ok_new, ok_mfArg, ok_mfBin, ok_lc, ok_M, ok_M0, ok_moNone, ok_moSome, ok_Sl,
  ok_bin, ok_un, ok_arg, ok_cons, ok_nil, ok_call, ok_var, ok_C, ok_ok, ok_stuck, ok_noX, bOf_bool, low_v, iOf_int, addD_int, subD_int, negD_int, ltD_int, leD_int, gtD_int, geD_int, fInt_int, isD_bool, isNotD_bool, tru_bool, List.map_cons, List.map_nil, List.length_cons, List.length_nil, List.replicate_succ, List.replicate_zero, List.cons_append, List.nil_append,
  List.append_nil, List.getElem?_cons_zero, List.getElem?_cons_succ, List.set_cons_zero, List.set_cons_succ, Option.some.injEq, exists_eq_left', exists_eq_left, true_and, and_true, true_implies, false_implies, implies_true, Bool.false_eq_true, reduceCtorEq, false_and, and_false, D.v.injEq, PyData.int.injEq, D.ref.injEq, p1i_int, p2_two, p3_three, decide_true, Bool.not_true, Bool.not_false, decide_eq_true_eq, decide_eq_false_iff_not, tup2, ok_seq, seqW_tup]
    refine forL_inv (fun _ e t => t = s.sto [] ∧ ∃ b11 b13 b14 b15 b16 b17 b18, e = [a0, some (.ref 1), a2, some (.v (hallD rows)), a4, some (.v (nI rows.length)), some (.v (nI p)), a7, some (.v (.str (hallD rows).shown)), some (.v (hallD (anew rows p ((row rows p).take k)))), some (.v (tNs M)), b11, some (.v (tNs O)), b13, b14, b15, b16, b17, b18, a19]) _ _ _ 0 ?_ ?_ ⟨rfl, _, _, _, _, _, _, _, rfl⟩
    · rintro j d e t hd ⟨rfl, b11, b13, b14, b15, b16, b17, b18, rfl⟩
      have hd2 : d = .one (.v (tNs M)) ∨ d = .one (.v (tNs O)) := by
        match j, hd with
        | 0, hd => exact .inl (Option.some.inj hd).symm
        | 1, hd => exact .inr (Option.some.inj hd).symm
      refine ⟨trivial, ?_⟩
      unfold law_G7
      rcases hd2 with rfl | rfl
      · simp only [envE, so_seq, so_if, so_ret, so_retN, so_exp, so_nil, so_nx, so_rt, so_asg, so_asgG, so_par2, so_par3, ok_gNm, ok_gMore, ok_gNone, so_asgT, so_sub, so_for, ok_TB, ok_Tru, ok_notT, ok_andT, ok_orT, ok_andV, ok_orV, ok_notV, ok_iteE, ok_frz, ok_new, ok_mfArg, ok_mfBin, ok_lc, ok_M, ok_M0, ok_moNone, ok_moSome, ok_Sl,
  ok_bin, ok_un, ok_arg, ok_cons, ok_nil, ok_call, ok_var, ok_C, ok_ok, ok_stuck, ok_noX, bOf_bool, low_v, iOf_int, addD_int, subD_int, negD_int, ltD_int, leD_int, gtD_int, geD_int, fInt_int, isD_bool, isNotD_bool, tru_bool, List.map_cons, List.map_nil, List.length_cons, List.length_nil, List.replicate_succ, List.replicate_zero, List.cons_append, List.nil_append,
  List.append_nil, List.getElem?_cons_zero, List.getElem?_cons_succ, List.set_cons_zero, List.set_cons_succ, Option.some.injEq, exists_eq_left', exists_eq_left, true_and, and_true, true_implies, false_implies, implies_true, Bool.false_eq_true, reduceCtorEq, false_and, and_false, D.v.injEq, PyData.int.injEq, D.ref.injEq, p1i_int, p2_two, p3_three, decide_true, Bool.not_true, Bool.not_false, decide_eq_true_eq, decide_eq_false_iff_not]
        refine (side_ok B1 H hn hp hs hM hO _ _ _ _ _ _ _ _ _ _ _ _ _).mono ?_ fun _ _ z => z.elim
        rintro e t ⟨rfl, c11, c14, c15, c16, c17, c18, rfl⟩
        exact ⟨rfl, _, _, _, _, _, _, _, rfl⟩
      · simp only [envE, so_seq, so_if, so_ret, so_retN, so_exp, so_nil, so_nx, so_rt, so_asg, so_asgG, so_par2, so_par3, ok_gNm, ok_gMore, ok_gNone, so_asgT, so_sub, so_for, ok_TB, ok_Tru, ok_notT, ok_andT, ok_orT, ok_andV, ok_orV, ok_notV, ok_iteE, ok_frz, ok_new, ok_mfArg, ok_mfBin, ok_lc, ok_M, ok_M0, ok_moNone, ok_moSome, ok_Sl,
  ok_bin, ok_un, ok_arg, ok_cons, ok_nil, ok_call, ok_var, ok_C, ok_ok, ok_stuck, ok_noX, bOf_bool, low_v, iOf_int, addD_int, subD_int, negD_int, ltD_int, leD_int, gtD_int, geD_int, fInt_int, isD_bool, isNotD_bool, tru_bool, List.map_cons, List.map_nil, List.length_cons, List.length_nil, List.replicate_succ, List.replicate_zero, List.cons_append, List.nil_append,
  List.append_nil, List.getElem?_cons_zero, List.getElem?_cons_succ, List.set_cons_zero, List.set_cons_succ, Option.some.injEq, exists_eq_left', exists_eq_left, true_and, and_true, true_implies, false_implies, implies_true, Bool.false_eq_true, reduceCtorEq, false_and, and_false, D.v.injEq, PyData.int.injEq, D.ref.injEq, p1i_int, p2_two, p3_three, decide_true, Bool.not_true, Bool.not_false, decide_eq_true_eq, decide_eq_false_iff_not]
        refine (side_ok B2 H hn hp hs hM hO _ _ _ _ _ _ _ _ _ _ _ _ _).mono ?_ fun _ _ z => z.elim
        rintro e t ⟨rfl, c11, c14, c15, c16, c17, c18, rfl⟩
        exact ⟨rfl, _, _, _, _, _, _, _, rfl⟩
    · rintro e t h
      exact ⟨trivial, h⟩
  · rintro e t ⟨rfl, b11, b13, b14, b15, b16, b17, b18, rfl⟩
    unfold law_B1_9 law_E8
    simp only [envE, so_seq, so_if, so_ret, so_retN, so_exp, so_nil, so_nx, so_rt, so_asg, so_asgG, so_par2, so_par3, ok_gNm, ok_gMore, ok_gNone, so_asgT, so_sub, so_for, ok_TB, ok_Tru, ok_notT, ok_andT, ok_orT, ok_andV, ok_orV, ok_notV, ok_iteE, ok_frz, ok_new, ok_mfArg, ok_mfBin, ok_lc, ok_M, ok_M0, ok_moNone, ok_moSome, ok_Sl,
  ok_bin, ok_un, ok_arg, ok_cons, ok_nil, ok_call, ok_var, ok_C, ok_ok, ok_stuck, ok_noX, bOf_bool, low_v, iOf_int, addD_int, subD_int, negD_int, ltD_int, leD_int, gtD_int, geD_int, fInt_int, isD_bool, isNotD_bool, tru_bool, List.map_cons, List.map_nil, List.length_cons, List.length_nil, List.replicate_succ, List.replicate_zero, List.cons_append, List.nil_append,
  List.append_nil, List.getElem?_cons_zero, List.getElem?_cons_succ, List.set_cons_zero, List.set_cons_succ, Option.some.injEq, exists_eq_left', exists_eq_left, true_and, and_true, true_implies, false_implies, implies_true, Bool.false_eq_true, reduceCtorEq, false_and, and_false, D.v.injEq, PyData.int.injEq, D.ref.injEq, p1i_int, p2_two, p3_three, decide_true, Bool.not_true, Bool.not_false, decide_eq_true_eq, decide_eq_false_iff_not, ok_R1]
    refine ⟨⟨by omega, by omega⟩, ?_⟩
    rw [Int.toNat_natCast, rngI_nat, lcL_mapA _ (fun a : Nat => if (!decide (a = p)) = true then some (nI a) else none), fm_filter]
    rotate_left
    · intro a _
      unfold law_G8 law_T7 law_M7
      simp only [envE, so_seq, so_if, so_ret, so_retN, so_exp, so_nil, so_nx, so_rt, so_asg, so_asgG, so_par2, so_par3, ok_gNm, ok_gMore, ok_gNone, so_asgT, so_sub, so_for, ok_TB, ok_Tru, ok_notT, ok_andT, ok_orT, ok_andV, ok_orV, ok_notV, ok_iteE, ok_frz, ok_new, ok_mfArg, ok_mfBin, ok_lc, ok_M, ok_M0, ok_moNone, ok_moSome, ok_Sl,
  ok_bin, ok_un, ok_arg, ok_cons, ok_nil, ok_call, ok_var, ok_C, ok_ok, ok_stuck, ok_noX, bOf_bool, low_v, iOf_int, addD_int, subD_int, negD_int, ltD_int, leD_int, gtD_int, geD_int, fInt_int, isD_bool, isNotD_bool, tru_bool, List.map_cons, List.map_nil, List.length_cons, List.length_nil, List.replicate_succ, List.replicate_zero, List.cons_append, List.nil_append,
  List.append_nil, List.getElem?_cons_zero, List.getElem?_cons_succ, List.set_cons_zero, List.set_cons_succ, Option.some.injEq, exists_eq_left', exists_eq_left, true_and, and_true, true_implies, false_implies, implies_true, Bool.false_eq_true, reduceCtorEq, false_and, and_false, D.v.injEq, PyData.int.injEq, D.ref.injEq, p1i_int, p2_two, p3_three, decide_true, Bool.not_true, Bool.not_false, decide_eq_true_eq, decide_eq_false_iff_not, wipeE, ne_nat]
      refine ⟨fun h => by rw [if_pos h], fun h => by rw [if_neg (by rw [h]; exact Bool.false_ne_true)]⟩
    rw [ok_ok]
    have hL : ∀ b ∈ (List.range rows.length).filter (fun a => !decide (a = p)), b < rows.length ∧ b ≠ p := fun b hb => by
      obtain ⟨h1, h2⟩ := List.mem_filter.mp hb
      exact ⟨List.mem_range.mp h1, by simpa using h2⟩
    have ndL : ((List.range rows.length).filter (fun a => !decide (a = p))).Nodup := List.nodup_range.filter _
    have lenL : ((List.range rows.length).filter (fun a => !decide (a = p))).length ≤ rows.length := Nat.le_trans (List.length_filter_le _ _) (by rw [List.length_range]; exact Nat.le_refl _)
    generalize (List.range rows.length).filter (fun a => !decide (a = p)) = L at hL ndL lenL
    have hsh := shufA s [] (.v (lNs L)) (L.map nI) ok viewS_list (by rw [List.length_map]; omega)
    refine hsh.mono ?_
    rintro _ _ ⟨zs, s1, rfl, rfl, ok1, hpm⟩
    obtain ⟨E, rfl, hE⟩ := perm_unmap hpm rfl
    clear hpm
    have hpk := pickA_ok s1 [] rows.length (by omega) ok1
    refine hpk.mono ?_
    rintro _ _ ⟨r, s2, rfl, rfl, ok2, hr0, _, _⟩
    obtain ⟨j, rfl⟩ : ∃ j : Nat, r = (j : Int) := ⟨r.toNat, by omega⟩
    simp only [envE, so_seq, so_if, so_ret, so_retN, so_exp, so_nil, so_nx, so_rt, so_asg, so_asgG, so_par2, so_par3, ok_gNm, ok_gMore, ok_gNone, so_asgT, so_sub, so_for, ok_TB, ok_Tru, ok_notT, ok_andT, ok_orT, ok_andV, ok_orV, ok_notV, ok_iteE, ok_frz, ok_new, ok_mfArg, ok_mfBin, ok_lc, ok_M, ok_M0, ok_moNone, ok_moSome, ok_Sl,
  ok_bin, ok_un, ok_arg, ok_cons, ok_nil, ok_call, ok_var, ok_C, ok_ok, ok_stuck, ok_noX, bOf_bool, low_v, iOf_int, addD_int, subD_int, negD_int, ltD_int, leD_int, gtD_int, geD_int, fInt_int, isD_bool, isNotD_bool, tru_bool, List.map_cons, List.map_nil, List.length_cons, List.length_nil, List.replicate_succ, List.replicate_zero, List.cons_append, List.nil_append,
  List.append_nil, List.getElem?_cons_zero, List.getElem?_cons_succ, List.set_cons_zero, List.set_cons_succ, Option.some.injEq, exists_eq_left', exists_eq_left, true_and, and_true, true_implies, false_implies, implies_true, Bool.false_eq_true, reduceCtorEq, false_and, and_false, D.v.injEq, PyData.int.injEq, D.ref.injEq, p1i_int, p2_two, p3_three, decide_true, Bool.not_true, Bool.not_false, decide_eq_true_eq, decide_eq_false_iff_not, slice_list, cutp_take, ← List.map_take]
    have hr : ∀ b ∈ E.take j, b < rows.length ∧ b ≠ p := fun b h => hL b (hE.mem_iff.mp (List.mem_of_mem_take h))
    have ndr : (E.take j).Nodup := ((hE.nodup_iff).mpr ndL).sublist (List.take_sublist _ _)
    generalize E.take j = r at hr ndr
    have Hr := anew_hall H hp ndr hr
    have hrr := rep_hall Hr (by rw [anew_len hp]; omega)
    have hce : ∀ t, f_changed [.v (hallD rows), .v (nI p), .v (tNs r)] t = .ok (.v (hallD (anew rows p r))) t := fun t => changed_eq hn50 hp fun _ => rfl
    unfold law_B1_10
    simp only [envE, so_seq, so_if, so_ret, so_retN, so_exp, so_nil, so_nx, so_rt, so_asg, so_asgG, so_par2, so_par3, ok_gNm, ok_gMore, ok_gNone, so_asgT, so_sub, so_for, ok_TB, ok_Tru, ok_notT, ok_andT, ok_orT, ok_andV, ok_orV, ok_notV, ok_iteE, ok_frz, ok_new, ok_mfArg, ok_mfBin, ok_lc, ok_M, ok_M0, ok_moNone, ok_moSome, ok_Sl,
  ok_bin, ok_un, ok_arg, ok_cons, ok_nil, ok_call, ok_var, ok_C, ok_ok, ok_stuck, ok_noX, bOf_bool, low_v, iOf_int, addD_int, subD_int, negD_int, ltD_int, leD_int, gtD_int, geD_int, fInt_int, isD_bool, isNotD_bool, tru_bool, List.map_cons, List.map_nil, List.length_cons, List.length_nil, List.replicate_succ, List.replicate_zero, List.cons_append, List.nil_append,
  List.append_nil, List.getElem?_cons_zero, List.getElem?_cons_succ, List.set_cons_zero, List.set_cons_succ, Option.some.injEq, exists_eq_left', exists_eq_left, true_and, and_true, true_implies, false_implies, implies_true, Bool.false_eq_true, reduceCtorEq, false_and, and_false, D.v.injEq, PyData.int.injEq, D.ref.injEq, p1i_int, p2_two, p3_three, decide_true, Bool.not_true, Bool.not_false, decide_eq_true_eq, decide_eq_false_iff_not, hce, repr_of hrr, hall1, slice_tup, cutp_take, cutp_drop, tup1, tup2]
    rw [show ∀ s, fTuple [.v (.list (r.map nI))] s = .ok (.v (tNs r)) s from fun _ => rfl, ok_ok, hce, ok_ok, repr_of hrr, ok_ok, tup1, ok_ok, anew_add hn50 hp, ok_ok, anew_add2 hn50 hp, ok_ok, tup2, ok_ok, ← anew_D hp, repr_of hrr, ok_ok]
    simp only [envE, so_seq, so_if, so_ret, so_retN, so_exp, so_nil, so_nx, so_rt, so_asg, so_asgG, so_par2, so_par3, ok_gNm, ok_gMore, ok_gNone, so_asgT, so_sub, so_for, ok_TB, ok_Tru, ok_notT, ok_andT, ok_orT, ok_andV, ok_orV, ok_notV, ok_iteE, ok_frz, ok_new, ok_mfArg, ok_mfBin, ok_lc, ok_M, ok_M0, ok_moNone, ok_moSome, ok_Sl,
  ok_bin, ok_un, ok_arg, ok_cons, ok_nil, ok_call, ok_var, ok_C, ok_ok, ok_stuck, ok_noX, bOf_bool, low_v, iOf_int, addD_int, subD_int, negD_int, ltD_int, leD_int, gtD_int, geD_int, fInt_int, isD_bool, isNotD_bool, tru_bool, List.map_cons, List.map_nil, List.length_cons, List.length_nil, List.replicate_succ, List.replicate_zero, List.cons_append, List.nil_append,
  List.append_nil, List.getElem?_cons_zero, List.getElem?_cons_succ, List.set_cons_zero, List.set_cons_succ, Option.some.injEq, exists_eq_left', exists_eq_left, true_and, and_true, true_implies, false_implies, implies_true, Bool.false_eq_true, reduceCtorEq, false_and, and_false, D.v.injEq, PyData.int.injEq, D.ref.injEq, p1i_int, p2_two, p3_three, decide_true, Bool.not_true, Bool.not_false, decide_eq_true_eq, decide_eq_false_iff_not, neD_str, repr_of hrh]
    exact ⟨s2, rfl, ok2⟩
theorem law_ok (ns : List Int) (hns : ns.length ≤ 63) : ∃ st, f_law [.scr ns] [] = .ok (.v (.bool true)) st := by
  have key : (f_law [.scr ns] []).Ok fun d st => d = .v (.bool true) := by
    refine fnT_ok ?_
    unfold S_law
    simp only [envE, so_seq, so_if, so_ret, so_retN, so_exp, so_nil, so_nx, so_rt, so_asg, so_asgG, so_par2, so_par3, ok_gNm, ok_gMore, ok_gNone, so_asgT, so_sub, so_for, ok_TB, ok_Tru, ok_notT, ok_andT, ok_orT, ok_andV, ok_orV, ok_notV, ok_iteE, ok_frz, ok_new, ok_mfArg, ok_mfBin, ok_lc, ok_M, ok_M0, ok_moNone, ok_moSome, ok_Sl,
  ok_bin, ok_un, ok_arg, ok_cons, ok_nil, ok_call, ok_var, ok_C, ok_ok, ok_stuck, ok_noX, bOf_bool, low_v, iOf_int, addD_int, subD_int, negD_int, ltD_int, leD_int, gtD_int, geD_int, fInt_int, isD_bool, isNotD_bool, tru_bool, List.map_cons, List.map_nil, List.length_cons, List.length_nil, List.replicate_succ, List.replicate_zero, List.cons_append, List.nil_append,
  List.append_nil, List.getElem?_cons_zero, List.getElem?_cons_succ, List.set_cons_zero, List.set_cons_succ, Option.some.injEq, exists_eq_left', exists_eq_left, true_and, and_true, true_implies, false_implies, implies_true, Bool.false_eq_true, reduceCtorEq, false_and, and_false, D.v.injEq, PyData.int.injEq, D.ref.injEq, p1i_int, p2_two, p3_three, decide_true, Bool.not_true, Bool.not_false, decide_eq_true_eq, decide_eq_false_iff_not]
    refine (opensA ns (by omega)).mono ?_
    rintro _ _ ⟨s, rfl, rfl, ok⟩
    unfold S_law_2 law_E9
    simp only [envE, so_seq, so_if, so_ret, so_retN, so_exp, so_nil, so_nx, so_rt, so_asg, so_asgG, so_par2, so_par3, ok_gNm, ok_gMore, ok_gNone, so_asgT, so_sub, so_for, ok_TB, ok_Tru, ok_notT, ok_andT, ok_orT, ok_andV, ok_orV, ok_notV, ok_iteE, ok_frz, ok_new, ok_mfArg, ok_mfBin, ok_lc, ok_M, ok_M0, ok_moNone, ok_moSome, ok_Sl,
  ok_bin, ok_un, ok_arg, ok_cons, ok_nil, ok_call, ok_var, ok_C, ok_ok, ok_stuck, ok_noX, bOf_bool, low_v, iOf_int, addD_int, subD_int, negD_int, ltD_int, leD_int, gtD_int, geD_int, fInt_int, isD_bool, isNotD_bool, tru_bool, List.map_cons, List.map_nil, List.length_cons, List.length_nil, List.replicate_succ, List.replicate_zero, List.cons_append, List.nil_append,
  List.append_nil, List.getElem?_cons_zero, List.getElem?_cons_succ, List.set_cons_zero, List.set_cons_succ, Option.some.injEq, exists_eq_left', exists_eq_left, true_and, and_true, true_implies, false_implies, implies_true, Bool.false_eq_true, reduceCtorEq, false_and, and_false, D.v.injEq, PyData.int.injEq, D.ref.injEq, p1i_int, p2_two, p3_three, decide_true, Bool.not_true, Bool.not_false, decide_eq_true_eq, decide_eq_false_iff_not, ok_R1]
    refine ⟨by decide, ?_⟩
    refine forL_inv (fun i e st => ∃ (s : Src), e.length = 20 ∧ e[1]? = some (some (.ref 1)) ∧ st = s.sto [] ∧ s.ok) _ _ _ 0 ?_ ?_ ⟨s, rfl, rfl, rfl, ok⟩
    · rintro i d e st hd ⟨s, hl, he, rfl, ok⟩
      obtain ⟨a0, a1, a2, a3, a4, a5, a6, a7, a8, a9, a10, a11, a12, a13, a14, a15, a16, a17, a18, a19, rfl⟩ := env20 hl
      simp only [envE, so_seq, so_if, so_ret, so_retN, so_exp, so_nil, so_nx, so_rt, so_asg, so_asgG, so_par2, so_par3, ok_gNm, ok_gMore, ok_gNone, so_asgT, so_sub, so_for, ok_TB, ok_Tru, ok_notT, ok_andT, ok_orT, ok_andV, ok_orV, ok_notV, ok_iteE, ok_frz, ok_new, ok_mfArg, ok_mfBin, ok_lc, ok_M, ok_M0, ok_moNone, ok_moSome, ok_Sl,
  ok_bin, ok_un, ok_arg, ok_cons, ok_nil, ok_call, ok_var, ok_C, ok_ok, ok_stuck, ok_noX, bOf_bool, low_v, iOf_int, addD_int, subD_int, negD_int, ltD_int, leD_int, gtD_int, geD_int, fInt_int, isD_bool, isNotD_bool, tru_bool, List.map_cons, List.map_nil, List.length_cons, List.length_nil, List.replicate_succ, List.replicate_zero, List.cons_append, List.nil_append,
  List.append_nil, List.getElem?_cons_zero, List.getElem?_cons_succ, List.set_cons_zero, List.set_cons_succ, Option.some.injEq, exists_eq_left', exists_eq_left, true_and, and_true, true_implies, false_implies, implies_true, Bool.false_eq_true, reduceCtorEq, false_and, and_false, D.v.injEq, PyData.int.injEq, D.ref.injEq, p1i_int, p2_two, p3_three, decide_true, Bool.not_true, Bool.not_false, decide_eq_true_eq, decide_eq_false_iff_not] at he
      subst he
      obtain ⟨hi, rfl⟩ := rngI_get hd
      refine ⟨trivial, ?_⟩
      rw [Int.zero_add]
      have hmost : ∃ m : Nat, 1 ≤ m ∧ m ≤ 10 ∧ ∀ st, subsD (.v (.list [.int 6, .int 8, .int 10, .int 7])) (.v (.int (i : Int))) st = .ok (.v (nI m)) st := by
        have hi : i < 4 := hi
        match i, hi with
        | 0, _ => exact ⟨6, by decide, by decide, fun st => sub_list (k := 0) rfl⟩
        | 1, _ => exact ⟨8, by decide, by decide, fun st => sub_list (k := 1) rfl⟩
        | 2, _ => exact ⟨10, by decide, by decide, fun st => sub_list (k := 2) rfl⟩
        | 3, _ => exact ⟨7, by decide, by decide, fun st => sub_list (k := 3) rfl⟩
      obtain ⟨most, hm1, hm2, hmost⟩ := hmost
      unfold law_G9 law_B1
      simp only [envE, so_seq, so_if, so_ret, so_retN, so_exp, so_nil, so_nx, so_rt, so_asg, so_asgG, so_par2, so_par3, ok_gNm, ok_gMore, ok_gNone, so_asgT, so_sub, so_for, ok_TB, ok_Tru, ok_notT, ok_andT, ok_orT, ok_andV, ok_orV, ok_notV, ok_iteE, ok_frz, ok_new, ok_mfArg, ok_mfBin, ok_lc, ok_M, ok_M0, ok_moNone, ok_moSome, ok_Sl,
  ok_bin, ok_un, ok_arg, ok_cons, ok_nil, ok_call, ok_var, ok_C, ok_ok, ok_stuck, ok_noX, bOf_bool, low_v, iOf_int, addD_int, subD_int, negD_int, ltD_int, leD_int, gtD_int, geD_int, fInt_int, isD_bool, isNotD_bool, tru_bool, List.map_cons, List.map_nil, List.length_cons, List.length_nil, List.replicate_succ, List.replicate_zero, List.cons_append, List.nil_append,
  List.append_nil, List.getElem?_cons_zero, List.getElem?_cons_succ, List.set_cons_zero, List.set_cons_succ, Option.some.injEq, exists_eq_left', exists_eq_left, true_and, and_true, true_implies, false_implies, implies_true, Bool.false_eq_true, reduceCtorEq, false_and, and_false, D.v.injEq, PyData.int.injEq, D.ref.injEq, p1i_int, p2_two, p3_three, decide_true, Bool.not_true, Bool.not_false, decide_eq_true_eq, decide_eq_false_iff_not, disp4, hmost]
      have hdh := draw_hall_ok (rest := []) (sided := true) hm1 (show most ≤ 50 by omega) ok
      refine hdh.mono ?_
      rintro _ _ ⟨rows, lot, s1, rfl, rfl, ok1, H, hrl, hlot⟩
      rw [ok_gTpT]
      have hn10 : rows.length ≤ 10 := by omega
      have hn50 : rows.length ≤ 50 := by omega
      have hn1 := H.pos
      have two1 : ∀ {a b}, b ∈ row rows a → decide (b ∈ lot) = !decide (a ∈ lot) := fun {a b} hb => by
        have := hlot.two rfl hb
        by_cases h1 : b ∈ lot <;> by_cases h2 : a ∈ lot <;> simp [h1, h2] at this ⊢
      have T1 : Two rows (fun a => decide (a ∈ lot)) lot := ⟨H, two1, hlot.nd, fun {a} => ⟨fun h => ⟨hlot.lt a h, decide_eq_true h⟩, fun h => of_decide_eq_true h.2⟩⟩
      have T2 : Two rows (fun a => !decide (a ∈ lot)) ((List.range rows.length).filter fun a => !decide (a ∈ lot)) := ⟨H, fun {a b} hb => by
        show (!decide (b ∈ lot)) = !(!decide (a ∈ lot))
        rw [two1 hb], List.nodup_range.filter _, fun {a} => by rw [List.mem_filter, List.mem_range]⟩
      have hrh := rep_hall H (show rows.length ≤ 10 by omega)
      unfold law_B1_2
      simp only [envE, so_seq, so_if, so_ret, so_retN, so_exp, so_nil, so_nx, so_rt, so_asg, so_asgG, so_par2, so_par3, ok_gNm, ok_gMore, ok_gNone, so_asgT, so_sub, so_for, ok_TB, ok_Tru, ok_notT, ok_andT, ok_orT, ok_andV, ok_orV, ok_notV, ok_iteE, ok_frz, ok_new, ok_mfArg, ok_mfBin, ok_lc, ok_M, ok_M0, ok_moNone, ok_moSome, ok_Sl,
  ok_bin, ok_un, ok_arg, ok_cons, ok_nil, ok_call, ok_var, ok_C, ok_ok, ok_stuck, ok_noX, bOf_bool, low_v, iOf_int, addD_int, subD_int, negD_int, ltD_int, leD_int, gtD_int, geD_int, fInt_int, isD_bool, isNotD_bool, tru_bool, List.map_cons, List.map_nil, List.length_cons, List.length_nil, List.replicate_succ, List.replicate_zero, List.cons_append, List.nil_append,
  List.append_nil, List.getElem?_cons_zero, List.getElem?_cons_succ, List.set_cons_zero, List.set_cons_succ, Option.some.injEq, exists_eq_left', exists_eq_left, true_and, and_true, true_implies, false_implies, implies_true, Bool.false_eq_true, reduceCtorEq, false_and, and_false, D.v.injEq, PyData.int.injEq, D.ref.injEq, p1i_int, p2_two, p3_three, decide_true, Bool.not_true, Bool.not_false, decide_eq_true_eq, decide_eq_false_iff_not, hall0]
      have hpk := pickA_ok s1 [] rows.length (by omega) ok1
      refine hpk.mono ?_
      rintro _ _ ⟨r, s2, rfl, rfl, ok2, hr0, hr1, _⟩
      obtain ⟨p, rfl⟩ : ∃ j : Nat, r = (j : Int) := ⟨r.toNat, by omega⟩
      have hp : p < rows.length := by have := hr1 (by omega); omega
      refine ⟨by decide, ?_⟩
      unfold law_B1_3
      simp only [envE, so_seq, so_if, so_ret, so_retN, so_exp, so_nil, so_nx, so_rt, so_asg, so_asgG, so_par2, so_par3, ok_gNm, ok_gMore, ok_gNone, so_asgT, so_sub, so_for, ok_TB, ok_Tru, ok_notT, ok_andT, ok_orT, ok_andV, ok_orV, ok_notV, ok_iteE, ok_frz, ok_new, ok_mfArg, ok_mfBin, ok_lc, ok_M, ok_M0, ok_moNone, ok_moSome, ok_Sl,
  ok_bin, ok_un, ok_arg, ok_cons, ok_nil, ok_call, ok_var, ok_C, ok_ok, ok_stuck, ok_noX, bOf_bool, low_v, iOf_int, addD_int, subD_int, negD_int, ltD_int, leD_int, gtD_int, geD_int, fInt_int, isD_bool, isNotD_bool, tru_bool, List.map_cons, List.map_nil, List.length_cons, List.length_nil, List.replicate_succ, List.replicate_zero, List.cons_append, List.nil_append,
  List.append_nil, List.getElem?_cons_zero, List.getElem?_cons_succ, List.set_cons_zero, List.set_cons_succ, Option.some.injEq, exists_eq_left', exists_eq_left, true_and, and_true, true_implies, false_implies, implies_true, Bool.false_eq_true, reduceCtorEq, false_and, and_false, D.v.injEq, PyData.int.injEq, D.ref.injEq, p1i_int, p2_two, p3_three, decide_true, Bool.not_true, Bool.not_false, decide_eq_true_eq, decide_eq_false_iff_not, hall1, hall_row hp, Fw.len_tup, List.length_map]
      have hrw := row_len (a := p) H
      have hpk2 := pickA_ok s2 [] (((row rows p).length : Int) + 1) (by omega) ok2
      refine hpk2.mono ?_
      rintro _ _ ⟨r, s3, rfl, rfl, ok3, hr2, _, _⟩
      obtain ⟨k, rfl⟩ : ∃ j : Nat, r = (j : Int) := ⟨r.toNat, by omega⟩
      simp only [envE, so_seq, so_if, so_ret, so_retN, so_exp, so_nil, so_nx, so_rt, so_asg, so_asgG, so_par2, so_par3, ok_gNm, ok_gMore, ok_gNone, so_asgT, so_sub, so_for, ok_TB, ok_Tru, ok_notT, ok_andT, ok_orT, ok_andV, ok_orV, ok_notV, ok_iteE, ok_frz, ok_new, ok_mfArg, ok_mfBin, ok_lc, ok_M, ok_M0, ok_moNone, ok_moSome, ok_Sl,
  ok_bin, ok_un, ok_arg, ok_cons, ok_nil, ok_call, ok_var, ok_C, ok_ok, ok_stuck, ok_noX, bOf_bool, low_v, iOf_int, addD_int, subD_int, negD_int, ltD_int, leD_int, gtD_int, geD_int, fInt_int, isD_bool, isNotD_bool, tru_bool, List.map_cons, List.map_nil, List.length_cons, List.length_nil, List.replicate_succ, List.replicate_zero, List.cons_append, List.nil_append,
  List.append_nil, List.getElem?_cons_zero, List.getElem?_cons_succ, List.set_cons_zero, List.set_cons_succ, Option.some.injEq, exists_eq_left', exists_eq_left, true_and, and_true, true_implies, false_implies, implies_true, Bool.false_eq_true, reduceCtorEq, false_and, and_false, D.v.injEq, PyData.int.injEq, D.ref.injEq, p1i_int, p2_two, p3_three, decide_true, Bool.not_true, Bool.not_false, decide_eq_true_eq, decide_eq_false_iff_not, repr_of hrh]
      have Hc := (anew_cut (k := k) hp).hall H
      have hrc := rep_hall Hc (by rw [anew_len hp]; omega)
      unfold law_B1_4
      simp only [envE, so_seq, so_if, so_ret, so_retN, so_exp, so_nil, so_nx, so_rt, so_asg, so_asgG, so_par2, so_par3, ok_gNm, ok_gMore, ok_gNone, so_asgT, so_sub, so_for, ok_TB, ok_Tru, ok_notT, ok_andT, ok_orT, ok_andV, ok_orV, ok_notV, ok_iteE, ok_frz, ok_new, ok_mfArg, ok_mfBin, ok_lc, ok_M, ok_M0, ok_moNone, ok_moSome, ok_Sl,
  ok_bin, ok_un, ok_arg, ok_cons, ok_nil, ok_call, ok_var, ok_C, ok_ok, ok_stuck, ok_noX, bOf_bool, low_v, iOf_int, addD_int, subD_int, negD_int, ltD_int, leD_int, gtD_int, geD_int, fInt_int, isD_bool, isNotD_bool, tru_bool, List.map_cons, List.map_nil, List.length_cons, List.length_nil, List.replicate_succ, List.replicate_zero, List.cons_append, List.nil_append,
  List.append_nil, List.getElem?_cons_zero, List.getElem?_cons_succ, List.set_cons_zero, List.set_cons_succ, Option.some.injEq, exists_eq_left', exists_eq_left, true_and, and_true, true_implies, false_implies, implies_true, Bool.false_eq_true, reduceCtorEq, false_and, and_false, D.v.injEq, PyData.int.injEq, D.ref.injEq, p1i_int, p2_two, p3_three, decide_true, Bool.not_true, Bool.not_false, decide_eq_true_eq, decide_eq_false_iff_not, hall1, hall_row hp, slice_tup, cutp_take, cutp_drop, ← List.map_take]
      rw [show ∀ s, fTup [.v (.tuple (((row rows p).take k).map nI))] s = .ok (.v (.tuple [tNs ((row rows p).take k)])) s from fun _ => rfl, ok_ok, List.map_take, anew_add hn50 hp, ok_ok, anew_add2 hn50 hp, ok_ok, tup2, ok_ok, ← anew_D hp]
      have hcs : ∀ t, f_cut_short [.v (hallD rows), .v (nI p), .v (nI k)] t = .ok (.v (hallD (anew rows p ((row rows p).take k)))) t := fun t => cutshort_eq H hn50 hp
      unfold law_B1_5
      simp only [envE, so_seq, so_if, so_ret, so_retN, so_exp, so_nil, so_nx, so_rt, so_asg, so_asgG, so_par2, so_par3, ok_gNm, ok_gMore, ok_gNone, so_asgT, so_sub, so_for, ok_TB, ok_Tru, ok_notT, ok_andT, ok_orT, ok_andV, ok_orV, ok_notV, ok_iteE, ok_frz, ok_new, ok_mfArg, ok_mfBin, ok_lc, ok_M, ok_M0, ok_moNone, ok_moSome, ok_Sl,
  ok_bin, ok_un, ok_arg, ok_cons, ok_nil, ok_call, ok_var, ok_C, ok_ok, ok_stuck, ok_noX, bOf_bool, low_v, iOf_int, addD_int, subD_int, negD_int, ltD_int, leD_int, gtD_int, geD_int, fInt_int, isD_bool, isNotD_bool, tru_bool, List.map_cons, List.map_nil, List.length_cons, List.length_nil, List.replicate_succ, List.replicate_zero, List.cons_append, List.nil_append,
  List.append_nil, List.getElem?_cons_zero, List.getElem?_cons_succ, List.set_cons_zero, List.set_cons_succ, Option.some.injEq, exists_eq_left', exists_eq_left, true_and, and_true, true_implies, false_implies, implies_true, Bool.false_eq_true, reduceCtorEq, false_and, and_false, D.v.injEq, PyData.int.injEq, D.ref.injEq, p1i_int, p2_two, p3_three, decide_true, Bool.not_true, Bool.not_false, decide_eq_true_eq, decide_eq_false_iff_not, hcs, repr_of hrc, neD_str]
      unfold law_B1_6
      simp only [envE, so_seq, so_if, so_ret, so_retN, so_exp, so_nil, so_nx, so_rt, so_asg, so_asgG, so_par2, so_par3, ok_gNm, ok_gMore, ok_gNone, so_asgT, so_sub, so_for, ok_TB, ok_Tru, ok_notT, ok_andT, ok_orT, ok_andV, ok_orV, ok_notV, ok_iteE, ok_frz, ok_new, ok_mfArg, ok_mfBin, ok_lc, ok_M, ok_M0, ok_moNone, ok_moSome, ok_Sl,
  ok_bin, ok_un, ok_arg, ok_cons, ok_nil, ok_call, ok_var, ok_C, ok_ok, ok_stuck, ok_noX, bOf_bool, low_v, iOf_int, addD_int, subD_int, negD_int, ltD_int, leD_int, gtD_int, geD_int, fInt_int, isD_bool, isNotD_bool, tru_bool, List.map_cons, List.map_nil, List.length_cons, List.length_nil, List.replicate_succ, List.replicate_zero, List.cons_append, List.nil_append,
  List.append_nil, List.getElem?_cons_zero, List.getElem?_cons_succ, List.set_cons_zero, List.set_cons_succ, Option.some.injEq, exists_eq_left', exists_eq_left, true_and, and_true, true_implies, false_implies, implies_true, Bool.false_eq_true, reduceCtorEq, false_and, and_false, D.v.injEq, PyData.int.injEq, D.ref.injEq, p1i_int, p2_two, p3_three, decide_true, Bool.not_true, Bool.not_false, decide_eq_true_eq, decide_eq_false_iff_not, in_tup]
      refine ⟨fun hin => ?_, fun hin => ?_⟩
      · exact (rest_ok T1 hn10 hp (by simpa using hin) ok3 _ _ _ _ _ _ _ _ _ _ _ _ _).mono (fun _ _ z => z) fun _ _ z => z.elim
      · unfold law_E1
        simp only [envE, so_seq, so_if, so_ret, so_retN, so_exp, so_nil, so_nx, so_rt, so_asg, so_asgG, so_par2, so_par3, ok_gNm, ok_gMore, ok_gNone, so_asgT, so_sub, so_for, ok_TB, ok_Tru, ok_notT, ok_andT, ok_orT, ok_andV, ok_orV, ok_notV, ok_iteE, ok_frz, ok_new, ok_mfArg, ok_mfBin, ok_lc, ok_M, ok_M0, ok_moNone, ok_moSome, ok_Sl,
  ok_bin, ok_un, ok_arg, ok_cons, ok_nil, ok_call, ok_var, ok_C, ok_ok, ok_stuck, ok_noX, bOf_bool, low_v, iOf_int, addD_int, subD_int, negD_int, ltD_int, leD_int, gtD_int, geD_int, fInt_int, isD_bool, isNotD_bool, tru_bool, List.map_cons, List.map_nil, List.length_cons, List.length_nil, List.replicate_succ, List.replicate_zero, List.cons_append, List.nil_append,
  List.append_nil, List.getElem?_cons_zero, List.getElem?_cons_succ, List.set_cons_zero, List.set_cons_succ, Option.some.injEq, exists_eq_left', exists_eq_left, true_and, and_true, true_implies, false_implies, implies_true, Bool.false_eq_true, reduceCtorEq, false_and, and_false, D.v.injEq, PyData.int.injEq, D.ref.injEq, p1i_int, p2_two, p3_three, decide_true, Bool.not_true, Bool.not_false, decide_eq_true_eq, decide_eq_false_iff_not, ok_R1]
        refine ⟨⟨by omega, by omega⟩, ?_⟩
        rw [Int.toNat_natCast, rngI_nat, lcL_mapA _ (fun a : Nat => if (!decide (a ∈ lot)) = true then some (nI a) else none), fm_filter]
        rotate_left
        · intro a _
          unfold law_G1 law_T1 law_M1
          simp only [envE, so_seq, so_if, so_ret, so_retN, so_exp, so_nil, so_nx, so_rt, so_asg, so_asgG, so_par2, so_par3, ok_gNm, ok_gMore, ok_gNone, so_asgT, so_sub, so_for, ok_TB, ok_Tru, ok_notT, ok_andT, ok_orT, ok_andV, ok_orV, ok_notV, ok_iteE, ok_frz, ok_new, ok_mfArg, ok_mfBin, ok_lc, ok_M, ok_M0, ok_moNone, ok_moSome, ok_Sl,
  ok_bin, ok_un, ok_arg, ok_cons, ok_nil, ok_call, ok_var, ok_C, ok_ok, ok_stuck, ok_noX, bOf_bool, low_v, iOf_int, addD_int, subD_int, negD_int, ltD_int, leD_int, gtD_int, geD_int, fInt_int, isD_bool, isNotD_bool, tru_bool, List.map_cons, List.map_nil, List.length_cons, List.length_nil, List.replicate_succ, List.replicate_zero, List.cons_append, List.nil_append,
  List.append_nil, List.getElem?_cons_zero, List.getElem?_cons_succ, List.set_cons_zero, List.set_cons_succ, Option.some.injEq, exists_eq_left', exists_eq_left, true_and, and_true, true_implies, false_implies, implies_true, Bool.false_eq_true, reduceCtorEq, false_and, and_false, D.v.injEq, PyData.int.injEq, D.ref.injEq, p1i_int, p2_two, p3_three, decide_true, Bool.not_true, Bool.not_false, decide_eq_true_eq, decide_eq_false_iff_not, wipeE, notIn_tup]
          refine ⟨fun h => by rw [if_pos h], fun h => by rw [if_neg (by rw [h]; exact Bool.false_ne_true)]⟩
        rw [ok_ok, tup_list, ok_ok]
        exact (rest_ok T2 hn10 hp (by simpa using hin) ok3 _ _ _ _ _ _ _ _ _ _ _ _ _).mono (fun _ _ z => z) fun _ _ z => z.elim
    · rintro e st ⟨s, hl, he, rfl, ok⟩
      refine ⟨trivial, ?_⟩
      unfold S_law_3
      simp only [envE, so_seq, so_if, so_ret, so_retN, so_exp, so_nil, so_nx, so_rt, so_asg, so_asgG, so_par2, so_par3, ok_gNm, ok_gMore, ok_gNone, so_asgT, so_sub, so_for, ok_TB, ok_Tru, ok_notT, ok_andT, ok_orT, ok_andV, ok_orV, ok_notV, ok_iteE, ok_frz, ok_new, ok_mfArg, ok_mfBin, ok_lc, ok_M, ok_M0, ok_moNone, ok_moSome, ok_Sl,
  ok_bin, ok_un, ok_arg, ok_cons, ok_nil, ok_call, ok_var, ok_C, ok_ok, ok_stuck, ok_noX, bOf_bool, low_v, iOf_int, addD_int, subD_int, negD_int, ltD_int, leD_int, gtD_int, geD_int, fInt_int, isD_bool, isNotD_bool, tru_bool, List.map_cons, List.map_nil, List.length_cons, List.length_nil, List.replicate_succ, List.replicate_zero, List.cons_append, List.nil_append,
  List.append_nil, List.getElem?_cons_zero, List.getElem?_cons_succ, List.set_cons_zero, List.set_cons_succ, Option.some.injEq, exists_eq_left', exists_eq_left, true_and, and_true, true_implies, false_implies, implies_true, Bool.false_eq_true, reduceCtorEq, false_and, and_false, D.v.injEq, PyData.int.injEq, D.ref.injEq, p1i_int, p2_two, p3_three, decide_true, Bool.not_true, Bool.not_false, decide_eq_true_eq, decide_eq_false_iff_not]
  obtain ⟨d, st, e, rfl⟩ := key.eq
  exact ⟨st, e⟩
end
end Wk58

theorem PySem.Challenge.cw_pairsandprices_k58_whole_lists_cut_short_holds : PySem.Challenge.rw_pairsandprices_k58_whole_lists_cut_short.Holds := by
  exact Wk58.holds Wk58.law_ok
