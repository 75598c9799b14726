import PyProof.Rows.All
import Wide.All
import OpenK.AllK
import Wide.FinOn
import HandS.ForMost
import HandS.Flow
import KE.KDictKeyed
import HandS.TupAny
import HandS.Style
import HandS.Deep
import KE.KTupSum
import HandS.SortInts
import PyProof.ReprReads
import PyProof.Rows.NestShow
import PyProof.CallFns
import KE.KIndexOf
import HandS.Strs
import HandS.Zip
import KE.GoesEnum
import HandS.Defaults
import HandS.Words
import HandS.HeadEnd
import HandS.Head0
import HandS.Head1
import HandS.Head2
import HandS.HeadHook1
import HandS.HeadHook2
import HandS.Conv
import HandS.IsInst
import HandS.TupSets
import PyProof.ReprBulk
import PyProof.EqKinds
import HandS.DictComp
import HandS.Small
import HandS.Star
import HandS.ListItems
import KE.KDictList
import KE.KDictPairs
import HandS.WordsDict
import KE.GoesZip
import KE.GoesMore
import HandS.TupLe
import PyProof.DictUpdate
import KE.SortData
import HandS.SetFor
import KE.KDictWalk
import PyProof.SumAny
import KE.DataMinMax
import KE.LtData
import PyProof.NeKinds
import PyProof.NeData
import PyProof.P3Eq
import KE.KUnpack
import KE.KDictSum
import KE.KDictCopyH
import PySem.Challenge.RW_pairsandprices_k36_whole_lists_told
set_option Elab.async false
set_option linter.all false
set_option maxRecDepth 100000
set_option maxHeartbeats 0
namespace Fw
open PySem PySem.Spec PyProof.Rows L2
inductive D where
  | v (d : PyData)
  | ref (n : Nat)
  | scr (ns : List Int)
inductive O where
  | dead
  | lst (ds : List PyData)
  | dct (t : Bool) (kvs : List (PyData × D))
  | lck (t : Bool) (kvs : List (PyData × D))
  | tpl (ds : List D)
  | tab (kvs : List (PyData × D))
abbrev Sto := List O
abbrev Ev := List (Option D)
def D.low (n : Nat) : D → Bool
  | .ref m => decide (m < n)
  | _ => true
def O.low (n : Nat) : O → Bool
  | .dct _ kvs => kvs.all fun p => p.2.low n
  | .lck _ kvs => kvs.all fun p => p.2.low n
  | .tpl ds => ds.all fun d => d.low n
  | .tab kvs => kvs.all fun p => p.2.low n
  | _ => true
structure Exn where
  cls : Str
  fs : List (Str × PyData)
inductive Out (α : Type) where
  | ok (a : α) (st : Sto)
  | exn (e : Exn) (st : Sto)
  | stuck
def Out.bind {α β : Type} (x : Out α) (f : α → Sto → Out β) : Out β :=
  match x with
  | .ok a st => f a st
  | .exn e st => .exn e st
  | .stuck => .stuck
def Out.post {α : Type} (x : Out α) (P : α → Sto → Prop) (E : Exn → Sto → Prop) : Prop :=
  match x with
  | .ok a st => P a st
  | .exn e st => E e st
  | .stuck => False
theorem Out.post_bind {α β : Type} {x : Out α} {f : α → Sto → Out β} {P : β → Sto → Prop} {E : Exn → Sto → Prop}
    (h : (x.bind f).post P E) : x.post (fun a st => (f a st).post P E) E := by
  cases x <;> exact h
theorem Out.post_mono {α : Type} {x : Out α} {P P' : α → Sto → Prop} {E E' : Exn → Sto → Prop}
    (h : x.post P E) (hp : ∀ a st, P a st → P' a st) (he : ∀ e st, E e st → E' e st) : x.post P' E' := by
  cases x
  · exact hp _ _ h
  · exact he _ _ h
  · exact h
@[simp] theorem bind_ok {α β : Type} (a : α) (st : Sto) (f : α → Sto → Out β) : (Out.ok a st).bind f = f a st := rfl
@[simp] theorem bind_exn {α β : Type} (e : Exn) (st : Sto) (f : α → Sto → Out β) : (Out.exn e st : Out α).bind f = .exn e st := rfl
@[simp] theorem bind_stuck {α β : Type} (f : α → Sto → Out β) : (Out.stuck : Out α).bind f = .stuck := rfl
structure Gh where
  ad : List Addr
  hid : List Addr
def Gh.psh (ι : Gh) (p : Addr) : Gh := ⟨ι.ad ++ [p], ι.hid⟩
def Gh.tk (ι : Gh) (k : Nat) : Gh := ⟨ι.ad.take k, ι.hid⟩
def Frz (ι : Gh) (st : Sto) (a : Addr) : Prop := a ∉ ι.hid ∧ ∀ (n : Nat) (o : O), st[n]? = some o → ι.ad[n]? = some a → o = O.dead
def kD : Key → PyData
  | .inl i => .int i
  | .inr x => .str x
mutual
inductive Rp (F : Addr → Prop) (H : Hp) : V → PyData → Prop
  | non : Rp F H .non .none
  | bl (b : Bool) : Rp F H (.bl b) (.bool b)
  | int (i : Int) : Rp F H (.int i) (.int i)
  | str (x : Str) : Rp F H (.str x) (.str x)
  | lst {a : Addr} {xs : List V} {ds : List PyData} : H a = some (.lst xs) → F a → RpA F H xs ds → Rp F H (.ref a) (.list ds)
  | tup {a : Addr} {xs : List V} {ds : List PyData} {o : Obj} : H a = some (.frz o (.tup xs)) → o.dict = Option.none → F a → RpA F H xs ds → Rp F H (.ref a) (.tuple ds)
  | dcK {a : Addr} {xs : List (Key × V)} {ds : List (PyData × PyData)} : Rd H a (.dK xs) → F a → RpK F H xs ds → Rp F H (.ref a) (.dict ds)
  | dcT {a : Addr} {xs : List (List Key × V)} {ds : List (PyData × PyData)} : Rd H a (.dT xs) → F a → RpT F H xs ds → ds ≠ [] → Rp F H (.ref a) (.dict ds)
inductive RpA (F : Addr → Prop) (H : Hp) : List V → List PyData → Prop
  | nil : RpA F H [] []
  | cons {x : V} {xs : List V} {d : PyData} {ds : List PyData} : Rp F H x d → RpA F H xs ds → RpA F H (x :: xs) (d :: ds)
inductive RpK (F : Addr → Prop) (H : Hp) : List (Key × V) → List (PyData × PyData) → Prop
  | nil : RpK F H [] []
  | cons {k : Key} {x : V} {xs : List (Key × V)} {d : PyData} {ds : List (PyData × PyData)} : Rp F H x d → RpK F H xs ds → RpK F H ((k, x) :: xs) ((kD k, d) :: ds)
inductive RpT (F : Addr → Prop) (H : Hp) : List (List Key × V) → List (PyData × PyData) → Prop
  | nil : RpT F H [] []
  | cons {k : List Key} {x : V} {xs : List (List Key × V)} {d : PyData} {ds : List (PyData × PyData)} : Rp F H x d → RpT F H xs ds → RpT F H ((k, x) :: xs) ((.tuple (k.map kD), d) :: ds)
end
def Kp (u : HO) (x : Option HO) : Prop :=
  x = some u ∨ ((∃ kvs, u = .dK kvs) ∨ (∃ kvs, u = .dT kvs)) ∧ ∃ o, x = some (.frz o u)
structure Ext (ι : Gh) (st : Sto) (H : Hp) (ι' : Gh) (st' : Sto) (H' : Hp) : Prop where
  keep : ∀ q u, H q = some u → Frz ι st q → Frz ι' st' q ∧ H' q = some u
  pre : ∀ (n : Nat) (a : Addr), ι.ad[n]? = some a → ι'.ad[n]? = some a
  hid : ι'.hid = ι.hid
  keepZ : ∀ a, a ∈ ι.hid → H' a = H a
  lk : ∀ {n : Nat} {t : Bool} {kvs : List (PyData × D)} {a : Addr}, st[n]? = some (.lck t kvs) → ι.ad[n]? = some a → st'[n]? = some (.lck t kvs) ∧ H' a = H a
theorem Ext.refl {ι : Gh} {st : Sto} {H : Hp} : Ext ι st H ι st H := ⟨fun _ _ e f => ⟨f, e⟩, fun _ _ e => e, rfl, fun _ _ => rfl, fun h _ => ⟨h, rfl⟩⟩
theorem Ext.trans {ι ι1 ι2 : Gh} {st st1 st2 : Sto} {H H1 H2 : Hp} (a : Ext ι st H ι1 st1 H1) (b : Ext ι1 st1 H1 ι2 st2 H2) : Ext ι st H ι2 st2 H2 :=
  ⟨fun q u e f => let ⟨f1, k1⟩ := a.keep q u e f; b.keep q u k1 f1, fun n x e => b.pre n x (a.pre n x e), b.hid.trans a.hid, fun q h => (b.keepZ q (by rw [a.hid]; exact h)).trans (a.keepZ q h), fun h hi => let ⟨h1, e1⟩ := a.lk h hi; let ⟨h2, e2⟩ := b.lk h1 (a.pre _ _ hi); ⟨h2, e2.trans e1⟩⟩
theorem Kp.lst {xs : List V} {x : Option HO} (h : Kp (.lst xs) x) : x = some (.lst xs) := by
  rcases h with h | ⟨z | z, _⟩
  · exact h
  all_goals (obtain ⟨_, z⟩ := z; cases z)
theorem Kp.tup {xs : List V} {o : Obj} {x : Option HO} (h : Kp (.frz o (.tup xs)) x) : x = some (.frz o (.tup xs)) := by
  rcases h with h | ⟨z | z, _⟩
  · exact h
  all_goals (obtain ⟨_, z⟩ := z; cases z)
theorem rd_mv {F F' : Addr → Prop} {H H' : Hp} (hk : ∀ q u, H q = some u → F q → F' q ∧ Kp u (H' q)) {a : Addr} {u : HO} (hu : (∃ kvs, u = .dK kvs) ∨ (∃ kvs, u = .dT kvs)) (r : Rd H a u) (f : F a) : F' a ∧ Rd H' a u := by
  rcases r with r | ⟨o, r⟩
  · obtain ⟨f', k⟩ := hk _ _ r f
    rcases k with k | ⟨_, o, k⟩
    · exact ⟨f', .inl k⟩
    · exact ⟨f', .inr ⟨o, k⟩⟩
  · obtain ⟨f', k⟩ := hk _ _ r f
    rcases k with k | ⟨z, _⟩
    · exact ⟨f', .inr ⟨o, k⟩⟩
    · rcases z with ⟨_, z⟩ | ⟨_, z⟩ <;> cases z
section
variable {F F' : Addr → Prop} {H H' : Hp}
mutual
theorem Rp.mv (hk : ∀ q u, H q = some u → F q → F' q ∧ Kp u (H' q)) : ∀ {v : V} {d : PyData}, Rp F H v d → Rp F' H' v d
  | _, _, .non => .non
  | _, _, .bl b => .bl b
  | _, _, .int i => .int i
  | _, _, .str z => .str z
  | _, _, .lst e f r => .lst (hk _ _ e f).2.lst (hk _ _ e f).1 (RpA.mv hk r)
  | _, _, .tup e z f r => .tup (hk _ _ e f).2.tup z (hk _ _ e f).1 (RpA.mv hk r)
  | _, _, .dcK e f r => .dcK (rd_mv hk (.inl ⟨_, rfl⟩) e f).2 (rd_mv hk (.inl ⟨_, rfl⟩) e f).1 (RpK.mv hk r)
  | _, _, .dcT e f r z => .dcT (rd_mv hk (.inr ⟨_, rfl⟩) e f).2 (rd_mv hk (.inr ⟨_, rfl⟩) e f).1 (RpT.mv hk r) z
theorem RpA.mv (hk : ∀ q u, H q = some u → F q → F' q ∧ Kp u (H' q)) : ∀ {v : List V} {d : List PyData}, RpA F H v d → RpA F' H' v d
  | _, _, .nil => .nil
  | _, _, .cons h r => .cons (Rp.mv hk h) (RpA.mv hk r)
theorem RpK.mv (hk : ∀ q u, H q = some u → F q → F' q ∧ Kp u (H' q)) : ∀ {v : List (Key × V)} {d : List (PyData × PyData)}, RpK F H v d → RpK F' H' v d
  | _, _, .nil => .nil
  | _, _, .cons h r => .cons (Rp.mv hk h) (RpK.mv hk r)
theorem RpT.mv (hk : ∀ q u, H q = some u → F q → F' q ∧ Kp u (H' q)) : ∀ {v : List (List Key × V)} {d : List (PyData × PyData)}, RpT F H v d → RpT F' H' v d
  | _, _, .nil => .nil
  | _, _, .cons h r => .cons (Rp.mv hk h) (RpT.mv hk r)
end
end
section
variable {ι ι' : Gh} {st st' : Sto} {H H' : Hp}
theorem Rp.ext (x : Ext ι st H ι' st' H') {v : V} {d : PyData} (h : Rp (Frz ι st) H v d) : Rp (Frz ι' st') H' v d := Rp.mv (fun q u e f => let ⟨a, b⟩ := x.keep q u e f; ⟨a, .inl b⟩) h
theorem RpA.ext (x : Ext ι st H ι' st' H') {v : List V} {d : List PyData} (h : RpA (Frz ι st) H v d) : RpA (Frz ι' st') H' v d := RpA.mv (fun q u e f => let ⟨a, b⟩ := x.keep q u e f; ⟨a, .inl b⟩) h
theorem RpK.ext (x : Ext ι st H ι' st' H') {v : List (Key × V)} {d : List (PyData × PyData)} (h : RpK (Frz ι st) H v d) : RpK (Frz ι' st') H' v d := RpK.mv (fun q u e f => let ⟨a, b⟩ := x.keep q u e f; ⟨a, .inl b⟩) h
theorem RpT.ext (x : Ext ι st H ι' st' H') {v : List (List Key × V)} {d : List (PyData × PyData)} (h : RpT (Frz ι st) H v d) : RpT (Frz ι' st') H' v d := RpT.mv (fun q u e f => let ⟨a, b⟩ := x.keep q u e f; ⟨a, .inl b⟩) h
end
theorem RpA.length {F : Addr → Prop} {H : Hp} : ∀ {xs : List V} {ds : List PyData}, RpA F H xs ds → xs.length = ds.length
  | _, _, .nil => rfl
  | _, _, .cons _ r => by rw [List.length_cons, List.length_cons, RpA.length r]
theorem RpA.get {F : Addr → Prop} {H : Hp} : ∀ {xs : List V} {ds : List PyData} {i : Nat} {d : PyData}, RpA F H xs ds → ds[i]? = some d → ∃ x, xs[i]? = some x ∧ Rp F H x d
  | _, _, _, _, .nil, e => by simp at e
  | _, _, 0, _, .cons r _, e => by simp at e; subst e; exact ⟨_, rfl, r⟩
  | _, _, i + 1, d, .cons _ r, e => by
    obtain ⟨x, h1, h2⟩ := RpA.get (i := i) (d := d) r (by simpa using e)
    exact ⟨x, by simpa using h1, h2⟩
theorem RpA.append {F : Addr → Prop} {H : Hp} : ∀ {xs ys : List V} {ds es : List PyData}, RpA F H xs ds → RpA F H ys es → RpA F H (xs ++ ys) (ds ++ es)
  | _, _, _, _, .nil, s => s
  | _, _, _, _, .cons r t, s => .cons r (RpA.append t s)
theorem RpA.take {F : Addr → Prop} {H : Hp} : ∀ {xs : List V} {ds : List PyData} (n : Nat), RpA F H xs ds → RpA F H (xs.take n) (ds.take n)
  | _, _, 0, _ => .nil
  | _, _, _ + 1, .nil => .nil
  | _, _, n + 1, .cons r t => .cons r (RpA.take n t)
theorem RpA.drop {F : Addr → Prop} {H : Hp} : ∀ {xs : List V} {ds : List PyData} (n : Nat), RpA F H xs ds → RpA F H (xs.drop n) (ds.drop n)
  | _, _, 0, r => r
  | _, _, _ + 1, .nil => .nil
  | _, _, n + 1, .cons _ t => RpA.drop n t
theorem RpA.set {F : Addr → Prop} {H : Hp} {x : V} {d : PyData} (r : Rp F H x d) : ∀ {xs : List V} {ds : List PyData} (i : Nat), RpA F H xs ds → RpA F H (xs.set i x) (ds.set i d)
  | _, _, _, .nil => .nil
  | _, _, 0, .cons _ t => .cons r t
  | _, _, i + 1, .cons q t => .cons q (RpA.set r i t)
theorem RpA.erase {F : Addr → Prop} {H : Hp} : ∀ {xs : List V} {ds : List PyData} (i : Nat), RpA F H xs ds → RpA F H (xs.eraseIdx i) (ds.eraseIdx i)
  | _, _, _, .nil => .nil
  | _, _, 0, .cons _ t => t
  | _, _, i + 1, .cons q t => .cons q (RpA.erase i t)
theorem RpA.reverse {F : Addr → Prop} {H : Hp} : ∀ {xs : List V} {ds : List PyData}, RpA F H xs ds → RpA F H xs.reverse ds.reverse
  | _, _, .nil => .nil
  | _, _, .cons r t => by
    rw [List.reverse_cons, List.reverse_cons]
    exact (RpA.reverse t).append (.cons r .nil)
theorem RpA.dropLast {F : Addr → Prop} {H : Hp} {xs : List V} {ds : List PyData} (r : RpA F H xs ds) : RpA F H xs.dropLast ds.dropLast := by
  rw [List.dropLast_eq_take, List.dropLast_eq_take, r.length]
  exact r.take _
theorem RpA.rep {F : Addr → Prop} {H : Hp} {xs : List V} {ds : List PyData} (r : RpA F H xs ds) : ∀ k : Nat, RpA F H (List.replicate k xs).flatten (List.replicate k ds).flatten
  | 0 => .nil
  | k + 1 => by
    rw [List.replicate_succ, List.replicate_succ, List.flatten_cons, List.flatten_cons]
    exact r.append (RpA.rep r k)
def KL (K : PySem.W.Frag) (a : Addr) (xs : List V) : Prop :=
  ∃ (o : Obj) (its : Array Value) (n : Nat), K.lookup a = some o ∧ o.cls = .type "list" ∧ o.dict = none ∧ o.data = .seq its n ∧ its.size ≤ sizeLine ∧ Vals xs its.toList
def RD (K : PySem.W.Frag) (ι : Gh) (st : Sto) (H : Hp) (x : V) : D → Prop
  | .v d => Rp (Frz ι st) H x d
  | .ref n => ∃ a, ι.ad[n]? = some a ∧ x = .ref a
  | .scr ns => ∃ a, x = .ref a ∧ (KL K a (ns.map V.int) ∨ ∃ o, H a = some (.frz o (.lst (ns.map V.int))) ∧ Frz ι st a)
section
variable {K : PySem.W.Frag} {ι ι' : Gh} {st st' : Sto} {H H' : Hp}
theorem RD.ext (e : Ext ι st H ι' st' H') {x : V} : ∀ {d : D}, RD K ι st H x d → RD K ι' st' H' x d
  | .v d, h => Rp.ext e h
  | .ref n, ⟨a, h1, h2⟩ => ⟨a, e.pre n a h1, h2⟩
  | .scr ns, ⟨a, h1, h2⟩ => by
    refine ⟨a, h1, ?_⟩
    rcases h2 with h2 | ⟨o, h2, f⟩
    · exact .inl h2
    · obtain ⟨f', k⟩ := e.keep _ _ h2 f
      exact .inr ⟨o, k, f'⟩
theorem RD.scr {x : V} {ns : List Int} (h : RD K ι st H x (.scr ns)) : ∃ a, x = .ref a ∧ SqL K H a (ns.map V.int) := by
  obtain ⟨a, h1, h2⟩ := h
  refine ⟨a, h1, ?_⟩
  rcases h2 with h2 | ⟨o, h2, _⟩
  · exact .inr h2
  · exact .inl (.inr ⟨o, h2⟩)
end
def RK (K : PySem.W.Frag) (ι : Gh) (st : Sto) (H : Hp) : List (PyData × D) → List (Key × V) → Prop := Paired fun p q => p.1 = kD q.1 ∧ RD K ι st H q.2 p.2
def RT (K : PySem.W.Frag) (ι : Gh) (st : Sto) (H : Hp) : List (PyData × D) → List (List Key × V) → Prop := Paired fun p q => p.1 = .tuple (q.1.map kD) ∧ RD K ι st H q.2 p.2
def RDA (K : PySem.W.Frag) (ι : Gh) (st : Sto) (H : Hp) : List D → List V → Prop := Paired fun d x => RD K ι st H x d
mutual
def keyN : PyData → Option NestedKey
  | .none => some .none
  | .int i => some (.num i)
  | .tuple ds => (keyNA ds).map .tup
  | _ => Option.none
def keyNA : List PyData → Option (List NestedKey)
  | [] => some []
  | d :: ds => match keyN d, keyNA ds with
    | some k, some ks => some (k :: ks)
    | _, _ => Option.none
end
def keyP (d : PyData) : Option NestedKey := match d with
  | .tuple ds => match keyN (.tuple ds) with
    | some k => if k.depth ≤ 8 then some k else Option.none
    | Option.none => Option.none
  | _ => Option.none
def TabO (a : Addr) (xs : List (NestedKey × Addr × V)) : HO := .ext fun h => ∃ (w : World) (ys : List (NestedKey × Addr × Value)), Paired (fun p q => p.1 = q.1 ∧ p.2.1 = q.2.1 ∧ RelV p.2.2 q.2.2) xs ys ∧
  ∃ o es ep, h.get? a = some o ∧ o.ExactDict ∧ o.data = .dict es ep ∧ es.toList = ys.map fun x => (⟨x.1.hash w, .ref x.2.1, x.2.2⟩ : DictEntry)
def RTab (K : PySem.W.Frag) (ι : Gh) (st : Sto) (H : Hp) : List (PyData × D) → List (NestedKey × Addr × V) → Prop := Paired fun p q => keyP p.1 = some q.1 ∧ Rp (Frz ι st) H (.ref q.2.1) p.1 ∧ RD K ι st H q.2.2 p.2
def RO (K : PySem.W.Frag) (ι : Gh) (st : Sto) (H : Hp) (a : Addr) : O → Prop
  | .dead => True
  | .lst ds => ∃ xs, H a = some (.lst xs) ∧ RpA (Frz ι st) H xs ds
  | .dct false kvs => ∃ xs, H a = some (.dK xs) ∧ RK K ι st H kvs xs
  | .dct true kvs => ∃ xs, H a = some (.dT xs) ∧ RT K ι st H kvs xs
  | .lck false kvs => ∃ xs o, H a = some (.frz o (.dK xs)) ∧ RK K ι st H kvs xs
  | .lck true kvs => ∃ xs o, H a = some (.frz o (TabO a xs)) ∧ (a == sysModules) = false ∧ (xs.map (·.1)).Nodup ∧ xs.length ≤ sizeLine ∧ RTab K ι st H kvs xs
  | .tpl ds => ∃ xs o, H a = some (.frz o (.tup xs)) ∧ RDA K ι st H ds xs
  | .tab kvs => ∃ xs, H a = some (TabO a xs) ∧ (a == sysModules) = false ∧ (xs.map (·.1)).Nodup ∧ xs.length ≤ sizeLine ∧ RTab K ι st H kvs xs
def szOk : HO → Prop
  | .lst xs => xs.length ≤ sizeLine
  | .tup xs => xs.length ≤ sizeLine
  | .dK xs => xs.length ≤ sizeLine
  | .dT xs => xs.length ≤ sizeLine
  | .frz _ u => szOk u
  | _ => True
def HF (H : Hp) : Prop := ∀ a u, H a = some u → szOk u
def HdO : HO → Prop
  | .lst _ => True
  | .dK _ => True
  | .dT _ => True
  | _ => False
structure SRel (K : PySem.W.Frag) (ι : Gh) (st : Sto) (H : Hp) : Prop where
  len : ι.ad.length = st.length
  obj : ∀ (n : Nat) (o : O) (a : Addr), st[n]? = some o → ι.ad[n]? = some a → RO K ι st H a o
  inj : ∀ (m n : Nat) (a : Addr) (o u : O), ι.ad[m]? = some a → ι.ad[n]? = some a → st[m]? = some o → st[n]? = some u → o ≠ O.dead → u ≠ O.dead → m = n
  low : ∀ (n : Nat) (o : O), st[n]? = some o → o.low n = true
  hid : ∀ a, a ∈ ι.hid → (∃ u, H a = some u ∧ HdO u) ∧ ∀ (n : Nat) (o : O), st[n]? = some o → ι.ad[n]? = some a → o = O.dead
  hf : HF H
def EvR (K : PySem.W.Frag) (ι : Gh) (st : Sto) (H : Hp) (σ : L2.St) (env : Ev) : Prop :=
  σ.length = env.length ∧ ∀ (i : Nat) (d : D), env[i]? = some (some d) → ∃ x, σ[i]? = some (some x) ∧ RD K ι st H x d
section
variable {K : PySem.W.Frag} {ι ι' : Gh} {st st' : Sto} {H H' : Hp}
theorem EvR.ext (e : Ext ι st H ι' st' H') {σ : L2.St} {env : Ev} (h : EvR K ι st H σ env) : EvR K ι' st' H' σ env :=
  ⟨h.1, fun i d q => let ⟨x, h1, h2⟩ := h.2 i d q; ⟨x, h1, h2.ext e⟩⟩
theorem EvR.set {σ : L2.St} {env : Ev} (h : EvR K ι st H σ env) {x : V} {d : D} (r : RD K ι st H x d) (i : Nat) : EvR K ι st H (σ.set i (some x)) (env.set i (some d)) := by
  refine ⟨by rw [List.length_set, List.length_set]; exact h.1, fun j d' q => ?_⟩
  by_cases hj : i = j
  · subst hj
    by_cases hl : i < env.length
    · rw [List.getElem?_set_self hl] at q
      cases q
      exact ⟨x, by rw [List.getElem?_set_self (by rw [h.1]; exact hl)], r⟩
    · rw [List.getElem?_eq_none (by rw [List.length_set]; omega)] at q
      cases q
  · rw [List.getElem?_set_ne hj] at q
    obtain ⟨y, h1, h2⟩ := h.2 j d' q
    exact ⟨y, by rw [List.getElem?_set_ne hj]; exact h1, h2⟩
theorem EvR.none {σ : L2.St} {env : Ev} (h : EvR K ι st H σ env) (i : Nat) : EvR K ι st H (σ.set i Option.none) (env.set i Option.none) := by
  refine ⟨by rw [List.length_set, List.length_set]; exact h.1, fun j d' q => ?_⟩
  by_cases hj : i = j
  · subst hj
    by_cases hl : i < env.length
    · rw [List.getElem?_set_self hl] at q
      cases q
    · rw [List.getElem?_eq_none (by rw [List.length_set]; omega)] at q
      cases q
  · rw [List.getElem?_set_ne hj] at q
    obtain ⟨y, h1, h2⟩ := h.2 j d' q
    exact ⟨y, by rw [List.getElem?_set_ne hj]; exact h1, h2⟩
end
def wipeE (env : Ev) : List Nat → Ev
  | [] => env
  | v :: vs => (wipeE env vs).set v none
theorem EvR.wipe {K : PySem.W.Frag} {ι : Gh} {st : Sto} {H : Hp} {σ : L2.St} {env : Ev} (h : EvR K ι st H σ env) : ∀ vs : List Nat, EvR K ι st H (L2.wipe σ vs) (wipeE env vs)
  | [] => h
  | v :: vs => (EvR.wipe h vs).none v
abbrev XW := Exn → Gh → Sto → Hp → Prop
abbrev WF : XW := fun _ _ _ _ => False
abbrev ME := Ev → Sto → Out D
abbrev MT := Ev → Sto → Out Bool
abbrev MA := Ev → Sto → Out (List D)
def RDs (K : PySem.W.Frag) (ι : Gh) (st : Sto) (H : Hp) : List V → List D → Prop := Paired fun x d => RD K ι st H x d
theorem RDs.ext {K : PySem.W.Frag} {ι ι' : Gh} {st st' : Sto} {H H' : Hp} (e : Ext ι st H ι' st' H') : ∀ {xs : List V} {ds : List D}, RDs K ι st H xs ds → RDs K ι' st' H' xs ds
  | _, _, .nil => .nil
  | _, _, .cons h r => .cons (RD.ext e h) (RDs.ext e r)
def PO1 (K : PySem.W.Frag) (ι : Gh) (st : Sto) (H : Hp) (Q : VK) (d : D) (st' : Sto) : Prop := ∀ ι' H' x, SRel K ι' st' H' → Ext ι st H ι' st' H' → RD K ι' st' H' x d → Q x H'
def PB1 (K : PySem.W.Frag) (ι : Gh) (st : Sto) (H : Hp) (Q : Bool → Hp → Prop) (b : Bool) (st' : Sto) : Prop := ∀ ι' H', SRel K ι' st' H' → Ext ι st H ι' st' H' → Q b H'
def PA1 (K : PySem.W.Frag) (ι : Gh) (st : Sto) (H : Hp) (Q : List V → Hp → Prop) (ds : List D) (st' : Sto) : Prop := ∀ ι' H' xs, SRel K ι' st' H' → Ext ι st H ι' st' H' → RDs K ι' st' H' xs ds → Q xs H'
def PX1 (K : PySem.W.Frag) (W : XW) (ι : Gh) (st : Sto) (H : Hp) (e : Exn) (st' : Sto) : Prop := ∀ ι' H', SRel K ι' st' H' → Ext ι st H ι' st' H' → W e ι' st' H'
def TEo (K : PySem.W.Frag) (W : XW) (m : ME) : TE := fun σ H Q => ∃ ι env st, SRel K ι st H ∧ EvR K ι st H σ env ∧ (m env st).post (PO1 K ι st H Q) (PX1 K W ι st H)
def TTo (K : PySem.W.Frag) (W : XW) (m : MT) : TT := fun σ H Q => ∃ ι env st, SRel K ι st H ∧ EvR K ι st H σ env ∧ (m env st).post (PB1 K ι st H Q) (PX1 K W ι st H)
def TAo (K : PySem.W.Frag) (W : XW) (m : MA) : TA := fun σ H Q => ∃ ι env st, SRel K ι st H ∧ EvR K ι st H σ env ∧ (m env st).post (PA1 K ι st H Q) (PX1 K W ι st H)
section
variable {X : Cx} {pins : List (Addr × Obj)} {σ : L2.St} {H : Hp} {s : Shared}
theorem sz_of {P : Program} {w : World} {h : Heap} {a : Addr} {u : HO} (k : ObjOk P w H h a u) : szOk u := by
  induction u with
  | lst xs => exact k.1
  | tup xs => exact k.1
  | dK xs => exact k.1
  | dT xs => exact k.1
  | frz o u ih => exact ih k.2
  | _ => trivial
theorem hf_of (I : Inv X pins σ H s) : HF H := fun a u e => sz_of (I.hok a u e)
variable {K : PySem.W.Frag} {W : XW} {e : Expr} {es : List Expr}
theorem pe_wrap {t : TE} {m : ME} (h : PE X e t) (hi : ∀ σ H Q, TEo K W m σ H Q → t σ H (fun v H' => HF H' → Q v H')) : PE X e (TEo K W m) :=
  ⟨fun pins s σ H Q I q => thn (h.run pins s σ H _ I (hi σ H Q q)) fun _ _ ⟨v, H', I', r, q'⟩ => ⟨v, H', I', r, q' (hf_of I')⟩⟩
theorem pw_wrap {t : TT} {m : MT} (h : PW X e t) (hi : ∀ σ H Q, TTo K W m σ H Q → t σ H (fun v H' => HF H' → Q v H')) : PW X e (TTo K W m) :=
  ⟨fun wh pins s σ H Q I q => thn (h.run wh pins s σ H _ I (hi σ H Q q)) fun _ _ ⟨H', I', q'⟩ => ⟨H', I', q' (hf_of I')⟩⟩
theorem pa_wrap {t : TA} {m : MA} (h : PA X es t) (hi : ∀ σ H Q, TAo K W m σ H Q → t σ H (fun v H' => HF H' → Q v H')) : PA X es (TAo K W m) :=
  ⟨fun pos pins s σ H Q I q => thn (h.run pos pins s σ H _ I (hi σ H Q q)) fun _ _ ⟨v, H', I', r, q'⟩ => ⟨v, H', I', r, q' (hf_of I')⟩⟩
end
end Fw
namespace Fw
open PySem PySem.Spec PyProof.Rows L2
section
variable {K : PySem.W.Frag} {ι ι' : Gh} {st st' : Sto} {H H' : Hp}
theorem PO1.ext {Q : VK} {d : D} {s2 : Sto} (h : PO1 K ι st H Q d s2) (e : Ext ι st H ι' st' H') : PO1 K ι' st' H' Q d s2 :=
  fun ι2 H2 x R E r => h ι2 H2 x R (e.trans E) r
theorem PB1.ext {Q : Bool → Hp → Prop} {b : Bool} {s2 : Sto} (h : PB1 K ι st H Q b s2) (e : Ext ι st H ι' st' H') : PB1 K ι' st' H' Q b s2 :=
  fun ι2 H2 R E => h ι2 H2 R (e.trans E)
theorem PA1.ext {Q : List V → Hp → Prop} {d : List D} {s2 : Sto} (h : PA1 K ι st H Q d s2) (e : Ext ι st H ι' st' H') : PA1 K ι' st' H' Q d s2 :=
  fun ι2 H2 x R E r => h ι2 H2 x R (e.trans E) r
theorem PX1.ext {W : XW} {x : Exn} {s2 : Sto} (h : PX1 K W ι st H x s2) (e : Ext ι st H ι' st' H') : PX1 K W ι' st' H' x s2 :=
  fun ι2 H2 R E => h ι2 H2 R (e.trans E)
theorem SRel.live (R : SRel K ι st H) {n : Nat} {o : O} {a : Addr} (h : st[n]? = some o) (hi : ι.ad[n]? = some a) (hl : o ≠ O.dead) : ∃ u, H a = some u ∧ ∀ xs, u ≠ .tup xs := by
  have q := R.obj n o a h hi
  cases o with
  | dead => exact absurd rfl hl
  | lst ds => obtain ⟨xs, e, _⟩ := q; exact ⟨_, e, fun _ z => nomatch z⟩
  | dct t kvs =>
    cases t with
    | false => obtain ⟨xs, e, _⟩ := q; exact ⟨_, e, fun _ z => nomatch z⟩
    | true => obtain ⟨xs, e, _⟩ := q; exact ⟨_, e, fun _ z => nomatch z⟩
  | lck t kvs =>
    cases t with
    | false => obtain ⟨xs, o, e, _⟩ := q; exact ⟨_, e, fun _ z => nomatch z⟩
    | true => obtain ⟨xs, o, e, _⟩ := q; exact ⟨_, e, fun _ z => nomatch z⟩
  | tpl ds => obtain ⟨xs, o, e, _⟩ := q; exact ⟨_, e, fun _ z => nomatch z⟩
  | tab kvs => obtain ⟨xs, e, _⟩ := q; exact ⟨_, e, fun _ z => nomatch (show HO.ext _ = HO.tup _ from z)⟩
theorem SRel.hid_new (R : SRel K ι st H) {p : Addr} (hp : H p = none) : p ∉ ι.hid := fun z => by
  obtain ⟨⟨_, e, _⟩, _⟩ := R.hid p z
  rw [hp] at e
  cases e
theorem SRel.frz_new (R : SRel K ι st H) {p : Addr} (hp : H p = none) : Frz ι st p := ⟨R.hid_new hp, fun n o h hi => by
  by_cases hd : o = O.dead
  · exact hd
  · obtain ⟨u, e, _⟩ := R.live h hi hd
    rw [hp] at e; cases e⟩
theorem RK.ext (e : Ext ι st H ι' st' H') : ∀ {kvs : List (PyData × D)} {xs : List (Key × V)}, RK K ι st H kvs xs → RK K ι' st' H' kvs xs
  | _, _, .nil => .nil
  | _, _, .cons h r => .cons ⟨h.1, h.2.ext e⟩ (RK.ext e r)
theorem RT.ext (e : Ext ι st H ι' st' H') : ∀ {kvs : List (PyData × D)} {xs : List (List Key × V)}, RT K ι st H kvs xs → RT K ι' st' H' kvs xs
  | _, _, .nil => .nil
  | _, _, .cons h r => .cons ⟨h.1, h.2.ext e⟩ (RT.ext e r)
theorem RTab.ext (e : Ext ι st H ι' st' H') : ∀ {kvs : List (PyData × D)} {xs : List (NestedKey × Addr × V)}, RTab K ι st H kvs xs → RTab K ι' st' H' kvs xs
  | _, _, .nil => .nil
  | _, _, .cons h r => .cons ⟨h.1, h.2.1.ext e, h.2.2.ext e⟩ (RTab.ext e r)
theorem RDA.ext (e : Ext ι st H ι' st' H') : ∀ {ds : List D} {xs : List V}, RDA K ι st H ds xs → RDA K ι' st' H' ds xs
  | _, _, .nil => .nil
  | _, _, .cons h r => .cons (h.ext e) (RDA.ext e r)
theorem RO.ext (e : Ext ι st H ι' st' H') {a : Addr} (h : ∀ u, H a = some u → H' a = some u) : ∀ {o : O}, RO K ι st H a o → RO K ι' st' H' a o
  | .dead, _ => trivial
  | .lst _, ⟨xs, q, r⟩ => ⟨xs, h _ q, r.ext e⟩
  | .dct false _, ⟨xs, q, r⟩ => ⟨xs, h _ q, RK.ext e r⟩
  | .dct true _, ⟨xs, q, r⟩ => ⟨xs, h _ q, RT.ext e r⟩
  | .lck false _, ⟨xs, o, q, r⟩ => ⟨xs, o, h _ q, RK.ext e r⟩
  | .lck true _, ⟨xs, o, q, r⟩ => ⟨xs, o, h _ q, r.1, r.2.1, r.2.2.1, RTab.ext e r.2.2.2⟩
  | .tpl _, ⟨xs, o, q, r⟩ => ⟨xs, o, h _ q, RDA.ext e r⟩
  | .tab _, ⟨xs, q, r⟩ => ⟨xs, h _ q, r.1, r.2.1, r.2.2.1, RTab.ext e r.2.2.2⟩
theorem Ext.fresh (R : SRel K ι st H) {p : Addr} {u : HO} (hp : H p = none) : Ext ι st H ι st (upd H p u) :=
  ⟨fun q o e f => ⟨f, by rw [upd_ne (ne_of_none e hp)]; exact e⟩, fun _ _ e => e, rfl, fun q hq => upd_ne fun z => R.hid_new hp (z ▸ hq), fun h hi => ⟨h, upd_ne (let ⟨_, e, _⟩ := R.live h hi (fun z => nomatch z); ne_of_none e hp)⟩⟩
theorem SRel.fresh (R : SRel K ι st H) {p : Addr} {u : HO} (hp : H p = none) (hf : HF (upd H p u)) : SRel K ι st (upd H p u) :=
  ⟨R.len, fun n o a h hi => (R.obj n o a h hi).ext (Ext.fresh R hp) fun v e => by rw [upd_ne (ne_of_none e hp)]; exact e, R.inj, R.low, fun a h => ⟨let ⟨xs, e, d⟩ := (R.hid a h).1; ⟨xs, by rw [upd_ne (ne_of_none e hp)]; exact e, d⟩, (R.hid a h).2⟩, hf⟩
theorem frz_push {p q : Addr} {o : O} (R : ι.ad.length = st.length) (f : Frz ι st q) (hq : q ≠ p) : Frz (ι.psh p) (st ++ [o]) q := ⟨f.1, fun n u h hi => by
  replace hi : (ι.ad ++ [p])[n]? = some q := hi
  by_cases hn : n < st.length
  · rw [List.getElem?_append_left hn] at h
    rw [List.getElem?_append_left (by rw [R]; exact hn)] at hi
    exact f.2 n u h hi
  · by_cases hn2 : n = st.length
    · subst hn2
      rw [← R, List.getElem?_append_right (Nat.le_refl _), Nat.sub_self] at hi
      exact absurd (Option.some.inj hi).symm hq
    · rw [List.getElem?_eq_none (by rw [List.length_append, List.length_singleton]; omega)] at h
      cases h⟩
theorem Ext.push {p : Addr} {u : HO} {o : O} (R : SRel K ι st H) (hp : H p = none) : Ext ι st H (ι.psh p) (st ++ [o]) (upd H p u) := by
  refine ⟨fun q v e f => ?_, fun n a e => ?_, rfl, fun q hq => upd_ne fun z => ?_, fun h hi => ⟨by rw [List.getElem?_append_left (List.getElem?_eq_some_iff.mp h).1]; exact h, upd_ne (let ⟨_, e, _⟩ := R.live h hi (fun z => nomatch z); ne_of_none e hp)⟩⟩
  · have nq := ne_of_none e hp
    exact ⟨frz_push R.len f nq, by rw [upd_ne nq]; exact e⟩
  · show (ι.ad ++ [p])[n]? = some a
    rw [List.getElem?_append_left (List.getElem?_eq_some_iff.mp e).1]
    exact e
  · obtain ⟨⟨_, e, _⟩, _⟩ := R.hid q hq
    rw [z, hp] at e
    cases e
theorem SRel.push (R : SRel K ι st H) {p : Addr} {u : HO} {o : O} (hp : H p = none) (hf : HF (upd H p u)) (ho : RO K (ι.psh p) (st ++ [o]) (upd H p u) p o) (hw : o.low st.length = true) : SRel K (ι.psh p) (st ++ [o]) (upd H p u) := by
  have old : ∀ {n : Nat} {v : O} {a : Addr}, (st ++ [o])[n]? = some v → (ι.ad ++ [p])[n]? = some a → (n < st.length ∧ st[n]? = some v ∧ ι.ad[n]? = some a) ∨ (n = st.length ∧ v = o ∧ a = p) := by
    intro n v a h hi
    by_cases hn : n < st.length
    · rw [List.getElem?_append_left hn] at h
      rw [List.getElem?_append_left (by rw [R.len]; exact hn)] at hi
      exact .inl ⟨hn, h, hi⟩
    · by_cases hn2 : n = st.length
      · subst hn2
        rw [List.getElem?_append_right (Nat.le_refl _), Nat.sub_self] at h
        rw [← R.len, List.getElem?_append_right (Nat.le_refl _), Nat.sub_self] at hi
        exact .inr ⟨rfl, (Option.some.inj h).symm, (Option.some.inj hi).symm⟩
      · rw [List.getElem?_eq_none (by rw [List.length_append, List.length_singleton]; omega)] at h
        cases h
  refine ⟨by show (ι.ad ++ [p]).length = _; rw [List.length_append, List.length_append, R.len]; rfl, fun n v a h hi => ?_, fun m n a v w hm hn h1 h2 l1 l2 => ?_, fun n v h => ?_, fun a ha => ⟨?_, fun n v h hi => ?_⟩, hf⟩
  · rcases old h hi with ⟨_, h1, h2⟩ | ⟨_, rfl, rfl⟩
    · exact (R.obj n v a h1 h2).ext (Ext.push R hp) fun z e => by rw [upd_ne (ne_of_none e hp)]; exact e
    · exact ho
  · rcases old h1 hm with ⟨_, a1, a2⟩ | ⟨e1, _, rfl⟩
    · rcases old h2 hn with ⟨_, b1, b2⟩ | ⟨_, _, rfl⟩
      · exact R.inj m n a v w a2 b2 a1 b1 l1 l2
      · exact absurd ((R.frz_new hp).2 m v a1 a2) l1
    · rcases old h2 hn with ⟨_, b1, b2⟩ | ⟨e2, _, _⟩
      · exact absurd ((R.frz_new hp).2 n w b1 b2) l2
      · rw [e1, e2]
  · by_cases hn : n < st.length
    · rw [List.getElem?_append_left hn] at h
      exact R.low n v h
    · by_cases hn2 : n = st.length
      · subst hn2
        rw [List.getElem?_append_right (Nat.le_refl _), Nat.sub_self] at h
        rw [← Option.some.inj h]
        exact hw
      · rw [List.getElem?_eq_none (by rw [List.length_append, List.length_singleton]; omega)] at h
        cases h
  · obtain ⟨xs, e, d⟩ := (R.hid a ha).1
    exact ⟨xs, by rw [upd_ne (ne_of_none e hp)]; exact e, d⟩
  · rcases old h hi with ⟨_, h1, h2⟩ | ⟨_, rfl, rfl⟩
    · exact (R.hid a ha).2 n v h1 h2
    · obtain ⟨xs, e, _⟩ := (R.hid a ha).1
      rw [hp] at e
      cases e
theorem frz_set {n : Nat} {o o' : O} {q : Addr} (h : st[n]? = some o) (hl : o ≠ O.dead) (f : Frz ι st q) : Frz ι (st.set n o') q := ⟨f.1, fun m u hm hi => by
  by_cases e : n = m
  · subst e
    exact absurd (f.2 n o h hi) hl
  · rw [List.getElem?_set_ne e] at hm
    exact f.2 m u hm hi⟩
theorem Ext.write (R : SRel K ι st H) {n : Nat} {o o' : O} {a : Addr} {u : HO} (h : st[n]? = some o) (hi : ι.ad[n]? = some a) (hl : o ≠ O.dead) (hk : ∀ t kvs, o ≠ .lck t kvs) : Ext ι st H ι (st.set n o') (upd H a u) := by
  refine ⟨fun q v e f => ⟨frz_set h hl f, ?_⟩, fun _ _ e => e, rfl, fun q hq => upd_ne fun z => ?_, fun {m t kvs b} hm hb => ?_⟩
  · have nq : q ≠ a := fun z => by subst z; exact hl (f.2 n o h hi)
    rw [upd_ne nq]
    exact e
  · subst z
    exact hl ((R.hid q hq).2 n o h hi)
  · have nm : n ≠ m := fun z => by subst z; rw [h] at hm; exact hk t kvs (Option.some.inj hm)
    exact ⟨by rw [List.getElem?_set_ne nm]; exact hm, upd_ne fun z => by subst z; exact nm (R.inj n m b o _ hi hb h hm hl (fun z => nomatch z))⟩
theorem SRel.write (R : SRel K ι st H) {n : Nat} {o o' : O} {a : Addr} {u : HO} (h : st[n]? = some o) (hi : ι.ad[n]? = some a) (hl : o ≠ O.dead) (hk : ∀ t kvs, o ≠ .lck t kvs) (hf : HF (upd H a u)) (ho : RO K ι (st.set n o') (upd H a u) a o') (hw : o'.low n = true) : SRel K ι (st.set n o') (upd H a u) := by
  refine ⟨by rw [List.length_set]; exact R.len, fun m v b hm hb => ?_, fun i j b v w hib hjb h1 h2 l1 l2 => ?_, fun m v hm => ?_, fun b hb => ⟨?_, fun m v hm hi' => ?_⟩, hf⟩
  · by_cases e : n = m
    · subst e
      rw [List.getElem?_set_self (List.getElem?_eq_some_iff.mp h).1] at hm
      cases hm
      rw [hi] at hb; cases hb
      exact ho
    · rw [List.getElem?_set_ne e] at hm
      by_cases ed : v = O.dead
      · subst ed; trivial
      · refine (R.obj m v b hm hb).ext (Ext.write R h hi hl hk) fun z q => ?_
        have nb : b ≠ a := fun z => by subst z; exact e (R.inj n m b o v hi hb h hm hl ed)
        rw [upd_ne nb]
        exact q
  · have live : ∀ {i : Nat} {v : O}, (st.set n o')[i]? = some v → v ≠ O.dead → ∃ v', st[i]? = some v' ∧ v' ≠ O.dead := fun {i v} q l => by
      by_cases e : n = i
      · subst e; exact ⟨o, h, hl⟩
      · rw [List.getElem?_set_ne e] at q
        exact ⟨v, q, l⟩
    obtain ⟨v', a1, a2⟩ := live h1 l1
    obtain ⟨w', b1, b2⟩ := live h2 l2
    exact R.inj i j b v' w' hib hjb a1 b1 a2 b2
  · by_cases e : n = m
    · subst e
      rw [List.getElem?_set_self (List.getElem?_eq_some_iff.mp h).1] at hm
      rw [← Option.some.inj hm]
      exact hw
    · rw [List.getElem?_set_ne e] at hm
      exact R.low m v hm
  · obtain ⟨xs, e, d⟩ := (R.hid b hb).1
    have nb : b ≠ a := fun z => by subst z; exact hl ((R.hid b hb).2 n o h hi)
    exact ⟨xs, by rw [upd_ne nb]; exact e, d⟩
  · by_cases e : n = m
    · subst e
      exact absurd ((R.hid b hb).2 n o h hi') hl
    · rw [List.getElem?_set_ne e] at hm
      exact (R.hid b hb).2 m v hm hi'
theorem frz_take {q : Addr} {k : Nat} (f : Frz ι st q) : Frz (ι.tk k) (st.take k) q := ⟨f.1, fun n o h hi => by
  replace hi : (ι.ad.take k)[n]? = some q := hi
  rw [List.getElem?_take] at h hi
  split at h
  · rename_i hn
    rw [if_pos hn] at hi
    exact f.2 n o h hi
  · cases h⟩
theorem frz_takeK {k : Nat} : ∀ q u, H q = some u → Frz ι st q → Frz (ι.tk k) (st.take k) q ∧ Kp u (H q) := fun _ _ e f => ⟨frz_take f, .inl e⟩
theorem D.low_mono {k n : Nat} (h : n ≤ k) : ∀ {d : D}, d.low n = true → d.low k = true
  | .v _, _ => rfl
  | .ref m, q => decide_eq_true (Nat.lt_of_lt_of_le (of_decide_eq_true q) h)
  | .scr _, _ => rfl
theorem RD.take {k : Nat} {x : V} : ∀ {d : D}, d.low k = true → RD K ι st H x d → RD K (ι.tk k) (st.take k) H x d
  | .v d, _, h => Rp.mv frz_takeK h
  | .ref n, hl, ⟨a, h1, h2⟩ => ⟨a, by show (ι.ad.take k)[n]? = _; rw [List.getElem?_take, if_pos (of_decide_eq_true hl)]; exact h1, h2⟩
  | .scr ns, _, ⟨a, h1, h2⟩ => ⟨a, h1, h2.imp id fun ⟨o, q, f⟩ => ⟨o, q, frz_take f⟩⟩
theorem RK.take {k : Nat} : ∀ {kvs : List (PyData × D)} {xs : List (Key × V)}, kvs.all (fun p => p.2.low k) = true → RK K ι st H kvs xs → RK K (ι.tk k) (st.take k) H kvs xs
  | _, _, _, .nil => .nil
  | _, _, hl, .cons h r => by
    rw [List.all_cons, Bool.and_eq_true] at hl
    exact .cons ⟨h.1, h.2.take hl.1⟩ (RK.take hl.2 r)
theorem RT.take {k : Nat} : ∀ {kvs : List (PyData × D)} {xs : List (List Key × V)}, kvs.all (fun p => p.2.low k) = true → RT K ι st H kvs xs → RT K (ι.tk k) (st.take k) H kvs xs
  | _, _, _, .nil => .nil
  | _, _, hl, .cons h r => by
    rw [List.all_cons, Bool.and_eq_true] at hl
    exact .cons ⟨h.1, h.2.take hl.1⟩ (RT.take hl.2 r)
theorem RDA.take {k : Nat} : ∀ {ds : List D} {xs : List V}, ds.all (fun d => d.low k) = true → RDA K ι st H ds xs → RDA K (ι.tk k) (st.take k) H ds xs
  | _, _, _, .nil => .nil
  | _, _, hl, .cons h r => by
    rw [List.all_cons, Bool.and_eq_true] at hl
    exact .cons (h.take hl.1) (RDA.take hl.2 r)
theorem RTab.take {k : Nat} : ∀ {kvs : List (PyData × D)} {xs : List (NestedKey × Addr × V)}, kvs.all (fun p => p.2.low k) = true → RTab K ι st H kvs xs → RTab K (ι.tk k) (st.take k) H kvs xs
  | _, _, _, .nil => .nil
  | _, _, hl, .cons h r => by
    rw [List.all_cons, Bool.and_eq_true] at hl
    exact .cons ⟨h.1, Rp.mv frz_takeK h.2.1, h.2.2.take hl.1⟩ (RTab.take hl.2 r)
theorem SRel.take (R : SRel K ι st H) (k : Nat) : SRel K (ι.tk k) (st.take k) H := by
  refine ⟨by show (ι.ad.take k).length = _; rw [List.length_take, List.length_take, R.len], fun n o a h hi => ?_, fun i j b v w hib hjb h1 h2 l1 l2 => ?_, fun n v h => ?_, fun b hb => ⟨(R.hid b hb).1, fun n v h hi => ?_⟩, R.hf⟩
  · replace hi : (ι.ad.take k)[n]? = some a := hi
    rw [List.getElem?_take] at h hi
    split at h
    · rename_i hn
      rw [if_pos hn] at hi
      have q := R.obj n o a h hi
      have lw := R.low n o h
      cases o with
      | dead => trivial
      | lst ds =>
        obtain ⟨xs, e, r⟩ := q
        exact ⟨xs, e, RpA.mv frz_takeK r⟩
      | dct t kvs =>
        have lw' : kvs.all (fun p => p.2.low k) = true := List.all_eq_true.mpr fun p hp => D.low_mono (Nat.le_of_lt hn) (List.all_eq_true.mp lw p hp)
        cases t with
        | false => obtain ⟨xs, e, r⟩ := q; exact ⟨xs, e, r.take lw'⟩
        | true => obtain ⟨xs, e, r⟩ := q; exact ⟨xs, e, r.take lw'⟩
      | lck t kvs =>
        have lw' : kvs.all (fun p => p.2.low k) = true := List.all_eq_true.mpr fun p hp => D.low_mono (Nat.le_of_lt hn) (List.all_eq_true.mp lw p hp)
        cases t with
        | false => obtain ⟨xs, o, e, r⟩ := q; exact ⟨xs, o, e, r.take lw'⟩
        | true => obtain ⟨xs, o, e, r⟩ := q; exact ⟨xs, o, e, r.1, r.2.1, r.2.2.1, RTab.take lw' r.2.2.2⟩
      | tpl ds =>
        have lw' : ds.all (fun d => d.low k) = true := List.all_eq_true.mpr fun p hp => D.low_mono (Nat.le_of_lt hn) (List.all_eq_true.mp lw p hp)
        obtain ⟨xs, o, e, r⟩ := q; exact ⟨xs, o, e, RDA.take lw' r⟩
      | tab kvs =>
        have lw' : kvs.all (fun p => p.2.low k) = true := List.all_eq_true.mpr fun p hp => D.low_mono (Nat.le_of_lt hn) (List.all_eq_true.mp lw p hp)
        obtain ⟨xs, e, r⟩ := q; exact ⟨xs, e, r.1, r.2.1, r.2.2.1, RTab.take lw' r.2.2.2⟩
    · cases h
  · replace hib : (ι.ad.take k)[i]? = some b := hib
    replace hjb : (ι.ad.take k)[j]? = some b := hjb
    rw [List.getElem?_take] at hib hjb h1 h2
    split at h1
    · split at h2
      · rename_i a1 a2
        rw [if_pos a1] at hib
        rw [if_pos a2] at hjb
        exact R.inj i j b v w hib hjb h1 h2 l1 l2
      · cases h2
    · cases h1
  · rw [List.getElem?_take] at h
    split at h
    · exact R.low n v h
    · cases h
  · replace hi : (ι.ad.take k)[n]? = some b := hi
    rw [List.getElem?_take] at h hi
    split at h
    · rename_i hn
      rw [if_pos hn] at hi
      exact (R.hid b hb).2 n v h hi
    · cases h
end
end Fw
namespace Fw
open PySem PySem.Spec PyProof.Rows L2
section
variable {K : PySem.W.Frag} {W : XW} {ι : Gh} {st : Sto} {H : Hp} {Q : VK}
theorem PO1.same (h : PO1 K ι st H Q d st) (R : SRel K ι st H) {x : V} (r : RD K ι st H x d) : Q x H := h ι H x R Ext.refl r
theorem PO1.newTup {xs : List V} {ds : List PyData} (h : PO1 K ι st H Q (.v (.tuple ds)) st) (R : SRel K ι st H) (r : RpA (Frz ι st) H xs ds) {p : Addr} (hp : H p = none) {o : Obj} (ho : o.dict = none) (hf : HF (upd H p (.frz o (.tup xs)))) : Q (.ref p) (upd H p (.frz o (.tup xs))) :=
  h ι _ _ (R.fresh hp hf) (Ext.fresh R hp) (.tup upd_same ho (R.frz_new hp) (r.ext (Ext.fresh R hp)))
def KTup (H : Hp) (a : Addr) (xs : List V) : Prop := ∃ o, H a = some (.frz o (.tup xs)) ∧ o.dict = none
theorem KTup.sq {K : PySem.W.Frag} {H : Hp} {a : Addr} {xs : List V} (h : KTup H a xs) : SqT K H a xs := let ⟨o, h, _⟩ := h; .inl (.inr ⟨o, h⟩)
def NewT (H : Hp) (xs : List V) (Q : VK) : Prop := ∀ p o, H p = none → o.dict = none → Q (.ref p) (upd H p (.frz o (.tup xs)))
theorem NewT.laid {X : Cx} {pins : List (Addr × Obj)} {σ : L2.St} {H : Hp} {s : Shared} {Q : VK} {xs : List V} {its : List Value} {t' : Nat} (I : Inv X pins σ H s) (hv : Vals xs its) (hz : xs.length ≤ sizeLine) (q : NewT H xs Q) :
    EP X pins σ Q (.ref s.heap.objs.size) { s with heap := s.heap.push { cls := .type "tuple", data := .seq its.toArray }, toks := t' } := by
  have hf : H s.heap.objs.size = none := I.hok.fresh (Nat.le_refl _)
  refine ⟨.ref s.heap.objs.size, upd H s.heap.objs.size (.frz { cls := .type "tuple", data := .seq its.toArray } (.tup xs)), I.laid (t' := t') (fun b u e => Heap.get?_push_of_some _ e) (Nat.le_refl _) ?_, rfl, q _ _ hf rfl⟩
  exact ⟨Heap.get?_push_size _ rfl, hz, its, hv, IsTup.new _ _⟩
theorem pe_tupN {X : Cx} {es : List Expr} {t : TA} {x1} {pos : Pos} (h : PA X es t) : PE X (.Tuple es x1 pos) (fun σ H Q => t σ H fun xs H1 => xs.length ≤ sizeLine ∧ NewT H1 xs Q) :=
  ⟨fun pins s σ H Q I hq => wpAny_Tuple_spliced (thn (h.run pos pins s σ H _ I hq) fun us s1 ⟨xs, H1, I1, r, z, q⟩ => ⟨by rw [← r.length]; exact z, q.laid (t' := s1.toks) I1 r z⟩)⟩
theorem PO1.newLst {xs : List V} {ds : List PyData} (h : PO1 K ι st H Q (.v (.list ds)) st) (R : SRel K ι st H) (r : RpA (Frz ι st) H xs ds) {p : Addr} (hp : H p = none) (hf : HF (upd H p (.lst xs))) : Q (.ref p) (upd H p (.lst xs)) :=
  h ι _ _ (R.fresh hp hf) (Ext.fresh R hp) (.lst upd_same (R.frz_new hp) (r.ext (Ext.fresh R hp)))
end
def viewL (st : Sto) : D → Option (List PyData)
  | .v (.list xs) => some xs
  | .ref n => match st[n]? with
    | some (.lst xs) => some xs
    | _ => none
  | _ => none
def viewS (st : Sto) : D → Option (List PyData)
  | .v (.tuple xs) => some xs
  | d => viewL st d
def viewP (st : Sto) : D → Option PyData
  | .v d => some d
  | d => (viewL st d).map .list
theorem viewL_at {K : PySem.W.Frag} {ι : Gh} {st : Sto} {H : Hp} (R : SRel K ι st H) {x : V} {d : D} {ds : List PyData} (e : viewL st d = some ds) (r : RD K ι st H x d) : ∃ a xs, x = .ref a ∧ H a = some (.lst xs) ∧ RpA (Frz ι st) H xs ds := by
  cases d with
  | v z =>
    cases z with
    | list zs =>
      have e' : zs = ds := Option.some.inj e
      subst e'
      have r' : Rp (Frz ι st) H x (.list zs) := r
      cases r' with
      | lst h _ t => exact ⟨_, _, rfl, h, t⟩
    | _ => cases e
  | scr ns => cases e
  | ref n =>
    obtain ⟨a, h1, h2⟩ := r
    cases q : st[n]? with
    | none =>
      simp only [viewL, q] at e
      cases e
    | some o =>
      simp only [viewL, q] at e
      cases o with
      | lst zs =>
        have e' : zs = ds := Option.some.inj e
        subst e'
        obtain ⟨xs, e1, r⟩ := R.obj n _ a q h1
        exact ⟨a, xs, h2, e1, r⟩
      | dead => cases e
      | dct _ _ => cases e
      | lck _ _ => cases e
      | tpl _ => cases e
      | tab _ => cases e
theorem viewS_at {K : PySem.W.Frag} {ι : Gh} {st : Sto} {H : Hp} (R : SRel K ι st H) {x : V} {d : D} {ds : List PyData} (e : viewS st d = some ds) (r : RD K ι st H x d) :
    ∃ a xs, x = .ref a ∧ (H a = some (.lst xs) ∨ KTup H a xs) ∧ RpA (Frz ι st) H xs ds := by
  have other : viewL st d = some ds → ∃ a xs, x = .ref a ∧ (H a = some (.lst xs) ∨ KTup H a xs) ∧ RpA (Frz ι st) H xs ds := fun q =>
    let ⟨a, xs, h1, h2, h3⟩ := viewL_at R q r
    ⟨a, xs, h1, .inl h2, h3⟩
  cases d with
  | v z =>
    cases z with
    | tuple zs =>
      have e' : zs = ds := Option.some.inj e
      subst e'
      have r' : Rp (Frz ι st) H x (.tuple zs) := r
      cases r' with
      | tup h z _ t => exact ⟨_, _, rfl, .inr ⟨_, h, z⟩, t⟩
    | list _ => exact other e
    | _ => cases e
  | ref n => exact other e
  | scr ns => exact other e
theorem viewS_atF {K : PySem.W.Frag} {ι : Gh} {st : Sto} {H : Hp} (R : SRel K ι st H) {x : V} {d : D} {ds : List PyData} (e : viewS st d = some ds) (r : RD K ι st H x d) :
    ∃ a xs, x = .ref a ∧ (H a = some (.lst xs) ∨ KTup H a xs ∧ Frz ι st a) ∧ RpA (Frz ι st) H xs ds := by
  have other : viewL st d = some ds → ∃ a xs, x = .ref a ∧ (H a = some (.lst xs) ∨ KTup H a xs ∧ Frz ι st a) ∧ RpA (Frz ι st) H xs ds := fun q =>
    let ⟨a, xs, h1, h2, h3⟩ := viewL_at R q r
    ⟨a, xs, h1, .inl h2, h3⟩
  cases d with
  | v z =>
    cases z with
    | tuple zs =>
      have e' : zs = ds := Option.some.inj e
      subst e'
      have r' : Rp (Frz ι st) H x (.tuple zs) := r
      cases r' with
      | tup h z f t => exact ⟨_, _, rfl, .inr ⟨⟨_, h, z⟩, f⟩, t⟩
    | list _ => exact other e
    | _ => cases e
  | ref n => exact other e
  | scr ns => exact other e
mutual
theorem Rp.dp {K : PySem.W.Frag} {F : Addr → Prop} {H : Hp} : ∀ {x : V} {d : PyData}, Rp F H x d → d.hasDict = false → Dp K H x d
  | _, _, .non, _ => .non
  | _, _, .bl b, _ => .bl b
  | _, _, .int i, _ => .int i
  | _, _, .str z, _ => .str z
  | _, _, .lst h _ r, q => .lst (.of h) (RpA.dp r (by simpa [PyData.hasDict] using q))
  | _, _, .tup h _ _ r, q => .tup (.inl (.inr ⟨_, h⟩)) (RpA.dp r (by simpa [PyData.hasDict] using q))
  | _, _, .dcK _ _ _, q => by simp [PyData.hasDict] at q
  | _, _, .dcT _ _ _ _, q => by simp [PyData.hasDict] at q
theorem RpA.dp {K : PySem.W.Frag} {F : Addr → Prop} {H : Hp} : ∀ {xs : List V} {ds : List PyData}, RpA F H xs ds → PyData.hasDictAll ds = false → DpAll K H xs ds
  | _, _, .nil, _ => .nil
  | _, _, .cons h r, q => by
    have q' := q
    simp only [PyData.hasDictAll, Bool.or_eq_false_iff] at q'
    exact .cons (Rp.dp h q'.1) (RpA.dp r q'.2)
end
theorem viewP_at {K : PySem.W.Frag} {ι : Gh} {st : Sto} {H : Hp} (R : SRel K ι st H) {x : V} {d : D} {z : PyData} (e : viewP st d = some z) (r : RD K ι st H x d) (hn : z.hasDict = false) : Dp K H x z := by
  have other : (viewL st d).map PyData.list = some z → Dp K H x z := fun q => by
    obtain ⟨ds, q1, rfl⟩ := Option.map_eq_some_iff.mp q
    obtain ⟨a, xs, rfl, h2, h3⟩ := viewL_at R q1 r
    exact .lst (.of h2) (h3.dp (by simpa [PyData.hasDict] using hn))
  cases d with
  | v d =>
    cases e
    exact Rp.dp r hn
  | ref n => exact other e
  | scr ns => exact other e
def mVar (i : Nat) : ME := fun env st => match env[i]? with
  | some (some d) => .ok d st
  | _ => .stuck
def mC (d : PyData) : ME := fun _ st => .ok (.v d) st
abbrev F1 := D → Sto → Out D
abbrev F2 := D → D → Sto → Out D
abbrev FA := List D → Sto → Out D
def mUn (f : F1) (ma : ME) : ME := fun env st => (ma env st).bind fun a s1 => f a s1
def mBin (f : F2) (ma mb : ME) : ME := fun env st => (ma env st).bind fun a s1 => (mb env s1).bind fun b s2 => f a b s2
def mArg (f : FA) (ma : MA) : ME := fun env st => (ma env st).bind fun ds s1 => f ds s1
def mNil : MA := fun _ st => .ok [] st
def mCons (ma : ME) (mr : MA) : MA := fun env st => (ma env st).bind fun a s1 => (mr env s1).bind fun ds s2 => .ok (a :: ds) s2
def Op2 (K : PySem.W.Frag) (W : XW) (r : R2) (f : F2) : Prop := ∀ (ι : Gh) (st : Sto) (H : Hp) (x y : V) (a b : D) (Q : VK), SRel K ι st H → RD K ι st H x a → RD K ι st H y b →
  (f a b st).post (PO1 K ι st H Q) (PX1 K W ι st H) → r x y H (fun v H' => HF H' → Q v H')
def OpA (K : PySem.W.Frag) (W : XW) (r : List V → Hp → VK → Prop) (f : FA) : Prop := ∀ (ι : Gh) (st : Sto) (H : Hp) (xs : List V) (ds : List D) (Q : VK), SRel K ι st H → RDs K ι st H xs ds →
  (f ds st).post (PO1 K ι st H Q) (PX1 K W ι st H) → r xs H (fun v H' => HF H' → Q v H')
section
variable {K : PySem.W.Frag} {W : XW} {σ : L2.St} {H : Hp} {Q : VK} {ma mb : ME}
theorem te_bin {r : R2} {f : F2} (hf : Op2 K W r f) (h : TEo K W (mBin f ma mb) σ H Q) : tOp r (TEo K W ma) (TEo K W mb) σ H (fun v H' => HF H' → Q v H') := by
  obtain ⟨ι, env, st, R, EV, p⟩ := h
  refine ⟨ι, env, st, R, EV, Out.post_mono (Out.post_bind p) (fun a s1 q ι1 H1 x R1 E1 ra => ?_) fun _ _ q => q⟩
  refine ⟨ι1, env, s1, R1, EV.ext E1, Out.post_mono (Out.post_bind q) (fun b s2 q2 ι2 H2 y R2 E2 rb => ?_) fun _ _ z => z.ext E1⟩
  exact hf ι2 s2 H2 x y a b Q R2 (ra.ext E2) rb (Out.post_mono q2 (fun _ _ z => (z.ext E1).ext E2) fun _ _ z => (z.ext E1).ext E2)
theorem te_arg {r : List V → Hp → VK → Prop} {f : FA} {m : MA} (hf : OpA K W r f) (h : TEo K W (mArg f m) σ H Q) : TAo K W m σ H fun xs H1 => r xs H1 (fun v H' => HF H' → Q v H') := by
  obtain ⟨ι, env, st, R, EV, p⟩ := h
  refine ⟨ι, env, st, R, EV, Out.post_mono (Out.post_bind p) (fun a s1 q ι1 H1 x R1 E1 ra => ?_) fun _ _ q => q⟩
  exact hf ι1 s1 H1 x a Q R1 ra (Out.post_mono q (fun _ _ z => z.ext E1) fun _ _ z => z.ext E1)
end
section
variable {X : Cx} {W : XW} {a b e : Expr} {es : List Expr} {ma mb : ME} {pos : Pos}
theorem x_var (i : Nat) {x : Str} (h : PE X (.Name x pos) (tVar i)) : PE X (.Name x pos) (TEo X.K W (mVar i)) := pe_wrap h fun σ H Q q => by
  obtain ⟨ι, env, st, R, EV, p⟩ := q
  unfold mVar at p
  cases e : env[i]? with
  | none => rw [e] at p; exact p.elim
  | some o =>
    rw [e] at p
    cases o with
    | none => exact p.elim
    | some d =>
      obtain ⟨x, h1, h2⟩ := EV.2 i d e
      exact ⟨x, h1, fun _ => p ι H x R Ext.refl h2⟩
theorem x_const {v : V} {d : PyData} (h : PE X e (tC v)) (r : ∀ F H, Rp F H v d) : PE X e (TEo X.K W (mC d)) := pe_wrap h fun σ H Q q => by
  obtain ⟨ι, env, st, R, EV, p⟩ := q
  exact fun _ => p ι H v R Ext.refl (r _ _)
theorem x_int {i : Int} {j} : PE X (.Constant (.int i) j pos) (TEo X.K W (mC (.int i))) := x_const pe_int fun _ _ => .int i
theorem x_bl {i : Bool} {j} : PE X (.Constant (.bool i) j pos) (TEo X.K W (mC (.bool i))) := x_const pe_bl fun _ _ => .bl i
theorem x_str {z : Str} {j} : PE X (.Constant (.str z) j pos) (TEo X.K W (mC (.str z))) := x_const pe_str fun _ _ => .str z
theorem x_op {op : Operator} {r : R2} {f : F2} (ho : OpR X (binaryOp op) r) (hf : Op2 X.K W r f) (ha : PE X a (TEo X.K W ma)) (hb : PE X b (TEo X.K W mb)) : PE X (.BinOp a op b pos) (TEo X.K W (mBin f ma mb)) :=
  pe_wrap (pe_op ho ha hb) fun σ H Q q => te_bin hf q
theorem xa_nil : PA X [] (TAo X.K W mNil) := pa_wrap pa_nil fun σ H Q q => by
  obtain ⟨ι, env, st, R, EV, p⟩ := q
  exact fun _ => p ι H [] R Ext.refl .nil
theorem xa_cons {mr : MA} (ha : PE X e (TEo X.K W ma)) (hr : PA X es (TAo X.K W mr)) (hs : starEach (e :: es) X.env = (false, eval e X.env) :: starEach es X.env := by rfl) : PA X (e :: es) (TAo X.K W (mCons ma mr)) :=
  pa_wrap (pa_cons ha hr hs) fun σ H Q q => by
    obtain ⟨ι, env, st, R, EV, p⟩ := q
    refine ⟨ι, env, st, R, EV, Out.post_mono (Out.post_bind p) (fun a s1 q ι1 H1 x R1 E1 ra => ?_) fun _ _ q => q⟩
    refine ⟨ι1, env, s1, R1, EV.ext E1, Out.post_mono (Out.post_bind q) (fun b s2 q2 ι2 H2 y R2 E2 rb => ?_) fun _ _ z => z.ext E1⟩
    exact fun _ => q2 ι2 H2 (x :: y) R2 (E1.trans E2) (.cons (ra.ext E2) rb)
theorem x_callB {id : String} {x : Str} {p : Pos} {r : List V → Hp → VK → Prop} {f : FA} {m : MA} (hc : CallR X (.builtin id) r) (hf : OpA X.K W r f) (hg : Gl X x) (hm : X.mg x = none) (hv : bootBuiltins x = some (.builtin id)) (ha : PA X (e :: es) (TAo X.K W m)) (hn : x ≠ "__name__" := by decide) (hdb : (x == ("__debug__" : Str)) = false := by decide)
    (he : starEach (e :: es) X.env = (false, eval e X.env) :: starEach es X.env := by rfl) (hpl : (backTo pos (starEach es X.env)).any (·.1) = false := by rfl) : PE X (.Call (.Name x p) (e :: es) [] pos) (TEo X.K W (mArg f m)) :=
  pe_wrap (pe_callB hc hg hm hv ha hn hdb he hpl) fun σ H Q q => te_arg hf q
theorem x_callT {T : String} {x : Str} {p : Pos} {r : List V → Hp → VK → Prop} {f : FA} {m : MA} (hc : CallR X (.type T) r) (hf : OpA X.K W r f) (hg : Gl X x) (hm : X.mg x = none) (hv : bootBuiltins x = some (.type T)) (ha : PA X (e :: es) (TAo X.K W m)) (hn : x ≠ "__name__" := by decide) (hdb : (x == ("__debug__" : Str)) = false := by decide)
    (he : starEach (e :: es) X.env = (false, eval e X.env) :: starEach es X.env := by rfl) (hpl : (backTo pos (starEach es X.env)).any (·.1) = false := by rfl) : PE X (.Call (.Name x p) (e :: es) [] pos) (TEo X.K W (mArg f m)) :=
  pe_wrap (pe_callTy hc hg hm hv ha hn hdb he hpl) fun σ H Q q => te_arg hf q
def valsOf : List D → Option (List PyData)
  | [] => some []
  | .v d :: r => (valsOf r).map (d :: ·)
  | _ :: _ => none
def fTup : FA := fun ds st => match valsOf ds with
  | some zs => if zs.length ≤ 1000 then .ok (.v (.tuple zs)) st else .stuck
  | none => .stuck
theorem lim1000 {n : Nat} (h : n ≤ 1000) : n ≤ sizeLine := Nat.le_of_lt (small1000 h)
theorem valsOf_at {K : PySem.W.Frag} {ι : Gh} {st : Sto} {H : Hp} : ∀ {ds : List D} {zs : List PyData} {xs : List V}, valsOf ds = some zs → RDs K ι st H xs ds → RpA (Frz ι st) H xs zs
  | [], _, _, e, .nil => by cases e; exact .nil
  | .v d :: r, _, _, e, .cons h t => by
    obtain ⟨ws, e1, rfl⟩ := Option.map_eq_some_iff.mp (show (valsOf r).map (d :: ·) = _ from e)
    exact .cons h (valsOf_at e1 t)
theorem xs_len {F : Addr → Prop} {H : Hp} {xs : List V} {ds : List PyData} (r : RpA F H xs ds) {n : Nat} (h : ds.length ≤ n) : xs.length ≤ n := by
  rw [r.length]
  exact h
theorem opTup {K : PySem.W.Frag} {W : XW} : OpA K W (fun xs H Q => xs.length ≤ sizeLine ∧ NewT H xs Q) fTup := by
  intro ι st H xs ds Q R r p
  unfold fTup at p
  cases e : valsOf ds with
  | none => rw [e] at p; exact p.elim
  | some zs =>
    rw [e] at p
    have p : (if zs.length ≤ 1000 then Out.ok (D.v (.tuple zs)) st else .stuck).post (PO1 K ι st H Q) (PX1 K W ι st H) := p
    split at p
    · rename_i hl
      have ra := valsOf_at e r
      exact ⟨lim1000 (xs_len ra hl), fun q o hq ho hf => PO1.newTup p R ra hq ho hf⟩
    · exact p.elim
theorem x_tup {k : Nat} {m : MA} (h : PA X es (TAo X.K W m)) : PE X (.Tuple es k pos) (TEo X.K W (mArg fTup m)) := pe_wrap (pe_tupN h) fun σ H Q q => te_arg opTup q
theorem RDs.length {K : PySem.W.Frag} {ι : Gh} {st : Sto} {H : Hp} {xs : List V} {ds : List D} (h : RDs K ι st H xs ds) : xs.length = ds.length := Paired.length h
end
end Fw
namespace Fw
open PySem PySem.Spec PyProof.Rows L2
def iOf : D → Option Int
  | .v (.int i) => some i
  | _ => none
def bOf : D → Option Bool
  | .v (.bool b) => some b
  | _ => none
def sOf : D → Option Str
  | .v (.str z) => some z
  | _ => none
def tOf : D → Option (List PyData)
  | .v (.tuple xs) => some xs
  | _ => none
def lim : Nat := 1000000
theorem lim_ok {n : Nat} (h : n ≤ lim) : n ≤ sizeLine := Nat.le_trans h (by decide)
section
variable {K : PySem.W.Frag} {W : XW} {ι : Gh} {st : Sto} {H : Hp} {x : V} {d : D}
theorem iOf_at {i : Int} (e : iOf d = some i) (r : RD K ι st H x d) : x = .int i := by
  cases d with
  | v z =>
    cases z with
    | int j =>
      have e' : j = i := Option.some.inj e
      subst e'
      have r' : Rp (Frz ι st) H x (.int j) := r
      cases r'
      rfl
    | _ => cases e
  | _ => cases e
theorem bOf_at {i : Bool} (e : bOf d = some i) (r : RD K ι st H x d) : x = .bl i := by
  cases d with
  | v z =>
    cases z with
    | bool j =>
      have e' : j = i := Option.some.inj e
      subst e'
      have r' : Rp (Frz ι st) H x (.bool j) := r
      cases r'
      rfl
    | _ => cases e
  | _ => cases e
theorem sOf_at {i : Str} (e : sOf d = some i) (r : RD K ι st H x d) : x = .str i := by
  cases d with
  | v z =>
    cases z with
    | str j =>
      have e' : j = i := Option.some.inj e
      subst e'
      have r' : Rp (Frz ι st) H x (.str j) := r
      cases r'
      rfl
    | _ => cases e
  | _ => cases e
theorem tOf_at {ds : List PyData} (e : tOf d = some ds) (r : RD K ι st H x d) : ∃ a xs, x = .ref a ∧ KTup H a xs ∧ RpA (Frz ι st) H xs ds := by
  cases d with
  | v z =>
    cases z with
    | tuple zs =>
      have e' : zs = ds := Option.some.inj e
      subst e'
      have r' : Rp (Frz ι st) H x (.tuple zs) := r
      cases r' with
      | tup h z _ t => exact ⟨_, _, rfl, ⟨_, h, z⟩, t⟩
    | _ => cases e
  | _ => cases e
theorem tOf_eq {ds : List PyData} (e : tOf d = some ds) : d = .v (.tuple ds) := by
  cases d with
  | v z =>
    cases z with
    | tuple zs =>
      have e' : zs = ds := Option.some.inj e
      subst e'
      rfl
    | _ => cases e
  | _ => cases e
end
def addD : F2 := fun a b st =>
  match iOf a, iOf b with
  | some i, some j => .ok (.v (.int (i + j))) st
  | _, _ => match tOf a, tOf b with
    | some xs, some ys => if xs.length + ys.length ≤ lim then .ok (.v (.tuple (xs ++ ys))) st else .stuck
    | _, _ => match viewL st a, viewL st b with
      | some xs, some ys => if xs.length + ys.length ≤ lim then .ok (.v (.list (xs ++ ys))) st else .stuck
      | _, _ => match sOf a, sOf b with
        | some y, some z => if y.length + z.length ≤ lim then .ok (.v (.str (y ++ z))) st else .stuck
        | _, _ => .stuck
def rStrAdd : R2 := fun x y H Q => ∃ i j, x = .str i ∧ y = .str j ∧ i.length + j.length ≤ sizeLine ∧ Q (.str (i ++ j)) H
def rCatN (K : PySem.W.Frag) : R2 := fun x y H Q => ∃ a b xs ys, x = .ref a ∧ y = .ref b ∧ SqT K H a xs ∧ SqT K H b ys ∧ xs.length + ys.length ≤ sizeLine ∧
  (xs = [] → Q (.ref b) H) ∧ (xs ≠ [] → ys = [] → Q (.ref a) H) ∧ (xs ≠ [] → ys ≠ [] → NewT H (xs ++ ys) Q)
theorem op_catN {X : Cx} : OpR X (binaryOp .Add) (rCatN X.K) := by
  intro pins s σ H x y v u Q I rx ry h
  obtain ⟨a, b, xs, ys, rfl, rfl, ha, hb, hz, q0, q1, q2⟩ := h
  cases rx
  cases ry
  obtain ⟨its, r1, p1, _⟩ := I.tuple ha
  obtain ⟨its2, r2, p2, _⟩ := I.tuple hb
  by_cases hx : xs = []
  · subst hx
    cases r1
    exact cat_tup0 p1 p2 ⟨.ref b, H, I, rfl, q0 rfl⟩
  · refine HT.cat_tup p1 p2 (fun z => hx (r1.nil_iff.mp z)) (fun z => ⟨.ref a, H, I, rfl, q1 hx (r2.nil_iff.mp z)⟩) (fun z => ?_) ?_
    · exact (q2 hx fun w => z (r2.nil_iff.mpr w)).laid (t' := s.toks) I (r1.append r2) (by rw [List.length_append]; exact hz)
    · rw [← r1.length, ← r2.length]
      exact hz
def rAddU (K : PySem.W.Frag) : R2 := fun x y H Q => rI0 (fun i j => .int (i + j)) x y H Q ∨ rCatN K x y H Q ∨ rCat x y H Q ∨ rStrAdd x y H Q
theorem or_addU {X : Cx} : OpR X (binaryOp .Add) (rAddU X.K) := op_add.or (op_catN.or (op_cat.or op_add_str))
theorem op2_add {K : PySem.W.Frag} {W : XW} : Op2 K W (rAddU K) addD := by
  intro ι st H x y a b Q R ra rb p
  unfold addD at p
  split at p
  · rename_i i j e1 e2
    exact .inl ⟨i, j, iOf_at e1 ra, iOf_at e2 rb, fun _ => p.same R (.int _)⟩
  · split at p
    · rename_i xs ys e1 e2
      split at p
      · rename_i hl
        obtain ⟨a1, us, rfl, h1, r1⟩ := tOf_at e1 ra
        obtain ⟨b1, vs, rfl, h2, r2⟩ := tOf_at e2 rb
        have hz : us.length + vs.length ≤ sizeLine := by rw [r1.length, r2.length]; exact lim_ok hl
        refine .inr (.inl ⟨a1, b1, us, vs, rfl, rfl, h1.sq, h2.sq, hz, fun z => ?_, fun _ z => ?_, fun _ _ q o hq ho hf => ?_⟩)
        · subst z
          cases r1
          intro _
          rw [tOf_eq e2] at rb
          exact p.same R rb
        · subst z
          cases r2
          intro _
          rw [tOf_eq e1] at ra
          rw [List.append_nil] at p
          exact p.same R ra
        · exact p.newTup R (r1.append r2) hq ho hf
      · exact p.elim
    · split at p
      · rename_i xs ys e1 e2
        split at p
        · rename_i hl
          obtain ⟨a1, us, rfl, h1, r1⟩ := viewL_at R e1 ra
          obtain ⟨b1, vs, rfl, h2, r2⟩ := viewL_at R e2 rb
          have hz : us.length + vs.length ≤ sizeLine := by rw [r1.length, r2.length]; exact lim_ok hl
          exact .inr (.inr (.inl ⟨a1, b1, us, vs, rfl, rfl, h1, h2, hz, fun q hq hf => p.newLst R (r1.append r2) hq hf⟩))
        · exact p.elim
      · split at p
        · rename_i y1 z1 e1 e2
          split at p
          · rename_i hl
            exact .inr (.inr (.inr ⟨y1, z1, sOf_at e1 ra, sOf_at e2 rb, lim_ok hl, fun _ => p.same R (.str _)⟩))
          · exact p.elim
        · exact p.elim
def intD (C : Int → Int → Bool) (g : Int → Int → PyData) : F2 := fun a b st => match iOf a, iOf b with
  | some i, some j => if C i j then .ok (.v (g i j)) st else .stuck
  | _, _ => .stuck
theorem op2_int {K : PySem.W.Frag} {W : XW} {C : Int → Int → Bool} {C' : Int → Int → Prop} {g : Int → Int → PyData} {g' : Int → Int → V} (hc : ∀ i j, C i j = true → C' i j) (hg : ∀ F H i j, Rp F H (g' i j) (g i j)) : Op2 K W (rI C' g') (intD C g) := by
  intro ι st H x y a b Q R ra rb p
  unfold intD at p
  split at p
  · rename_i i j e1 e2
    split at p
    · rename_i h
      exact ⟨i, j, iOf_at e1 ra, iOf_at e2 rb, hc i j h, fun _ => p.same R (hg _ _ i j)⟩
    · exact p.elim
  · exact p.elim
def intD0 (g : Int → Int → PyData) : F2 := fun a b st => match iOf a, iOf b with
  | some i, some j => .ok (.v (g i j)) st
  | _, _ => .stuck
theorem op2_int0 {K : PySem.W.Frag} {W : XW} {g : Int → Int → PyData} {g' : Int → Int → V} (hg : ∀ F H i j, Rp F H (g' i j) (g i j)) : Op2 K W (rI0 g') (intD0 g) := by
  intro ι st H x y a b Q R ra rb p
  unfold intD0 at p
  split at p
  · rename_i i j e1 e2
    exact ⟨i, j, iOf_at e1 ra, iOf_at e2 rb, fun _ => p.same R (hg _ _ i j)⟩
  · exact p.elim
abbrev subD : F2 := intD0 fun i j => .int (i - j)
def cMul (i j : Int) : Bool := (decide (-(2 ^ 64) < i) && decide (i < 2 ^ 64)) || (decide (-(2 ^ 64) < j) && decide (j < 2 ^ 64))
theorem cMul_ok {i j : Int} (h : cMul i j = true) : CMul i j := by
  unfold cMul at h
  simp only [Bool.or_eq_true, Bool.and_eq_true, decide_eq_true_eq] at h
  exact h
def mulD : F2 := fun a b st => match iOf a, iOf b with
  | some i, some j => if cMul i j then .ok (.v (.int (i * j))) st else .stuck
  | _, _ => match viewL st a, iOf b with
    | some xs, some k => if -1000000 ≤ k ∧ k ≤ 1000000 ∧ xs.length * k.toNat ≤ lim then .ok (.v (.list (List.replicate k.toNat xs).flatten)) st else .stuck
    | _, _ => .stuck
theorem op2_mul {K : PySem.W.Frag} {W : XW} : Op2 K W (fun x y H Q => rI CMul (fun i j => .int (i * j)) x y H Q ∨ rRep x y H Q) mulD := by
  intro ι st H x y a b Q R ra rb p
  unfold mulD at p
  split at p
  · rename_i i j e1 e2
    split at p
    · rename_i h
      exact .inl ⟨i, j, iOf_at e1 ra, iOf_at e2 rb, cMul_ok h, fun _ => p.same R (.int _)⟩
    · exact p.elim
  · split at p
    · rename_i xs k e1 e2
      split at p
      · rename_i h
        obtain ⟨a1, us, rfl, h1, r1⟩ := viewL_at R e1 ra
        refine .inr ⟨a1, k, us, rfl, iOf_at e2 rb, h1, by omega, by omega, by rw [r1.length]; exact lim_ok h.2.2, fun q hq hf => p.newLst R (r1.rep _) hq hf⟩
      · exact p.elim
    · exact p.elim
def cDiv (i j : Int) : Bool := decide (j ≠ 0) && decide (j.natAbs < 1073741824)
theorem cDiv_ok {i j : Int} (h : cDiv i j = true) : CDivN i j := by
  unfold cDiv at h
  simp only [Bool.and_eq_true, decide_eq_true_eq] at h
  exact h
abbrev fdivD : F2 := intD cDiv fun i j => .int (i.fdiv j)
abbrev modD : F2 := intD (fun _ j => decide (j ≠ 0)) fun i j => .int (i.fmod j)
section
variable {X : Cx} {W : XW} {a b e : Expr} {ma mb : ME} {pos : Pos}
theorem x_add (ha : PE X a (TEo X.K W ma)) (hb : PE X b (TEo X.K W mb)) : PE X (.BinOp a .Add b pos) (TEo X.K W (mBin addD ma mb)) := x_op or_addU op2_add ha hb
theorem x_sub (ha : PE X a (TEo X.K W ma)) (hb : PE X b (TEo X.K W mb)) : PE X (.BinOp a .Sub b pos) (TEo X.K W (mBin subD ma mb)) := x_op op_sub (op2_int0 fun _ _ _ _ => .int _) ha hb
theorem x_mul (ha : PE X a (TEo X.K W ma)) (hb : PE X b (TEo X.K W mb)) : PE X (.BinOp a .Mult b pos) (TEo X.K W (mBin mulD ma mb)) := x_op (op_mul.or op_rep) op2_mul ha hb
theorem x_fdiv (ha : PE X a (TEo X.K W ma)) (hb : PE X b (TEo X.K W mb)) : PE X (.BinOp a .FloorDiv b pos) (TEo X.K W (mBin fdivD ma mb)) := x_op op_fdivN (op2_int (fun _ _ => cDiv_ok) fun _ _ _ _ => .int _) ha hb
theorem x_mod (ha : PE X a (TEo X.K W ma)) (hb : PE X b (TEo X.K W mb)) : PE X (.BinOp a .Mod b pos) (TEo X.K W (mBin modD ma mb)) := x_op op_modN (op2_int (fun _ _ h => of_decide_eq_true h) fun _ _ _ _ => .int _) ha hb
end
def negD : F1 := fun a st => match iOf a with
  | some i => .ok (.v (.int (-i))) st
  | none => .stuck
abbrev ltD : F2 := intD0 fun i j => .bool (decide (i < j))
abbrev leD : F2 := intD0 fun i j => .bool (decide (i ≤ j))
abbrev gtD : F2 := intD0 fun i j => .bool (decide (j < i))
abbrev geD : F2 := intD0 fun i j => .bool (decide (j ≤ i))
def eqT (st : Sto) (a b : D) : Option Bool := match viewP st a, viewP st b with
  | some x, some y => if SeqAt.shaped x && SeqAt.shaped y then some (PyData.eqv x y) else none
  | _, _ => none
def eqS (st : Sto) (a b : D) : Option Bool := match sOf a, sOf b with
  | some x, some y => some (decide (x = y))
  | _, _ => eqT st a b
def eqD : F2 := fun a b st => match eqS st a b with
  | some k => .ok (.v (.bool k)) st
  | none => .stuck
def neD : F2 := fun a b st => match eqS st a b with
  | some k => .ok (.v (.bool (!k))) st
  | none => .stuck
theorem noDict_of {z : PyData} (h : SeqAt.shaped z = true) : z.hasDict = false := PyData.hasDict_of_canLay _ (SeqAt.canLay_of_shaped h)
theorem eqT_at {K : PySem.W.Frag} {ι : Gh} {st : Sto} {H : Hp} (R : SRel K ι st H) {a b : D} {x y : V} {k : Bool} (e : eqT st a b = some k) (ra : RD K ι st H x a) (rb : RD K ι st H y b) :
    ∃ d e, Dp K H x d ∧ Dp K H y e ∧ SeqAt.shaped d = true ∧ SeqAt.shaped e = true ∧ PyData.eqv d e = k := by
  unfold eqT at e
  split at e
  · rename_i z w e1 e2
    split at e
    · rename_i h
      rw [Bool.and_eq_true] at h
      exact ⟨z, w, viewP_at R e1 ra (noDict_of h.1), viewP_at R e2 rb (noDict_of h.2), h.1, h.2, Option.some.inj e⟩
    · cases e
  · cases e
theorem eqS_at {K : PySem.W.Frag} {ι : Gh} {st : Sto} {H : Hp} (R : SRel K ι st H) {a b : D} {x y : V} {k : Bool} (e : eqS st a b = some k) (ra : RD K ι st H x a) (rb : RD K ι st H y b) :
    (scal x y = true ∧ decide (x = y) = k) ∨ ∃ d e, Dp K H x d ∧ Dp K H y e ∧ SeqAt.shaped d = true ∧ SeqAt.shaped e = true ∧ PyData.eqv d e = k := by
  unfold eqS at e
  split at e
  · rename_i z w e1 e2
    have q1 := sOf_at e1 ra
    have q2 := sOf_at e2 rb
    subst q1 q2
    refine .inl ⟨rfl, ?_⟩
    rw [dec_str, ← Option.some.inj e]
    by_cases h : z = w
    · subst h; simp
    · rw [decide_eq_false h]; exact beq_eq_false_iff_ne.mpr h
  · exact .inr (eqT_at R e ra rb)
def rEqU (K : PySem.W.Frag) : R2 := fun x y H Q => rEq x y H Q ∨ rEqD K x y H Q
def rNeU (K : PySem.W.Frag) : R2 := fun x y H Q => rNe x y H Q ∨ rNeD K x y H Q
theorem op2_eq {K : PySem.W.Frag} {W : XW} : Op2 K W (rEqU K) eqD := by
  intro ι st H x y a b Q R ra rb p
  unfold eqD at p
  split at p
  · rename_i k e
    rcases eqS_at R e ra rb with ⟨h1, h2⟩ | ⟨d, e', h1, h2, h3, h4, h5⟩
    · exact .inl ⟨h1, fun _ => by rw [h2]; exact p.same R (.bl _)⟩
    · exact .inr ⟨d, e', h1, h2, h3, h4, fun _ => by rw [h5]; exact p.same R (.bl _)⟩
  · exact p.elim
theorem op2_ne {K : PySem.W.Frag} {W : XW} : Op2 K W (rNeU K) neD := by
  intro ι st H x y a b Q R ra rb p
  unfold neD at p
  split at p
  · rename_i k e
    rcases eqS_at R e ra rb with ⟨h1, h2⟩ | ⟨d, e', h1, h2, h3, h4, h5⟩
    · exact .inl ⟨h1, fun _ => by rw [h2]; exact p.same R (.bl _)⟩
    · exact .inr ⟨d, e', h1, h2, h3, h4, fun _ => by rw [h5]; exact p.same R (.bl _)⟩
  · exact p.elim
def isS : D → D → Option Bool
  | .v (.bool a), .v (.bool b) => some (decide (a = b))
  | a, .v .none => some (match a with | .v .none => true | _ => false)
  | _, _ => none
def isD : F2 := fun a b st => match isS a b with
  | some k => .ok (.v (.bool k)) st
  | none => .stuck
def isNotD : F2 := fun a b st => match isS a b with
  | some k => .ok (.v (.bool (!k))) st
  | none => .stuck
def flatP : PyData → Bool
  | .list _ | .tuple _ | .dict _ => false
  | _ => true
def inS (st : Sto) (a b : D) : Option Bool := match a, viewS st b with
  | .v x, some ys => if flatP x && ys.all flatP then some (ys.any fun y => PyData.eqv y x)
      else match viewL st b with
        | some _ => if SeqAt.shaped x && SeqAt.shaped (.list ys) then some (ys.any fun y => PyData.eqv y x) else none
        | none => if SeqAt.shaped x && SeqAt.shaped (.tuple ys) then some (ys.any fun y => PyData.eqv y x) else none
  | _, _ => none
def inD : F2 := fun a b st => match inS st a b with
  | some k => .ok (.v (.bool k)) st
  | none => .stuck
def notInD : F2 := fun a b st => match inS st a b with
  | some k => .ok (.v (.bool (!k))) st
  | none => .stuck
theorem flat_of {F : Addr → Prop} {H : Hp} {x : V} {d : PyData} (r : Rp F H x d) (h : flatP d = true) : flatV x = true := by
  cases r <;> first | rfl | exact absurd h Bool.false_ne_true
theorem flatAll_of {F : Addr → Prop} {H : Hp} : ∀ {xs : List V} {ds : List PyData}, RpA F H xs ds → ds.all flatP = true → xs.all flatV = true
  | _, _, .nil, _ => rfl
  | _, _, .cons r t, h => by
    rw [List.all_cons, Bool.and_eq_true] at h
    rw [List.all_cons, flat_of r h.1, flatAll_of t h.2]
    rfl
theorem eqV_of {F : Addr → Prop} {H : Hp} {x y : V} {d e : PyData} (r : Rp F H x d) (q : Rp F H y e) (h : flatP d = true) (h' : flatP e = true) : eqV x y = PyData.eqv d e := by
  cases r <;> first
    | exact absurd h Bool.false_ne_true
    | (cases q <;> first
        | exact absurd h' Bool.false_ne_true
        | rfl
        | simp [eqV, PyData.eqv])
theorem inV_of {F : Addr → Prop} {H : Hp} {x : V} {d : PyData} (r : Rp F H x d) (h : flatP d = true) : ∀ {xs : List V} {ds : List PyData}, RpA F H xs ds → ds.all flatP = true → inV x xs = ds.any fun y => PyData.eqv y d
  | _, _, .nil, _ => rfl
  | _, _, .cons q t, h' => by
    rw [List.all_cons, Bool.and_eq_true] at h'
    have ih := inV_of r h t h'.2
    unfold inV at ih ⊢
    rw [List.any_cons, List.any_cons, ih, eqV_of q r h'.1 h]
theorem inS_at {K : PySem.W.Frag} {ι : Gh} {st : Sto} {H : Hp} (R : SRel K ι st H) {a b : D} {x y : V} {k : Bool} (e : inS st a b = some k) (ra : RD K ι st H x a) (rb : RD K ι st H y b) :
    (∃ p xs, y = .ref p ∧ (SqL K H p xs ∨ SqT K H p xs) ∧ flatV x = true ∧ xs.all flatV = true ∧ inV x xs = k) ∨
    (∃ d ds, Dp K H x d ∧ Dp K H y (.list ds) ∧ SeqAt.shaped d = true ∧ SeqAt.shaped (.list ds) = true ∧ (ds.any fun z => PyData.eqv z d) = k) ∨
    ∃ d ds, Dp K H x d ∧ Dp K H y (.tuple ds) ∧ SeqAt.shaped d = true ∧ SeqAt.shaped (.tuple ds) = true ∧ (ds.any fun z => PyData.eqv z d) = k := by
  unfold inS at e
  split at e
  · rename_i d ys e1
    obtain ⟨p, xs, rfl, h1, h2⟩ := viewS_at R e1 rb
    split at e
    · rename_i hf
      rw [Bool.and_eq_true] at hf
      exact .inl ⟨p, xs, rfl, h1.imp .of KTup.sq, flat_of ra hf.1, flatAll_of h2 hf.2, (inV_of ra hf.1 h2 hf.2).trans (Option.some.inj e)⟩
    · split at e
      · rename_i zs e2
        split at e
        · rename_i hs
          rw [Bool.and_eq_true] at hs
          refine .inr (.inl ⟨d, ys, viewP_at R rfl ra (noDict_of hs.1), ?_, hs.1, hs.2, Option.some.inj e⟩)
          obtain ⟨a2, us, e3, h3, h4⟩ := viewL_at R e2 rb
          cases e3
          have eq : ys = zs := by
            have : viewS st b = viewL st b := by
              cases b with
              | v w =>
                cases w with
                | tuple _ => cases e2
                | _ => rfl
              | _ => rfl
            rw [this, e2] at e1
            exact (Option.some.inj e1).symm
          subst eq
          exact .lst (.of h3) (h4.dp (by simpa [PyData.hasDict] using noDict_of hs.2))
        · cases e
      · rename_i e2
        split at e
        · rename_i hs
          rw [Bool.and_eq_true] at hs
          have eb : b = .v (.tuple ys) := by
            cases b with
            | v w =>
              cases w with
              | tuple zs => cases e1; rfl
              | _ => exact absurd (e2.symm.trans e1) (fun z => nomatch z)
            | _ => exact absurd (e2.symm.trans e1) (fun z => nomatch z)
          subst eb
          exact .inr (.inr ⟨d, ys, viewP_at R rfl ra (noDict_of hs.1), viewP_at R rfl rb (noDict_of hs.2), hs.1, hs.2, Option.some.inj e⟩)
        · cases e
  · cases e
def rInDT (K : PySem.W.Frag) : R2 := fun x y H Q => ∃ d ds, Dp K H x d ∧ Dp K H y (.tuple ds) ∧ SeqAt.shaped d = true ∧ SeqAt.shaped (.tuple ds) = true ∧ Q (.bl (ds.any fun z => PyData.eqv z d)) H
def rNotInDT (K : PySem.W.Frag) : R2 := fun x y H Q => ∃ d ds, Dp K H x d ∧ Dp K H y (.tuple ds) ∧ SeqAt.shaped d = true ∧ SeqAt.shaped (.tuple ds) = true ∧ Q (.bl (!(ds.any fun z => PyData.eqv z d))) H
theorem op_inDT {X : Cx} (hu : X.A.units + 65 < cLine) : OpR X (compareOp .In) (rInDT X.K) := by
  rintro pins s σ H x y v u Q I rx ry ⟨d, ds, hd, he, sd, se, q⟩
  obtain ⟨as, r1⟩ := Dp.reads I d x v hd rx
  obtain ⟨bs, r2⟩ := Dp.reads I (.tuple ds) y u he ry
  exact SeqAt.in_tuple_reads r2 r1 (SeqAt.canLay_of_shaped se) (SeqAt.canLay_of_shaped sd) (room_in_shaped sd hu) ⟨.bl _, H, I, rfl, q⟩
theorem op_notInDT {X : Cx} (hu : X.A.units + 65 < cLine) : OpR X (compareOp .NotIn) (rNotInDT X.K) := by
  rintro pins s σ H x y v u Q I rx ry ⟨d, ds, hd, he, sd, se, q⟩
  obtain ⟨as, r1⟩ := Dp.reads I d x v hd rx
  obtain ⟨bs, r2⟩ := Dp.reads I (.tuple ds) y u he ry
  exact SeqAt.notIn_tuple_reads r2 r1 (SeqAt.canLay_of_shaped se) (SeqAt.canLay_of_shaped sd) (room_in_shaped sd hu) ⟨.bl _, H, I, rfl, q⟩
def rInU (K : PySem.W.Frag) : R2 := fun x y H Q => rIn K false x y H Q ∨ rInD K x y H Q ∨ rInDT K x y H Q
def rNotInU (K : PySem.W.Frag) : R2 := fun x y H Q => rIn K true x y H Q ∨ rNotInD K x y H Q ∨ rNotInDT K x y H Q
theorem op2_in {K : PySem.W.Frag} {W : XW} : Op2 K W (rInU K) inD := by
  intro ι st H x y a b Q R ra rb p
  unfold inD at p
  split at p
  · rename_i k e
    rcases inS_at R e ra rb with ⟨q, xs, h1, h2, h3, h4, h5⟩ | ⟨d, ds, h1, h2, h3, h4, h5⟩ | ⟨d, ds, h1, h2, h3, h4, h5⟩
    · refine .inl ⟨q, xs, h1, h2, h3, h4, fun _ => ?_⟩
      rw [if_neg Bool.false_ne_true, h5]
      exact p.same R (.bl _)
    · exact .inr (.inl ⟨d, ds, h1, h2, h3, h4, fun _ => by rw [h5]; exact p.same R (.bl _)⟩)
    · exact .inr (.inr ⟨d, ds, h1, h2, h3, h4, fun _ => by rw [h5]; exact p.same R (.bl _)⟩)
  · exact p.elim
theorem op2_notIn {K : PySem.W.Frag} {W : XW} : Op2 K W (rNotInU K) notInD := by
  intro ι st H x y a b Q R ra rb p
  unfold notInD at p
  split at p
  · rename_i k e
    rcases inS_at R e ra rb with ⟨q, xs, h1, h2, h3, h4, h5⟩ | ⟨d, ds, h1, h2, h3, h4, h5⟩ | ⟨d, ds, h1, h2, h3, h4, h5⟩
    · refine .inl ⟨q, xs, h1, h2, h3, h4, fun _ => ?_⟩
      rw [if_pos rfl, h5]
      exact p.same R (.bl _)
    · exact .inr (.inl ⟨d, ds, h1, h2, h3, h4, fun _ => by rw [h5]; exact p.same R (.bl _)⟩)
    · exact .inr (.inr ⟨d, ds, h1, h2, h3, h4, fun _ => by rw [h5]; exact p.same R (.bl _)⟩)
  · exact p.elim
end Fw
namespace Fw
open PySem PySem.Spec PyProof.Rows L2
structure Gd (X : Cx) : Prop where
  calm : X.calm = true
  gu : X.A.guards = some []
  un : X.A.units + 150 < cLine
theorem pe_or {X : Cx} {e : Expr} {t u : TE} (h : PE X e t) (h' : PE X e u) : PE X e (fun σ H Q => t σ H Q ∨ u σ H Q) :=
  ⟨fun pins s σ H Q I q => q.elim (h.run pins s σ H Q I) (h'.run pins s σ H Q I)⟩
theorem te_or {K : PySem.W.Frag} {W : XW} {σ : L2.St} {H : Hp} {Q : VK} {ma mb : ME} {f g h : F2} (hc : ∀ a b st, h a b st = f a b st ∨ h a b st = g a b st) (q : TEo K W (mBin h ma mb) σ H Q) : TEo K W (mBin f ma mb) σ H Q ∨ TEo K W (mBin g ma mb) σ H Q := by
  obtain ⟨ι, env, st, R, EV, p⟩ := q
  have key : mBin h ma mb env st = mBin f ma mb env st ∨ mBin h ma mb env st = mBin g ma mb env st := by
    unfold mBin
    cases ma env st with
    | ok a s1 =>
      cases e : mb env s1 with
      | ok b s2 =>
        simp only [bind_ok, e]
        exact hc a b s2
      | exn _ _ => exact .inl (by simp only [bind_ok, e, bind_exn])
      | stuck => exact .inl (by simp only [bind_ok, e, bind_stuck])
    | exn _ _ => exact .inl rfl
    | stuck => exact .inl rfl
  rcases key with e | e <;> rw [e] at p
  · exact .inl ⟨ι, env, st, R, EV, p⟩
  · exact .inr ⟨ι, env, st, R, EV, p⟩
def key1 : PyData → Option Key
  | .int i => some (.inl i)
  | .str z => some (.inr z)
  | _ => none
def keysT : List PyData → Option (List Key)
  | [] => some []
  | d :: r => match key1 d, keysT r with
    | some k, some ks => some (k :: ks)
    | _, _ => none
def keyT : PyData → Option (List Key)
  | .tuple ds => keysT ds
  | _ => none
def keq (t : Bool) (a b : PyData) : Bool := if t then decide (keyT a = keyT b) else decide (key1 a = key1 b)
def getK (t : Bool) (kvs : List (PyData × D)) (k : PyData) : Option D := (kvs.find? fun p => keq t p.1 k).map (·.2)
def isTK : List (PyData × PyData) → Bool
  | (.tuple _, _) :: _ => true
  | _ => false
def viewK (st : Sto) : D → Option (Bool × List (PyData × D))
  | .v (.dict kvs) => some (isTK kvs, kvs.map fun p => (p.1, .v p.2))
  | .ref n => match st[n]? with
    | some (.dct t kvs) => some (t, kvs)
    | some (.lck false kvs) => some (false, kvs)
    | _ => none
  | _ => none
theorem key1_kD (k : Key) : key1 (kD k) = some k := by cases k <;> rfl
theorem keysT_kD : ∀ ks : List Key, keysT (ks.map kD) = some ks
  | [] => rfl
  | k :: r => by
    rw [List.map_cons]
    unfold keysT
    rw [key1_kD, keysT_kD r]
theorem kD_of {d : PyData} {k : Key} (h : key1 d = some k) : d = kD k := by
  cases d with
  | int i => cases h; rfl
  | str z => cases h; rfl
  | _ => cases h
theorem kV_of {F : Addr → Prop} {H : Hp} {x : V} {k : Key} (r : Rp F H x (kD k)) : x = kV k := by
  cases k <;> (cases r; rfl)
section
variable {K : PySem.W.Frag} {ι : Gh} {st : Sto} {H : Hp}
def ROpt (K : PySem.W.Frag) (ι : Gh) (st : Sto) (H : Hp) : Option D → Option V → Prop
  | some d, some x => RD K ι st H x d
  | none, none => True
  | _, _ => False
theorem RK.get {kd : PyData} {k : Key} (hk : key1 kd = some k) : ∀ {kvs : List (PyData × D)} {xs : List (Key × V)}, RK K ι st H kvs xs → ROpt K ι st H (getK false kvs kd) (valV xs k)
  | _, _, .nil => trivial
  | _, _, .cons (a := p) (b := q) h t => by
    have ih := RK.get hk t
    unfold getK at ih ⊢
    by_cases e : q.1 = k
    · rw [valV_pos e]
      have e2 : keq false p.1 kd = true := by
        unfold keq
        rw [if_neg Bool.false_ne_true, h.1, key1_kD, hk, e, decide_eq_true rfl]
      rw [List.find?_cons, e2]
      exact h.2
    · rw [valV_neg e]
      have e2 : keq false p.1 kd = false := by
        unfold keq
        rw [if_neg Bool.false_ne_true, h.1, key1_kD, hk]
        exact decide_eq_false fun z => e (Option.some.inj z)
      rw [List.find?_cons, e2]
      exact ih
theorem RT.get {kd : PyData} {k : List Key} (hk : keyT kd = some k) : ∀ {kvs : List (PyData × D)} {xs : List (List Key × V)}, RT K ι st H kvs xs → ROpt K ι st H (getK true kvs kd) (valV xs k)
  | _, _, .nil => trivial
  | _, _, .cons (a := p) (b := q) h t => by
    have ih := RT.get hk t
    unfold getK at ih ⊢
    have kt : keyT p.1 = some q.1 := by rw [h.1]; exact keysT_kD q.1
    by_cases e : q.1 = k
    · rw [valV_pos e]
      have e2 : keq true p.1 kd = true := by
        unfold keq
        rw [if_pos rfl, kt, hk, e, decide_eq_true rfl]
      rw [List.find?_cons, e2]
      exact h.2
    · rw [valV_neg e]
      have e2 : keq true p.1 kd = false := by
        unfold keq
        rw [if_pos rfl, kt, hk]
        exact decide_eq_false fun z => e (Option.some.inj z)
      rw [List.find?_cons, e2]
      exact ih
theorem RpK.rk : ∀ {xs : List (Key × V)} {ds : List (PyData × PyData)}, RpK (Frz ι st) H xs ds → RK K ι st H (ds.map fun p => (p.1, D.v p.2)) xs
  | _, _, .nil => .nil
  | _, _, .cons h r => .cons ⟨rfl, h⟩ (RpK.rk r)
theorem RpT.rt : ∀ {xs : List (List Key × V)} {ds : List (PyData × PyData)}, RpT (Frz ι st) H xs ds → RT K ι st H (ds.map fun p => (p.1, D.v p.2)) xs
  | _, _, .nil => .nil
  | _, _, .cons h r => .cons ⟨rfl, h⟩ (RpT.rt r)
theorem RpK.kind : ∀ {xs : List (Key × V)} {ds : List (PyData × PyData)}, RpK (Frz ι st) H xs ds → isTK ds = false
  | _, _, .nil => rfl
  | _, _, .cons (k := k) h r => by cases k <;> rfl
theorem RpT.kind : ∀ {xs : List (List Key × V)} {ds : List (PyData × PyData)}, RpT (Frz ι st) H xs ds → ds ≠ [] → isTK ds = true
  | _, _, .nil, h => absurd rfl h
  | _, _, .cons _ _, _ => rfl
theorem viewK_at (R : SRel K ι st H) {x : V} {d : D} {t : Bool} {kvs : List (PyData × D)} (e : viewK st d = some (t, kvs)) (r : RD K ι st H x d) :
    ∃ a, x = .ref a ∧ ((t = false ∧ ∃ xs, Rd H a (.dK xs) ∧ RK K ι st H kvs xs) ∨ (t = true ∧ ∃ xs, Rd H a (.dT xs) ∧ RT K ι st H kvs xs)) := by
  cases d with
  | v z =>
    cases z with
    | dict zs =>
      have e' := Option.some.inj e
      injection e' with e1 e2
      subst e1 e2
      have r' : Rp (Frz ι st) H x (.dict zs) := r
      cases r' with
      | dcK h _ q => exact ⟨_, rfl, .inl ⟨q.kind, _, h, q.rk⟩⟩
      | dcT h _ q z => exact ⟨_, rfl, .inr ⟨q.kind z, _, h, q.rt⟩⟩
    | _ => cases e
  | scr ns => cases e
  | ref n =>
    obtain ⟨a, h1, h2⟩ := r
    cases q : st[n]? with
    | none => simp only [viewK, q] at e; cases e
    | some o =>
      simp only [viewK, q] at e
      have ro := R.obj n o a q h1
      cases o with
      | dct t' kvs' =>
        have e' := Option.some.inj e
        injection e' with e1 e2
        subst e1 e2
        cases t' with
        | false => obtain ⟨xs, h3, h4⟩ := ro; exact ⟨a, h2, .inl ⟨rfl, xs, .inl h3, h4⟩⟩
        | true => obtain ⟨xs, h3, h4⟩ := ro; exact ⟨a, h2, .inr ⟨rfl, xs, .inl h3, h4⟩⟩
      | lck t' kvs' =>
        cases t' with
        | true => cases e
        | false =>
          have e' := Option.some.inj e
          injection e' with e1 e2
          subst e1 e2
          obtain ⟨xs, o, h3, h4⟩ := ro; exact ⟨a, h2, .inl ⟨rfl, xs, .inr ⟨o, h3⟩, h4⟩⟩
      | _ => cases e
end
def findS (st : Sto) (a b : D) : Option (Option D) := match viewK st a, b with
  | some (false, kvs), .v kd => match key1 kd with
    | some _ => some (getK false kvs kd)
    | none => none
  | _, _ => none
theorem findS_at {K : PySem.W.Frag} {ι : Gh} {st : Sto} {H : Hp} (R : SRel K ι st H) {a b : D} {x y : V} {o : Option D} (e : findS st a b = some o) (ra : RD K ι st H x a) (rb : RD K ι st H y b) :
    ∃ p r, x = .ref p ∧ DGet H p y r ∧ ROpt K ι st H o r := by
  unfold findS at e
  split at e
  · rename_i kvs kd e1
    split at e
    · rename_i k e2
      obtain ⟨p, rfl, ⟨_, xs, h1, h2⟩ | ⟨z, _⟩⟩ := viewK_at R e1 ra
      · have rb' : Rp (Frz ι st) H y kd := rb
        rw [kD_of e2] at rb'
        rw [← Option.some.inj e]
        exact ⟨p, valV xs k, rfl, .inl ⟨xs, k, h1, kV_of rb', rfl⟩, RK.get e2 h2⟩
      · cases z
    · cases e
  · cases e
def lookD : F2 := fun a b st => match findS st a b with
  | some (some d) => .ok d st
  | _ => .stuck
def rDGet : R2 := fun x y H Q => ∃ a v, x = .ref a ∧ DGet H a y (some v) ∧ Q v H
theorem op2_look {K : PySem.W.Frag} {W : XW} : Op2 K W rDGet lookD := by
  intro ι st H x y a b Q R ra rb p
  unfold lookD at p
  split at p
  · rename_i d e
    obtain ⟨q, r, h1, h2, h3⟩ := findS_at R e ra rb
    cases r with
    | none => exact h3.elim
    | some v => exact ⟨q, v, h1, h2, fun _ => p.same R h3⟩
  · exact p.elim
def ixD : F2 := fun a b st => match viewS st a, iOf b with
  | some xs, some i => match atI xs i with
    | some d => .ok (.v d) st
    | none => .stuck
  | _, _ => match sOf a, iOf b with
    | some z, some i => if z.length ≤ lim then match atI z.cps.toList i with
        | some c => .ok (.v (.str ⟨#[c]⟩)) st
        | none => .stuck
      else .stuck
    | _, _ => .stuck
theorem atI_rp {F : Addr → Prop} {H : Hp} {xs : List V} {ds : List PyData} (r : RpA F H xs ds) {i : Int} {d : PyData} (h : atI ds i = some d) : ∃ x, atI xs i = some x ∧ Rp F H x d := by
  unfold atI at h ⊢
  obtain ⟨j, h1, h2⟩ := Option.bind_eq_some_iff.mp h
  obtain ⟨x, h3, h4⟩ := r.get h2
  exact ⟨x, Option.bind_eq_some_iff.mpr ⟨j, by rw [r.length]; exact h1, h3⟩, h4⟩
theorem op2_ix {K : PySem.W.Frag} {W : XW} : Op2 K W (rIx K) ixD := by
  intro ι st H x y a b Q R ra rb p
  unfold ixD at p
  split at p
  · rename_i xs i e1 e2
    split at p
    · rename_i d e3
      obtain ⟨q, us, rfl, h1, h2⟩ := viewS_at R e1 ra
      obtain ⟨z, h3, h4⟩ := atI_rp h2 e3
      rcases h1 with h1 | h1
      · exact .inl ⟨q, us, i, z, rfl, iOf_at e2 rb, .of h1, h3, fun _ => p.same R h4⟩
      · exact .inr (.inl ⟨q, us, i, z, rfl, iOf_at e2 rb, h1.sq, h3, fun _ => p.same R h4⟩)
    · exact p.elim
  · split at p
    · rename_i z i e1 e2
      split at p
      · rename_i hl
        split at p
        · rename_i c e3
          exact .inr (.inr ⟨z, i, c, sOf_at e1 ra, iOf_at e2 rb, lim_ok hl, e3, fun _ => p.same R (.str _)⟩)
        · exact p.elim
      · exact p.elim
    · exact p.elim
def subsD : F2 := fun a b st => match viewK st a with
  | some _ => lookD a b st
  | none => ixD a b st
section
variable {X : Cx} {W : XW} {a b e : Expr} {ma mb : ME} {pos : Pos}
theorem x_sub' (g : Gd X) (ha : PE X a (TEo X.K W ma)) (hb : PE X b (TEo X.K W mb)) (hs : PlainIx b := by exact fun _ _ => rfl) : PE X (.Subscript a b pos) (TEo X.K W (mBin subsD ma mb)) := by
  have h1 := pe_dget (pos := pos) (by have := g.un; omega) ha hb hs
  have h2 := pe_ix (pos := pos) ix_seq ha hb hs
  refine pe_wrap (pe_or h1 h2) fun σ H Q q => ?_
  have q' := te_or (f := lookD) (g := ixD) (fun a b st => by
    unfold subsD
    cases viewK st a <;> simp) q
  exact q'.imp (fun z => te_bin op2_look z) fun z => te_bin op2_ix z
def dinD : F2 := fun a b st => match findS st b a with
  | some o => .ok (.v (.bool o.isSome)) st
  | none => .stuck
def dnotinD : F2 := fun a b st => match findS st b a with
  | some o => .ok (.v (.bool (!o.isSome))) st
  | none => .stuck
def rDIn : R2 := fun y x H Q => ∃ a o, x = .ref a ∧ DGet H a y o ∧ Q (.bl o.isSome) H
def rDNotIn : R2 := fun y x H Q => ∃ a o, x = .ref a ∧ DGet H a y o ∧ Q (.bl (!o.isSome)) H
theorem ROpt.isSome {K : PySem.W.Frag} {ι : Gh} {st : Sto} {H : Hp} : ∀ {o : Option D} {r : Option V}, ROpt K ι st H o r → r.isSome = o.isSome
  | some _, some _, _ => rfl
  | none, none, _ => rfl
  | some _, none, h => h.elim
  | none, some _, h => h.elim
theorem op2_din {K : PySem.W.Frag} : Op2 K W rDIn dinD := by
  intro ι st H x y a b Q R ra rb p
  unfold dinD at p
  split at p
  · rename_i o e
    obtain ⟨q, r, h1, h2, h3⟩ := findS_at R e rb ra
    exact ⟨q, r, h1, h2, fun _ => by rw [h3.isSome]; exact p.same R (.bl _)⟩
  · exact p.elim
theorem op2_dnotin {K : PySem.W.Frag} : Op2 K W rDNotIn dnotinD := by
  intro ι st H x y a b Q R ra rb p
  unfold dnotinD at p
  split at p
  · rename_i o e
    obtain ⟨q, r, h1, h2, h3⟩ := findS_at R e rb ra
    exact ⟨q, r, h1, h2, fun _ => by rw [h3.isSome]; exact p.same R (.bl _)⟩
  · exact p.elim
def inU : F2 := fun a b st => match viewK st b with
  | some _ => dinD a b st
  | none => inD a b st
def notInU : F2 := fun a b st => match viewK st b with
  | some _ => dnotinD a b st
  | none => notInD a b st
theorem pc_wrap {op : CmpOp} {t : TE} {m : ME} (h : PC X op a b t) (hi : ∀ σ H Q, TEo X.K W m σ H Q → t σ H (fun v H' => HF H' → Q v H')) : PC X op a b (TEo X.K W m) :=
  ⟨fun pins s σ H Q I q => thn (h.run pins s σ H _ I (hi σ H Q q)) fun _ _ h1 => thn h1 fun _ _ h2 => thn h2 fun _ _ ⟨v, H', I', r, q'⟩ => ⟨v, H', I', r, q' (hf_of I')⟩⟩
theorem pc_R {op : CmpOp} {r : R2} {ta tb : TE} (ho : OpR X (compareOp op) r) (ha : PE X a ta) (hb : PE X b tb) : PC X op a b (tOp r ta tb) :=
  ⟨fun pins s σ H Q I h => binT ha hb I h fun v u s2 x y H2 I2 rx ry q => ho pins s2 σ H2 x y v u Q I2 rx ry q⟩
theorem pc_or {op : CmpOp} {t u : TE} (h : PC X op a b t) (h' : PC X op a b u) : PC X op a b (fun σ H Q => t σ H Q ∨ u σ H Q) :=
  ⟨fun pins s σ H Q I q => q.elim (h.run pins s σ H Q I) (h'.run pins s σ H Q I)⟩
theorem c_op {op : CmpOp} {r : R2} {f : F2} (ho : OpR X (compareOp op) r) (hf : Op2 X.K W r f) (ha : PE X a (TEo X.K W ma)) (hb : PE X b (TEo X.K W mb)) : PC X op a b (TEo X.K W (mBin f ma mb)) :=
  pc_wrap (pc_R ho ha hb) fun σ H Q q => te_bin hf q
theorem c_in (g : Gd X) (ha : PE X a (TEo X.K W ma)) (hb : PE X b (TEo X.K W mb)) : PC X .In a b (TEo X.K W (mBin inU ma mb)) := by
  have un := g.un
  refine pc_wrap (pc_or (pc_din (X := X) (by omega) ha hb) (pc_R (op_in_seq.or ((op_inD (X := X) (by omega)).or (op_inDT (X := X) (by omega)))) ha hb)) fun σ H Q q => ?_
  have q' := te_or (f := dinD) (g := inD) (fun a b st => by
    unfold inU
    cases viewK st b <;> simp) q
  exact q'.imp (fun z => te_bin op2_din z) fun z => te_bin op2_in z
theorem c_notIn (g : Gd X) (ha : PE X a (TEo X.K W ma)) (hb : PE X b (TEo X.K W mb)) : PC X .NotIn a b (TEo X.K W (mBin notInU ma mb)) := by
  have un := g.un
  refine pc_wrap (pc_or (pc_dnotin (X := X) (by omega) ha hb) (pc_R (op_notIn_seq.or ((op_notInD (X := X) (by omega)).or (op_notInDT (X := X) (by omega)))) ha hb)) fun σ H Q q => ?_
  have q' := te_or (f := dnotinD) (g := notInD) (fun a b st => by
    unfold notInU
    cases viewK st b <;> simp) q
  exact q'.imp (fun z => te_bin op2_dnotin z) fun z => te_bin op2_notIn z
theorem c_lt (ha : PE X a (TEo X.K W ma)) (hb : PE X b (TEo X.K W mb)) : PC X .Lt a b (TEo X.K W (mBin ltD ma mb)) := c_op op_lt (op2_int0 fun _ _ _ _ => .bl _) ha hb
theorem c_gt (ha : PE X a (TEo X.K W ma)) (hb : PE X b (TEo X.K W mb)) : PC X .Gt a b (TEo X.K W (mBin gtD ma mb)) := c_op op_gt (op2_int0 fun _ _ _ _ => .bl _) ha hb
theorem c_ge (ha : PE X a (TEo X.K W ma)) (hb : PE X b (TEo X.K W mb)) : PC X .GtE a b (TEo X.K W (mBin geD ma mb)) := c_op op_ge (op2_int0 fun _ _ _ _ => .bl _) ha hb
theorem c_eq (g : Gd X) (ha : PE X a (TEo X.K W ma)) (hb : PE X b (TEo X.K W mb)) : PC X .Eq a b (TEo X.K W (mBin eqD ma mb)) := c_op (op_eq.or (op_eqD (by have := g.un; omega))) op2_eq ha hb
theorem c_ne (g : Gd X) (ha : PE X a (TEo X.K W ma)) (hb : PE X b (TEo X.K W mb)) : PC X .NotEq a b (TEo X.K W (mBin neD ma mb)) := c_op (op_ne.or (op_neD (by have := g.un; omega))) op2_ne ha hb
end
def fLen : FA := fun ds st => match ds with
  | [d] => match viewS st d with
    | some xs => .ok (.v (.int xs.length)) st
    | none => match sOf d with
      | some z => if z.length ≤ lim then .ok (.v (.int z.length)) st else .stuck
      | none => .stuck
  | _ => .stuck
theorem RDs.one {K : PySem.W.Frag} {ι : Gh} {st : Sto} {H : Hp} {xs : List V} {d : D} (r : RDs K ι st H xs [d]) : ∃ x, xs = [x] ∧ RD K ι st H x d := by
  cases r with
  | cons h t => cases t; exact ⟨_, rfl, h⟩
theorem RDs.two {K : PySem.W.Frag} {ι : Gh} {st : Sto} {H : Hp} {xs : List V} {d e : D} (r : RDs K ι st H xs [d, e]) : ∃ x y, xs = [x, y] ∧ RD K ι st H x d ∧ RD K ι st H y e := by
  cases r with
  | cons h t =>
    obtain ⟨y, rfl, r2⟩ := RDs.one t
    exact ⟨_, y, rfl, h, r2⟩
theorem opA_len {K : PySem.W.Frag} {W : XW} : OpA K W (fun xs H Q => ∃ x n, xs = [x] ∧ LenV K x H n ∧ Q (.int n) H) fLen := by
  intro ι st H xs ds Q R r p
  unfold fLen at p
  split at p
  · rename_i d
    obtain ⟨x, rfl, r1⟩ := r.one
    split at p
    · rename_i zs e
      obtain ⟨q, us, rfl, h1, h2⟩ := viewS_at R e r1
      refine ⟨_, zs.length, rfl, h1.imp (fun h => ⟨us, .of h, h2.length.symm⟩) (fun h => ⟨us, h.sq, h2.length.symm⟩), fun _ => p.same R (.int _)⟩
    · split at p
      · rename_i z e
        split at p
        · rename_i hl
          have e2 := sOf_at e r1
          subst e2
          exact ⟨_, z.length, rfl, ⟨lim_ok hl, rfl⟩, fun _ => p.same R (.int _)⟩
        · exact p.elim
      · exact p.elim
  · exact p.elim
def fAbs : FA := fun ds st => match ds with
  | [d] => match iOf d with
    | some i => .ok (.v (.int (if i < 0 then -i else i))) st
    | none => .stuck
  | _ => .stuck
theorem opA_abs {K : PySem.W.Frag} {W : XW} : OpA K W (fun xs H Q => ∃ i, xs = [.int i] ∧ Q (.int (if i < 0 then -i else i)) H) fAbs := by
  intro ι st H xs ds Q R r p
  unfold fAbs at p
  split at p
  · obtain ⟨x, rfl, r1⟩ := r.one
    split at p
    · rename_i i e
      have e2 := iOf_at e r1
      subst e2
      exact ⟨i, rfl, fun _ => p.same R (.int _)⟩
    · exact p.elim
  · exact p.elim
def fInt : FA := fun ds st => match ds with
  | [d] => match iOf d with
    | some i => .ok (.v (.int i)) st
    | none => match bOf d with
      | some k => .ok (.v (.int (if k then 1 else 0))) st
      | none => .stuck
  | _ => .stuck
theorem opA_int {K : PySem.W.Frag} {W : XW} : OpA K W (fun xs H Q => (∃ i, xs = [.int i] ∧ Q (.int i) H) ∨ ∃ k, xs = [.bl k] ∧ Q (.int (if k then 1 else 0)) H) fInt := by
  intro ι st H xs ds Q R r p
  unfold fInt at p
  split at p
  · obtain ⟨x, rfl, r1⟩ := r.one
    split at p
    · rename_i i e
      have e2 := iOf_at e r1
      subst e2
      exact .inl ⟨i, rfl, fun _ => p.same R (.int _)⟩
    · split at p
      · rename_i i e
        have e2 := bOf_at e r1
        subst e2
        exact .inr ⟨i, rfl, fun _ => p.same R (.int _)⟩
      · exact p.elim
  · exact p.elim
def f2I (g : Int → Int → Int) : FA := fun ds st => match ds with
  | [a, b] => match iOf a, iOf b with
    | some i, some j => .ok (.v (.int (g i j))) st
    | _, _ => .stuck
  | _ => .stuck
def intMax (i j : Int) : Int := if j > i then j else i
def intsOf : List PyData → Option (List Int)
  | [] => some []
  | .int i :: r => (intsOf r).map (i :: ·)
  | _ :: _ => none
theorem intsOf_at {F : Addr → Prop} {H : Hp} : ∀ {ds : List PyData} {ns : List Int} {xs : List V}, intsOf ds = some ns → RpA F H xs ds → xs = ns.map V.int
  | [], ns, _, e, .nil => by cases e; rfl
  | d :: r, ns, _, e, .cons h t => by
    cases d with
    | int i =>
      obtain ⟨ms, e1, rfl⟩ := Option.map_eq_some_iff.mp (show (intsOf r).map (i :: ·) = some ns from e)
      cases h
      rw [intsOf_at e1 t]
      rfl
    | _ => cases e
end Fw
namespace Fw
open PySem PySem.Spec PyProof.Rows L2
def lstMax : List Int → Int
  | [] => 0
  | [a] => a
  | a :: r => max a (lstMax r)
def lstMin : List Int → Int
  | [] => 0
  | [a] => a
  | a :: r => min a (lstMin r)
theorem lstMax_uniq : ∀ {ns : List Int} {m : Int}, m ∈ ns → (∀ y ∈ ns, y ≤ m) → m = lstMax ns
  | [], _, h, _ => by cases h
  | [a], m, h, _ => by simpa [lstMax] using h
  | a :: b :: r, m, h, hm => by
    have e : lstMax (a :: b :: r) = max a (lstMax (b :: r)) := rfl
    rw [e]
    have key : ∀ (l : List Int), l ≠ [] → lstMax l ∈ l ∧ ∀ y ∈ l, y ≤ lstMax l := by
      intro l
      induction l with
      | nil => intro h; exact absurd rfl h
      | cons x t ih =>
        intro _
        cases t with
        | nil => simp [lstMax]
        | cons y t =>
          obtain ⟨i1, i2⟩ := ih (by simp)
          have e : lstMax (x :: y :: t) = max x (lstMax (y :: t)) := rfl
          rw [e]
          constructor
          · by_cases hx : x ≤ lstMax (y :: t)
            · rw [Int.max_eq_right hx]; exact List.mem_cons_of_mem _ i1
            · rw [Int.max_eq_left (by omega)]; exact List.mem_cons_self
          · intro z hz
            rcases List.mem_cons.mp hz with rfl | hz
            · omega
            · have := i2 z hz; omega
    obtain ⟨k1, k2⟩ := key (b :: r) (by simp)
    rcases List.mem_cons.mp h with rfl | h
    · have := hm _ (List.mem_cons_of_mem _ k1)
      omega
    · have h1 := k2 m h
      have h2 := hm _ (List.mem_cons_of_mem _ k1)
      have h3 := hm a List.mem_cons_self
      omega
theorem lstMin_uniq : ∀ {ns : List Int} {m : Int}, m ∈ ns → (∀ y ∈ ns, m ≤ y) → m = lstMin ns
  | [], _, h, _ => by cases h
  | [a], m, h, _ => by simpa [lstMin] using h
  | a :: b :: r, m, h, hm => by
    have e : lstMin (a :: b :: r) = min a (lstMin (b :: r)) := rfl
    rw [e]
    have key : ∀ (l : List Int), l ≠ [] → lstMin l ∈ l ∧ ∀ y ∈ l, lstMin l ≤ y := by
      intro l
      induction l with
      | nil => intro h; exact absurd rfl h
      | cons x t ih =>
        intro _
        cases t with
        | nil => simp [lstMin]
        | cons y t =>
          obtain ⟨i1, i2⟩ := ih (by simp)
          have e : lstMin (x :: y :: t) = min x (lstMin (y :: t)) := rfl
          rw [e]
          constructor
          · by_cases hx : x ≤ lstMin (y :: t)
            · rw [Int.min_eq_left hx]; exact List.mem_cons_self
            · rw [Int.min_eq_right (by omega)]; exact List.mem_cons_of_mem _ i1
          · intro z hz
            rcases List.mem_cons.mp hz with rfl | hz
            · omega
            · have := i2 z hz; omega
    obtain ⟨k1, k2⟩ := key (b :: r) (by simp)
    rcases List.mem_cons.mp h with rfl | h
    · have := hm _ (List.mem_cons_of_mem _ k1)
      omega
    · have h1 := k2 m h
      have h2 := hm _ (List.mem_cons_of_mem _ k1)
      have h3 := hm a List.mem_cons_self
      omega
def fIntsL (g : List Int → Int) : FA := fun ds st => match ds with
  | [d] => match viewL st d with
    | some xs => match intsOf xs with
      | some ns => if 0 < ns.length then .ok (.v (.int (g ns))) st else .stuck
      | none => .stuck
    | none => .stuck
  | _ => .stuck
theorem opA_maxL {K : PySem.W.Frag} {W : XW} : OpA K W (rMax K) (fIntsL lstMax) := by
  intro ι st H xs ds Q R r p
  unfold fIntsL at p
  split at p
  · obtain ⟨x, rfl, r1⟩ := r.one
    split at p
    · rename_i zs e
      split at p
      · rename_i ns e2
        split at p
        · rename_i hl
          obtain ⟨q, us, rfl, h1, h2⟩ := viewL_at R e r1
          have h3 := intsOf_at e2 h2
          subst h3
          exact ⟨q, ns, rfl, .of h1, hl, fun m h4 h5 _ => by rw [lstMax_uniq h4 h5]; exact p.same R (.int _)⟩
        · exact p.elim
      · exact p.elim
    · exact p.elim
  · exact p.elim
theorem opA_minL {K : PySem.W.Frag} {W : XW} : OpA K W (rMin K) (fIntsL lstMin) := by
  intro ι st H xs ds Q R r p
  unfold fIntsL at p
  split at p
  · obtain ⟨x, rfl, r1⟩ := r.one
    split at p
    · rename_i zs e
      split at p
      · rename_i ns e2
        split at p
        · rename_i hl
          obtain ⟨q, us, rfl, h1, h2⟩ := viewL_at R e r1
          have h3 := intsOf_at e2 h2
          subst h3
          exact ⟨q, ns, rfl, .of h1, hl, fun m h4 h5 _ => by rw [lstMin_uniq h4 h5]; exact p.same R (.int _)⟩
        · exact p.elim
      · exact p.elim
    · exact p.elim
  · exact p.elim
def fTuple : FA := fun ds st => match ds with
  | [d] => match viewS st d with
    | some xs => .ok (.v (.tuple xs)) st
    | none => .stuck
  | _ => .stuck
theorem call_tupleN {X : Cx} : CallR X (.type "tuple") (fun xs H Q => ∃ p ys, xs = [.ref p] ∧ ((SqL X.K H p ys ∧ NewT H ys Q) ∨ (SqT X.K H p ys ∧ Q (.ref p) H))) := by
  intro pins s σ H xs us Q I r h
  obtain ⟨p, ys, rfl, h⟩ := h
  obtain ⟨u, rfl, rx⟩ := vals1 r
  cases rx
  rcases h with ⟨hq, q⟩ | ⟨hq, q⟩
  · obtain ⟨its, rv, pl, hz⟩ := I.list hq
    have hlen := rv.length
    refine call_tuple_list pl.isList (fun h2 kp => ?_) (by rw [List.size_toArray]; omega)
    exact q.laid (t' := s.toks) (I.kept (t' := s.toks) kp) rv hz
  · obtain ⟨its, _, pl, _⟩ := I.tuple hq
    exact call_tuple_same pl ⟨.ref p, H, I, rfl, q⟩
theorem opA_tuple {K : PySem.W.Frag} {W : XW} : OpA K W (fun xs H Q => ∃ p ys, xs = [.ref p] ∧ ((SqL K H p ys ∧ NewT H ys Q) ∨ (SqT K H p ys ∧ Q (.ref p) H))) fTuple := by
  intro ι st H xs ds Q R r p
  unfold fTuple at p
  split at p
  · rename_i d
    obtain ⟨x, rfl, r1⟩ := r.one
    split at p
    · rename_i zs e
      obtain ⟨q, us, rfl, h1, h2⟩ := viewS_atF R e r1
      rcases h1 with h1 | ⟨⟨o, h1, h3⟩, hfz⟩
      · exact ⟨q, us, rfl, .inl ⟨.of h1, fun a o ha ho hf => p.newTup R h2 ha ho hf⟩⟩
      · exact ⟨q, us, rfl, .inr ⟨.inl (.inr ⟨o, h1⟩), fun _ => p.same R (.tup h1 h3 hfz h2)⟩⟩
    · exact p.elim
  · exact p.elim
def fRepr : FA := fun ds st => match ds with
  | [d] => match viewP st d with
    | some z => if z.showable && !z.hasDict && decide (z.depth ≤ 60) && decide (z.shown.length ≤ lim) then .ok (.v (.str z.shown)) st else .stuck
    | none => .stuck
  | _ => .stuck
def rRepr (K : PySem.W.Frag) : List V → Hp → VK → Prop := fun xs H Q => ∃ x z, xs = [x] ∧ Dp K H x z ∧ z.showable = true ∧ z.hasDict = false ∧ z.depth ≤ 60 ∧ z.shown.length ≤ sizeLine ∧ Q (.str z.shown) H
theorem call_reprN {X : Cx} (g : Gd X) : CallR X (.builtin "repr") (rRepr X.K) := by
  intro pins s σ H xs us Q I r h
  obtain ⟨x, z, rfl, hd, h1, h2, h3, h4, q⟩ := h
  obtain ⟨u, rfl, ru⟩ := vals1 r
  obtain ⟨as, rd⟩ := Dp.reads I z x u hd ru
  cases z with
  | none =>
    cases rd
    exact PySem.P.repr_of_none ⟨.str _, H, I.tok _, ⟨_, rfl⟩, by simpa only [PyData.shown] using q⟩
  | bool b =>
    cases rd
    exact PySem.P.repr_of_bool ⟨.str _, H, I.tok _, ⟨_, rfl⟩, by simpa only [PyData.shown] using q⟩
  | int i =>
    cases rd
    exact PySem.P.repr_of_int (by simpa [PyData.showable] using h1) ⟨.str _, H, I.tok _, ⟨_, rfl⟩, by simpa only [PyData.shown] using q⟩
  | str y =>
    cases rd
    exact PySem.P.repr_of_str ⟨.str _, H, I.tok _, ⟨_, rfl⟩, by simpa only [PyData.shown] using q⟩ (by simpa only [PyData.shown] using h4)
  | list zs =>
    cases rd with
    | list e1 e2 e3 e4 =>
      refine repr_of_reads' (Reads.list e1 e2 e3 e4) h1 (PyData.noDict_hsm h2) g.gu (by have := g.un; omega) (fun _ _ e => e) (fun h' u tk hk => ⟨.str _, H, I.kept hk, ⟨_, rfl⟩, q⟩) h4
  | tuple zs =>
    cases rd with
    | tuple e1 e2 e3 e4 =>
      refine repr_of_reads' (Reads.tuple e1 e2 e3 e4) h1 (PyData.noDict_hsm h2) g.gu (by have := g.un; omega) (fun _ _ e => e) (fun h' u tk hk => ⟨.str _, H, I.kept hk, ⟨_, rfl⟩, q⟩) h4
  | dict zs => simp [PyData.hasDict] at h2
theorem opA_repr {K : PySem.W.Frag} {W : XW} : OpA K W (rRepr K) fRepr := by
  intro ι st H xs ds Q R r p
  unfold fRepr at p
  split at p
  · obtain ⟨x, rfl, r1⟩ := r.one
    split at p
    · rename_i z e
      split at p
      · rename_i h
        simp only [Bool.and_eq_true, Bool.not_eq_true', decide_eq_true_eq] at h
        exact ⟨x, z, rfl, viewP_at R e r1 h.1.1.2, h.1.1.1, h.1.1.2, h.1.2, lim_ok h.2, fun _ => p.same R (.str _)⟩
      · exact p.elim
    · exact p.elim
  · exact p.elim
abbrev MF := Ev → Sto → Out (List PyData)
def PF1 (K : PySem.W.Frag) (ι : Gh) (st : Sto) (H : Hp) (Q : VK) (zs : List PyData) (st' : Sto) : Prop :=
  ∀ ι' H' xs p, SRel K ι' st' H' → Ext ι st H ι' st' H' → RpA (Frz ι' st') H' xs zs → H' p = none → HF (upd H' p (.lst xs)) → Q (.ref p) (upd H' p (.lst xs))
def TFo (K : PySem.W.Frag) (W : XW) (m : MF) : TE := fun σ H Q => ∃ ι env st, SRel K ι st H ∧ EvR K ι st H σ env ∧ (m env st).post (PF1 K ι st H Q) (PX1 K W ι st H)
def mFrz (m : MF) : ME := fun env st => (m env st).bind fun zs s1 => .ok (.v (.list zs)) s1
def mNew (m : MF) : ME := fun env st => (m env st).bind fun zs s1 => .ok (.ref s1.length) (s1 ++ [.lst zs])
section
variable {X : Cx} {W : XW} {e : Expr}
theorem pf_wrap {t : TE} {m : MF} (h : PE X e t) (hi : ∀ σ H Q, TFo X.K W m σ H Q → t σ H (fun v H' => HF H' → Q v H')) : PE X e (TFo X.K W m) :=
  ⟨fun pins s σ H Q I q => thn (h.run pins s σ H _ I (hi σ H Q q)) fun _ _ ⟨v, H', I', r, q'⟩ => ⟨v, H', I', r, q' (hf_of I')⟩⟩
theorem x_frz {m : MF} (h : PE X e (TFo X.K W m)) : PE X e (TEo X.K W (mFrz m)) := pe_wrap h fun σ H Q q => by
  obtain ⟨ι, env, st, R, EV, p⟩ := q
  refine ⟨ι, env, st, R, EV, Out.post_mono (Out.post_bind p) (fun zs s1 q ι1 H1 xs a R1 E1 ra ha hf _ => ?_) fun _ _ q => q⟩
  exact q ι1 _ _ (R1.fresh ha hf) (E1.trans (Ext.fresh R1 ha)) (.lst upd_same (R1.frz_new ha) (ra.ext (Ext.fresh R1 ha)))
theorem x_new {m : MF} (h : PE X e (TFo X.K W m)) : PE X e (TEo X.K W (mNew m)) := pe_wrap h fun σ H Q q => by
  obtain ⟨ι, env, st, R, EV, p⟩ := q
  refine ⟨ι, env, st, R, EV, Out.post_mono (Out.post_bind p) (fun zs s1 q ι1 H1 xs a R1 E1 ra ha hf _ => ?_) fun _ _ q => q⟩
  have E2 : Ext ι1 s1 H1 (ι1.psh a) (s1 ++ [.lst zs]) (upd H1 a (.lst xs)) := Ext.push R1 ha
  refine q (ι1.psh a) _ _ (R1.push ha hf ⟨xs, upd_same, ra.ext E2⟩ rfl) (E1.trans E2) ⟨a, ?_, rfl⟩
  show (ι1.ad ++ [a])[s1.length]? = _
  rw [← R1.len, List.getElem?_append_right (Nat.le_refl _), Nat.sub_self]
  rfl
end
abbrev GA := List D → Sto → Out (List PyData)
def mfArg (f : GA) (ma : MA) : MF := fun env st => (ma env st).bind fun ds s1 => f ds s1
def mfBin (f : D → D → Sto → Out (List PyData)) (ma mb : ME) : MF := fun env st => (ma env st).bind fun a s1 => (mb env s1).bind fun b s2 => f a b s2
def NewL (H : Hp) (xs : List V) (Q : VK) : Prop := ∀ p, H p = none → Q (.ref p) (upd H p (.lst xs))
theorem PF1.new {K : PySem.W.Frag} {ι : Gh} {st : Sto} {H : Hp} {Q : VK} {zs : List PyData} (h : PF1 K ι st H Q zs st) (R : SRel K ι st H) {xs : List V} (r : RpA (Frz ι st) H xs zs) : NewL H xs (fun v H' => HF H' → Q v H') :=
  fun p hp hf => h ι H xs p R Ext.refl r hp hf
theorem PF1.ext {K : PySem.W.Frag} {ι ι' : Gh} {st st' s2 : Sto} {H H' : Hp} {Q : VK} {zs : List PyData} (h : PF1 K ι st H Q zs s2) (e : Ext ι st H ι' st' H') : PF1 K ι' st' H' Q zs s2 :=
  fun ι2 H2 xs p R E r => h ι2 H2 xs p R (e.trans E) r
def OpFA (K : PySem.W.Frag) (W : XW) (r : List V → Hp → VK → Prop) (f : GA) : Prop := ∀ (ι : Gh) (st : Sto) (H : Hp) (xs : List V) (ds : List D) (Q : VK), SRel K ι st H → RDs K ι st H xs ds →
  (f ds st).post (PF1 K ι st H Q) (PX1 K W ι st H) → r xs H (fun v H' => HF H' → Q v H')
def OpF2 (K : PySem.W.Frag) (W : XW) (r : R2) (f : D → D → Sto → Out (List PyData)) : Prop := ∀ (ι : Gh) (st : Sto) (H : Hp) (x y : V) (a b : D) (Q : VK), SRel K ι st H → RD K ι st H x a → RD K ι st H y b →
  (f a b st).post (PF1 K ι st H Q) (PX1 K W ι st H) → r x y H (fun v H' => HF H' → Q v H')
section
variable {K : PySem.W.Frag} {W : XW} {σ : L2.St} {H : Hp} {Q : VK} {ma mb : ME}
theorem tf_arg {r : List V → Hp → VK → Prop} {f : GA} {m : MA} (hf : OpFA K W r f) (h : TFo K W (mfArg f m) σ H Q) : TAo K W m σ H fun xs H1 => r xs H1 (fun v H' => HF H' → Q v H') := by
  obtain ⟨ι, env, st, R, EV, p⟩ := h
  refine ⟨ι, env, st, R, EV, Out.post_mono (Out.post_bind p) (fun a s1 q ι1 H1 x R1 E1 ra => ?_) fun _ _ q => q⟩
  exact hf ι1 s1 H1 x a Q R1 ra (Out.post_mono q (fun _ _ z => z.ext E1) fun _ _ z => z.ext E1)
theorem tf_bin {r : R2} {f : D → D → Sto → Out (List PyData)} (hf : OpF2 K W r f) (h : TFo K W (mfBin f ma mb) σ H Q) : tOp r (TEo K W ma) (TEo K W mb) σ H (fun v H' => HF H' → Q v H') := by
  obtain ⟨ι, env, st, R, EV, p⟩ := h
  refine ⟨ι, env, st, R, EV, Out.post_mono (Out.post_bind p) (fun a s1 q ι1 H1 x R1 E1 ra => ?_) fun _ _ q => q⟩
  refine ⟨ι1, env, s1, R1, EV.ext E1, Out.post_mono (Out.post_bind q) (fun b s2 q2 ι2 H2 y R2 E2 rb => ?_) fun _ _ z => z.ext E1⟩
  exact hf ι2 s2 H2 x y a b Q R2 (ra.ext E2) rb (Out.post_mono q2 (fun _ _ z => (z.ext E1).ext E2) fun _ _ z => (z.ext E1).ext E2)
end
def gDisp : GA := fun ds st => match valsOf ds with
  | some zs => if zs.length ≤ 1000 then .ok zs st else .stuck
  | none => .stuck
theorem opF_disp {K : PySem.W.Frag} {W : XW} : OpFA K W (fun xs H Q => xs.length ≤ sizeLine ∧ NewL H xs Q) gDisp := by
  intro ι st H xs ds Q R r p
  unfold gDisp at p
  split at p
  · rename_i zs e
    split at p
    · rename_i hl
      have ra := valsOf_at e r
      exact ⟨lim1000 (xs_len ra hl), p.new R ra⟩
    · exact p.elim
  · exact p.elim
def gList : GA := fun ds st => match ds with
  | [d] => match viewS st d with
    | some xs => .ok xs st
    | none => .stuck
  | _ => .stuck
theorem opF_list {K : PySem.W.Frag} {W : XW} : OpFA K W (fun xs H Q => ∃ p ys, xs = [.ref p] ∧ (SqL K H p ys ∨ SqT K H p ys) ∧ ∀ l, H l = none → Q (.ref l) (upd H l (.lst ys))) gList := by
  intro ι st H xs ds Q R r p
  unfold gList at p
  split at p
  · obtain ⟨x, rfl, r1⟩ := r.one
    split at p
    · rename_i zs e
      obtain ⟨q, us, rfl, h1, h2⟩ := viewS_at R e r1
      exact ⟨q, us, rfl, h1.imp .of KTup.sq, p.new R h2⟩
    · exact p.elim
  · exact p.elim
theorem rpA_ints {F : Addr → Prop} {H : Hp} : ∀ ns : List Int, RpA F H (ns.map V.int) (ns.map PyData.int)
  | [] => .nil
  | n :: r => .cons (.int n) (rpA_ints r)
def gCat : D → D → Sto → Out (List PyData) := fun a b st => match viewL st a, viewL st b with
  | some xs, some ys => if xs.length + ys.length ≤ lim then .ok (xs ++ ys) st else .stuck
  | _, _ => .stuck
theorem opF_cat {K : PySem.W.Frag} {W : XW} : OpF2 K W rCat gCat := by
  intro ι st H x y a b Q R ra rb p
  unfold gCat at p
  split at p
  · rename_i xs ys e1 e2
    split at p
    · rename_i hl
      obtain ⟨a1, us, rfl, h1, r1⟩ := viewL_at R e1 ra
      obtain ⟨b1, vs, rfl, h2, r2⟩ := viewL_at R e2 rb
      have hz : us.length + vs.length ≤ sizeLine := by rw [r1.length, r2.length]; exact lim_ok hl
      exact ⟨a1, b1, us, vs, rfl, rfl, h1, h2, hz, p.new R (r1.append r2)⟩
    · exact p.elim
  · exact p.elim
def gRep : D → D → Sto → Out (List PyData) := fun a b st => match viewL st a, iOf b with
  | some xs, some k => if -1000000 ≤ k ∧ k ≤ 1000000 ∧ xs.length * k.toNat ≤ lim then .ok (List.replicate k.toNat xs).flatten st else .stuck
  | _, _ => .stuck
theorem opF_rep {K : PySem.W.Frag} {W : XW} : OpF2 K W rRep gRep := by
  intro ι st H x y a b Q R ra rb p
  unfold gRep at p
  split at p
  · rename_i xs k e1 e2
    split at p
    · rename_i h
      obtain ⟨a1, us, rfl, h1, r1⟩ := viewL_at R e1 ra
      exact ⟨a1, k, us, rfl, iOf_at e2 rb, h1, by omega, by omega, by rw [r1.length]; exact lim_ok h.2.2, p.new R (r1.rep _)⟩
    · exact p.elim
  · exact p.elim
section
variable {X : Cx} {W : XW} {a b e : Expr} {es : List Expr} {ma mb : ME} {m : MA} {pos p : Pos}
theorem xf_disp (h : PA X es (TAo X.K W m)) : PE X (.List es pos) (TFo X.K W (mfArg gDisp m)) := pf_wrap (pe_lst h) fun σ H Q q => tf_arg opF_disp q
theorem xf_list {x : Str} (hg : Gl X x) (hm : X.mg x = none) (hv : bootBuiltins x = some (.type "list")) (ha : PA X (e :: es) (TAo X.K W m)) (hn : x ≠ "__name__" := by decide) (hdb : (x == ("__debug__" : Str)) = false := by decide)
    (he : starEach (e :: es) X.env = (false, eval e X.env) :: starEach es X.env := by rfl) (hpl : (backTo pos (starEach es X.env)).any (·.1) = false := by rfl) : PE X (.Call (.Name x p) (e :: es) [] pos) (TFo X.K W (mfArg gList m)) :=
  pf_wrap (pe_callTy call_list_of hg hm hv ha hn hdb he hpl) fun σ H Q q => tf_arg opF_list q
theorem xf_cat (ha : PE X a (TEo X.K W ma)) (hb : PE X b (TEo X.K W mb)) : PE X (.BinOp a .Add b pos) (TFo X.K W (mfBin gCat ma mb)) := pf_wrap (pe_op op_cat ha hb) fun σ H Q q => tf_bin opF_cat q
theorem xf_rep (ha : PE X a (TEo X.K W ma)) (hb : PE X b (TEo X.K W mb)) : PE X (.BinOp a .Mult b pos) (TFo X.K W (mfBin gRep ma mb)) := pf_wrap (pe_op op_rep ha hb) fun σ H Q q => tf_bin opF_rep q
end
end Fw
namespace Fw
open PySem PySem.Spec PyProof.Rows L2
abbrev MO := Ev → Sto → Out (Option Int)
def PO2 (K : PySem.W.Frag) (ι : Gh) (st : Sto) (H : Hp) (Q : Option Int → Hp → Prop) (b : Option Int) (st' : Sto) : Prop := ∀ ι' H', SRel K ι' st' H' → Ext ι st H ι' st' H' → Q b H'
theorem PO2.ext {K : PySem.W.Frag} {ι ι' : Gh} {st st' s2 : Sto} {H H' : Hp} {Q : Option Int → Hp → Prop} {b : Option Int} (h : PO2 K ι st H Q b s2) (e : Ext ι st H ι' st' H') : PO2 K ι' st' H' Q b s2 :=
  fun ι2 H2 R E => h ι2 H2 R (e.trans E)
def TOo (K : PySem.W.Frag) (W : XW) (m : MO) : TO := fun σ H Q => ∃ ι env st, SRel K ι st H ∧ EvR K ι st H σ env ∧ (m env st).post (PO2 K ι st H Q) (PX1 K W ι st H)
def moNone : MO := fun _ st => .ok none st
def moSome (m : ME) : MO := fun env st => (m env st).bind fun d s1 => match iOf d with
  | some i => .ok (some i) s1
  | none => .stuck
section
variable {X : Cx} {W : XW} {e : Expr}
theorem po_wrap {o : Option Expr} {t : TO} {m : MO} (h : PO X o t) (hi : ∀ σ H Q, TOo X.K W m σ H Q → t σ H (fun v H' => HF H' → Q v H')) : PO X o (TOo X.K W m) :=
  ⟨fun pins s σ H Q I q => thn (h.run pins s σ H _ I (hi σ H Q q)) fun _ _ ⟨v, H', I', r, q'⟩ => ⟨v, H', I', r, q' (hf_of I')⟩⟩
theorem xo_none : PO X none (TOo X.K W moNone) := po_wrap po_none fun σ H Q q => by
  obtain ⟨ι, env, st, R, EV, p⟩ := q
  exact fun _ => p ι H R Ext.refl
theorem xo_some {m : ME} (h : PE X e (TEo X.K W m)) : PO X (some e) (TOo X.K W (moSome m)) := po_wrap (po_some h) fun σ H Q q => by
  obtain ⟨ι, env, st, R, EV, p⟩ := q
  refine ⟨ι, env, st, R, EV, Out.post_mono (Out.post_bind p) (fun d s1 q ι1 H1 x R1 E1 ra => ?_) fun _ _ q => q⟩
  split at q
  · rename_i i e
    exact ⟨i, iOf_at e ra, fun _ => q ι1 H1 R1 E1⟩
  · exact q.elim
end
def cutP {α : Type} (xs : List α) (lo hi : Option Int) : List α := (xs.drop (HT.sIx xs.length 0 lo)).take (HT.sIx xs.length xs.length hi - HT.sIx xs.length 0 lo)
theorem RpA.cut {F : Addr → Prop} {H : Hp} {xs : List V} {ds : List PyData} (r : RpA F H xs ds) (lo hi : Option Int) : RpA F H (cutV xs lo hi) (cutP ds lo hi) := by
  unfold cutV cutP
  rw [r.length]
  exact (r.drop _).take _
def rSlN (K : PySem.W.Frag) : V → Option Int → Option Int → Hp → VK → Prop := fun x lo hi H Q => ∃ a xs, x = .ref a ∧ SqT K H a xs ∧
  (HT.sIx xs.length 0 lo = 0 ∧ HT.sIx xs.length xs.length hi = xs.length → Q (.ref a) H) ∧ (¬ (HT.sIx xs.length 0 lo = 0 ∧ HT.sIx xs.length xs.length hi = xs.length) → NewT H (cutV xs lo hi) Q)
theorem sl_tupN {X : Cx} : SlR X (rSlN X.K) := by
  intro pins s σ H x v vl vu lo hi sl Q I rx hs pl pu h
  obtain ⟨a, xs, rfl, hx, q1, q2⟩ := h
  cases rx
  obtain ⟨its, r, ht, hz⟩ := I.tuple hx
  have hlen : its.toArray.size = xs.length := by rw [List.size_toArray]; exact r.length.symm
  refine ⟨"tuple", _, PyProof.Rows.slot_tuple_getitem.lookup, ht.typeIs, ?_⟩
  by_cases hw : HT.sIx xs.length 0 lo = 0 ∧ HT.sIx xs.length xs.length hi = xs.length
  · refine getItem_tuple_whole ht hs pl pu ?_ ⟨.ref a, H, I, rfl, q1 hw⟩
    rw [hlen]
    exact hw
  · refine HT.getItem_tuple_cut ht hs pl pu ?_ ?_ ?_
    · rw [hlen]
      exact hw
    · rw [hlen]
      refine (q2 hw).laid (t' := s.toks) I ?_ (Nat.le_trans (cutV_length xs lo hi) hz)
      exact (r.drop _).take _
    · rw [hlen]
      exact hz
def slD (a : D) (lo hi : Option Int) : Sto → Out D := fun st => match viewL st a with
  | some xs => .ok (.v (.list (cutP xs lo hi))) st
  | none => match tOf a with
    | some xs => .ok (.v (.tuple (cutP xs lo hi))) st
    | none => match sOf a with
      | some z => if z.length ≤ lim then .ok (.v (.str (cutS z lo hi))) st else .stuck
      | none => .stuck
def mSl (m : ME) (lo hi : MO) : ME := fun env st => (m env st).bind fun a s1 => (lo env s1).bind fun l s2 => (hi env s2).bind fun h s3 => slD a l h s3
def mfSl (m : ME) (lo hi : MO) : MF := fun env st => (m env st).bind fun a s1 => (lo env s1).bind fun l s2 => (hi env s2).bind fun h s3 => match viewL s3 a with
  | some xs => .ok (cutP xs l h) s3
  | none => .stuck
theorem cut_whole {α : Type} {xs : List α} {lo hi : Option Int} (h1 : HT.sIx xs.length 0 lo = 0) (h2 : HT.sIx xs.length xs.length hi = xs.length) : cutP xs lo hi = xs := by
  unfold cutP
  rw [h1, h2, List.drop_zero, Nat.sub_zero, List.take_length]
section
variable {X : Cx} {W : XW} {e : Expr} {m : ME} {lo hi : Option Expr} {ml mh : MO} {pos p2 : Pos}
theorem x_slice (he : PE X e (TEo X.K W m)) (hl : PO X lo (TOo X.K W ml)) (hu : PO X hi (TOo X.K W mh)) : PE X (.Subscript e (.Slice lo hi none p2) pos) (TEo X.K W (mSl m ml mh)) := by
  refine pe_wrap (pe_slice (sl_list.or (sl_tupN.or sl_str)) he hl hu) fun σ H Q q => ?_
  obtain ⟨ι, env, st, R, EV, p⟩ := q
  refine ⟨ι, env, st, R, EV, Out.post_mono (Out.post_bind p) (fun a s1 q ι1 H1 x R1 E1 ra => ?_) fun _ _ q => q⟩
  refine ⟨ι1, env, s1, R1, EV.ext E1, Out.post_mono (Out.post_bind q) (fun l s2 q2 ι2 H2 R2 E2 => ?_) fun _ _ z => z.ext E1⟩
  refine ⟨ι2, env, s2, R2, (EV.ext E1).ext E2, Out.post_mono (Out.post_bind q2) (fun u s3 q3 ι3 H3 R3 E3 => ?_) fun _ _ z => (z.ext E1).ext E2⟩
  have ra3 := (ra.ext E2).ext E3
  have q4 : (slD a l u s3).post (PO1 X.K ι3 s3 H3 Q) (PX1 X.K W ι3 s3 H3) := Out.post_mono q3 (fun _ _ z => ((z.ext E1).ext E2).ext E3) fun _ _ z => ((z.ext E1).ext E2).ext E3
  unfold slD at q4
  split at q4
  · rename_i xs e1
    obtain ⟨b, us, rfl, h1, h2⟩ := viewL_at R3 e1 ra3
    exact .inl ⟨b, us, rfl, .of h1, fun p hp hf => q4.newLst R3 (h2.cut l u) hp hf⟩
  · split at q4
    · rename_i xs e1
      obtain ⟨b, us, rfl, h1, h2⟩ := tOf_at e1 ra3
      refine .inr (.inl ⟨b, us, rfl, h1.sq, fun hw _ => ?_, fun _ p o hp ho hf => q4.newTup R3 (h2.cut l u) hp ho hf⟩)
      rw [h2.length] at hw
      rw [cut_whole hw.1 hw.2] at q4
      rw [tOf_eq e1] at ra3
      exact q4.same R3 ra3
    · split at q4
      · rename_i z e1
        split at q4
        · rename_i hz
          exact .inr (.inr ⟨z, sOf_at e1 ra3, lim_ok hz, fun _ => q4.same R3 (.str _)⟩)
        · exact q4.elim
      · exact q4.elim
theorem xf_slice (he : PE X e (TEo X.K W m)) (hl : PO X lo (TOo X.K W ml)) (hu : PO X hi (TOo X.K W mh)) : PE X (.Subscript e (.Slice lo hi none p2) pos) (TFo X.K W (mfSl m ml mh)) := by
  refine pf_wrap (pe_slice sl_list he hl hu) fun σ H Q q => ?_
  obtain ⟨ι, env, st, R, EV, p⟩ := q
  refine ⟨ι, env, st, R, EV, Out.post_mono (Out.post_bind p) (fun a s1 q ι1 H1 x R1 E1 ra => ?_) fun _ _ q => q⟩
  refine ⟨ι1, env, s1, R1, EV.ext E1, Out.post_mono (Out.post_bind q) (fun l s2 q2 ι2 H2 R2 E2 => ?_) fun _ _ z => z.ext E1⟩
  refine ⟨ι2, env, s2, R2, (EV.ext E1).ext E2, Out.post_mono (Out.post_bind q2) (fun u s3 q3 ι3 H3 R3 E3 => ?_) fun _ _ z => (z.ext E1).ext E2⟩
  have ra3 := (ra.ext E2).ext E3
  split at q3
  · rename_i xs e1
    obtain ⟨b, us, rfl, h1, h2⟩ := viewL_at R3 e1 ra3
    exact ⟨b, us, rfl, .of h1, (((q3.ext E1).ext E2).ext E3).new R3 (h2.cut l u)⟩
  · exact q3.elim
def mfRev (m : ME) : MF := fun env st => (m env st).bind fun a s1 => match viewL s1 a with
  | some xs => .ok xs.reverse s1
  | none => .stuck
theorem xf_rev {k : Nat} {p1 p2 p3 : Pos} (he : PE X e (TEo X.K W m)) : PE X (.Subscript e (.Slice none none (some (.UnaryOp .USub (.Constant (.int 1) k p1) p2)) p3) pos) (TFo X.K W (mfRev m)) := by
  refine pf_wrap (pe_revL he) fun σ H Q q => ?_
  obtain ⟨ι, env, st, R, EV, p⟩ := q
  refine ⟨ι, env, st, R, EV, Out.post_mono (Out.post_bind p) (fun a s1 q ι1 H1 x R1 E1 ra => ?_) fun _ _ q => q⟩
  split at q
  · rename_i xs e1
    obtain ⟨b, us, rfl, h1, h2⟩ := viewL_at R1 e1 ra
    exact ⟨b, us, rfl, .of h1, (q.ext E1).new R1 h2.reverse⟩
  · exact q.elim
end
abbrev FM := D → List D → Sto → Out D
def isL (st : Sto) (d : D) : Bool := (viewL st d).isSome
def mM0 (f : FM) (mo : ME) : ME := fun env st => (mo env st).bind fun o s1 => if isL s1 o then f o [] s1 else .stuck
def mM (f : FM) (mo : ME) (ma : MA) : ME := fun env st => (mo env st).bind fun o s1 => if isL s1 o then (ma env s1).bind fun ds s2 => f o ds s2 else .stuck
def OpM (K : PySem.W.Frag) (W : XW) (r : V → List V → Hp → VK → Prop) (f : FM) : Prop := ∀ (ι : Gh) (st : Sto) (H : Hp) (x : V) (xs : List V) (o : D) (ds : List D) (Q : VK), SRel K ι st H → RD K ι st H x o → RDs K ι st H xs ds →
  (f o ds st).post (PO1 K ι st H Q) (PX1 K W ι st H) → r x xs H (fun v H' => HF H' → Q v H')
section
variable {X : Cx} {W : XW} {o e : Expr} {es : List Expr} {mo : ME} {ma : MA} {name : Str} {apos cpos : Pos} {id : String} {r : V → List V → Hp → VK → Prop} {f : FM}
theorem isL_ty {K : PySem.W.Frag} {ι : Gh} {st : Sto} {H : Hp} (R : SRel K ι st H) {d : D} {x : V} (h : isL st d = true) (r : RD K ι st H x d) : tyV K "list" x H := by
  obtain ⟨ds, e⟩ := Option.isSome_iff_exists.mp h
  obtain ⟨a, xs, rfl, h1, _⟩ := viewL_at R e r
  exact .inl ⟨rfl, xs, .of h1⟩
theorem x_m0 (pa : PlainAttrs "list") (slot : Slot "list" name id) (hty : typeOf (.builtin id) = pure (.type "method_descriptor")) (hm : MtR X id r) (hf : OpM X.K W r f) (ho : PE X o (TEo X.K W mo))
    (hbase : attributeBase o name X.env (eval o X.env) = eval o X.env := by rfl) (hline : (apos.endLine == cpos.line) = true := by rfl) : PE X (.Call (.Attribute o name apos) [] [] cpos) (TEo X.K W (mM0 f mo)) :=
  pe_wrap (pe_bm0 pa slot hty hm ho hbase hline) fun σ H Q q => by
    obtain ⟨ι, env, st, R, EV, p⟩ := q
    refine ⟨ι, env, st, R, EV, Out.post_mono (Out.post_bind p) (fun a s1 q ι1 H1 x R1 E1 ra => ?_) fun _ _ q => q⟩
    split at q
    · rename_i h
      exact ⟨isL_ty R1 h ra, hf ι1 s1 H1 x [] a [] Q R1 ra .nil (Out.post_mono q (fun _ _ z => z.ext E1) fun _ _ z => z.ext E1)⟩
    · exact q.elim
theorem x_m (pa : PlainAttrs "list") (slot : Slot "list" name id) (hty : typeOf (.builtin id) = pure (.type "method_descriptor")) (hm : MtR X id r) (hf : OpM X.K W r f) (ho : PE X o (TEo X.K W mo)) (ha : PA X (e :: es) (TAo X.K W ma))
    (hbase : attributeBase o name X.env (eval o X.env) = eval o X.env := by rfl)
    (hfew : ((backTo cpos (starEach (e :: es) X.env)).all (fun x => !x.1) && (backToKw cpos (keywordEach [] X.env)).all (fun x => x.1.isSome)
      && decide ((e :: es).length + ([] : List Keyword).length + (if ([] : List Keyword).isEmpty then 0 else 1) < 30)) = true := by rfl)
    (hline : (apos.endLine == cpos.line) = true := by rfl) (hs : starEach (e :: es) X.env = (false, eval e X.env) :: starEach es X.env := by rfl) (hplain : (backTo cpos (starEach es X.env)).any (·.1) = false := by rfl) :
    PE X (.Call (.Attribute o name apos) (e :: es) [] cpos) (TEo X.K W (mM f mo ma)) :=
  pe_wrap (pe_bm pa slot hty hm ho ha hbase hfew hline hs hplain) fun σ H Q q => by
    obtain ⟨ι, env, st, R, EV, p⟩ := q
    refine ⟨ι, env, st, R, EV, Out.post_mono (Out.post_bind p) (fun a s1 q ι1 H1 x R1 E1 ra => ?_) fun _ _ q => q⟩
    split at q
    · rename_i h
      refine ⟨isL_ty R1 h ra, ι1, env, s1, R1, EV.ext E1, Out.post_mono (Out.post_bind q) (fun ds s2 q2 ι2 H2 xs R2 E2 rb => ?_) fun _ _ z => z.ext E1⟩
      exact hf ι2 s2 H2 x xs a ds Q R2 (ra.ext E2) rb (Out.post_mono q2 (fun _ _ z => (z.ext E1).ext E2) fun _ _ z => (z.ext E1).ext E2)
    · exact q.elim
end
def lAt (st : Sto) : D → Option (Nat × List PyData)
  | .ref n => match st[n]? with
    | some (.lst zs) => some (n, zs)
    | _ => none
  | _ => none
theorem lAt_at {K : PySem.W.Frag} {ι : Gh} {st : Sto} {H : Hp} (R : SRel K ι st H) {x : V} {d : D} {n : Nat} {ds : List PyData} (e : lAt st d = some (n, ds)) (r : RD K ι st H x d) :
    ∃ a xs, x = .ref a ∧ H a = some (.lst xs) ∧ RpA (Frz ι st) H xs ds ∧ st[n]? = some (.lst ds) ∧ ι.ad[n]? = some a := by
  cases d with
  | ref k =>
    obtain ⟨a, h1, h2⟩ := r
    cases q : st[k]? with
    | none => simp only [lAt, q] at e; cases e
    | some o =>
      cases o with
      | lst zs =>
        simp only [lAt, q, Option.some.injEq, Prod.mk.injEq] at e
        obtain ⟨rfl, rfl⟩ := e
        obtain ⟨xs, e1, r⟩ := R.obj k _ a q h1
        exact ⟨a, xs, h2, e1, r, q, h1⟩
      | _ => simp only [lAt, q] at e; cases e
  | _ => cases e
theorem PO1.wrote {K : PySem.W.Frag} {ι : Gh} {st : Sto} {H : Hp} {Q : VK} {d : D} {n : Nat} {ds es : List PyData} {a : Addr} {ys : List V} {v : V} (p : PO1 K ι st H Q d (st.set n (.lst es))) (R : SRel K ι st H) (h1 : st[n]? = some (.lst ds)) (h2 : ι.ad[n]? = some a)
    (r : RpA (Frz ι st) H ys es) (hv : ∀ ι' st' H', Ext ι st H ι' st' H' → RD K ι' st' H' v d) (hf : HF (upd H a (.lst ys))) : Q v (upd H a (.lst ys)) := by
  have E : Ext ι st H ι (st.set n (.lst es)) (upd H a (.lst ys)) := Ext.write R h1 h2 (fun z => nomatch z) (fun _ _ z => nomatch z)
  exact p ι _ v (R.write h1 h2 (fun z => nomatch z) (fun _ _ z => nomatch z) hf ⟨ys, upd_same, r.ext E⟩ rfl) E (hv _ _ _ E)
def fmAppend : FM := fun o ds st => match lAt st o, ds with
  | some (n, zs), [.v d] => if zs.length < lim then .ok (.v .none) (st.set n (.lst (zs ++ [d]))) else .stuck
  | _, _ => .stuck
theorem opM_append {K : PySem.W.Frag} {W : XW} : OpM K W rAppend fmAppend := by
  intro ι st H x xs o ds Q R ro rd p
  unfold fmAppend at p
  split at p
  · rename_i n zs d e
    split at p
    · rename_i hl
      obtain ⟨a, us, rfl, h1, h2, h3, h4⟩ := lAt_at R e ro
      obtain ⟨y, rfl, ry⟩ := rd.one
      refine ⟨a, us, y, rfl, rfl, h1, by rw [h2.length]; exact Nat.lt_of_lt_of_le hl (lim_ok (Nat.le_refl _)), fun hf => ?_⟩
      exact p.wrote R h3 h4 (h2.append (.cons ry .nil)) (fun _ _ _ _ => .non) hf
    · exact p.elim
  · exact p.elim
def fmPop : FM := fun o ds st => match lAt st o, ds with
  | some (n, zs), [] => match zs[zs.length - 1]? with
    | some d => .ok (.v d) (st.set n (.lst zs.dropLast))
    | none => .stuck
  | _, _ => .stuck
theorem opM_pop {K : PySem.W.Frag} {W : XW} : OpM K W rPop fmPop := by
  intro ι st H x xs o ds Q R ro rd p
  unfold fmPop at p
  split at p
  · rename_i n zs e
    split at p
    · rename_i d ed
      obtain ⟨a, us, rfl, h1, h2, h3, h4⟩ := lAt_at R e ro
      cases rd
      obtain ⟨y, h5, h6⟩ := h2.get ed
      refine ⟨a, us, y, rfl, rfl, h1, by rw [h2.length]; exact h5, fun hf => ?_⟩
      exact p.wrote R h3 h4 h2.dropLast (fun _ _ _ E => h6.ext E) hf
    · exact p.elim
  · exact p.elim
def fmPopAt : FM := fun o ds st => match lAt st o, ds with
  | some (n, zs), [.v (.int i)] => if -1000000 ≤ i ∧ i ≤ 1000000 then match seqIndex? i zs.length with
      | some k => match zs[k]? with
        | some d => .ok (.v d) (st.set n (.lst (zs.eraseIdx k)))
        | none => .stuck
      | none => .stuck
    else .stuck
  | _, _ => .stuck
theorem opM_popAt {K : PySem.W.Frag} {W : XW} : OpM K W rPopAt fmPopAt := by
  intro ι st H x xs o ds Q R ro rd p
  unfold fmPopAt at p
  split at p
  · rename_i n zs i e
    split at p
    · rename_i hb
      split at p
      · rename_i k ek
        split at p
        · rename_i d ed
          obtain ⟨a, us, rfl, h1, h2, h3, h4⟩ := lAt_at R e ro
          obtain ⟨y, rfl, ry⟩ := rd.one
          have ey := iOf_at (d := .v (.int i)) rfl ry
          subst ey
          obtain ⟨y, h5, h6⟩ := h2.get ed
          refine ⟨a, us, i, k, y, rfl, rfl, h1, by omega, by omega, by rw [h2.length]; exact ek, h5, fun hf => ?_⟩
          exact p.wrote R h3 h4 (h2.erase k) (fun _ _ _ E => h6.ext E) hf
        · exact p.elim
      · exact p.elim
    · exact p.elim
  · exact p.elim
def idxP (y : PyData) : List PyData → Option Nat
  | [] => none
  | z :: r => if PyData.eqv z y then some 0 else (idxP y r).map (· + 1)
def fmIndex : FM := fun o ds st => match viewS st o, ds with
  | some zs, [.v d] => if flatP d && zs.all flatP then match idxP d zs with
      | some k => .ok (.v (.int (k : Nat))) st
      | none => .stuck
    else .stuck
  | _, _ => .stuck
theorem idxP_at {F : Addr → Prop} {H : Hp} {y : V} {d : PyData} (ry : Rp F H y d) (hd : flatP d = true) : ∀ {xs : List V} {ds : List PyData} {k : Nat}, RpA F H xs ds → ds.all flatP = true → idxP d ds = some k →
    ∃ z, xs[k]? = some z ∧ eqV z y = true ∧ ∀ (m : Nat) (z' : V), m < k → xs[m]? = some z' → eqV z' y = false
  | _, _, _, .nil, _, h => by cases h
  | _, _, k, .cons (x := x) (d := d') r t, hf, h => by
    rw [List.all_cons, Bool.and_eq_true] at hf
    unfold idxP at h
    split at h
    · rename_i e
      cases h
      exact ⟨x, rfl, by rw [eqV_of r ry hf.1 hd]; exact e, fun m _ hm => absurd hm (Nat.not_lt_zero _)⟩
    · rename_i e
      obtain ⟨j, h1, rfl⟩ := Option.map_eq_some_iff.mp h
      obtain ⟨z, h2, h3, h4⟩ := idxP_at ry hd t hf.2 h1
      refine ⟨z, by simpa using h2, h3, fun m z' hm hz => ?_⟩
      cases m with
      | zero =>
        have : x = z' := by simpa using hz
        subst this
        rw [eqV_of r ry hf.1 hd]
        simpa using e
      | succ m => exact h4 m z' (by omega) (by simpa using hz)
theorem viewS_L {st : Sto} {o : D} {zs ws : List PyData} (e : viewS st o = some zs) (ew : viewL st o = some ws) : zs = ws := by
  have : viewS st o = viewL st o := by
    cases o with
    | v w =>
      cases w with
      | tuple _ => cases ew
      | _ => rfl
    | _ => rfl
  rw [this, ew] at e
  exact (Option.some.inj e).symm
theorem opM_index {K : PySem.W.Frag} {W : XW} : OpM K W (rIndex K) (fun o ds st => if isL st o then fmIndex o ds st else .stuck) := by
  intro ι st H x xs o ds Q R ro rd p
  replace p : (if isL st o then fmIndex o ds st else .stuck).post (PO1 K ι st H Q) (PX1 K W ι st H) := p
  split at p
  · rename_i hL
    unfold fmIndex at p
    split at p
    · rename_i zs d e
      split at p
      · rename_i hf
        rw [Bool.and_eq_true] at hf
        split at p
        · rename_i k ek
          obtain ⟨ws, ew⟩ := Option.isSome_iff_exists.mp hL
          obtain ⟨a, us, rfl, h1, h2⟩ := viewL_at R ew ro
          have eq := viewS_L e ew
          subst eq
          obtain ⟨y, rfl, ry⟩ := rd.one
          obtain ⟨z, h3, h4, h5⟩ := idxP_at ry hf.1 h2 hf.2 ek
          exact ⟨a, us, y, k, z, rfl, rfl, .of h1, flat_of ry hf.1, flatAll_of h2 hf.2, h3, h4, h5, fun _ => p.same R (.int _)⟩
        · exact p.elim
      · exact p.elim
    · exact p.elim
  · exact p.elim
def rIndexT (H0 : Hp → Prop) (K : PySem.W.Frag) : V → List V → Hp → VK → Prop := fun x xs H Q => ∃ (a : Addr) (ys : List V) (y : V) (j : Nat) (z : V), x = V.ref a ∧ xs = [y] ∧ SqT K H a ys ∧ flatV y = true ∧ ys.all flatV = true ∧ ys[j]? = some z ∧ eqV z y = true ∧
  (∀ (m : Nat) (z' : V), m < j → ys[m]? = some z' → eqV z' y = false) ∧ Q (.int (j : Nat)) H
theorem mt_indexT {X : Cx} : MtR X "tuple.index" (rIndexT (fun _ => True) X.K) := by
  intro pins s σ H x xs v us Q I rx rxs h
  obtain ⟨a, ys, y, j, z, rfl, rfl, hl, fy, fys, hz, hzj, hno, q⟩ := h
  cases rx
  obtain ⟨uy, rfl, ry⟩ := vals1 rxs
  obtain ⟨its, rv, pl, hlen⟩ := I.tuple hl
  obtain ⟨⟨cls, dd, data, sls⟩, ho, hc, n, hdt⟩ := pl
  simp only at hc hdt
  subst hc hdt
  have hvl := rv.length
  obtain ⟨hjd, _⟩ := List.getElem?_eq_some_iff.mp hz
  have hj : j < its.toArray.size := by
    rw [List.size_toArray]
    omega
  have at_ : ∀ (m : Nat) (hm : m < its.toArray.size) (w : V), ys[m]? = some w → eqU y its.toArray[m] = eqV w y := fun m hm w hw => by
    obtain ⟨u, h1, h2⟩ := rv.get hw
    have e : its.toArray[m] = u := by
      have h3 := (List.getElem?_eq_some_iff.mp h1).2
      simpa using h3
    rw [e]
    exact eqU_of h2 (flat_at fys hw)
  refine call_meets PySem.F.slot_tuple_index ⟨_, ho, rfl⟩ PySem.F.entry_tuple_index (PySem.F.args_tuple_index_2 _ _)
    (TI.tuple_indexAt a its.toArray n dd sls uy (eqU y) j hj ?_ ?_) ⟨ho, fun w hw => mem_eqAt ry fy rv fys w (by simpa using hw), ⟨.int (j : Nat), H, I.tok _, ⟨_, rfl⟩, q⟩⟩
  · rw [at_ j hj z hz]
    exact hzj
  · intro m hm hmj
    have hmd : m < ys.length := by
      rw [List.size_toArray] at hm
      omega
    rw [at_ m hm _ (List.getElem?_eq_getElem hmd)]
    exact hno m _ hmj (List.getElem?_eq_getElem hmd)
def isT (d : D) : Bool := (tOf d).isSome
def mMT (f : FM) (mo : ME) (ma : MA) : ME := fun env st => (mo env st).bind fun o s1 => if isT o then (ma env s1).bind fun ds s2 => f o ds s2 else .stuck
theorem opM_indexT {K : PySem.W.Frag} {W : XW} : OpM K W (rIndexT (fun _ => True) K) (fun o ds st => if isT o then fmIndex o ds st else .stuck) := by
  intro ι st H x xs o ds Q R ro rd p
  replace p : (if isT o then fmIndex o ds st else .stuck).post (PO1 K ι st H Q) (PX1 K W ι st H) := p
  split at p
  · rename_i hL
    unfold fmIndex at p
    split at p
    · rename_i zs d e
      split at p
      · rename_i hf
        rw [Bool.and_eq_true] at hf
        split at p
        · rename_i k ek
          obtain ⟨ws, ew⟩ := Option.isSome_iff_exists.mp hL
          obtain ⟨a, us, rfl, h1, h2⟩ := tOf_at ew ro
          have eq : zs = ws := by
            rw [tOf_eq ew] at e
            exact (Option.some.inj e).symm
          subst eq
          obtain ⟨y, rfl, ry⟩ := rd.one
          obtain ⟨z, h3, h4, h5⟩ := idxP_at ry hf.1 h2 hf.2 ek
          exact ⟨a, us, y, k, z, rfl, rfl, h1.sq, flat_of ry hf.1, flatAll_of h2 hf.2, h3, h4, h5, fun _ => p.same R (.int _)⟩
        · exact p.elim
      · exact p.elim
    · exact p.elim
  · exact p.elim
section
variable {X : Cx} {W : XW} {o e : Expr} {es : List Expr} {mo : ME} {ma : MA} {to : TE} {t : TA} {name : Str} {apos cpos : Pos} {id : String} {r : V → List V → Hp → VK → Prop} {f : FM}
theorem pe_bmT (pa : PlainAttrs "tuple") (slot : Slot "tuple" name id) (hty : typeOf (.builtin id) = pure (.type "method_descriptor")) (hm : MtR X id r) (ho : PE X o to) (ha : PA X (e :: es) t)
    (hbase : attributeBase o name X.env (eval o X.env) = eval o X.env)
    (hfew : ((backTo cpos (starEach (e :: es) X.env)).all (fun x => !x.1) && (backToKw cpos (keywordEach [] X.env)).all (fun x => x.1.isSome)
      && decide ((e :: es).length + ([] : List Keyword).length + (if ([] : List Keyword).isEmpty then 0 else 1) < 30)) = true)
    (hline : (apos.endLine == cpos.line) = true) (hs : starEach (e :: es) X.env = (false, eval e X.env) :: starEach es X.env) (hplain : (backTo cpos (starEach es X.env)).any (·.1) = false) :
    PE X (.Call (.Attribute o name apos) (e :: es) [] cpos) (fun σ H Q => to σ H fun x H1 => (∃ a xs, x = .ref a ∧ KTup H1 a xs) ∧ t σ H1 fun xs H2 => r x xs H2 Q) := by
  refine ⟨fun pins s σ H Q I h => ?_⟩
  refine wpAny_Call_method_late hbase hfew hline rfl (thn (ho.run pins s σ H _ I h) fun v s1 hv => ?_)
  obtain ⟨x, H1, I1, r1, ⟨a, xs, rfl, o1, ha1, hd1⟩, q1⟩ := hv
  cases r1
  obtain ⟨hob, hto⟩ := I1.hok a _ ha1
  obtain ⟨_, _, _, ob2, hob2, hcl, _⟩ := hto
  rw [hob] at hob2
  cases hob2
  refine ⟨"tuple", id, pa, slot, hty, ⟨o1, hob, hcl⟩, fun b hb => ?_, ?_⟩
  · cases hb
    exact ⟨o1, hob, hd1⟩
  · have hA := ha.run cpos pins s1 σ H1 _ I1 q1
    rw [hs] at hA ⊢
    refine Calls.callWith_builtin ?_ (Calls.evalArgs_plain ?_)
    · show (false || (backTo cpos (starEach es X.env)).any (·.1)) = false
      rw [hplain]
      rfl
    · exact thn hA fun us s2 ⟨vs, H2, I2, r2, q2⟩ => hm pins s2 σ H2 (.ref a) vs (.ref a) us Q I2 rfl r2 q2
theorem x_mT (pa : PlainAttrs "tuple") (slot : Slot "tuple" name id) (hty : typeOf (.builtin id) = pure (.type "method_descriptor")) (hm : MtR X id r) (hf : OpM X.K W r f) (ho : PE X o (TEo X.K W mo)) (ha : PA X (e :: es) (TAo X.K W ma))
    (hbase : attributeBase o name X.env (eval o X.env) = eval o X.env := by rfl)
    (hfew : ((backTo cpos (starEach (e :: es) X.env)).all (fun x => !x.1) && (backToKw cpos (keywordEach [] X.env)).all (fun x => x.1.isSome)
      && decide ((e :: es).length + ([] : List Keyword).length + (if ([] : List Keyword).isEmpty then 0 else 1) < 30)) = true := by rfl)
    (hline : (apos.endLine == cpos.line) = true := by rfl) (hs : starEach (e :: es) X.env = (false, eval e X.env) :: starEach es X.env := by rfl) (hplain : (backTo cpos (starEach es X.env)).any (·.1) = false := by rfl) :
    PE X (.Call (.Attribute o name apos) (e :: es) [] cpos) (TEo X.K W (mMT f mo ma)) :=
  pe_wrap (pe_bmT pa slot hty hm ho ha hbase hfew hline hs hplain) fun σ H Q q => by
    obtain ⟨ι, env, st, R, EV, p⟩ := q
    refine ⟨ι, env, st, R, EV, Out.post_mono (Out.post_bind p) (fun a s1 q ι1 H1 x R1 E1 ra => ?_) fun _ _ q => q⟩
    split at q
    · rename_i h
      obtain ⟨ws, ew⟩ := Option.isSome_iff_exists.mp h
      obtain ⟨b, us, rfl, h1, h2⟩ := tOf_at ew ra
      refine ⟨⟨b, us, rfl, h1⟩, ι1, env, s1, R1, EV.ext E1, Out.post_mono (Out.post_bind q) (fun ds s2 q2 ι2 H2 xs R2 E2 rb => ?_) fun _ _ z => z.ext E1⟩
      exact hf ι2 s2 H2 _ xs a ds Q R2 (ra.ext E2) rb (Out.post_mono q2 (fun _ _ z => (z.ext E1).ext E2) fun _ _ z => (z.ext E1).ext E2)
    · exact q.elim
theorem fmIndex_L {o : D} {ds : List D} {st : Sto} (h : isT o = false) : (if isL st o then fmIndex o ds st else .stuck) = fmIndex o ds st := by
  by_cases hl : isL st o = true
  · rw [if_pos hl]
  · rw [if_neg hl]
    have e : viewS st o = none := by
      have e1 : viewL st o = none := by
        cases q : viewL st o with
        | none => rfl
        | some z =>
          unfold isL at hl
          rw [q] at hl
          exact absurd rfl hl
      cases o with
      | v w =>
        cases w with
        | tuple _ => cases h
        | _ => exact e1
      | _ => exact e1
    unfold fmIndex
    rw [e]
def mIndex (mo : ME) (ma : MA) : ME := fun env st => (mo env st).bind fun o s1 => if isL s1 o || isT o then (ma env s1).bind fun ds s2 => fmIndex o ds s2 else .stuck
theorem x_index (ho : PE X o (TEo X.K W mo)) (ha : PA X (e :: es) (TAo X.K W ma))
    (hbase : attributeBase o "index" X.env (eval o X.env) = eval o X.env := by rfl)
    (hfew : ((backTo cpos (starEach (e :: es) X.env)).all (fun x => !x.1) && (backToKw cpos (keywordEach [] X.env)).all (fun x => x.1.isSome)
      && decide ((e :: es).length + ([] : List Keyword).length + (if ([] : List Keyword).isEmpty then 0 else 1) < 30)) = true := by rfl)
    (hline : (apos.endLine == cpos.line) = true := by rfl) (hs : starEach (e :: es) X.env = (false, eval e X.env) :: starEach es X.env := by rfl) (hplain : (backTo cpos (starEach es X.env)).any (·.1) = false := by rfl) :
    PE X (.Call (.Attribute o "index" apos) (e :: es) [] cpos) (TEo X.K W (mIndex mo ma)) := by
  have hL := x_m (X := X) (W := W) PySem.F.plainAttrs_list PySem.F.slot_list_index PySem.F.type_list_index mt_index opM_index ho ha hbase hfew hline hs hplain
  have hT := x_mT (X := X) (W := W) PySem.F.plainAttrs_tuple PySem.F.slot_tuple_index PySem.F.type_tuple_index mt_indexT opM_indexT ho ha hbase hfew hline hs hplain
  refine pe_wrap (pe_or hL hT) fun σ H Q q => ?_
  obtain ⟨ι, env, st, R, EV, p⟩ := q
  have lift : ∀ {m : ME}, (m env st).post (PO1 X.K ι st H Q) (PX1 X.K W ι st H) → TEo X.K W m σ H (fun v H' => HF H' → Q v H') := fun z =>
    ⟨ι, env, st, R, EV, Out.post_mono z (fun _ _ w ι' H' x R' E' r _ => w ι' H' x R' E' r) fun _ _ w => w⟩
  have p2 := Out.post_bind p
  cases e1 : mo env st with
  | stuck => rw [e1] at p2; exact p2.elim
  | exn x s1 =>
    refine .inl (lift ?_)
    show (mM _ mo ma env st).post _ _
    unfold mM
    unfold mIndex at p
    rw [e1] at p ⊢
    exact p
  | ok o1 s1 =>
    unfold mIndex at p
    rw [e1, bind_ok] at p
    split at p
    · rename_i hc
      by_cases hl : isT o1 = true
      · refine .inr (lift ?_)
        show (mMT _ mo ma env st).post _ _
        unfold mMT
        rw [e1, bind_ok, if_pos hl]
        simp only [hl, if_true]
        exact p
      · have hf : isT o1 = false := by simpa using hl
        refine .inl (lift ?_)
        show (mM _ mo ma env st).post _ _
        unfold mM
        have h2 : isL s1 o1 = true := by simpa [hf] using hc
        rw [e1, bind_ok, if_pos h2]
        simp only [fmIndex_L hf]
        exact p
    · exact p.elim
end
end Fw
namespace Fw
open PySem PySem.Spec PyProof.Rows L2
def mTB (m : ME) : MT := fun env st => (m env st).bind fun d s1 => match bOf d with
  | some k => .ok k s1
  | none => .stuck
theorem emp_of {F : Addr → Prop} {H : Hp} {xs : List V} {ds : List PyData} (r : RpA F H xs ds) : xs.isEmpty = ds.isEmpty := by cases r <;> rfl
theorem RK.emp {K : PySem.W.Frag} {ι : Gh} {st : Sto} {H : Hp} {kvs : List (PyData × D)} {xs : List (Key × V)} (r : RK K ι st H kvs xs) : xs.isEmpty = kvs.isEmpty := by cases r <;> rfl
theorem RK.len {K : PySem.W.Frag} {ι : Gh} {st : Sto} {H : Hp} {kvs : List (PyData × D)} {xs : List (Key × V)} (r : RK K ι st H kvs xs) : xs.length = kvs.length := (Paired.length r).symm
def kAt (st : Sto) (d : D) : Option (List (PyData × D)) := match d with
  | .ref n => match st[n]? with
    | some (.dct false kvs) => some kvs
    | _ => none
  | _ => none
theorem kAt_at {K : PySem.W.Frag} {ι : Gh} {st : Sto} {H : Hp} (R : SRel K ι st H) {x : V} {d : D} {kvs : List (PyData × D)} (e : kAt st d = some kvs) (r : RD K ι st H x d) :
    ∃ n a xs, d = .ref n ∧ x = .ref a ∧ st[n]? = some (.dct false kvs) ∧ ι.ad[n]? = some a ∧ H a = some (.dK xs) ∧ RK K ι st H kvs xs := by
  cases d with
  | ref k =>
    obtain ⟨a, h1, h2⟩ := r
    cases q : st[k]? with
    | none => simp only [kAt, q] at e; cases e
    | some o =>
      cases o with
      | dct t zs =>
        cases t with
        | false =>
          simp only [kAt, q, Option.some.injEq] at e
          subst e
          obtain ⟨xs, e1, r⟩ := R.obj k _ a q h1
          exact ⟨k, a, xs, rfl, h2, q, h1, e1, r⟩
        | true => simp only [kAt, q] at e; cases e
      | _ => simp only [kAt, q] at e; cases e
  | _ => cases e
def truS' (st : Sto) (d : D) : Option Bool := match viewS st d with
  | some xs => some (!xs.isEmpty)
  | none => match d with
    | .v .none => some false
    | .v (.bool b) => some b
    | .v (.int i) => some (i != 0)
    | .v (.str z) => if z.length ≤ lim then some ((z.length : Int) != 0) else none
    | d => (kAt st d).map fun kvs => !kvs.isEmpty
def mTru' (m : ME) : MT := fun env st => (m env st).bind fun d s1 => match truS' s1 d with
  | some k => .ok k s1
  | none => .stuck
theorem truS_at {K : PySem.W.Frag} {ι : Gh} {st : Sto} {H : Hp} (R : SRel K ι st H) {d : D} {x : V} {k : Bool} (e : truS' st d = some k) (r : RD K ι st H x d) : TruV K x H k := by
  unfold truS' at e
  split at e
  · rename_i xs e1
    obtain ⟨a, us, rfl, h1, h2⟩ := viewS_at R e1 r
    rw [← Option.some.inj e, ← emp_of h2]
    rcases h1 with h1 | h1
    · exact .inl ⟨us, .of h1, rfl⟩
    · exact .inr (.inl ⟨us, h1.sq, rfl⟩)
  · split at e
    · have r' : Rp (Frz ι st) H x .none := r
      cases r'
      exact (Option.some.inj e).symm
    · rename_i b _
      have r' : Rp (Frz ι st) H x (.bool b) := r
      cases r'
      exact (Option.some.inj e).symm
    · rename_i i _
      have r' : Rp (Frz ι st) H x (.int i) := r
      cases r'
      exact (Option.some.inj e).symm
    · rename_i z _
      have r' : Rp (Frz ι st) H x (.str z) := r
      cases r'
      split at e
      · rename_i hl
        exact ⟨lim_ok hl, (Option.some.inj e).symm⟩
      · cases e
    · obtain ⟨kvs, e1, rfl⟩ := Option.map_eq_some_iff.mp e
      obtain ⟨n, a, xs, _, rfl, _, _, h1, h2⟩ := kAt_at R e1 r
      exact .inr (.inr ⟨xs, h1, by rw [h2.emp]⟩)
section
variable {X : Cx} {W : XW} {a b c e : Expr} {es rest : List Expr} {m ma mb mc : ME} {pos : Pos}
theorem tt_tb {σ : L2.St} {H : Hp} {Q : Bool → Hp → Prop} (q : TTo X.K W (mTB m) σ H Q) : TEo X.K W m σ H (fun x H1 => ∃ c, x = .bl c ∧ Q c H1) := by
  obtain ⟨ι, env, st, R, EV, p⟩ := q
  refine ⟨ι, env, st, R, EV, Out.post_mono (Out.post_bind p) (fun d s1 q ι1 H1 x R1 E1 ra => ?_) fun _ _ q => q⟩
  split at q
  · rename_i k e
    exact ⟨k, bOf_at e ra, q ι1 H1 R1 E1⟩
  · exact q.elim
theorem x_c {op : CmpOp} (h : PC X op a b (TEo X.K W m)) (h1 : behindInMarks op b = false := by first | exact nobehind _ (by decide) (by decide) | rfl) : PE X (.Compare a [op] [b] pos) (TEo X.K W m) := pe_cmp h h1
theorem t_c {op : CmpOp} (h : PC X op a b (TEo X.K W m)) (h1 : behindInMarks op b = false := by first | exact nobehind _ (by decide) (by decide) | rfl) : PT X (.Compare a [op] [b] pos) (TTo X.K W (mTB m)) :=
  ⟨fun pins s σ H Q I q => (pt_cmp h h1).run pins s σ H Q I (tt_tb q)⟩
def mNotT (m : MT) : MT := fun env st => (m env st).bind fun k s1 => .ok (!k) s1
def mAndT (m n : MT) : MT := fun env st => (m env st).bind fun k s1 => if k then n env s1 else .ok false s1
def mOrT (m n : MT) : MT := fun env st => (m env st).bind fun k s1 => if k then .ok true s1 else n env s1
variable {t u : MT}
theorem t_and1 (h : PT X a (TTo X.K W t)) : PW X (.BoolOp .And [a] pos) (TTo X.K W t) := pw_and1 h
theorem t_or1 (h : PT X a (TTo X.K W t)) : PW X (.BoolOp .Or [a] pos) (TTo X.K W t) := pw_or1 h
theorem t_and (h : PT X a (TTo X.K W t)) (h2 : PW X (.BoolOp .And (b :: rest) pos) (TTo X.K W u)) : PW X (.BoolOp .And (a :: b :: rest) pos) (TTo X.K W (mAndT t u)) :=
  pw_wrap (pw_and h h2) fun σ H Q q => by
    obtain ⟨ι, env, st, R, EV, p⟩ := q
    refine ⟨ι, env, st, R, EV, Out.post_mono (Out.post_bind p) (fun k s1 q ι1 H1 R1 E1 => ?_) fun _ _ q => q⟩
    cases k with
    | true =>
      rw [if_pos rfl]
      exact ⟨ι1, env, s1, R1, EV.ext E1, Out.post_mono q (fun _ _ z ι' H' R' E' _ => z.ext E1 ι' H' R' E') fun _ _ z => z.ext E1⟩
    | false =>
      rw [if_neg Bool.false_ne_true]
      exact fun _ => q ι1 H1 R1 E1
theorem t_or (h : PT X a (TTo X.K W t)) (h2 : PW X (.BoolOp .Or (b :: rest) pos) (TTo X.K W u)) : PW X (.BoolOp .Or (a :: b :: rest) pos) (TTo X.K W (mOrT t u)) :=
  pw_wrap (pw_or h h2) fun σ H Q q => by
    obtain ⟨ι, env, st, R, EV, p⟩ := q
    refine ⟨ι, env, st, R, EV, Out.post_mono (Out.post_bind p) (fun k s1 q ι1 H1 R1 E1 => ?_) fun _ _ q => q⟩
    cases k with
    | false =>
      rw [if_neg Bool.false_ne_true]
      exact ⟨ι1, env, s1, R1, EV.ext E1, Out.post_mono q (fun _ _ z ι' H' R' E' _ => z.ext E1 ι' H' R' E') fun _ _ z => z.ext E1⟩
    | true =>
      rw [if_pos rfl]
      exact fun _ => q ι1 H1 R1 E1
def mAndV (ma mb : ME) : ME := fun env st => (ma env st).bind fun d s1 => match truS' s1 d with
  | some true => mb env s1
  | some false => .ok d s1
  | none => .stuck
def mOrV (ma mb : ME) : ME := fun env st => (ma env st).bind fun d s1 => match truS' s1 d with
  | some false => mb env s1
  | some true => .ok d s1
  | none => .stuck
def mNotV (ma : ME) : ME := fun env st => (ma env st).bind fun d s1 => match truS' s1 d with
  | some k => .ok (.v (.bool (!k))) s1
  | none => .stuck
theorem x_one {op} (h : PE X a (TEo X.K W m)) : PE X (.BoolOp op [a] pos) (TEo X.K W m) := pe_one h
theorem x_and (ha : PE X a (TEo X.K W ma)) (hb : PE X (.BoolOp .And (b :: rest) pos) (TEo X.K W mb)) : PE X (.BoolOp .And (a :: b :: rest) pos) (TEo X.K W (mAndV ma mb)) :=
  pe_wrap (pe_andT ha hb) fun σ H Q q => by
    obtain ⟨ι, env, st, R, EV, p⟩ := q
    refine ⟨ι, env, st, R, EV, Out.post_mono (Out.post_bind p) (fun d s1 q ι1 H1 x R1 E1 ra => ?_) fun _ _ q => q⟩
    split at q
    · rename_i e
      refine ⟨true, truS_at R1 e ra, ?_⟩
      rw [if_pos rfl]
      exact ⟨ι1, env, s1, R1, EV.ext E1, Out.post_mono q (fun _ _ z ι' H' x' R' E' r' _ => z.ext E1 ι' H' x' R' E' r') fun _ _ z => z.ext E1⟩
    · rename_i e
      refine ⟨false, truS_at R1 e ra, ?_⟩
      rw [if_neg Bool.false_ne_true]
      exact fun _ => q ι1 H1 x R1 E1 ra
    · exact q.elim
def mIte (t : MT) (ma mb : ME) : ME := fun env st => (t env st).bind fun k s1 => if k then ma env s1 else mb env s1
end
end Fw
namespace Fw
open PySem PySem.Spec PyProof.Rows L2
inductive SO where
  | nx (env : Ev) (st : Sto)
  | rt (d : D) (st : Sto)
  | bk (env : Ev) (st : Sto)
  | ct (env : Ev) (st : Sto)
  | exn (e : Exn) (st : Sto)
  | stuck
abbrev MS := Ev → Sto → SO
def SO.post (K : PySem.W.Frag) (W : XW) (ι : Gh) (st : Sto) (H : Hp) (D : Ends) : SO → Prop
  | .nx env s1 => ∀ ι' H' σ', SRel K ι' s1 H' → Ext ι st H ι' s1 H' → EvR K ι' s1 H' σ' env → D.nx σ' H'
  | .rt d s1 => ∀ ι' H' x, SRel K ι' s1 H' → Ext ι st H ι' s1 H' → RD K ι' s1 H' x d → D.rt x H'
  | .bk env s1 => ∀ ι' H' σ', SRel K ι' s1 H' → Ext ι st H ι' s1 H' → EvR K ι' s1 H' σ' env → D.bk σ' H'
  | .ct env s1 => ∀ ι' H' σ', SRel K ι' s1 H' → Ext ι st H ι' s1 H' → EvR K ι' s1 H' σ' env → D.ct σ' H'
  | .exn e s1 => PX1 K W ι st H e s1
  | .stuck => False
def TSo (K : PySem.W.Frag) (W : XW) (m : MS) : TS := fun D σ H => ∃ ι env st, SRel K ι st H ∧ EvR K ι st H σ env ∧ (m env st).post K W ι st H D
def Out.thn {α : Type} (x : Out α) (f : α → Sto → SO) : SO := match x with
  | .ok a st => f a st
  | .exn e st => .exn e st
  | .stuck => .stuck
@[simp] theorem thn_ok {α : Type} (a : α) (st : Sto) (f : α → Sto → SO) : (Out.ok a st).thn f = f a st := rfl
def SO.seq (x : SO) (f : MS) : SO := match x with
  | .nx env st => f env st
  | o => o
section
variable {K : PySem.W.Frag} {W : XW} {ι ι' : Gh} {st st' : Sto} {H H' : Hp}
theorem SO.post_ext {D : Ends} (E : Ext ι st H ι' st' H') : ∀ {o : SO}, o.post K W ι st H D → o.post K W ι' st' H' D
  | .nx _ _, h => fun i1 h1 s1 R1 E1 r => h i1 h1 s1 R1 (E.trans E1) r
  | .rt _ _, h => fun i1 h1 s1 R1 E1 r => h i1 h1 s1 R1 (E.trans E1) r
  | .bk _ _, h => fun i1 h1 s1 R1 E1 r => h i1 h1 s1 R1 (E.trans E1) r
  | .ct _ _, h => fun i1 h1 s1 R1 E1 r => h i1 h1 s1 R1 (E.trans E1) r
  | .exn _ _, h => PX1.ext h E
  | .stuck, h => h
theorem SO.post_mono {D D' : Ends} (h1 : ∀ σ H, D.nx σ H → D'.nx σ H) (h2 : ∀ x H, D.rt x H → D'.rt x H) (h3 : ∀ σ H, D.bk σ H → D'.bk σ H) (h4 : ∀ σ H, D.ct σ H → D'.ct σ H) : ∀ {o : SO}, o.post K W ι st H D → o.post K W ι st H D'
  | .nx _ _, h => fun i1 g s1 R1 E1 r => h1 _ _ (h i1 g s1 R1 E1 r)
  | .rt _ _, h => fun i1 g s1 R1 E1 r => h2 _ _ (h i1 g s1 R1 E1 r)
  | .bk _ _, h => fun i1 g s1 R1 E1 r => h3 _ _ (h i1 g s1 R1 E1 r)
  | .ct _ _, h => fun i1 g s1 R1 E1 r => h4 _ _ (h i1 g s1 R1 E1 r)
  | .exn _ _, h => h
  | .stuck, h => h
theorem thn_post {α : Type} {x : Out α} {f : α → Sto → SO} {D : Ends} (h : (x.thn f).post K W ι st H D) : x.post (fun a s1 => (f a s1).post K W ι st H D) (PX1 K W ι st H) := by
  cases x <;> exact h
end
def hfE (D : Ends) : Ends := ⟨fun σ H => HF H → D.nx σ H, fun v H => HF H → D.rt v H, fun σ H => HF H → D.bk σ H, fun σ H => HF H → D.ct σ H⟩
theorem hf_SP {X : Cx} {pins : List (Addr × Obj)} {D : Ends} {f : Flow} {s' : Shared} (h : SP X pins (hfE D) f s') : SP X pins D f s' := by
  cases f with
  | next => obtain ⟨σ', H', I, q⟩ := h; exact ⟨σ', H', I, q (hf_of I)⟩
  | brk => obtain ⟨σ', H', I, q⟩ := h; exact ⟨σ', H', I, q (hf_of I)⟩
  | cont => obtain ⟨σ', H', I, q⟩ := h; exact ⟨σ', H', I, q (hf_of I)⟩
  | ret u => obtain ⟨v, σ', H', I, r, q⟩ := h; exact ⟨v, σ', H', I, r, q (hf_of I)⟩
theorem post_hf {K : PySem.W.Frag} {W : XW} {ι : Gh} {st : Sto} {H : Hp} {D : Ends} {o : SO} (h : o.post K W ι st H D) : o.post K W ι st H (hfE D) :=
  SO.post_mono (fun _ _ q _ => q) (fun _ _ q _ => q) (fun _ _ q _ => q) (fun _ _ q _ => q) h
section
variable {X : Cx} {W : XW} {s : Stmt} {ss rest : List Stmt} {e c : Expr} {m : ME} {t : MT} {a b : MS} {pos : Pos}
theorem ps_wrap {tt : TS} {m : MS} (h : PS X s tt) (hi : ∀ D σ H, TSo X.K W m D σ H → tt (hfE D) σ H) : PS X s (TSo X.K W m) :=
  ⟨fun pins s σ H D I q => thn (h.run pins s σ H _ I (hi D σ H q)) fun _ _ z => hf_SP z⟩
theorem pss_wrap {tt : TS} {m : MS} (h : PSs X ss tt) (hi : ∀ D σ H, TSo X.K W m D σ H → tt (hfE D) σ H) : PSs X ss (TSo X.K W m) :=
  ⟨fun pins s σ H D I q => thn (h.run pins s σ H _ I (hi D σ H q)) fun _ _ z => hf_SP z⟩
def sNil : MS := fun env st => .nx env st
def sSeq (a b : MS) : MS := fun env st => (a env st).seq b
theorem ss_nil : PSs X [] (TSo X.K W sNil) := pss_wrap pss_nil fun D σ H q => by
  obtain ⟨ι, env, st, R, EV, p⟩ := q
  exact fun _ => p ι H σ R Ext.refl EV
theorem ss_one (h : PS X s (TSo X.K W a)) : PSs X [s] (TSo X.K W a) := pss_one h
theorem ss_cons (h : PS X s (TSo X.K W a)) (h2 : PSs X rest (TSo X.K W b)) : PSs X (s :: rest) (TSo X.K W (sSeq a b)) := by
  refine ⟨fun pins sh σ H D I q => (pss_cons h h2).run pins sh σ H D I ?_⟩
  obtain ⟨ι, env, st, R, EV, p⟩ := q
  refine ⟨ι, env, st, R, EV, ?_⟩
  unfold sSeq at p
  cases e : a env st with
  | nx env1 s1 =>
    rw [e] at p
    exact fun ι1 H1 σ1 R1 E1 EV1 => ⟨ι1, env1, s1, R1, EV1, SO.post_ext E1 p⟩
  | rt d s1 => rw [e] at p; exact p
  | bk e1 s1 => rw [e] at p; exact p
  | ct e1 s1 => rw [e] at p; exact p
  | exn e1 s1 => rw [e] at p; exact p
  | stuck => rw [e] at p; exact p
def sRet (m : ME) : MS := fun env st => (m env st).thn fun d s1 => .rt d s1
def sRetN : MS := fun _ st => .rt (.v .none) st
def sExp (m : ME) : MS := fun env st => (m env st).thn fun _ s1 => .nx env s1
def sIf (t : MT) (a b : MS) : MS := fun env st => (t env st).thn fun k s1 => if k then a env s1 else b env s1
theorem s_ret (h : PE X e (TEo X.K W m)) : PS X (.Return (some e) pos) (TSo X.K W (sRet m)) := ps_wrap (ps_ret h) fun D σ H q => by
  obtain ⟨ι, env, st, R, EV, p⟩ := q
  exact ⟨ι, env, st, R, EV, Out.post_mono (thn_post p) (fun d s1 q ι1 H1 x R1 E1 ra _ => q ι1 H1 x R1 E1 ra) fun _ _ q => q⟩
theorem s_expr (h : PE X e (TEo X.K W m)) (hs : swapsWith e none pos.line X.env = pure false := by rfl) : PS X (.Expr e pos) (TSo X.K W (sExp m)) := ps_wrap (ps_expr h hs) fun D σ H q => by
  obtain ⟨ι, env, st, R, EV, p⟩ := q
  exact ⟨ι, env, st, R, EV, Out.post_mono (thn_post p) (fun d s1 q ι1 H1 x R1 E1 ra _ => q ι1 H1 σ R1 E1 (EV.ext E1)) fun _ _ q => q⟩
theorem s_if {p q : List Stmt} (hc : PT X c (TTo X.K W t)) (ha : PSs X p (TSo X.K W a)) (hb : PSs X q (TSo X.K W b)) : PS X (.If c p q pos) (TSo X.K W (sIf t a b)) := ps_wrap (ps_if hc ha hb) fun D σ H q => by
  obtain ⟨ι, env, st, R, EV, p⟩ := q
  refine ⟨ι, env, st, R, EV, Out.post_mono (thn_post p) (fun k s1 q ι1 H1 R1 E1 => ?_) fun _ _ q => q⟩
  cases k with
  | true => exact iteT ⟨ι1, env, s1, R1, EV.ext E1, post_hf (SO.post_ext E1 q)⟩
  | false => exact iteF ⟨ι1, env, s1, R1, EV.ext E1, post_hf (SO.post_ext E1 q)⟩
end
inductive Itm where
  | one (d : D)
  | many (ds : List D)
def RI (K : PySem.W.Frag) (ι : Gh) (st : Sto) (H : Hp) (x : V) : Itm → Prop
  | .one d => RD K ι st H x d
  | .many ds => ∃ a xs, x = .ref a ∧ Rd H a (.tup xs) ∧ Frz ι st a ∧ RDs K ι st H xs ds
theorem RI.ext {K : PySem.W.Frag} {ι ι' : Gh} {st st' : Sto} {H H' : Hp} (E : Ext ι st H ι' st' H') {x : V} : ∀ {d : Itm}, RI K ι st H x d → RI K ι' st' H' x d
  | .one _, h => RD.ext E h
  | .many _, ⟨a, xs, h1, h2, h3, h4⟩ => by
    rcases h2 with h2 | ⟨o, h2⟩
    · obtain ⟨f, k⟩ := E.keep _ _ h2 h3
      exact ⟨a, xs, h1, .inl k, f, RDs.ext E h4⟩
    · obtain ⟨f, k⟩ := E.keep _ _ h2 h3
      exact ⟨a, xs, h1, .inr ⟨o, k⟩, f, RDs.ext E h4⟩
abbrev MG := Itm → Ev → Sto → Out Ev
abbrev MGs := List D → Ev → Sto → Out Ev
def Wp (vs : Option (List Nat)) (σ σ' : L2.St) : Prop := match vs with
  | none => True
  | some vs => L2.wipe σ' vs = L2.wipe σ vs
theorem Wp.refl {vs : Option (List Nat)} {σ : L2.St} : Wp vs σ σ := by cases vs <;> trivial
theorem Wp.trans {vs : Option (List Nat)} {σ σ' σ2 : L2.St} (a : Wp vs σ σ') (b : Wp vs σ' σ2) : Wp vs σ σ2 := by
  cases vs with
  | none => trivial
  | some vs => exact Eq.trans b a
theorem wipe_set {i : Nat} {v : V} : ∀ {vs : List Nat} {σ : L2.St}, i ∈ vs → L2.wipe (σ.set i (some v)) vs = L2.wipe σ vs
  | j :: vs, σ, h => by
    unfold L2.wipe
    by_cases e : i ∈ vs
    · rw [wipe_set e]
    · have hj : i = j := by
        rcases List.mem_cons.mp h with h | h
        · exact h
        · exact absurd h e
      subst hj
      have key : ∀ (ws : List Nat), i ∉ ws → L2.wipe (σ.set i (some v)) ws = (L2.wipe σ ws).set i (some v) := by
        intro ws
        induction ws with
        | nil => intro _; rfl
        | cons k ws ih =>
          intro hk
          rw [List.mem_cons, not_or] at hk
          unfold L2.wipe
          rw [ih hk.2, List.set_comm _ _ hk.1]
      rw [key vs e, List.set_set]
theorem Wp.set {vs : Option (List Nat)} {i : Nat} (h : ∀ ws, vs = some ws → i ∈ ws) {σ : L2.St} {v : V} : Wp vs σ (σ.set i (some v)) := by
  cases vs with
  | none => trivial
  | some ws => exact wipe_set (h ws rfl)
def PG1 (K : PySem.W.Frag) (vs : Option (List Nat)) (σ : L2.St) (ι : Gh) (st : Sto) (H : Hp) (Q : L2.St → Hp → Prop) (env : Ev) (st' : Sto) : Prop := ∀ ι' H' σ', SRel K ι' st' H' → Ext ι st H ι' st' H' → EvR K ι' st' H' σ' env → Wp vs σ σ' → Q σ' H'
theorem PG1.ext {K : PySem.W.Frag} {vs : Option (List Nat)} {σ σ1 : L2.St} {ι ι' : Gh} {st st' s2 : Sto} {H H' : Hp} {Q : L2.St → Hp → Prop} {env : Ev} (h : PG1 K vs σ ι st H Q env s2) (e : Ext ι st H ι' st' H') (w : Wp vs σ σ1) : PG1 K vs σ1 ι' st' H' Q env s2 :=
  fun i g σ R E r z => h i g σ R (e.trans E) r (w.trans z)
def TGo (K : PySem.W.Frag) (W : XW) (m : MG) (vs : Option (List Nat) := none) : TG := fun x σ H Q => ∃ ι env st d, SRel K ι st H ∧ EvR K ι st H σ env ∧ RI K ι st H x d ∧ (m d env st).post (PG1 K vs σ ι st H Q) (PX1 K W ι st H)
def TGso (K : PySem.W.Frag) (W : XW) (m : MGs) (vs : Option (List Nat) := none) : TGs := fun xs σ H Q => ∃ ι env st ds, SRel K ι st H ∧ EvR K ι st H σ env ∧ RDs K ι st H xs ds ∧ (m ds env st).post (PG1 K vs σ ι st H Q) (PX1 K W ι st H)
def gNm (i : Nat) : MG := fun x env st => match x with
  | .one d => .ok (env.set i (some d)) st
  | .many _ => .stuck
def gNone : MGs := fun ds env st => match ds with
  | [] => .ok env st
  | _ => .stuck
def gMore (g : MG) (r : MGs) : MGs := fun ds env st => match ds with
  | d :: t => (g (.one d) env st).bind fun e1 s1 => r t e1 s1
  | _ => .stuck
def gTp (n : Nat) (gs : MGs) : MG := fun x env st => match x with
  | .many ds => if ds.length = n then gs ds env st else .stuck
  | .one d => match tOf d with
    | some zs => if zs.length = n then gs (zs.map .v) env st else .stuck
    | none => .stuck
section
variable {X : Cx} {W : XW} {tg e : Expr} {ts : List Expr} {g : MG} {gs : MGs} {pos : Pos} {vs : Option (List Nat)}
theorem pg_wrap {t : TG} (h : PG X tg t) (hi : ∀ x σ H Q, TGo X.K W g vs x σ H Q → t x σ H (fun σ' H' => HF H' → Q σ' H')) : PG X tg (TGo X.K W g vs) :=
  ⟨fun pins s σ H v u Q I r q => thn (h.run pins s σ H v u _ I r (hi v σ H Q q)) fun _ _ ⟨σ', H', I', q'⟩ => ⟨σ', H', I', q' (hf_of I')⟩⟩
theorem pgs_wrap {t : TGs} (h : PGs X ts t) (hi : ∀ x σ H Q, TGso X.K W gs vs x σ H Q → t x σ H (fun σ' H' => HF H' → Q σ' H')) : PGs X ts (TGso X.K W gs vs) :=
  ⟨fun pins s σ H v u Q I r q => thn (h.run pins s σ H v u _ I r (hi v σ H Q q)) fun _ _ ⟨σ', H', I', q'⟩ => ⟨σ', H', I', q' (hf_of I')⟩⟩
theorem g_name (i : Nat) {x : Str} (h : PG X (.Name x pos) (gName i)) (hv : ∀ ws, vs = some ws → i ∈ ws := by first | exact fun _ z => nomatch z | (intro ws z; cases z; decide)) : PG X (.Name x pos) (TGo X.K W (gNm i) vs) := pg_wrap h fun x σ H Q q => by
  obtain ⟨ι, env, st, d, R, EV, r, p⟩ := q
  cases d with
  | one d => exact fun _ => p ι H _ R Ext.refl (EV.set r i) (Wp.set hv)
  | many _ => exact p.elim
theorem gs_nil : PGs X [] (TGso X.K W gNone vs) := pgs_wrap pgs_nil fun xs σ H Q q => by
  obtain ⟨ι, env, st, ds, R, EV, r, p⟩ := q
  cases r with
  | nil => exact ⟨rfl, fun _ => p ι H σ R Ext.refl EV Wp.refl⟩
  | cons _ _ => exact p.elim
theorem gs_cons (h : PG X e (TGo X.K W g vs)) (h2 : PGs X ts (TGso X.K W gs vs)) (hs : (assignEach (e :: ts) X.env).map (·.2) = assign e X.env :: (assignEach ts X.env).map (·.2) := by rfl) : PGs X (e :: ts) (TGso X.K W (gMore g gs) vs) :=
  pgs_wrap (pgs_cons h h2 hs) fun xs σ H Q q => by
    obtain ⟨ι, env, st, ds, R, EV, r, p⟩ := q
    cases r with
    | nil => exact p.elim
    | cons h1 t =>
      rename_i _ d _ ds
      refine ⟨_, _, rfl, ι, env, st, .one d, R, EV, h1, Out.post_mono (Out.post_bind p) (fun e1 s1 q ι1 H1 σ1 R1 E1 EV1 w1 => ?_) fun _ _ q => q⟩
      exact ⟨ι1, e1, s1, ds, R1, EV1, RDs.ext E1 t, Out.post_mono q (fun _ _ z i g σ' R' E' r' w' _ => z.ext E1 w1 i g σ' R' E' r' w') fun _ _ z => z.ext E1⟩
theorem rds_vals {K : PySem.W.Frag} {ι : Gh} {st : Sto} {H : Hp} : ∀ {xs : List V} {zs : List PyData}, RpA (Frz ι st) H xs zs → RDs K ι st H xs (zs.map .v)
  | _, _, .nil => .nil
  | _, _, .cons h t => .cons h (rds_vals t)
theorem g_tup {k n : Nat} (hc : X.calm = true) (h : PGs X ts (TGso X.K W gs vs)) (hst : PG X (.Tuple ts k pos) (gTup X.K n (TGso X.K W gs vs))) : PG X (.Tuple ts k pos) (TGo X.K W (gTp n gs) vs) := pg_wrap hst fun x σ H Q q => by
  obtain ⟨ι, env, st, d, R, EV, r, p⟩ := q
  have up : ∀ {ds : List D} {xs : List V}, RDs X.K ι st H xs ds → (gs ds env st).post (PG1 X.K vs σ ι st H Q) (PX1 X.K W ι st H) → TGso X.K W gs vs xs σ H (fun σ' H' => HF H' → Q σ' H') := fun r q =>
    ⟨ι, env, st, _, R, EV, r, Out.post_mono q (fun _ _ z i g σ' R' E' r' w' _ => z i g σ' R' E' r' w') fun _ _ z => z⟩
  cases d with
  | many ds =>
    obtain ⟨a, xs, rfl, h1, h2, h3⟩ := r
    replace p : (if ds.length = n then gs ds env st else .stuck).post (PG1 X.K vs σ ι st H Q) (PX1 X.K W ι st H) := p
    split at p
    · rename_i hl
      exact ⟨a, xs, rfl, .inl h1, by rw [h3.length]; exact hl, up h3 p⟩
    · exact p.elim
  | one d =>
    unfold gTp at p
    simp only at p
    split at p
    · rename_i zs e
      split at p
      · rename_i hl
        obtain ⟨a, xs, rfl, h1, h2⟩ := tOf_at e r
        exact ⟨a, xs, rfl, h1.sq, by rw [h2.length]; exact hl, up (rds_vals h2) p⟩
      · exact p.elim
    · exact p.elim
end
theorem hf_upd {H : Hp} (h : HF H) {p : Addr} {u : HO} (hu : szOk u) : HF (upd H p u) := fun a v e => by
  by_cases ha : a = p
  · subst ha
    rw [upd_same] at e
    cases e
    exact hu
  · rw [upd_ne ha] at e
    exact h a v e
theorem hf_tup {H : Hp} (h : HF H) {p : Addr} {xs : List V} (hl : xs.length ≤ sizeLine) : HF (upd H p (.tup xs)) := hf_upd h hl
theorem hf_lst {H : Hp} (h : HF H) {p : Addr} {xs : List V} (hl : xs.length ≤ sizeLine) : HF (upd H p (.lst xs)) := hf_upd h hl
def sAsg (m : ME) (g : MG) : MS := fun env st => (m env st).thn fun d s1 => (g (.one d) env s1).thn fun e1 s2 => .nx e1 s2
def sAsgT (n : Nat) (m : MA) (gs : MGs) : MS := fun env st => (m env st).thn fun ds s1 => if ds.length = n ∧ n ≤ 1000 then (gs ds env s1).thn fun e1 s2 => .nx e1 s2 else .stuck
def sPar2 (i j : Nat) (m : MA) : MS := fun env st => (m env st).thn fun ds s1 => match ds with
  | [a, b] => .nx ((env.set i (some a)).set j (some b)) s1
  | _ => .stuck
def sPar3 (i j l : Nat) (m : MA) : MS := fun env st => (m env st).thn fun ds s1 => match ds with
  | [a, b, c] => .nx (((env.set i (some a)).set j (some b)).set l (some c)) s1
  | _ => .stuck
def putD (kvs : List (PyData × D)) (k : PyData) (d : D) : List (PyData × D) :=
  if (kvs.any fun p => keq false p.1 k) = true then kvs.map (fun p => if keq false p.1 k then (p.1, d) else p) else kvs ++ [(k, d)]
def setU (o i d : D) (st : Sto) : Out Unit := match lAt st o, i, d with
  | some (n, zs), .v (.int k), .v z => match ixN zs.length k with
    | some j => .ok () (st.set n (.lst (zs.set j z)))
    | none => .stuck
  | some _, _, _ => .stuck
  | none, .v kd, d => match o, kAt st o, key1 kd with
    | .ref n, some kvs, some _ => if kvs.length < lim ∧ d.low n = true then .ok () (st.set n (.dct false (putD kvs kd d))) else .stuck
    | _, _, _ => .stuck
  | none, _, _ => .stuck
def sSub (m mo mi : ME) : MS := fun env st => (m env st).thn fun d s1 => (mo env s1).thn fun o s2 => (mi env s2).thn fun i s3 => (setU o i d s3).thn fun _ s4 => .nx env s4
section
variable {K : PySem.W.Frag} {ι : Gh} {st : Sto} {H : Hp}
theorem keq_kD {kd : PyData} {k : Key} (hk : key1 kd = some k) (k' : Key) : keq false (kD k') kd = decide (k' = k) := by
  unfold keq
  rw [if_neg Bool.false_ne_true, key1_kD, hk]
  by_cases e : k' = k
  · subst e; simp
  · rw [decide_eq_false e, decide_eq_false fun z => e (Option.some.inj z)]
theorem RK.any {kd : PyData} {k : Key} (hk : key1 kd = some k) : ∀ {kvs : List (PyData × D)} {xs : List (Key × V)}, RK K ι st H kvs xs → (xs.any fun kv => decide (kv.1 = k)) = kvs.any fun p => keq false p.1 kd
  | _, _, .nil => rfl
  | _, _, .cons (a := p) (b := q) h t => by
    rw [List.any_cons, List.any_cons, RK.any hk t, h.1, keq_kD hk]
theorem RK.repl {kd : PyData} {k : Key} (hk : key1 kd = some k) {d : D} {y : V} (r : RD K ι st H y d) : ∀ {kvs : List (PyData × D)} {xs : List (Key × V)}, RK K ι st H kvs xs →
    RK K ι st H (kvs.map fun p => if keq false p.1 kd then (p.1, d) else p) (xs.map fun kv => if kv.1 = k then (kv.1, y) else kv)
  | _, _, .nil => .nil
  | _, _, .cons (a := p) (b := q) h t => by
    rw [List.map_cons, List.map_cons]
    refine .cons ?_ (RK.repl hk r t)
    rw [h.1, keq_kD hk]
    by_cases e : q.1 = k
    · rw [if_pos (decide_eq_true e), if_pos e]
      exact ⟨rfl, r⟩
    · rw [if_neg (by simpa using e), if_neg e]
      exact h
theorem RK.app : ∀ {kvs kvs2 : List (PyData × D)} {xs ys : List (Key × V)}, RK K ι st H kvs xs → RK K ι st H kvs2 ys → RK K ι st H (kvs ++ kvs2) (xs ++ ys)
  | _, _, _, _, .nil, s => s
  | _, _, _, _, .cons h t, s => .cons h (RK.app t s)
theorem RK.put {kd : PyData} {k : Key} (hk : key1 kd = some k) {d : D} {y : V} (r : RD K ι st H y d) {kvs : List (PyData × D)} {xs : List (Key × V)} (h : RK K ι st H kvs xs) : RK K ι st H (putD kvs kd d) (putK xs k y) := by
  unfold putD putK
  rw [RK.any hk h]
  split
  · exact RK.repl hk r h
  · exact h.app (.cons ⟨kD_of hk, r⟩ .nil)
theorem putD_low {n : Nat} {kvs : List (PyData × D)} {kd : PyData} {d : D} (h : (kvs.all fun p => p.2.low n) = true) (hd : d.low n = true) : ((putD kvs kd d).all fun p => p.2.low n) = true := by
  unfold putD
  split
  · rw [List.all_map]
    refine List.all_eq_true.mpr fun p hp => ?_
    show (if keq false p.1 kd = true then (p.1, d) else p).2.low n = true
    split
    · exact hd
    · exact List.all_eq_true.mp h p hp
  · rw [List.all_append, h]
    simp [hd]
end
section
variable {X : Cx} {W : XW} {tg e o i : Expr} {ts es : List Expr} {m mo mi : ME} {ma : MA} {g : MG} {gs : MGs} {pos pos' : Pos}
theorem s_asg (he : PE X e (TEo X.K W m)) (hg : PG X tg (TGo X.K W g)) (hs : swapsWithSole [tg] e pos.line X.env = pure false := by rfl) (hw : swappedStores [tg] e X.env = pure none := by rfl) (h1 : (assignEach [tg] X.env).map (·.2) = [assign tg X.env] := by rfl) : PS X (.Assign [tg] e pos) (TSo X.K W (sAsg m g)) :=
  ps_wrap (ps_asg he hg hs hw h1) fun D σ H q => by
    obtain ⟨ι, env, st, R, EV, p⟩ := q
    refine ⟨ι, env, st, R, EV, Out.post_mono (thn_post p) (fun d s1 q ι1 H1 x R1 E1 ra => ?_) fun _ _ q => q⟩
    exact ⟨ι1, env, s1, .one d, R1, EV.ext E1, ra, Out.post_mono (thn_post q) (fun e1 s2 q2 i2 h2 σ2 R2 E2 EV2 _ _ => q2 i2 h2 σ2 R2 (E1.trans E2) EV2) fun _ _ z => z.ext E1⟩
theorem s_asgT {n k k' : Nat} {p1 p2 : Pos} (ha : PA X es (TAo X.K W ma)) (hg : PG X (.Tuple ts k p1) (gTup X.K n (TGso X.K W gs))) (hs : swapsWithSole [.Tuple ts k p1] (.Tuple es k' p2) pos.line X.env = pure false := by rfl)
    (hw : swappedStores [.Tuple ts k p1] (.Tuple es k' p2) X.env = pure none := by rfl) : PS X (.Assign [.Tuple ts k p1] (.Tuple es k' p2) pos) (TSo X.K W (sAsgT n ma gs)) :=
  ps_wrap (ps_asg (pe_tup ha) hg hs hw) fun D σ H q => by
    obtain ⟨ι, env, st, R, EV, p⟩ := q
    refine ⟨ι, env, st, R, EV, Out.post_mono (thn_post p) (fun ds s1 q ι1 H1 xs R1 E1 ra => ?_) fun _ _ q => q⟩
    split at q
    · rename_i hl
      have hx : xs.length ≤ sizeLine := by rw [ra.length, hl.1]; exact lim1000 hl.2
      refine ⟨hx, fun a hn => ⟨a, xs, rfl, .of upd_same, by rw [ra.length]; exact hl.1, ?_⟩⟩
      have E2 : Ext ι1 s1 H1 ι1 s1 (upd H1 a (.tup xs)) := Ext.fresh R1 hn
      have E12 := E1.trans E2
      exact ⟨ι1, env, s1, ds, R1.fresh hn (hf_tup R1.hf hx), EV.ext E12, RDs.ext E2 ra, Out.post_mono (thn_post q) (fun e1 s2 q2 i2 h2 σ2 R2 E2 EV2 _ _ => q2 i2 h2 σ2 R2 (E12.trans E2) EV2) fun _ _ z => z.ext E12⟩
    · exact q.elim
theorem s_par2 {i j : Nat} (ha : PA X es (TAo X.K W ma)) {stm : Stmt} (h : PS X stm (tPar i j (TAo X.K W ma))) : PS X stm (TSo X.K W (sPar2 i j ma)) := ps_wrap h fun D σ H q => by
  obtain ⟨ι, env, st, R, EV, p⟩ := q
  refine ⟨ι, env, st, R, EV, Out.post_mono (thn_post p) (fun ds s1 q ι1 H1 xs R1 E1 ra => ?_) fun _ _ q => q⟩
  split at q
  · obtain ⟨x, y, rfl, r1, r2⟩ := ra.two
    exact ⟨x, y, rfl, fun _ => q ι1 H1 _ R1 E1 (((EV.ext E1).set r1 _).set r2 _)⟩
  · exact q.elim
theorem s_par3 {i j l : Nat} (ha : PA X es (TAo X.K W ma)) {stm : Stmt} (h : PS X stm (tPar3 i j l (TAo X.K W ma))) : PS X stm (TSo X.K W (sPar3 i j l ma)) := ps_wrap h fun D σ H q => by
  obtain ⟨ι, env, st, R, EV, p⟩ := q
  refine ⟨ι, env, st, R, EV, Out.post_mono (thn_post p) (fun ds s1 q ι1 H1 xs R1 E1 ra => ?_) fun _ _ q => q⟩
  split at q
  · cases ra with
    | cons r1 t =>
      obtain ⟨y, z, rfl, r2, r3⟩ := RDs.two t
      exact ⟨_, y, z, rfl, fun _ => q ι1 H1 _ R1 E1 ((((EV.ext E1).set r1 _).set r2 _).set r3 _)⟩
  · exact q.elim
theorem s_sub (gd : Gd X) (he : PE X e (TEo X.K W m)) (ho : PE X o (TEo X.K W mo)) (hi : PE X i (TEo X.K W mi)) (hsL : PG X (.Subscript o i pos') (gSub (TEo X.K W mo) (TEo X.K W mi) rSetL)) (hs1 : swapsWithSole [.Subscript o i pos'] e pos.line X.env = pure false := by rfl)
    (hw : swappedStores [.Subscript o i pos'] e X.env = pure none := by rfl) (hs : swapsWith e (some (.Subscript o i pos')) pos.line X.env = pure false := by rfl) : PS X (.Assign [.Subscript o i pos'] e pos) (TSo X.K W (sSub m mo mi)) := by
  have h1 := ps_asg (pos := pos) he hsL hs1 hw
  have h2 := ps_dput (pos := pos) (pos' := pos') (by have := gd.un; omega) ho hi he hs
  have h : PS X (.Assign [.Subscript o i pos'] e pos) (fun D σ H => tAsg (TEo X.K W m) (gSub (TEo X.K W mo) (TEo X.K W mi) rSetL) D σ H ∨ sDPut (TEo X.K W mo) (TEo X.K W mi) (TEo X.K W m) D σ H) :=
    ⟨fun pins s σ H D I q => q.elim (h1.run pins s σ H D I) (h2.run pins s σ H D I)⟩
  refine ps_wrap h fun D σ H q => ?_
  obtain ⟨ι, env, st, R, EV, p⟩ := q
  unfold sSub at p
  cases e1 : m env st with
  | stuck => rw [e1] at p; exact p.elim
  | exn x s1 => rw [e1] at p; exact .inl ⟨ι, env, st, R, EV, by rw [e1]; exact p⟩
  | ok d s1 =>
    rw [e1, thn_ok] at p
    cases e2 : mo env s1 with
    | stuck => rw [e2] at p; exact p.elim
    | exn x s2 =>
      rw [e2] at p
      refine .inl ⟨ι, env, st, R, EV, ?_⟩
      rw [e1]
      exact fun ι1 H1 x R1 E1 ra => ⟨ι1, env, s1, R1, EV.ext E1, by rw [e2]; exact PX1.ext p E1⟩
    | ok o1 s2 =>
      rw [e2, thn_ok] at p
      cases e3 : mi env s2 with
      | stuck => rw [e3] at p; exact p.elim
      | exn x s3 =>
        rw [e3] at p
        refine .inl ⟨ι, env, st, R, EV, ?_⟩
        rw [e1]
        refine fun ι1 H1 x R1 E1 ra => ⟨ι1, env, s1, R1, EV.ext E1, ?_⟩
        rw [e2]
        exact fun ι2 H2 y R2 E2 rb => ⟨ι2, env, s2, R2, (EV.ext E1).ext E2, by rw [e3]; exact PX1.ext (PX1.ext p E1) E2⟩
      | ok i1 s3 =>
        rw [e3, thn_ok] at p
        cases e4 : setU o1 i1 d s3 with
        | stuck => rw [e4] at p; exact p.elim
        | exn x s4 =>
          unfold setU at e4
          split at e4
          · split at e4 <;> cases e4
          · cases e4
          · split at e4
            · split at e4 <;> cases e4
            · cases e4
          · cases e4
        | ok _ s4 =>
          rw [e4, thn_ok] at p
          replace p : ∀ ι' H' σ', SRel X.K ι' s4 H' → Ext ι st H ι' s4 H' → EvR X.K ι' s4 H' σ' env → D.nx σ' H' := p
          unfold setU at e4
          split at e4
          · rename_i n zs k z hL
            split at e4
            · rename_i j hj
              cases e4
              refine .inl ⟨ι, env, st, R, EV, ?_⟩
              rw [e1]
              refine fun ι1 H1 x R1 E1 ra => ⟨ι1, env, s1, R1, EV.ext E1, ?_⟩
              rw [e2]
              refine fun ι2 H2 y R2 E2 rb => ⟨ι2, env, s2, R2, (EV.ext E1).ext E2, ?_⟩
              rw [e3]
              refine fun ι3 H3 w R3 E3 rc => ?_
              obtain ⟨a, us, rfl, h1, h2, h3, h4⟩ := lAt_at R3 hL (rb.ext E3)
              have ew := iOf_at (d := .v (.int k)) rfl rc
              subst ew
              refine ⟨a, us, k, j, rfl, rfl, h1, by rw [h2.length]; exact hj, fun hf => ?_⟩
              have E4 : Ext ι3 s3 H3 ι3 (s3.set n (.lst (zs.set j z))) (upd H3 a (.lst (us.set j x))) := Ext.write R3 h3 h4 (fun z => nomatch z) (fun _ _ z => nomatch z)
              have E := E1.trans (E2.trans (E3.trans E4))
              have rx : Rp (Frz ι3 s3) H3 x z := Rp.ext (E2.trans E3) ra
              exact p ι3 _ σ (R3.write h3 h4 (fun z => nomatch z) (fun _ _ z => nomatch z) hf ⟨_, upd_same, (h2.set rx j).ext E4⟩ rfl) E (EV.ext E)
            · cases e4
          · cases e4
          · rename_i d _ _ _ kd hL
            split at e4
            · rename_i n kvs k hk hK
              split at e4
              · rename_i hc
                cases e4
                refine .inr ⟨ι, env, st, R, EV, ?_⟩
                rw [e1]
                refine fun ι1 H1 x R1 E1 ra => ⟨ι1, env, s1, R1, EV.ext E1, ?_⟩
                rw [e2]
                refine fun ι2 H2 y R2 E2 rb => ⟨ι2, env, s2, R2, (EV.ext E1).ext E2, ?_⟩
                rw [e3]
                refine fun ι3 H3 w R3 E3 rc => ?_
                obtain ⟨n', a, us, en, rfl, h3, h4, h1, h2⟩ := kAt_at R3 hK (rb.ext E3)
                cases en
                have rc' : Rp (Frz ι3 s3) H3 w kd := rc
                rw [kD_of hk] at rc'
                have ew := kV_of rc'
                subst ew
                have hl : us.length < sizeLine := by rw [h2.len]; exact Nat.lt_of_lt_of_le hc.1 (lim_ok (Nat.le_refl _))
                refine ⟨a, _, rfl, DPut.k h1 hl, fun hf => ?_⟩
                have E4 : Ext ι3 s3 H3 ι3 (s3.set n (.dct false (putD kvs kd d))) (upd H3 a (.dK (putK us k x))) := Ext.write R3 h3 h4 (fun z => nomatch z) (fun _ _ z => nomatch z)
                have E := E1.trans (E2.trans (E3.trans E4))
                have rx : RD X.K ι3 s3 H3 x d := ra.ext (E2.trans E3)
                refine p ι3 _ σ (R3.write h3 h4 (fun z => nomatch z) (fun _ _ z => nomatch z) hf ⟨_, upd_same, RK.ext E4 (RK.put hk rx h2)⟩ (putD_low (R3.low n _ h3) hc.2)) E (EV.ext E)
              · cases e4
            · cases e4
          · cases e4
end
end Fw
namespace Fw
open PySem PySem.Spec PyProof.Rows L2
section
variable {K : PySem.W.Frag} {ι ι' : Gh} {st st' : Sto} {H H' : Hp}
structure Mv (ι : Gh) (st : Sto) (H : Hp) (ι' : Gh) (st' : Sto) (H' : Hp) : Prop where
  keep : ∀ q u, H q = some u → Frz ι st q → Frz ι' st' q ∧ H' q = some u
  pre : ∀ (n : Nat) (a : Addr), ι.ad[n]? = some a → ι'.ad[n]? = some a
  lk : ∀ {n : Nat} {t : Bool} {kvs : List (PyData × D)} {a : Addr}, st[n]? = some (.lck t kvs) → ι.ad[n]? = some a → st'[n]? = some (.lck t kvs) ∧ H' a = H a
theorem Mv.rp (m : Mv ι st H ι' st' H') {v : V} {d : PyData} (h : Rp (Frz ι st) H v d) : Rp (Frz ι' st') H' v d := Rp.mv (fun q u e f => let ⟨a, b⟩ := m.keep q u e f; ⟨a, .inl b⟩) h
theorem Mv.rpA (m : Mv ι st H ι' st' H') {v : List V} {d : List PyData} (h : RpA (Frz ι st) H v d) : RpA (Frz ι' st') H' v d := RpA.mv (fun q u e f => let ⟨a, b⟩ := m.keep q u e f; ⟨a, .inl b⟩) h
theorem Mv.rd (m : Mv ι st H ι' st' H') {x : V} : ∀ {d : D}, RD K ι st H x d → RD K ι' st' H' x d
  | .v d, h => m.rp h
  | .ref n, ⟨a, h1, h2⟩ => ⟨a, m.pre n a h1, h2⟩
  | .scr ns, ⟨a, h1, h2⟩ => ⟨a, h1, h2.imp id fun ⟨o, h, f⟩ => let ⟨a, b⟩ := m.keep _ _ h f; ⟨o, b, a⟩⟩
theorem Mv.ev (m : Mv ι st H ι' st' H') {σ : L2.St} {env : Ev} (h : EvR K ι st H σ env) : EvR K ι' st' H' σ env := ⟨h.1, fun i d q => let ⟨x, h1, h2⟩ := h.2 i d q; ⟨x, h1, m.rd h2⟩⟩
theorem Mv.rk (m : Mv ι st H ι' st' H') : ∀ {kvs : List (PyData × D)} {xs : List (Key × V)}, RK K ι st H kvs xs → RK K ι' st' H' kvs xs
  | _, _, .nil => .nil
  | _, _, .cons h r => .cons ⟨h.1, m.rd h.2⟩ (Mv.rk m r)
theorem Mv.rt (m : Mv ι st H ι' st' H') : ∀ {kvs : List (PyData × D)} {xs : List (List Key × V)}, RT K ι st H kvs xs → RT K ι' st' H' kvs xs
  | _, _, .nil => .nil
  | _, _, .cons h r => .cons ⟨h.1, m.rd h.2⟩ (Mv.rt m r)
theorem Mv.rtab (m : Mv ι st H ι' st' H') : ∀ {kvs : List (PyData × D)} {xs : List (NestedKey × Addr × V)}, RTab K ι st H kvs xs → RTab K ι' st' H' kvs xs
  | _, _, .nil => .nil
  | _, _, .cons h r => .cons ⟨h.1, m.rp h.2.1, m.rd h.2.2⟩ (Mv.rtab m r)
theorem Mv.rda (m : Mv ι st H ι' st' H') : ∀ {ds : List D} {xs : List V}, RDA K ι st H ds xs → RDA K ι' st' H' ds xs
  | _, _, .nil => .nil
  | _, _, .cons h r => .cons (m.rd h) (Mv.rda m r)
theorem Mv.ro (m : Mv ι st H ι' st' H') {a : Addr} (h : ∀ u, H a = some u → H' a = some u) : ∀ {o : O}, RO K ι st H a o → RO K ι' st' H' a o
  | .dead, _ => trivial
  | .lst _, ⟨xs, q, r⟩ => ⟨xs, h _ q, m.rpA r⟩
  | .dct false _, ⟨xs, q, r⟩ => ⟨xs, h _ q, m.rk r⟩
  | .dct true _, ⟨xs, q, r⟩ => ⟨xs, h _ q, m.rt r⟩
  | .lck false _, ⟨xs, o, q, r⟩ => ⟨xs, o, h _ q, m.rk r⟩
  | .lck true _, ⟨xs, o, q, r⟩ => ⟨xs, o, h _ q, r.1, r.2.1, r.2.2.1, m.rtab r.2.2.2⟩
  | .tpl _, ⟨xs, o, q, r⟩ => ⟨xs, o, h _ q, m.rda r⟩
  | .tab _, ⟨xs, q, r⟩ => ⟨xs, h _ q, r.1, r.2.1, r.2.2.1, m.rtab r.2.2.2⟩
theorem Ext.mv (e : Ext ι st H ι' st' H') : Mv ι st H ι' st' H' := ⟨e.keep, e.pre, e.lk⟩
end
abbrev Wt := Option (Nat × List PyData)
def chk (w : Wt) (st : Sto) : Prop := match w with
  | none => True
  | some (n, zs) => st[n]? = some (.lst zs)
structure Wlk (K : PySem.W.Frag) (ds : List Itm) (w : Wt) (J : It) (ι : Gh) (st : Sto) (H : Hp) : Prop where
  go : ∀ (i : Nat) (d : Itm) ι' st' H', ds[i]? = some d → SRel K ι' st' H' → Mv ι st H ι' st' H' → chk w st' → J.go i H' ∧ ∀ x H2, J.yld i H' x H2 → SRel K ι' st' H2 ∧ Ext ι' st' H' ι' st' H2 ∧ RI K ι' st' H2 x d
  stop : ∀ ι' st' H', SRel K ι' st' H' → Mv ι st H ι' st' H' → chk w st' → J.stop ds.length H'
  len : ds.length ≤ sizeLine
abbrev MI := Ev → Sto → Out (List Itm × Wt)
def PI1 (K : PySem.W.Frag) (ι : Gh) (st : Sto) (H : Hp) (R : It → Hp → Prop) (r : List Itm × Wt) (st' : Sto) : Prop := ∀ ι' H' J, SRel K ι' st' H' → Ext ι st H ι' st' H' → Wlk K r.1 r.2 J ι' st' H' → R J H'
def TIo (K : PySem.W.Frag) (W : XW) (m : MI) : TI := fun σ H R => ∃ ι env st, SRel K ι st H ∧ EvR K ι st H σ env ∧ (m env st).post (PI1 K ι st H R) (PX1 K W ι st H)
section
variable {X : Cx} {W : XW} {tg it e : Expr} {m : ME}
theorem pi_wrap {t : TI} {m : MI} (h : PI X tg it t) (hi : ∀ σ H R, TIo X.K W m σ H R → t σ H (fun J H' => HF H' → R J H')) : PI X tg it (TIo X.K W m) :=
  ⟨fun pins s σ H R I q => thn (h.run pins s σ H _ I (hi σ H R q)) fun _ _ z => thn z fun _ _ ⟨a, fp, tn, J, H', e1, I', T, st0, hfp, q'⟩ => ⟨a, fp, tn, J, H', e1, I', T, st0, hfp, q' (hf_of I')⟩⟩
theorem pi_or {t u : TI} (h : PI X tg it t) (h' : PI X tg it u) : PI X tg it (fun σ H R => t σ H R ∨ u σ H R) :=
  ⟨fun pins s σ H R I q => q.elim (h.run pins s σ H R I) (h'.run pins s σ H R I)⟩
def seqI (st : Sto) (d : D) : Option (List PyData × Wt) := match lAt st d with
  | some (n, zs) => some (zs, some (n, zs))
  | none => (viewS st d).map fun zs => (zs, none)
theorem viewS_frz {K : PySem.W.Frag} {ι : Gh} {st : Sto} {H : Hp} {x : V} {d : D} {ds : List PyData} (hn : lAt st d = none) (e : viewS st d = some ds) (r : RD K ι st H x d) :
    ∃ a xs, x = .ref a ∧ ((H a = some (.lst xs) ∧ Frz ι st a) ∨ (∃ o, H a = some (.frz o (.tup xs)) ∧ Frz ι st a)) ∧ RpA (Frz ι st) H xs ds := by
  cases d with
  | v z =>
    cases z with
    | list zs =>
      have e' : zs = ds := Option.some.inj e
      subst e'
      have r' : Rp (Frz ι st) H x (.list zs) := r
      cases r' with
      | lst h f t => exact ⟨_, _, rfl, .inl ⟨h, f⟩, t⟩
    | tuple zs =>
      have e' : zs = ds := Option.some.inj e
      subst e'
      have r' : Rp (Frz ι st) H x (.tuple zs) := r
      cases r' with
      | tup h _ f t => exact ⟨_, _, rfl, .inr ⟨_, h, f⟩, t⟩
    | _ => cases e
  | scr ns => cases e
  | ref n =>
    simp only [viewS, viewL] at e
    cases q : st[n]? with
    | none => rw [q] at e; cases e
    | some o =>
      rw [q] at e
      cases o with
      | lst zs => simp only [lAt, q] at hn; cases hn
      | _ => cases e
theorem wlk_list {K : PySem.W.Frag} {ι : Gh} {st : Sto} {H : Hp} {a : Addr} {xs : List V} {ds : List PyData} {w : Wt} (hz : ds.length ≤ sizeLine) (r : RpA (Frz ι st) H xs ds) (hq : ∀ ι' st' H', SRel K ι' st' H' → Mv ι st H ι' st' H' → chk w st' → SqL K H' a xs) :
    Wlk K (ds.map fun d => .one (.v d)) w (Itl K a) ι st H := by
  refine ⟨fun i d ι' st' H' hi R E hc => ?_, fun ι' st' H' R E hc => ?_, by rw [List.length_map]; exact hz⟩
  · rw [List.getElem?_map] at hi
    obtain ⟨z, h1, rfl⟩ := Option.map_eq_some_iff.mp hi
    obtain ⟨x, h2, h3⟩ := r.get h1
    have q := hq ι' st' H' R E hc
    refine ⟨⟨xs, x, q, h2⟩, fun y H2 hy => ?_⟩
    obtain ⟨e1, e2⟩ := hy
    subst e1
    have e3 := e2 xs q
    rw [h2] at e3
    rw [← Option.some.inj e3]
    exact ⟨R, Ext.refl, E.rp h3⟩
  · rw [List.length_map, ← r.length]
    exact ⟨xs, hq ι' st' H' R E hc, Nat.le_refl _⟩
theorem wlk_tup {K : PySem.W.Frag} {ι : Gh} {st : Sto} {H : Hp} {a : Addr} {xs : List V} {ds : List PyData} {w : Wt} (hz : ds.length ≤ sizeLine) (r : RpA (Frz ι st) H xs ds) (hq : ∀ ι' st' H', SRel K ι' st' H' → Mv ι st H ι' st' H' → chk w st' → SqT K H' a xs) :
    Wlk K (ds.map fun d => .one (.v d)) w (Itt K a) ι st H := by
  refine ⟨fun i d ι' st' H' hi R E hc => ?_, fun ι' st' H' R E hc => ?_, by rw [List.length_map]; exact hz⟩
  · rw [List.getElem?_map] at hi
    obtain ⟨z, h1, rfl⟩ := Option.map_eq_some_iff.mp hi
    obtain ⟨x, h2, h3⟩ := r.get h1
    have q := hq ι' st' H' R E hc
    refine ⟨⟨xs, x, q, h2⟩, fun y H2 hy => ?_⟩
    obtain ⟨e1, e2⟩ := hy
    subst e1
    have e3 := e2 xs q
    rw [h2] at e3
    rw [← Option.some.inj e3]
    exact ⟨R, Ext.refl, E.rp h3⟩
  · rw [List.length_map, ← r.length]
    exact ⟨xs, hq ι' st' H' R E hc, Nat.le_refl _⟩
theorem stand_ref {K : PySem.W.Frag} {ι : Gh} {st : Sto} {H : Hp} {n : Nat} {a : Addr} {zs : List PyData} {xs : List V} (hi : ι.ad[n]? = some a) (r : RpA (Frz ι st) H xs zs) (h : H a = some (.lst xs)) :
    ∀ ι' st' H', SRel K ι' st' H' → Mv ι st H ι' st' H' → chk (some (n, zs)) st' → ∃ ys, H' a = some (.lst ys) ∧ RpA (Frz ι' st') H' ys zs := fun ι' st' H' R E hc => by
  obtain ⟨ys, h1, h2⟩ := R.obj n (.lst zs) a hc (E.pre n a hi)
  exact ⟨ys, h1, h2⟩
theorem wlk_ref {K : PySem.W.Frag} {ι : Gh} {st : Sto} {H : Hp} {n : Nat} {a : Addr} {zs : List PyData} {xs : List V} (hz : zs.length ≤ sizeLine) (hi : ι.ad[n]? = some a) (r : RpA (Frz ι st) H xs zs) (h : H a = some (.lst xs)) :
    Wlk K (zs.map fun d => .one (.v d)) (some (n, zs)) (Itl K a) ι st H := by
  refine ⟨fun i d ι' st' H' hi' R E hc => ?_, fun ι' st' H' R E hc => ?_, by rw [List.length_map]; exact hz⟩
  · rw [List.getElem?_map] at hi'
    obtain ⟨z, h1, rfl⟩ := Option.map_eq_some_iff.mp hi'
    obtain ⟨ys, h2, h3⟩ := stand_ref hi r h ι' st' H' R E hc
    obtain ⟨x, h4, h5⟩ := h3.get h1
    refine ⟨⟨ys, x, .of h2, h4⟩, fun y H2 hy => ?_⟩
    obtain ⟨e1, e2⟩ := hy
    subst e1
    have e3 := e2 ys (.of h2)
    rw [h4] at e3
    rw [← Option.some.inj e3]
    exact ⟨R, Ext.refl, h5⟩
  · rw [List.length_map]
    obtain ⟨ys, h2, h3⟩ := stand_ref hi r h ι' st' H' R E hc
    exact ⟨ys, .of h2, by rw [h3.length]; exact Nat.le_refl _⟩
def miSeq (m : ME) : MI := fun env st => (m env st).bind fun d s1 => match d with
  | .scr ns => .ok (ns.map fun n => .one (.v (.int n)), none) s1
  | d => match seqI s1 d with
    | some (zs, w) => .ok (zs.map fun z => .one (.v z), w) s1
    | none => .stuck
theorem i_seq (he : PE X e (TEo X.K W m)) : PI X tg e (TIo X.K W (miSeq m)) := pi_wrap (pi_or (pi_list he) (pi_tup he)) fun σ H Rr q => by
  obtain ⟨ι, env, st, R, EV, p⟩ := q
  unfold miSeq at p
  cases e1 : m env st with
  | stuck => rw [e1] at p; exact p.elim
  | exn x s1 => rw [e1] at p; exact .inl ⟨ι, env, st, R, EV, by rw [e1]; exact p⟩
  | ok d s1 =>
    rw [e1, bind_ok] at p
    split at p
    · rename_i ns
      refine .inl ⟨ι, env, st, R, EV, ?_⟩
      rw [e1]
      refine fun ι1 H1 x R1 E1 ra => ?_
      obtain ⟨a, rfl, h2⟩ := ra
      have hq : SqL X.K H1 a (ns.map V.int) := h2.elim .inr fun ⟨o, h, _⟩ => .inl (.inr ⟨o, h⟩)
      refine ⟨a, rfl, ⟨_, hq⟩, fun _ => p ι1 H1 _ R1 E1 ?_⟩
      have hz : (ns.map PyData.int).length ≤ sizeLine := by
        rw [List.length_map]
        rcases h2 with ⟨o, its, n, _, _, _, _, h5, h6⟩ | ⟨o, h, _⟩
        · have e6 := h6.length
          simp only [List.length_map, Array.length_toList] at e6
          omega
        · have q : (ns.map V.int).length ≤ sizeLine := R1.hf a _ h
          rw [List.length_map] at q
          exact q
      have hw := wlk_list (K := X.K) (a := a) (w := none) hz (rpA_ints (F := Frz ι1 s1) (H := H1) ns) fun ι' st' H' R' E' _ => by
        rcases h2 with h2 | ⟨o, h, f⟩
        · exact .inr h2
        · exact .inl (.inr ⟨o, (E'.keep _ _ h f).2⟩)
      rw [List.map_map] at hw
      exact hw
    · split at p
      · rename_i zs w e2
        unfold seqI at e2
        split at e2
        · rename_i n ws hL
          simp only [Option.some.injEq, Prod.mk.injEq] at e2
          obtain ⟨rfl, rfl⟩ := e2
          refine .inl ⟨ι, env, st, R, EV, ?_⟩
          rw [e1]
          refine fun ι1 H1 x R1 E1 ra => ?_
          obtain ⟨a, us, rfl, h1, h2, h3, h4⟩ := lAt_at R1 hL ra
          exact ⟨a, rfl, ⟨us, .of h1⟩, fun _ => p ι1 H1 _ R1 E1 (wlk_ref (by rw [← h2.length]; exact R1.hf a _ h1) h4 h2 h1)⟩
        · rename_i hL
          obtain ⟨ws, ev, e3⟩ := Option.map_eq_some_iff.mp e2
          simp only [Prod.mk.injEq] at e3
          obtain ⟨rfl, rfl⟩ := e3
          by_cases hT : isT d = true
          · refine .inr ⟨ι, env, st, R, EV, ?_⟩
            rw [e1]
            refine fun ι1 H1 x R1 E1 ra => ?_
            obtain ⟨vs, et⟩ := Option.isSome_iff_exists.mp hT
            have ed := tOf_eq et
            subst ed
            obtain ⟨a, us, rfl, h1 | ⟨o, h1, f⟩, h2⟩ := viewS_frz hL ev ra
            · have ra' : Rp (Frz ι1 s1) H1 (.ref a) (.tuple vs) := ra
              cases ra' with
              | tup h3 _ _ _ => rw [h1.1] at h3; cases h3
            · refine ⟨a, rfl, ⟨us, .inl (.inr ⟨o, h1⟩)⟩, fun _ => p ι1 H1 _ R1 E1 (wlk_tup (by rw [← h2.length]; exact R1.hf a _ h1) h2 fun ι' st' H' R' E' _ => ?_)⟩
              exact .inl (.inr ⟨o, (E'.keep _ _ h1 f).2⟩)
          · refine .inl ⟨ι, env, st, R, EV, ?_⟩
            rw [e1]
            refine fun ι1 H1 x R1 E1 ra => ?_
            obtain ⟨a, us, rfl, ⟨h1, f⟩ | ⟨o, h1, f⟩, h2⟩ := viewS_frz hL ev ra
            · refine ⟨a, rfl, ⟨us, .of h1⟩, fun _ => p ι1 H1 _ R1 E1 (wlk_list (by rw [← h2.length]; exact R1.hf a _ h1) h2 fun ι' st' H' R' E' _ => ?_)⟩
              exact .of (E'.keep _ _ h1 f).2
            · exfalso
              cases d with
              | v z =>
                cases z with
                | tuple _ => exact hT rfl
                | list _ =>
                  have ra' : Rp (Frz ι1 s1) H1 (.ref a) (.list _) := ra
                  cases ra' with
                  | lst h3 _ _ => rw [h1] at h3; cases h3
                | _ => cases ev
              | scr _ => cases ev
              | ref n =>
                simp only [viewS, viewL] at ev
                cases q : s1[n]? with
                | none => rw [q] at ev; cases ev
                | some o =>
                  rw [q] at ev
                  cases o with
                  | lst zs => simp only [lAt, q] at hL; cases hL
                  | _ => cases ev
      · exact p.elim
end
open Classical in
noncomputable def forL (w : Wt) (g : MG) (body : MS) : List Itm → MS
  | [] => fun env st => if chk w st then .nx env st else .stuck
  | d :: r => fun env st => if chk w st then (g d env st).thn fun e1 s1 => match body e1 s1 with
      | .nx e2 s2 => forL w g body r e2 s2
      | .ct e2 s2 => forL w g body r e2 s2
      | .bk e2 s2 => .nx e2 s2
      | .rt d s2 => .rt d s2
      | .exn e s2 => .exn e s2
      | .stuck => .stuck
    else .stuck
noncomputable def sFor (mi : MI) (g : MG) (body : MS) : MS := fun env st => (mi env st).thn fun r s1 => forL r.2 g body r.1 env s1
section
variable {X : Cx} {tg it c : Expr} {body : List Stmt} {mi : MI} {g : MG} {b : MS} {t : MT} {pos : Pos}
theorem s_for {W : XW} (gd : Gd X) (hp : PassesOwn (model X.prog X.w) X.A X.env X.xe) (hi : PI X tg it (TIo X.K W mi)) (hg : PG X tg (TGo X.K W g)) (hb : PSs X body (TSo X.K W b)) (hs : ∀ x, foldedSetIterable it X.env x = pure x := by intro _; rfl) :
    PS X (.For tg it body [] pos) (TSo X.K W (sFor mi g b)) := ps_wrap (ps_for hp gd.calm hi hg hb hs) fun D σ H q => by
  obtain ⟨ι, env, st, R, EV, p⟩ := q
  refine ⟨ι, env, st, R, EV, Out.post_mono (thn_post p) (fun r s1 q ι1 H1 J R1 E1 hW => ?_) fun _ _ q => q⟩
  obtain ⟨ds, w⟩ := r
  let Inv (i m : Nat) (σ : L2.St) (H : Hp) : Prop := m + i = ds.length ∧ ∃ ι' env' st', SRel X.K ι' st' H ∧ Ext ι1 s1 H1 ι' st' H ∧ EvR X.K ι' st' H σ env' ∧ (forL w g b (ds.drop i) env' st').post X.K W ι1 s1 H1 D
  refine ⟨Inv, ⟨ds.length, by show _ + 0 = _; omega, ι1, env, s1, R1, Ext.refl, EV.ext E1, ?_⟩, ?_⟩
  · exact SO.post_ext E1 q
  rintro i m σ2 H2 ⟨hm, ι2, env2, s2, R2, E2, EV2, p2⟩
  by_cases hi : i < ds.length
  · right
    have hd : ds.drop i = ds[i] :: ds.drop (i + 1) := List.drop_eq_getElem_cons hi
    rw [hd] at p2
    unfold forL at p2
    split at p2
    · rename_i hc
      obtain ⟨hgo, hy⟩ := hW.go i ds[i] ι2 s2 H2 (List.getElem?_eq_getElem hi) R2 E2.mv hc
      refine ⟨hgo, Inv (i + 1) (m - 1), fun σ' H' hN => ⟨m - 1, by omega, hN⟩, fun x H3 hyl => ?_⟩
      obtain ⟨R3, E3, ri⟩ := hy x H3 hyl
      refine ⟨ι2, env2, s2, ds[i], R3, EV2.ext E3, ri, Out.post_mono (thn_post p2) (fun e1 s4 q4 ι4 H4 σ4 R4 E4 EV4 _ => ?_) fun _ _ z => (PX1.ext z E2).ext E3⟩
      have E14 := E2.trans (E3.trans E4)
      refine ⟨ι4, e1, s4, R4, EV4, ?_⟩
      cases eb : b e1 s4 with
      | nx e5 s5 =>
        rw [eb] at q4
        exact fun ι5 H5 σ5 R5 E5 EV5 => ⟨by omega, ι5, e5, s5, R5, E14.trans E5, EV5, q4⟩
      | ct e5 s5 =>
        rw [eb] at q4
        exact fun ι5 H5 σ5 R5 E5 EV5 => ⟨by omega, ι5, e5, s5, R5, E14.trans E5, EV5, q4⟩
      | bk e5 s5 =>
        rw [eb] at q4
        exact fun ι5 H5 σ5 R5 E5 EV5 hf => q4 ι5 H5 σ5 R5 (E14.trans E5) EV5
      | rt d5 s5 =>
        rw [eb] at q4
        exact fun ι5 H5 x5 R5 E5 r5 hf => q4 ι5 H5 x5 R5 (E14.trans E5) r5
      | exn e5 s5 =>
        rw [eb] at q4
        exact PX1.ext q4 E14
      | stuck => rw [eb] at q4; exact q4.elim
    · exact p2.elim
  · left
    have hd : ds.drop i = [] := List.drop_eq_nil_of_le (by omega)
    rw [hd] at p2
    unfold forL at p2
    split at p2
    · rename_i hc
      have e : i = ds.length := by omega
      subst e
      exact ⟨hW.stop ι2 s2 H2 R2 E2.mv hc, fun _ => p2 ι2 H2 σ2 R2 E2 EV2⟩
    · exact p2.elim
def whileL (t : MT) (body : MS) : Nat → MS
  | 0 => fun _ _ => .stuck
  | n + 1 => fun env st => (t env st).thn fun k s1 => if k then (match body env s1 with
      | .nx e2 s2 => whileL t body n e2 s2
      | .ct e2 s2 => whileL t body n e2 s2
      | .bk e2 s2 => .nx e2 s2
      | .rt d s2 => .rt d s2
      | .exn e s2 => .exn e s2
      | .stuck => .stuck) else .nx env s1
theorem s_while {W : XW} (n : Nat) (hp : PassesOwn (model X.prog X.w) X.A X.env X.xe) (hc : PT X c (TTo X.K W t)) (hb : PSs X body (TSo X.K W b)) : PS X (.While c body [] pos) (TSo X.K W (whileL t b n)) := ps_wrap (ps_while hp hc hb) fun D σ H q => by
  obtain ⟨ι, env, st, R, EV, p⟩ := q
  let Inv (m : Nat) (σ1 : L2.St) (H1 : Hp) : Prop := ∃ ι' env' st', SRel X.K ι' st' H1 ∧ Ext ι st H ι' st' H1 ∧ EvR X.K ι' st' H1 σ1 env' ∧ (whileL t b m env' st').post X.K W ι st H D
  refine ⟨Inv, ⟨n, ι, env, st, R, Ext.refl, EV, p⟩, ?_⟩
  rintro m σ2 H2 ⟨ι2, env2, s2, R2, E2, EV2, p2⟩
  cases m with
  | zero => exact p2.elim
  | succ m =>
    unfold whileL at p2
    refine ⟨ι2, env2, s2, R2, EV2, Out.post_mono (thn_post p2) (fun k s3 q3 ι3 H3 R3 E3 => ?_) fun _ _ z => PX1.ext z E2⟩
    have E13 := E2.trans E3
    cases k with
    | false => exact iteF fun _ => q3 ι3 H3 σ2 R3 E13 (EV2.ext E3)
    | true =>
      refine iteT ⟨Inv m, fun σ' H' hN => ⟨m, Nat.lt_succ_self m, hN⟩, ?_⟩
      refine ⟨ι3, env2, s3, R3, EV2.ext E3, ?_⟩
      rw [if_pos rfl] at q3
      cases eb : b env2 s3 with
      | nx e5 s5 =>
        rw [eb] at q3
        exact fun ι5 H5 σ5 R5 E5 EV5 => ⟨ι5, e5, s5, R5, E13.trans E5, EV5, q3⟩
      | ct e5 s5 =>
        rw [eb] at q3
        exact fun ι5 H5 σ5 R5 E5 EV5 => ⟨ι5, e5, s5, R5, E13.trans E5, EV5, q3⟩
      | bk e5 s5 =>
        rw [eb] at q3
        exact fun ι5 H5 σ5 R5 E5 EV5 hf => q3 ι5 H5 σ5 R5 (E13.trans E5) EV5
      | rt d5 s5 =>
        rw [eb] at q3
        exact fun ι5 H5 x5 R5 E5 r5 hf => q3 ι5 H5 x5 R5 (E13.trans E5) r5
      | exn e5 s5 =>
        rw [eb] at q3
        exact PX1.ext q3 E13
      | stuck => rw [eb] at q3; exact q3.elim
end
def rngI (lo : Int) (n : Nat) : List Itm := (List.range n).map fun i => .one (.v (.int (lo + (i : Nat))))
theorem rngI_get {lo : Int} {n i : Nat} {d : Itm} (h : (rngI lo n)[i]? = some d) : i < n ∧ d = .one (.v (.int (lo + (i : Nat)))) := by
  unfold rngI at h
  rw [List.getElem?_map] at h
  obtain ⟨j, h1, rfl⟩ := Option.map_eq_some_iff.mp h
  obtain ⟨h2, h3⟩ := List.getElem?_eq_some_iff.mp h1
  rw [List.getElem_range] at h3
  subst h3
  rw [List.length_range] at h2
  exact ⟨h2, rfl⟩
theorem wlk_range {K : PySem.W.Frag} {ι : Gh} {st : Sto} {H : Hp} (lo : Int) (n : Nat) (hz : n ≤ sizeLine) : Wlk K (rngI lo n) none (Itr lo n) ι st H := by
  refine ⟨fun i d ι' st' H' hi R E _ => ?_, fun ι' st' H' R E _ => ?_, by unfold rngI; rw [List.length_map, List.length_range]; exact hz⟩
  · obtain ⟨h1, rfl⟩ := rngI_get hi
    refine ⟨h1, fun x H2 hy => ?_⟩
    obtain ⟨rfl, rfl⟩ := hy
    exact ⟨R, Ext.refl, .int _⟩
  · show n ≤ (rngI lo n).length
    unfold rngI
    rw [List.length_map, List.length_range]
    exact Nat.le_refl _
def miR1 (m : MA) : MI := fun env st => (m env st).bind fun ds s1 => match ds with
  | [d] => match iOf d with
    | some j => if -1000000 ≤ j ∧ j ≤ 1000000 then .ok (rngI 0 j.toNat, none) s1 else .stuck
    | none => .stuck
  | _ => .stuck
section
variable {X : Cx} {W : XW} {tg a b e : Expr} {m : MA} {p pos : Pos}
theorem i_range1 (hg : Gl X "range") (hm : X.mg "range" = none) (ha : PA X [a] (TAo X.K W m)) (hs : starEach [a] X.env = [(false, eval a X.env)] := by rfl) : PI X tg (.Call (.Name "range" p) [a] [] pos) (TIo X.K W (miR1 m)) :=
  pi_wrap (pi_range1 hg hm ha hs) fun σ H Rr q => by
    obtain ⟨ι, env, st, R, EV, p⟩ := q
    refine ⟨ι, env, st, R, EV, Out.post_mono (Out.post_bind p) (fun ds s1 q ι1 H1 xs R1 E1 ra => ?_) fun _ _ q => q⟩
    split at q
    · obtain ⟨x, rfl, r1⟩ := ra.one
      split at q
      · rename_i j e1
        split at q
        · rename_i hb
          have ex := iOf_at e1 r1
          subst ex
          exact ⟨j, rfl, by omega, by omega, fun _ => q ι1 H1 _ R1 E1 (wlk_range 0 j.toNat (Nat.le_trans (show j.toNat ≤ 1000000 by omega) (by decide)))⟩
        · exact q.elim
      · exact q.elim
    · exact q.elim
end
theorem ri_new {K : PySem.W.Frag} {ι : Gh} {st : Sto} {H : Hp} (R : SRel K ι st H) {T : Addr} (hT : H T = none) {xs : List V} {ds : List D} (hl : xs.length ≤ 3) (r : RDs K ι st H xs ds) :
    SRel K ι st (upd H T (.tup xs)) ∧ Ext ι st H ι st (upd H T (.tup xs)) ∧ RI K ι st (upd H T (.tup xs)) (.ref T) (.many ds) := by
  have E : Ext ι st H ι st (upd H T (.tup xs)) := Ext.fresh R hT
  exact ⟨R.fresh hT (hf_tup R.hf (lim1000 (by omega))), E, T, xs, rfl, .inl upd_same, R.frz_new hT, RDs.ext E r⟩
end Fw
namespace Fw
open PySem PySem.Spec PyProof.Rows L2
section
variable {prog : Program} {w : World} {A : Around} {E : Value → Shared → Prop} {s : Shared}
end
theorem RpA.at {K : PySem.W.Frag} {ι : Gh} {st : Sto} {H : Hp} {xs : List V} {zs : List PyData} (r : RpA (Frz ι st) H xs zs) {i : Nat} {z : PyData} (h : zs[i]? = some z) : ∃ x, xs[i]? = some x ∧ Rp (Frz ι st) H x z := r.get h
def zip2I (xs ys : List PyData) : List Itm := (xs.zip ys).map fun p => .many [.v p.1, .v p.2]
def miZip (m : MA) : MI := fun env st => (m env st).bind fun ds s1 => match ds with
  | [a, b] => match seqI s1 a, seqI s1 b with
    | some (xs, none), some (ys, none) => if isT a == isT b then .ok (zip2I xs ys, none) s1 else .stuck
    | _, _ => .stuck
  | _ => .stuck
theorem seqI_T {st : Sto} {d : D} {zs : List PyData} {K : PySem.W.Frag} {ι : Gh} {H : Hp} (R : SRel K ι st H) (e : seqI st d = some (zs, none)) {x : V} (r : RD K ι st H x d) :
    ∃ a xs, x = .ref a ∧ ((isT d = false ∧ H a = some (.lst xs) ∧ Frz ι st a) ∨ (isT d = true ∧ ∃ o, H a = some (.frz o (.tup xs)) ∧ Frz ι st a)) ∧ RpA (Frz ι st) H xs zs := by
  unfold seqI at e
  split at e
  · cases e
  · rename_i hL
    obtain ⟨ws, ev, e3⟩ := Option.map_eq_some_iff.mp e
    simp only [Prod.mk.injEq] at e3
    obtain ⟨rfl, _⟩ := e3
    obtain ⟨a, us, rfl, h, h2⟩ := viewS_frz hL ev r
    refine ⟨a, us, rfl, ?_, h2⟩
    cases hT : isT d with
    | true =>
      obtain ⟨vs, et⟩ := Option.isSome_iff_exists.mp hT
      rcases h with ⟨h1, f⟩ | ⟨o, h1, f⟩
      · rw [tOf_eq et] at r
        have r' : Rp (Frz ι st) H (.ref a) (.tuple vs) := r
        cases r' with
        | tup h3 _ _ _ => rw [h1] at h3; cases h3
      · exact .inr ⟨rfl, o, h1, f⟩
    | false =>
      rcases h with ⟨h1, f⟩ | ⟨o, h1, f⟩
      · exact .inl ⟨rfl, h1, f⟩
      · exfalso
        cases d with
        | v z =>
          cases z with
          | tuple _ => cases hT
          | list _ =>
            have r' : Rp (Frz ι st) H (.ref a) (.list _) := r
            cases r' with
            | lst h3 _ _ => rw [h1] at h3; cases h3
          | _ => cases ev
        | scr _ => cases ev
        | ref n =>
          simp only [viewS, viewL] at ev
          cases q : st[n]? with
          | none => rw [q] at ev; cases ev
          | some o2 =>
            rw [q] at ev
            cases o2 with
            | lst zs => simp only [lAt, q] at hL; cases hL
            | _ => cases ev
theorem zip2I_get {xs ys : List PyData} {i : Nat} {d : Itm} (h : (zip2I xs ys)[i]? = some d) : ∃ x y, xs[i]? = some x ∧ ys[i]? = some y ∧ d = .many [.v x, .v y] := by
  unfold zip2I at h
  rw [List.getElem?_map] at h
  obtain ⟨⟨x, y⟩, h1, rfl⟩ := Option.map_eq_some_iff.mp h
  obtain ⟨h2, h3⟩ := List.getElem?_zip_eq_some.mp h1
  exact ⟨x, y, h2, h3, rfl⟩
theorem zip2I_len {xs ys : List PyData} : (zip2I xs ys).length = min xs.length ys.length := by
  unfold zip2I
  rw [List.length_map, List.length_zip]
theorem i_zip {X : Cx} {W : XW} {e e2 : Expr} {m : MA} {p pos tpos : Pos} {elts : List Expr} {kk : Nat} (hg : Gl X "zip") (hm : X.mg "zip" = none) (ha : PA X [e, e2] (TAo X.K W m)) (hs : starEach [e, e2] X.env = (false, eval e X.env) :: starEach [e2] X.env := by rfl) (hpl : (backTo pos (starEach [e2] X.env)).any (·.1) = false := by rfl) :
    PI X (.Tuple elts kk tpos) (.Call (.Name "zip" p) [e, e2] [] pos) (TIo X.K W (miZip m)) := pi_wrap (RZ.pi_zipA hg hm ha hs hpl) fun σ H Rr q => by
  obtain ⟨ι, env, st, R, EV, p⟩ := q
  refine ⟨ι, env, st, R, EV, Out.post_mono (Out.post_bind p) (fun ds s1 q ι1 H1 xs R1 E1 ra => ?_) fun _ _ q => q⟩
  split at q
  · rename_i da db
    obtain ⟨x, y, rfl, r1, r2⟩ := ra.two
    split at q
    · rename_i us vs e1 e2
      split at q
      · rename_i hT
        obtain ⟨a, xs, rfl, h1, h2⟩ := seqI_T R1 e1 r1
        obtain ⟨b, ys, rfl, h3, h4⟩ := seqI_T R1 e2 r2
        have hT : isT da = isT db := by simpa using hT
        refine ⟨a, b, xs, ys, rfl, ?_⟩
        rcases h1 with ⟨t1, h1, f1⟩ | ⟨t1, o1, h1, f1⟩
        · rcases h3 with ⟨t3, h3, f3⟩ | ⟨t3, o3, h3, f3⟩
          · refine .inl ⟨.of h1, .of h3, fun _ => q ι1 H1 _ R1 E1 ⟨fun i d ι' st' H' hi R' E' _ => ?_, fun ι' st' H' R' E' _ => ?_, by rw [zip2I_len, ← h2.length]; exact Nat.le_trans (Nat.min_le_left _ _) (R1.hf a _ h1)⟩⟩
            · obtain ⟨zx, zy, g1, g2, rfl⟩ := zip2I_get hi
              obtain ⟨u, g3, g4⟩ := h2.get g1
              obtain ⟨v, g5, g6⟩ := h4.get g2
              have k1 : SqL X.K H' a xs := .of (E'.keep _ _ h1 f1).2
              have k2 : SqL X.K H' b ys := .of (E'.keep _ _ h3 f3).2
              refine ⟨⟨xs, ys, u, v, k1, k2, g3, g5⟩, fun w H2 hy => ?_⟩
              obtain ⟨T, u', v', rfl, hT', rfl, hx, hy'⟩ := hy
              have e3 := hx xs k1
              have e4 := hy' ys k2
              rw [g3] at e3
              rw [g5] at e4
              cases e3
              cases e4
              exact ri_new R' hT' (show 2 ≤ 3 by decide) (.cons (E'.rp g4) (.cons (E'.rp g6) .nil))
            · have k1 : SqL X.K H' a xs := .of (E'.keep _ _ h1 f1).2
              have k2 : SqL X.K H' b ys := .of (E'.keep _ _ h3 f3).2
              refine ⟨xs, ys, k1, k2, ?_⟩
              rw [h2.length, h4.length, zip2I_len]
              omega
          · rw [t1, t3] at hT; cases hT
        · rcases h3 with ⟨t3, h3, f3⟩ | ⟨t3, o3, h3, f3⟩
          · rw [t1, t3] at hT; cases hT
          · refine .inr ⟨.inl (.inr ⟨o1, h1⟩), .inl (.inr ⟨o3, h3⟩), fun _ => q ι1 H1 _ R1 E1 ⟨fun i d ι' st' H' hi R' E' _ => ?_, fun ι' st' H' R' E' _ => ?_, by rw [zip2I_len, ← h2.length]; exact Nat.le_trans (Nat.min_le_left _ _) (R1.hf a _ h1)⟩⟩
            · obtain ⟨zx, zy, g1, g2, rfl⟩ := zip2I_get hi
              obtain ⟨u, g3, g4⟩ := h2.get g1
              obtain ⟨v, g5, g6⟩ := h4.get g2
              have k1 : SqT X.K H' a xs := .inl (.inr ⟨o1, (E'.keep _ _ h1 f1).2⟩)
              have k2 : SqT X.K H' b ys := .inl (.inr ⟨o3, (E'.keep _ _ h3 f3).2⟩)
              refine ⟨⟨xs, ys, u, v, k1, k2, g3, g5⟩, fun w H2 hy => ?_⟩
              obtain ⟨T, u', v', rfl, hT', rfl, hx, hy'⟩ := hy
              have e3 := hx xs k1
              have e4 := hy' ys k2
              rw [g3] at e3
              rw [g5] at e4
              cases e3
              cases e4
              exact ri_new R' hT' (show 2 ≤ 3 by decide) (.cons (E'.rp g4) (.cons (E'.rp g6) .nil))
            · have k1 : SqT X.K H' a xs := .inl (.inr ⟨o1, (E'.keep _ _ h1 f1).2⟩)
              have k2 : SqT X.K H' b ys := .inl (.inr ⟨o3, (E'.keep _ _ h3 f3).2⟩)
              refine ⟨xs, ys, k1, k2, ?_⟩
              rw [h2.length, h4.length, zip2I_len]
              omega
      · exact q.elim
    · exact q.elim
  · exact q.elim
end Fw
namespace Fw
open PySem PySem.Spec PyProof.Rows L2
def Gh.hide (ι : Gh) (p : Addr) : Gh := ⟨ι.ad, p :: ι.hid⟩
def del (H : Hp) (p : Addr) : Hp := fun b => if b = p then none else H b
theorem del_ne {H : Hp} {p b : Addr} (h : b ≠ p) : del H p b = H b := by unfold del; rw [if_neg h]
theorem del_same {H : Hp} {p : Addr} : del H p p = none := by unfold del; rw [if_pos rfl]
theorem upd_del {H : Hp} {p : Addr} {u : HO} (h : H p = some u) : upd (del H p) p u = H := by
  funext b
  by_cases e : b = p
  · subst e; rw [upd_same, h]
  · rw [upd_ne e, del_ne e]
section
variable {K : PySem.W.Frag} {ι ι' : Gh} {st st' : Sto} {H H' : Hp} {p : Addr}
theorem frz_hide (f : Frz ι st q) (h : q ≠ p) : Frz (ι.hide p) st q := ⟨fun z => by
  rcases List.mem_cons.mp z with z | z
  · exact h z
  · exact f.1 z, f.2⟩
theorem frz_show (f : Frz (ι.hide p) st q) : Frz ι st q ∧ q ≠ p := ⟨⟨fun z => f.1 (List.mem_cons_of_mem _ z), f.2⟩, fun z => f.1 (by rw [z]; exact List.mem_cons_self)⟩
theorem mv_hide (R : SRel K ι st H) (hp : H p = none) {u : HO} : Mv ι st H (ι.hide p) st (upd H p u) :=
  ⟨fun q v e f => ⟨frz_hide f (ne_of_none e hp), by rw [upd_ne (ne_of_none e hp)]; exact e⟩, fun _ _ e => e, fun h hi => ⟨h, upd_ne (let ⟨_, e, _⟩ := R.live h hi (fun z => nomatch z); ne_of_none e hp)⟩⟩
theorem SRel.hide (R : SRel K ι st H) (hp : H p = none) {u : HO} (hd : HdO u) (hl : HF (upd H p u)) : SRel K (ι.hide p) st (upd H p u) := by
  have m := mv_hide (u := u) R hp
  refine ⟨R.len, fun n o a h hi => m.ro (fun v e => by rw [upd_ne (ne_of_none e hp)]; exact e) (R.obj n o a h hi), R.inj, R.low, fun a ha => ?_, hl⟩
  rcases List.mem_cons.mp ha with rfl | ha
  · exact ⟨⟨u, upd_same, hd⟩, (R.frz_new hp).2⟩
  · obtain ⟨⟨ys, e, d⟩, h2⟩ := R.hid a ha
    exact ⟨⟨ys, by rw [upd_ne (ne_of_none e hp)]; exact e, d⟩, h2⟩
theorem mv_show (R : SRel K (ι.hide p) st H) : Mv (ι.hide p) st H ι st (del H p) :=
  ⟨fun q v e f => let ⟨a, b⟩ := frz_show f; ⟨a, by rw [del_ne b]; exact e⟩, fun _ _ e => e, fun h hi => ⟨h, del_ne fun z => by subst z; exact nomatch (R.hid _ List.mem_cons_self).2 _ _ h hi⟩⟩
theorem SRel.unhide (R : SRel K (ι.hide p) st H) (hp : p ∉ ι.hid) : SRel K ι st (del H p) := by
  have m := mv_show R
  refine ⟨R.len, fun n o a h hi => ?_, R.inj, R.low, fun a ha => ?_, fun a u e => ?_⟩
  · by_cases hd : o = O.dead
    · subst hd; trivial
    · have na : a ≠ p := fun z => by subst z; exact hd ((R.hid a List.mem_cons_self).2 n o h hi)
      exact m.ro (fun v e => by rw [del_ne na]; exact e) (R.obj n o a h hi)
  · obtain ⟨⟨ys, e, d⟩, h2⟩ := R.hid a (List.mem_cons_of_mem _ ha)
    have na : a ≠ p := fun z => hp (by rw [← z]; exact ha)
    exact ⟨⟨ys, by rw [del_ne na]; exact e, d⟩, h2⟩
  · by_cases na : a = p
    · subst na
      rw [del_same] at e
      cases e
    · rw [del_ne na] at e
      exact R.hf a u e
theorem mv_hset {u : HO} (R : SRel K ι st H) (hp : p ∈ ι.hid) : Mv ι st H ι st (upd H p u) :=
  ⟨fun q v e f => ⟨f, by rw [upd_ne (fun z => f.1 (by rw [z]; exact hp))]; exact e⟩, fun _ _ e => e, fun h hi => ⟨h, upd_ne fun z => by subst z; exact nomatch (R.hid _ hp).2 _ _ h hi⟩⟩
theorem SRel.hset (R : SRel K ι st H) (hp : p ∈ ι.hid) {u : HO} (hd : HdO u) (hl : HF (upd H p u)) : SRel K ι st (upd H p u) := by
  have m := mv_hset (u := u) R hp
  refine ⟨R.len, fun n o a h hi => ?_, R.inj, R.low, fun a ha => ?_, hl⟩
  · by_cases hx : o = O.dead
    · subst hx; trivial
    · have na : a ≠ p := fun z => by subst z; exact hx ((R.hid a hp).2 n o h hi)
      exact m.ro (fun v e => by rw [upd_ne na]; exact e) (R.obj n o a h hi)
  · by_cases na : a = p
    · subst na
      exact ⟨⟨u, upd_same, hd⟩, (R.hid a hp).2⟩
    · obtain ⟨⟨ys, e, d⟩, h2⟩ := R.hid a ha
      exact ⟨⟨ys, by rw [upd_ne na]; exact e, d⟩, h2⟩
end
def Out.noX {α : Type} (x : Out α) : Out α := match x with
  | .exn _ _ => .stuck
  | o => o
@[simp] theorem noX_ok {α : Type} (a : α) (st : Sto) : (Out.ok a st).noX = .ok a st := rfl
theorem noX_post {α : Type} {x : Out α} {P : α → Sto → Prop} {E E' : Exn → Sto → Prop} (h : x.noX.post P E) : x.post P E' := by
  cases x with
  | ok a s => exact h
  | exn e s => exact h.elim
  | stuck => exact h.elim
open Classical in
noncomputable def lcL (w : Wt) (g : MG) (t : MT) (m : ME) (env0 : Ev) : List Itm → Sto → Out (List PyData)
  | [] => fun st => if chk w st then .ok [] st else .stuck
  | d :: r => fun st => if chk w st then (g d env0 st).noX.bind fun e1 s1 => (t e1 s1).noX.bind fun k s2 =>
      if k then (m e1 s2).noX.bind fun v s3 => match v with
        | .v z => (lcL w g t m env0 r s3).bind fun zs s4 => .ok (z :: zs) s4
        | _ => .stuck
      else lcL w g t m env0 r s2
    else .stuck
theorem noX_bind {α β : Type} {x : Out α} {f : α → Sto → Out β} (h : ∀ a s, (f a s).noX = f a s) : (x.noX.bind f).noX = x.noX.bind f := by
  cases x with
  | ok a s => exact h a s
  | exn e s => rfl
  | stuck => rfl
theorem lcL_noX (w : Wt) (g : MG) (t : MT) (m : ME) (env0 : Ev) : ∀ (ds : List Itm) (st : Sto), (lcL w g t m env0 ds st).noX = lcL w g t m env0 ds st
  | [], st => by
    unfold lcL
    split <;> rfl
  | d :: r, st => by
    unfold lcL
    split
    · refine noX_bind fun e1 s1 => noX_bind fun k s2 => ?_
      split
      · refine noX_bind fun v s3 => ?_
        split
        · rw [← lcL_noX w g t m env0 r s3]
          exact noX_bind fun _ _ => rfl
        · rfl
      · exact lcL_noX w g t m env0 r s2
    · rfl
def mYes : MT := fun _ st => .ok true st
noncomputable def mLc (mi : MI) (g : MG) (t : MT) (m : ME) (own : List Nat) : MF := fun env st => (mi env st).bind fun r s1 => lcL r.2 g t m (wipeE env own) r.1 s1
theorem Mv.trans {ι1 ι2 ι3 : Gh} {s1 s2 s3 : Sto} {H1 H2 H3 : Hp} (a : Mv ι1 s1 H1 ι2 s2 H2) (b : Mv ι2 s2 H2 ι3 s3 H3) : Mv ι1 s1 H1 ι3 s3 H3 :=
  ⟨fun q u e f => let ⟨f1, k1⟩ := a.keep q u e f; b.keep q u k1 f1, fun n x e => b.pre n x (a.pre n x e), fun h hi => let ⟨h1, e1⟩ := a.lk h hi; let ⟨h2, e2⟩ := b.lk h1 (a.pre _ _ hi); ⟨h2, e2.trans e1⟩⟩
theorem wipe_in {σ : L2.St} {i : Nat} : ∀ {vs : List Nat}, i ∈ vs → (L2.wipe σ vs)[i]? = σ[i]?.map fun _ => none
  | v :: vs, h => by
    show ((L2.wipe σ vs).set v none)[i]? = _
    by_cases e : v = i
    · subst e
      by_cases hl : v < σ.length
      · rw [List.getElem?_set_self (by rw [wipe_length]; exact hl), List.getElem?_eq_getElem hl]
        rfl
      · rw [List.getElem?_eq_none (by rw [List.length_set, wipe_length]; omega), List.getElem?_eq_none (by omega)]
        rfl
    · rw [List.getElem?_set_ne e]
      exact wipe_in ((List.mem_cons.mp h).resolve_left fun z => e z.symm)
theorem wipe_wipe (σ : L2.St) (vs : List Nat) : L2.wipe (L2.wipe σ vs) vs = L2.wipe σ vs := by
  refine List.ext_getElem? fun i => ?_
  by_cases h : i ∈ vs
  · rw [wipe_in h, wipe_in h]
    cases σ[i]? <;> rfl
  · rw [wipe_out h]
theorem lc_red {K : PySem.W.Frag} {W : XW} {mi : MI} {g : MG} {t : MT} {m : ME} {own : List Nat} {σ : L2.St} {H : Hp} {Q : VK} (q : TFo K W (mLc mi g t m own) σ H Q) :
    tLc (TIo K W mi) (TGo K WF g (some own)) (TTo K WF t) (TEo K WF m) own σ H (fun v H' => HF H' → Q v H') := by
  obtain ⟨ι, env, st, R, EV, p⟩ := q
  refine ⟨ι, env, st, R, EV, Out.post_mono (Out.post_bind p) (fun r s1 q ι1 H1 J R1 E1 hW L hL => ?_) fun _ _ q => q⟩
  obtain ⟨ds, w⟩ := r
  have EW := (EV.ext E1).wipe own
  -- what a turn finds: the list at L hidden, all else as it was
  let Inv (i k : Nat) (H : Hp) : Prop := k + i = ds.length ∧ ∃ (acc : List V) (zs : List PyData) (ι' : Gh) (st' : Sto), ι'.hid = ι1.hid ∧ H L = some (.lst acc) ∧ acc.length ≤ i ∧ SRel K (ι'.hide L) st' H ∧
    Mv ι1 s1 H1 (ι'.hide L) st' H ∧ (∀ a, a ∈ ι1.hid → H a = H1 a) ∧
    RpA (Frz (ι'.hide L) st') H acc zs ∧ (lcL w g t m (wipeE env own) (ds.drop i) st').post (fun ws s2 => PF1 K ι1 s1 H1 Q (zs ++ ws) s2) fun _ _ => False
  have nL : L ∉ ι1.hid := R1.hid_new hL
  refine ⟨Inv, ⟨ds.length, Nat.add_zero _, [], [], ι1, s1, rfl, upd_same, Nat.le_refl _, R1.hide hL trivial (hf_lst R1.hf (Nat.zero_le _)), mv_hide R1 hL, fun a ha => upd_ne fun z => nL (by rw [← z]; exact ha), .nil, ?_⟩, ?_⟩
  · have q' : (lcL w g t m (wipeE env own) ds s1).noX.post (PF1 K ι st H Q) (PX1 K W ι st H) := by rw [lcL_noX]; exact q
    have q2 : (lcL w g t m (wipeE env own) ds s1).post (PF1 K ι st H Q) fun _ _ => False := noX_post q'
    exact Out.post_mono q2 (fun zs s2 z => PF1.ext z E1) fun _ _ z => z
  rintro i k H2 ⟨hk, acc, zs, ι2, s2, eh, hA, hal, R2, mv, kz, rA, p2⟩
  by_cases hi : i < ds.length
  · right
    have hd : ds.drop i = ds[i] :: ds.drop (i + 1) := List.drop_eq_getElem_cons hi
    rw [hd] at p2
    unfold lcL at p2
    split at p2
    · rename_i hc
      obtain ⟨hgo, hy⟩ := hW.go i ds[i] (ι2.hide L) s2 H2 (List.getElem?_eq_getElem hi) R2 mv hc
      have hlen : acc.length < sizeLine := Nat.lt_of_le_of_lt hal (Nat.lt_of_lt_of_le hi hW.len)
      have fin : ∀ {ι6 : Gh} {s6 : Sto} {H6 : Hp}, SRel K ι6 s6 H6 → Ext (ι2.hide L) s2 H2 ι6 s6 H6 → ∃ ι' : Gh, ι6 = ι'.hide L ∧ ι'.hid = ι1.hid ∧ H6 L = some (.lst acc) ∧ ∀ a, a ∈ ι1.hid → H6 a = H1 a := by
        intro ι6 s6 H6 R6 E6
        refine ⟨⟨ι6.ad, ι1.hid⟩, ?_, rfl, ?_, fun a ha => ?_⟩
        · have e := E6.hid
          have e2 : (ι2.hide L).hid = L :: ι1.hid := by rw [← eh]; rfl
          rw [e2] at e
          cases ι6
          simp only at e
          rw [e]
          rfl
        · rw [E6.keepZ L List.mem_cons_self]; exact hA
        · rw [E6.keepZ a (List.mem_cons_of_mem _ (by rw [eh]; exact ha))]
          exact kz a ha
      refine ⟨hgo, Inv (i + 1) (k - 1), fun H' hN => ⟨k - 1, by omega, hN⟩, fun x H3 hyl => ?_⟩
      obtain ⟨R3, E3, ri⟩ := hy x H3 hyl
      refine ⟨ι2.hide L, wipeE env own, s2, ds[i], R3, (mv.ev EW).ext E3, ri, noX_post (Out.post_mono (Out.post_bind p2) (fun e1 s4 q4 => ?_) fun _ _ z => z)⟩
      refine fun ι4 H4 σ4 R4 E4 EV4 hw => ⟨(show L2.wipe σ4 own = _ from hw).trans (wipe_wipe σ own), ?_⟩
      have E34 := E3.trans E4
      refine ⟨ι4, e1, s4, R4, EV4, noX_post (Out.post_mono (Out.post_bind q4) (fun b s5 q5 ι5 H5 R5 E5 => ?_) fun _ _ z => z)⟩
      have E35 := E34.trans E5
      cases b with
      | false =>
        obtain ⟨ι', e6, e7, e8, e9⟩ := fin R5 E35
        subst e6
        refine iteF ⟨by omega, acc, zs, ι', s5, e7, e8, Nat.le_succ_of_le hal, R5, mv.trans E35.mv, e9, rA.ext E35, ?_⟩
        exact q5
      | true =>
        refine iteT ⟨ι5, e1, s5, R5, EV4.ext E5, noX_post (Out.post_mono (Out.post_bind q5) (fun v s6 q6 ι6 H6 y R6 E6 ry => ?_) fun _ _ z => z)⟩
        have E36 := E35.trans E6
        obtain ⟨ι', e6, e7, e8, e9⟩ := fin R6 E36
        subst e6
        split at q6
        · rename_i z
          have hm := mv_hset (u := .lst (acc ++ [y])) (ι := ι'.hide L) (st := s6) (H := H6) R6 List.mem_cons_self
          refine ⟨acc, e8, hlen, by omega, acc ++ [y], zs ++ [z], ι', s6, e7, upd_same, by rw [List.length_append]; exact Nat.succ_le_succ hal, R6.hset List.mem_cons_self trivial (hf_lst R6.hf (by rw [List.length_append]; exact hlen)), (mv.trans E36.mv).trans hm, fun a ha => ?_, hm.rpA ((rA.ext E36).append (.cons ry .nil)), ?_⟩
          · rw [upd_ne fun z => nL (by rw [← z]; exact ha)]
            exact e9 a ha
          · refine Out.post_mono (Out.post_bind q6) (fun ws s7 z7 => ?_) fun _ _ z => z
            show PF1 K ι1 s1 H1 Q (zs ++ [z] ++ ws) s7
            rw [List.append_assoc]
            exact z7
        · exact q6.elim
    · exact p2.elim
  · left
    have hd : ds.drop i = [] := List.drop_eq_nil_of_le (by omega)
    rw [hd] at p2
    unfold lcL at p2
    split at p2
    · rename_i hc
      have e : i = ds.length := by omega
      subst e
      refine ⟨hW.stop (ι2.hide L) s2 H2 R2 mv hc, fun hf => ?_⟩
      have p3 : PF1 K ι1 s1 H1 Q zs s2 := by
        have z : PF1 K ι1 s1 H1 Q (zs ++ []) s2 := p2
        rw [List.append_nil] at z
        exact z
      have sh := mv_show R2
      have E12 : Ext ι1 s1 H1 ι2 s2 (del H2 L) := by
        have m2 := mv.trans sh
        refine ⟨m2.keep, m2.pre, eh, fun a ha => ?_, m2.lk⟩
        rw [del_ne fun z => nL (by rw [← z]; exact ha)]
        exact kz a ha
      have z := p3 ι2 (del H2 L) acc L (R2.unhide (by rw [eh]; exact nL)) E12 (sh.rpA rA) del_same (by rw [upd_del hA]; exact R2.hf)
      rw [upd_del hA] at z
      exact z
    · exact p2.elim
end Fw
namespace Fw
open PySem PySem.Spec PyProof.Rows L2
theorem ts_nil {X : Cx} {W : XW} : PTs X [] (TTo X.K W mYes) := ⟨fun pins s σ H Q I q => by
  obtain ⟨ι, env, st, R, EV, p⟩ := q
  exact pts_nil.run pins s σ H Q I (p ι H R Ext.refl)⟩
theorem ts_one {X : Cx} {W : XW} {c : Expr} {t : MT} (h : PT X c (TTo X.K W t)) : PTs X [c] (TTo X.K W t) := pts_one h
theorem Gd.blk {X : Cx} (g : Gd X) {s : Shared} {H : Hp} {sc : Scope} {ce : Env} {fp : List Addr} : Gd (X.blk s H sc ce fp) := ⟨g.calm, g.gu, g.un⟩
section
variable {X : Cx} {W : XW} {elt tg iter : Expr} {ifs : List Expr} {scope : Scope} {own : List (Str × Nat)} {pos : Pos} {mi : MI} {g : MG} {t : MT} {m : ME}
theorem xf_lc (gd : Gd X) (hN : X.N.Nodup) (hi : PI X tg iter (TIo X.K W mi)) (ok : BlkOk X.N X.env.scope scope own)
    (hb : ∀ (s : Shared) (H : Hp) (C : Addr) (cl : List (Str × Addr)) (fp : List Addr), PG (X.blk s H scope (compEnvC scope cl C X.env) fp) tg (TGo X.K WF g (some (own.map (·.2)))) ∧ PTs (X.blk s H scope (compEnvC scope cl C X.env) fp) ifs (TTo X.K WF t) ∧ PE (X.blk s H scope (compEnvC scope cl C X.env) fp) elt (TEo X.K WF m))
    (hs : ∀ x, foldedSetIterable iter X.env x = pure x := by intro _; rfl) : PE X (.ListComp elt [⟨tg, iter, ifs, 0⟩] scope pos) (TFo X.K W (mLc mi g t m (own.map (·.2)))) :=
  pf_wrap (pe_lc gd.calm hN hi ok (fun s H C cl fp => (hb s H C cl fp).1) (fun s H C cl fp => (hb s H C cl fp).2.1) (fun s H C cl fp => (hb s H C cl fp).2.2) hs) fun σ H Q q => lc_red q
theorem asg_frz {K : PySem.W.Frag} {m : MF} {i : Nat} {D : Ends} {σ : L2.St} {H : Hp} (q : TSo K W (sAsg (mFrz m) (gNm i)) D σ H) : TFo K W m σ H fun v H' => D.nx (σ.set i (some v)) H' := by
  obtain ⟨ι, env, st, R, EV, p⟩ := q
  refine ⟨ι, env, st, R, EV, Out.post_mono (Out.post_bind (thn_post p)) (fun zs s1 q ι1 H1 xs a R1 E1 ra ha hf => ?_) fun _ _ q => q⟩
  have E2 := Ext.fresh R1 ha (u := .lst xs)
  exact q ι1 _ _ (R1.fresh ha hf) (E1.trans E2) (((EV.ext E1).ext E2).set (x := .ref a) (d := .v (.list zs)) (.lst upd_same (R1.frz_new ha) (ra.ext E2)) i)
theorem asg_new {K : PySem.W.Frag} {m : MF} {i : Nat} {D : Ends} {σ : L2.St} {H : Hp} (q : TSo K W (sAsg (mNew m) (gNm i)) D σ H) : TFo K W m σ H fun v H' => D.nx (σ.set i (some v)) H' := by
  obtain ⟨ι, env, st, R, EV, p⟩ := q
  refine ⟨ι, env, st, R, EV, Out.post_mono (Out.post_bind (thn_post p)) (fun zs s1 q ι1 H1 xs a R1 E1 ra ha hf => ?_) fun _ _ q => q⟩
  have E2 : Ext ι1 s1 H1 (ι1.psh a) (s1 ++ [.lst zs]) (upd H1 a (.lst xs)) := Ext.push R1 ha
  refine q (ι1.psh a) _ _ (R1.push ha hf ⟨xs, upd_same, ra.ext E2⟩ rfl) (E1.trans E2) (((EV.ext E1).ext E2).set (x := .ref a) (d := .ref s1.length) ⟨a, ?_, rfl⟩ i)
  show (ι1.ad ++ [a])[s1.length]? = _
  rw [← R1.len, List.getElem?_append_right (Nat.le_refl _), Nat.sub_self]
  rfl
theorem s_lcF {i : Nat} {y : Str} {py spos : Pos} (gd : Gd X) (hN : X.N.Nodup) (hy : X.N[i]? = some y) (hyl : X.env.scope.names.lookup y = some .local) (hsw : swapsWith (.ListComp elt [⟨tg, iter, ifs, 0⟩] scope pos) (some (.Name y py)) spos.line X.env = pure true)
    (hi : PI X tg iter (TIo X.K W mi)) (ok : BlkOk X.N X.env.scope scope own)
    (hb : ∀ (s : Shared) (H : Hp) (C : Addr) (cl : List (Str × Addr)) (fp : List Addr), PG (X.blk s H scope (compEnvC scope cl C X.env) fp) tg (TGo X.K WF g (some (own.map (·.2)))) ∧ PTs (X.blk s H scope (compEnvC scope cl C X.env) fp) ifs (TTo X.K WF t) ∧ PE (X.blk s H scope (compEnvC scope cl C X.env) fp) elt (TEo X.K WF m))
    (hs : ∀ x, foldedSetIterable iter X.env x = pure x := by intro _; rfl) : PS X (.Assign [.Name y py] (.ListComp elt [⟨tg, iter, ifs, 0⟩] scope pos) spos) (TSo X.K W (sAsg (mFrz (mLc mi g t m (own.map (·.2)))) (gNm i))) :=
  ps_wrap (ps_setLc gd.calm hN hy hyl hsw hi ok (fun s H C cl fp => (hb s H C cl fp).1) (fun s H C cl fp => (hb s H C cl fp).2.1) (fun s H C cl fp => (hb s H C cl fp).2.2) hs) fun D σ H q => lc_red (asg_frz q)
theorem s_lcN {i : Nat} {y : Str} {py spos : Pos} (gd : Gd X) (hN : X.N.Nodup) (hy : X.N[i]? = some y) (hyl : X.env.scope.names.lookup y = some .local) (hsw : swapsWith (.ListComp elt [⟨tg, iter, ifs, 0⟩] scope pos) (some (.Name y py)) spos.line X.env = pure true)
    (hi : PI X tg iter (TIo X.K W mi)) (ok : BlkOk X.N X.env.scope scope own)
    (hb : ∀ (s : Shared) (H : Hp) (C : Addr) (cl : List (Str × Addr)) (fp : List Addr), PG (X.blk s H scope (compEnvC scope cl C X.env) fp) tg (TGo X.K WF g (some (own.map (·.2)))) ∧ PTs (X.blk s H scope (compEnvC scope cl C X.env) fp) ifs (TTo X.K WF t) ∧ PE (X.blk s H scope (compEnvC scope cl C X.env) fp) elt (TEo X.K WF m))
    (hs : ∀ x, foldedSetIterable iter X.env x = pure x := by intro _; rfl) : PS X (.Assign [.Name y py] (.ListComp elt [⟨tg, iter, ifs, 0⟩] scope pos) spos) (TSo X.K W (sAsg (mNew (mLc mi g t m (own.map (·.2)))) (gNm i))) :=
  ps_wrap (ps_setLc gd.calm hN hy hyl hsw hi ok (fun s H C cl fp => (hb s H C cl fp).1) (fun s H C cl fp => (hb s H C cl fp).2.1) (fun s H C cl fp => (hb s H C cl fp).2.2) hs) fun D σ H q => lc_red (asg_new q)
end
structure RmG (k : Nat) (A : Around) : Prop where
  rm : Room k A
  gu : A.guards = some []
theorem RmG.mono {j k : Nat} {A : Around} (r : RmG k A) (h : j ≤ k) : RmG j A := ⟨r.rm.mono h, r.gu⟩
theorem RmG.deeper {k : Nat} {A : Around} (r : RmG (k + 1) A) (env : Env) : RmG k (A.deeper env) := ⟨r.rm.deeper env, r.gu⟩
theorem RmG.gd {k : Nat} {X : Cx} (r : RmG k X.A) (h : X.calm = true) : Gd X := ⟨h, r.gu, by have := r.rm.un; omega⟩
structure FnG (P : Program) (w : World) (K : PySem.W.Frag) (mg : Str → Option Value) (base : Heap) (CX : CXT) (k : Nat) (f : Addr) (fd : FuncData) (ps : List Str) (sp : Sp) : Prop where
  len : ∀ vs H Q E, sp vs H Q E → vs.length = ps.length
  run : ∀ (A : Around) (outer : List Env) (s : Shared) (H : Hp) (args : Args) (us : List Value) (vs : List V) (Q : VK) (E : XK), RmG k A → Env0 P w K mg base A outer s H → BindsTo s fd args (ps.zip us) → Vals vs us → sp vs H Q E →
    codeAny (model P w) A (.call (.ref f) args) (CR CX outer P w H s Q E) s
section
variable {P : Program} {w : World} {K : PySem.W.Frag} {mg : Str → Option Value} {base : Heap} {CX : CXT} {k : Nat} {f : Addr} {fd : FuncData} {ps : List Str} {sp : Sp}
theorem FnG.mono {j : Nat} (F : FnG P w K mg base CX j f fd ps sp) (h : j ≤ k) : FnG P w K mg base CX k f fd ps sp := ⟨F.len, fun A outer s H args us vs Q E hr => F.run A outer s H args us vs Q E (hr.mono h)⟩
theorem fnG_of {x qual : Str} {params : Arguments} {body : List Stmt} {scope : Scope} {dvs : List V} {kws : List (Str × V)} {N : List Str} (F : FunD K x qual params body scope dvs kws f fd) (S : FnScope N ps scope)
    (len : ∀ vs H Q E, sp vs H Q E → vs.length = ps.length)
    (hbody : ∀ (cdv : Value) (A : Around) (outer : List Env) (s : Shared) (H : Hp) (vs : List V) (Q : VK) (E : XK), RmG k (A.deeper (envOfC qual scope s.heap.objs.size f cdv)) → sp vs H Q E →
      ∃ t, PSs (cxOf CX P w K mg base N qual scope f cdv A outer s H E) body t ∧ t { nx := fun _ H' => Q .non H', rt := Q } (start N vs) H) : FnG P w K mg base CX (k + 1) f fd ps sp := by
  obtain ⟨oc, od, dV, kV, doc, pm, an, cdv, ct, osl, rfl, lk, hcd, _, _⟩ := F.ex
  refine ⟨len, fun A outer s H args us vs Q E hr e0 hb r hsp => ?_⟩
  have KX : K.In s.heap := e0.mod.kin.keeps fun b o e => (e0.bs b o e).1
  have nl : s.heap.NoLimit := e0.mod.nolimit.keeps fun b o e => (e0.bs b o e).1
  have kinds : ∀ y ∈ ps.zip us, scope.names.lookup y.1 = some .local ∨ (scope.names.lookup y.1 = some .cell ∧ ((cellsFrom (s.heap.objs.size + 1) scope.names []).lookup y.1).isSome = true) := by
    rintro ⟨n, v⟩ hy
    exact (S.par n (List.of_mem_zip hy).1).imp id fun q => ⟨q, PySem.W.cellsFrom_some _ _ _ (.inl q)⟩
  refine codeAny_call_function hr.rm.depth (KX _ _ lk) rfl S.co S.gen rfl (PySem.W.codeRec_of KX hcd) (hb _ _ _ _ (wpAny_newFunctionEnv_cells S.kind kinds ?_))
  rintro env rfl s1 x
  refine ⟨nl.keeps x.toInCall.keep, codeAny_func ?_⟩
  obtain ⟨t, ht, hq⟩ := hbody cdv A outer s H vs Q E (hr.deeper _) hsp
  refine wpAny_mono (ht.run [] s1 (start N vs) H _ (inv_start S hr.rm.hd e0 (len _ _ _ _ hsp) r x) hq) (fun fl s' hs => ?_) fun _ _ z => z
  cases fl with
  | ret u =>
    obtain ⟨v, _, H', J, rv, q⟩ := hs
    exact ⟨v, H', J.os, J.bare, J.base, J.hok, rv, q⟩
  | next =>
    obtain ⟨_, H', J, q⟩ := hs
    exact ⟨V.non, H', J.os, J.bare, J.base, J.hok, (rfl : RelV .non Value.none), q⟩
  | brk =>
    obtain ⟨_, _, _, q⟩ := hs
    exact q.elim
  | cont =>
    obtain ⟨_, _, _, q⟩ := hs
    exact q.elim
abbrev FF := List D → Sto → Out D
def fin1 (n : Nat) : SO → Out D
  | .nx _ s => .ok (.v .none) (s.take n)
  | .rt d s => if d.low n then .ok d (s.take n) else .stuck
  | .exn e s => .exn e s
  | _ => .stuck
def fin2 : SO → Out D
  | .nx _ s => .ok (.v .none) s
  | .rt d s => .ok d s
  | .exn e s => .exn e s
  | _ => .stuck
def envE (nN : Nat) (ds : List D) : Ev := ds.map some ++ List.replicate (nN - ds.length) none
def fnT (nN : Nat) (m : MS) : FF := fun ds st => fin1 st.length (m (envE nN ds) st)
def fnK (nN : Nat) (m : MS) : FF := fun ds st => fin2 (m (envE nN ds) st)
def spG (K : PySem.W.Frag) (V : XK → XW) (n : Nat) (f : FF) : Sp := fun vs H Q E => ∃ ι st ds, SRel K ι st H ∧ RDs K ι st H vs ds ∧ ds.length = n ∧ (f ds st).post (PO1 K ι st H Q) (PX1 K (V E) ι st H)
theorem RDs.get {ι : Gh} {st : Sto} {H : Hp} : ∀ {xs : List V} {ds : List D} {i : Nat} {d : D}, RDs K ι st H xs ds → ds[i]? = some d → ∃ x, xs[i]? = some x ∧ RD K ι st H x d
  | _, _, _, _, .nil, e => by simp at e
  | _, _, 0, _, .cons r _, e => by simp at e; subst e; exact ⟨_, rfl, r⟩
  | _, _, i + 1, d, .cons _ r, e => by
    obtain ⟨x, h1, h2⟩ := RDs.get (i := i) (d := d) r (by simpa using e)
    exact ⟨x, by simpa using h1, h2⟩
theorem evR_start {ι : Gh} {st : Sto} {H : Hp} {N : List Str} : ∀ {vs : List V} {ds : List D}, RDs K ι st H vs ds → EvR K ι st H (L2.start N vs) (envE N.length ds) := by
  intro vs ds r
  have hl := RDs.length r
  refine ⟨by unfold L2.start envE; rw [List.length_append, List.length_append, List.length_map, List.length_map, List.length_replicate, List.length_replicate, hl], fun i d q => ?_⟩
  unfold envE at q
  by_cases h : i < ds.length
  · rw [List.getElem?_append_left (by rw [List.length_map]; exact h), List.getElem?_map, List.getElem?_eq_getElem h] at q
    cases q
    obtain ⟨x, h1, h2⟩ := RDs.get r (List.getElem?_eq_getElem h)
    refine ⟨x, ?_, h2⟩
    unfold L2.start
    rw [List.getElem?_append_left (by rw [List.length_map, hl]; exact h), List.getElem?_map, h1]
    rfl
  · rw [List.getElem?_append_right (by rw [List.length_map]; omega), List.getElem?_replicate] at q
    split at q <;> cases q
theorem RDs.append {ι : Gh} {st : Sto} {H : Hp} : ∀ {xs ys : List V} {ds es : List D}, RDs K ι st H xs ds → RDs K ι st H ys es → RDs K ι st H (xs ++ ys) (ds ++ es)
  | _, _, _, _, .nil, s => s
  | _, _, _, _, .cons r t, s => .cons r (RDs.append t s)
theorem ext_take {ι ι' : Gh} {st st' : Sto} {H H' : Hp} (R : SRel K ι st H) (E : Ext ι st H ι' st' H') : Ext ι st H (ι'.tk st.length) (st'.take st.length) H' := by
  refine ⟨fun q u e f => ?_, fun n a h => ?_, E.hid, E.keepZ, fun {n t kvs a} h hi => let ⟨h1, e1⟩ := E.lk h hi; ⟨by rw [List.getElem?_take, if_pos (List.getElem?_eq_some_iff.mp h).1]; exact h1, e1⟩⟩
  · obtain ⟨f1, k1⟩ := E.keep q u e f
    exact ⟨frz_take f1, k1⟩
  · have hn : n < st.length := by
      rw [← R.len]
      by_cases z : n < ι.ad.length
      · exact z
      · rw [List.getElem?_eq_none (by omega)] at h
        cases h
    show (ι'.ad.take st.length)[n]? = _
    rw [List.getElem?_take, if_pos hn]
    exact E.pre n a h
variable {x qual : Str} {params : Arguments} {body : List Stmt} {scope : Scope} {dvs : List V} {kws : List (Str × V)} {N : List Str} {V : XK → XW} {m : MS}
theorem spG_len {n : Nat} {f : FF} {vs : List L2.V} {H : Hp} {Q : VK} {E : XK} (h : spG K V n f vs H Q E) : vs.length = n := by
  obtain ⟨ι, st, ds, R, r, hl, _⟩ := h
  rw [RDs.length r, hl]
theorem fnG_T (F : FunD K x qual params body scope dvs kws f fd) (S : FnScope N ps scope)
    (hb : ∀ (cdv : Value) (A : Around) (outer : List Env) (s : Shared) (H : Hp) (E : XK), RmG k (A.deeper (envOfC qual scope s.heap.objs.size f cdv)) → PSs (cxOf CX P w K mg base N qual scope f cdv A outer s H E) body (TSo K (V E) m)) :
    FnG P w K mg base CX (k + 1) f fd ps (spG K V ps.length (fnT N.length m)) := by
  refine fnG_of F S (fun _ _ _ _ h => spG_len h) fun cdv A outer s H vs Q E hr hsp => ⟨TSo K (V E) m, hb cdv A outer s H E hr, ?_⟩
  obtain ⟨ι, st, ds, R, r, hl, p⟩ := hsp
  refine ⟨ι, envE N.length ds, st, R, evR_start r, ?_⟩
  unfold fnT at p
  cases e : m (envE N.length ds) st with
  | nx e1 s1 =>
    rw [e] at p
    exact fun ι1 H1 σ1 R1 E1 _ => p _ H1 .non (R1.take _) (ext_take R E1) .non
  | rt d s1 =>
    rw [e] at p
    have e2 : fin1 st.length (.rt d s1) = if d.low st.length then .ok d (s1.take st.length) else .stuck := rfl
    rw [e2] at p
    by_cases h : d.low st.length = true
    · rw [if_pos h] at p
      exact fun ι1 H1 x1 R1 E1 r1 => p _ H1 x1 (R1.take _) (ext_take R E1) (r1.take h)
    · rw [if_neg h] at p
      exact p.elim
  | bk e1 s1 => rw [e] at p; exact p.elim
  | ct e1 s1 => rw [e] at p; exact p.elim
  | exn x1 s1 => rw [e] at p; exact p
  | stuck => rw [e] at p; exact p.elim
theorem fnG_K (F : FunD K x qual params body scope dvs kws f fd) (S : FnScope N ps scope)
    (hb : ∀ (cdv : Value) (A : Around) (outer : List Env) (s : Shared) (H : Hp) (E : XK), RmG k (A.deeper (envOfC qual scope s.heap.objs.size f cdv)) → PSs (cxOf CX P w K mg base N qual scope f cdv A outer s H E) body (TSo K (V E) m)) :
    FnG P w K mg base CX (k + 1) f fd ps (spG K V ps.length (fnK N.length m)) := by
  refine fnG_of F S (fun _ _ _ _ h => spG_len h) fun cdv A outer s H vs Q E hr hsp => ⟨TSo K (V E) m, hb cdv A outer s H E hr, ?_⟩
  obtain ⟨ι, st, ds, R, r, hl, p⟩ := hsp
  refine ⟨ι, envE N.length ds, st, R, evR_start r, ?_⟩
  unfold fnK at p
  cases e : m (envE N.length ds) st with
  | nx e1 s1 =>
    rw [e] at p
    exact fun ι1 H1 σ1 R1 E1 _ => p _ H1 .non R1 E1 .non
  | rt d s1 => rw [e] at p; exact p
  | bk e1 s1 => rw [e] at p; exact p.elim
  | ct e1 s1 => rw [e] at p; exact p.elim
  | exn x1 s1 => rw [e] at p; exact p
  | stuck => rw [e] at p; exact p.elim
end
structure MLen (ma : MA) (n : Nat) : Prop where
  of : ∀ env st ds s1, ma env st = .ok ds s1 → ds.length = n
theorem MLen.n : MLen mNil 0 := ⟨fun env st ds s1 e => by cases e; rfl⟩
theorem MLen.c {m : ME} {ma : MA} {n : Nat} (h : MLen ma n) : MLen (mCons m ma) (n + 1) := ⟨fun env st ds s1 e => by
  unfold mCons at e
  cases e1 : m env st with
  | ok d s2 =>
    rw [e1, bind_ok] at e
    cases e2 : ma env s2 with
    | ok us s3 =>
      rw [e2, bind_ok] at e
      cases e
      rw [List.length_cons, h.of _ _ _ _ e2]
    | _ => rw [e2] at e; cases e
  | _ => rw [e1] at e; cases e⟩
def mCall (f : FF) (ma : MA) (xs : List D := []) : ME := fun env st => (ma env st).bind fun ds s1 => f (ds ++ xs) s1
section
variable {X : Cx} {CX : CXT} {k n : Nat} {f : Addr} {fd : FuncData} {ps : List Str} {dvs : List L2.V} {ds : List Value} {xs : List D} {E : XK} {x : Str} {p pos : Pos} {e : Expr} {es : List Expr} {V : XK → XW} {ff : FF} {ma : MA}
theorem run_fnG {sp : Sp} {pins : List (Addr × Obj)} {σ : L2.St} {H : Hp} {s : Shared} {Q : VK} {us : List Value} {vs : List L2.V} (F : FnG X.prog X.w X.K X.mg X.base CX k f fd ps sp) (hr : RmG k X.A) (hb : Binds X.K fd ps ds) (hd : Vals dvs ds) (hx : Passes CX X E)
    (I : Inv X pins σ H s) (r : Vals vs us) (h : sp (vs ++ dvs) H Q E) : wpAny (model X.prog X.w) X.A (call (.ref f) us) (EP X pins σ Q) X.xe s := by
  have r2 := r.append hd
  have hl : (us ++ ds).length = ps.length := by rw [← r2.length]; exact F.len _ _ _ _ h
  refine wpAny_call (codeAny_mono (F.run X.A X.stack s H ⟨us, []⟩ _ _ Q E hr I.env0 (hb s us I.kIn hl) r2 h) fun o s' hq => ?_)
  cases o with
  | error e => exact hx pins σ H s e s' I hq
  | ok fl =>
    cases fl with
    | ret u => exact I.after hq
    | next => exact hq.elim
    | brk => exact hq.elim
    | cont => exact hq.elim
theorem spG_call {K : PySem.W.Frag} {σ : L2.St} {H : Hp} {Q : VK} (hxs : ∀ ι st H, RDs K ι st H dvs xs) (q : TEo K (V E) (mCall ff ma xs) σ H Q) {j : Nat} (hn : MLen ma j) (hj : j + xs.length = n) :
    TAo K (V E) ma σ H fun vs H1 => spG K V n ff (vs ++ dvs) H1 Q E := by
  obtain ⟨ι, env, st, R, EV, p⟩ := q
  unfold mCall at p
  refine ⟨ι, env, st, R, EV, ?_⟩
  cases em : ma env st with
  | ok d s1 =>
    rw [em, bind_ok] at p
    exact fun ι1 H1 vs R1 E1 r1 => ⟨ι1, s1, d ++ xs, R1, RDs.append r1 (hxs _ _ _), by rw [List.length_append, hn.of env st d s1 em]; exact hj, Out.post_mono p (fun _ _ z => z.ext E1) fun _ _ z => z.ext E1⟩
  | exn e s1 => rw [em] at p; exact p
  | stuck => rw [em] at p; exact p.elim
theorem x_call (F : FnG X.prog X.w X.K X.mg X.base CX k f fd ps (spG X.K V n ff)) (hr : RmG k X.A) (hg : Gl X x) (hm : X.mg x = some (.ref f)) (hk : PySem.W.keepIn X.K (.ref f) = true) (hb : Binds X.K fd ps ds) (hd : Vals dvs ds) (hx : Passes CX X E)
    (hxs : ∀ ι st H, RDs X.K ι st H dvs xs) (ha : PA X (e :: es) (TAo X.K (V E) ma)) {j : Nat} (hn : MLen ma j) (hj : j + xs.length = n)
    (hdb : (x == ("__debug__" : Str)) = false := by decide) (he : starEach (e :: es) X.env = (false, eval e X.env) :: starEach es X.env := by rfl) (hpl : (backTo pos (starEach es X.env)).any (·.1) = false := by rfl) :
    PE X (.Call (.Name x p) (e :: es) [] pos) (TEo X.K (V E) (mCall ff ma xs)) := by
  refine ⟨fun pins s σ H Q I h => ?_⟩
  refine wpAny_Call_Name_kw (ld_glob I hg hm ?_ hdb)
  refine PySem.W.callWith_K (h₀ := X.base) I.ok.mod.kin hk (thn (ha.run pos pins s σ H _ I (spG_call hxs h hn hj)) fun us s1 ⟨vs, H1, I1, r, q⟩ => ⟨I1.kIn, ?_⟩) he hpl
  exact run_fnG F hr hb hd hx I1 r q
end
abbrev V0 : XK → XW := fun _ => WF
theorem law_callG {P : Program} {w : World} {K : PySem.W.Frag} {mg mb : Str → Option Value} {k : Nat} {fa a : Addr} {fd : FuncData} {x : Str} {ff : FF} {s₁ : Shared} {vs : List Value} {ns : List Int}
    (KX : K.In s₁.heap) (hns : s₁.heap.Ns mainGlobals mg) (hb : s₁.heap.Ns builtinsNs mb) (hbb : ∀ x : Str, x ≠ "__name__" → mb x = bootBuiltins x) (hlim : s₁.heap.NoLimit) (hg : s₁.gens = #[])
    (ha : s₁.heap.get? a = some { cls := .type "list", data := .seq vs.toArray }) (hi : IntsAre vs ns) (hl : ns.length ≤ sizeLine) (hr : RmG k callerA)
    (F : ∀ base : Heap, K.In base → base.Ns mainGlobals mg → FnG P w K mg base CX0 k fa fd [x] (spG K V0 1 ff)) (hbind : ∀ (s : Shared) (u : Value), BindsTo s fd ⟨[u], []⟩ [(x, u)])
    (hsp : ∃ st, ff [.scr ns] [] = .ok (.v (.bool true)) st) :
    codeAny (model P w) callerA (.call (.ref fa) ⟨[.ref a], []⟩) (fun r s' => r = .ok (.ret (.bool true)) ∧ OldK s₁.heap s'.heap ∧ s'.os = s₁.os ∧ AllBare s'.gens) s₁ := by
  have rv := vals_ints hi
  have lenV := hi.length
  -- from what is tracked: nothing, or the script alone, frozen
  have key : ∀ H : Hp, (∀ b, H b = none ∨ (b = a ∧ ∃ o xs, H b = some (.frz o (.lst xs)))) → (KL K a (ns.map V.int) ∨ ∃ o, H a = some (.frz o (.lst (ns.map V.int)))) → HOk P w H s₁.heap → (H a ≠ none → K.lookup a = none) →
      codeAny (model P w) callerA (.call (.ref fa) ⟨[.ref a], []⟩) (fun r s' => r = .ok (.ret (.bool true)) ∧ OldK s₁.heap s'.heap ∧ s'.os = s₁.os ∧ AllBare s'.gens) s₁ := by
    intro H hO hS hok hK
    have at_a : ∀ {b : Addr} {u : HO}, H b = some u → b = a := fun {b u} e => by
      rcases hO b with z | ⟨z, _⟩
      · rw [z] at e; cases e
      · exact z
    have inB : ∀ {b : Addr} {o : Obj}, s₁.heap.get? b = some o → H b = none → (hidT s₁.heap H).get? b = some o := fun e z => hidT_get e z
    have nsB : ∀ {b : Addr} {m : Str → Option Value}, s₁.heap.Ns b m → (hidT s₁.heap H).Ns b m := by
      rintro b m ⟨o, es, ep, e, d, r⟩
      refine ⟨o, es, ep, inB e ?_, d, r⟩
      cases q : H b with
      | none => rfl
      | some u =>
        have z := at_a q
        subst z
        rw [ha] at e
        cases e
        cases d
    have kB : K.In (hidT s₁.heap H) := fun b o e => inB (KX b o e) (by
      cases q : H b with
      | none => rfl
      | some u =>
        have z := at_a q
        subst z
        rw [hK (by rw [q]; exact Option.some_ne_none u)] at e
        cases e)
    have e0 : Env0 P w K mg (hidT s₁.heap H) callerA [] s₁ H := by
      refine ⟨rfl, ⟨kB, nsB hns, ⟨mb, nsB hb, hbb⟩, ?_⟩, fun b o e => of_hidT e, Nat.le_of_eq (hidT_size _ _), trivial, fun b z => ?_, hok, .of_eq hg⟩
      · obtain ⟨mc, h1, h2⟩ := hlim
        exact ⟨mc, nsB h1, h2⟩
      · cases z
    have R0 : SRel K ⟨[], []⟩ [] H := ⟨rfl, fun n o b h => by simp at h, fun m n b o u h => by simp at h, fun n o h => by simp at h, fun b h => by simp at h, fun b u e => sz_of (hok b u e)⟩
    have r0 : RD K ⟨[], []⟩ [] H (.ref a) (.scr ns) := ⟨a, rfl, hS.imp id fun ⟨o, z⟩ => ⟨o, z, by simp, fun n o h => by simp at h⟩⟩
    have sp : spG K V0 1 ff [.ref a] H (fun v _ => v = .bl true) E0 := by
      obtain ⟨st, e⟩ := hsp
      refine ⟨⟨[], []⟩, [], [.scr ns], R0, .cons r0 .nil, rfl, ?_⟩
      rw [e]
      intro ι1 H1 v R1 E1 rv
      have rv : Rp (Frz ι1 st) H1 v (.bool true) := rv
      cases rv
      rfl
    refine codeAny_mono ((F _ kB (nsB hns)).run callerA [] s₁ H ⟨[.ref a], []⟩ [.ref a] [.ref a] _ _ hr e0 (hbind s₁ (.ref a)) (.cons rfl .nil) sp) fun r s' h => ?_
    cases r with
    | error e => exact h.elim
    | ok fl =>
      cases fl with
      | next => exact h.elim
      | brk => exact h.elim
      | cont => exact h.elim
      | ret u =>
        obtain ⟨v, H', os, bare, un, hok', r', q⟩ := h
        have q' : v = .bl true := q
        subst q'
        obtain rfl : u = Value.bool true := r'
        refine ⟨rfl, OldK.of_keep fun b o e => ?_, os, bare⟩
        rcases hO b with z | ⟨_, ob, xs, z⟩
        · exact un.keep b o e z (by intro y; cases y) (by intro y; cases y)
        · have z2 := un.frzs b ob _ z
          have e1 := (hok b _ z).1
          rw [e] at e1
          cases e1
          exact (hok' b _ z2).1
  cases hk : K.lookup a with
  | some o =>
    have e := KX a o hk
    rw [ha] at e
    cases e
    exact key (fun _ => none) (fun _ => .inl rfl) (.inl ⟨_, vs.toArray, _, hk, rfl, rfl, rfl, by rw [List.size_toArray, lenV]; exact hl, by simpa using rv⟩) (fun b u z => nomatch z) (fun z => absurd rfl z)
  | none =>
    let ob : Obj := { cls := .type "list", data := .seq vs.toArray }
    have same : (fun b => if b = a then some (HO.frz ob (.lst (ns.map V.int))) else none) a = some (HO.frz ob (.lst (ns.map V.int))) := if_pos rfl
    refine key (fun b => if b = a then some (.frz ob (.lst (ns.map V.int))) else none) (fun b => ?_) (.inr ⟨ob, same⟩) (fun b u z => ?_) fun _ => hk
    · by_cases e : b = a
      · exact .inr ⟨e, ob, ns.map V.int, if_pos e⟩
      · exact .inl (if_neg e)
    · by_cases e : b = a
      · subst e
        cases same.symm.trans z
        exact ⟨ha, by rw [List.length_map]; exact hl, vs, _, rv, ha⟩
      · cases (if_neg e : (if b = a then some (HO.frz ob (.lst (ns.map V.int))) else none) = none).symm.trans z
end Fw
namespace Fw
open PySem PySem.Spec PyProof.Rows L2
theorem walkG {l : PySem.W.OpenLaw} {n k : Nat} {q : Program} {loose : List Str} {XP : (Str → Option Value) → Heap → Prop} {YP : World → Heap → Prop} {d : DefRec} {x : Str} {ff : FF}
    (hn : l.most = some n) (hn2 : n ≤ sizeLine) (hdf : d.params.defaults = []) (hr : RmG k callerA)
    (F : ∀ (w : World) (mg : Str → Option Value) (fa : Addr) (h : Heap), YP w h → h.Ns mainGlobals mg → mg d.name = some (.ref fa) →
      ∃ (K : PySem.W.Frag) (fd : FuncData), K.In h ∧ (∀ (s : Shared) (u : Value), BindsTo s fd ⟨[u], []⟩ [(x, u)]) ∧ ∀ base : Heap, K.In base → base.Ns mainGlobals mg → FnG l.prog w K mg base CX0 k fa fd [x] (spG K V0 1 ff))
    (law : ∀ ns : List Int, ns.length ≤ n → ∃ st, ff [.scr ns] [] = .ok (.v (.bool true)) st) :
    PySem.W.WalkO q loose XP YP l.row.toRowW d [] (fun f vs => PySem.call f vs) := by
  refine Att.attach_call hn hdf fun w _ s₁ mg mb fa _ _ _ _ a vs ns G Y _ _ _ hmg ha hi hlen hg => ?_
  obtain ⟨K, fd, KX, hb, hF⟩ := F w mg fa _ Y G.T.g hmg
  exact law_callG KX G.T.g G.T.b G.T.builtins G.T.nolimit hg ha hi (Nat.le_trans hlen hn2) hr hF hb (law ns hlen)
theorem rm0 {k : Nat} (h : k ≤ 60 := by decide) : RmG k callerA := by
  have z : RmG 60 callerA := ⟨⟨rfl, by decide, by decide⟩, rfl⟩
  exact z.mono h
end Fw
namespace Fw
open PySem PySem.Spec PyProof.Rows L2
def mPrs : List (ME × ME) → Ev → Sto → Out (List (D × D))
  | [], _, st => .ok [] st
  | (a, b) :: r, env, st => (a env st).bind fun x s1 => (b env s1).bind fun y s2 => (mPrs r env s2).bind fun ps s3 => .ok ((x, y) :: ps) s3
def keysOf : List (D × D) → Option (List (PyData × D))
  | [] => some []
  | (.v kd, y) :: r => match key1 kd, keysOf r with
    | some _, some kvs => some ((kd, y) :: kvs)
    | _, _ => none
  | _ => none
def putAll (kvs more : List (PyData × D)) : List (PyData × D) := more.foldl (fun acc p => putD acc p.1 p.2) kvs
def mDisp (prs : List (ME × ME)) : ME := fun env st => (mPrs prs env st).noX.bind fun ps s1 => match keysOf ps with
  | some kvs => if kvs.length ≤ 15 ∧ (kvs.all fun p => p.2.low s1.length) = true then .ok (.ref s1.length) (s1 ++ [.dct false (putAll [] kvs)]) else .stuck
  | none => .stuck
def mDnew (t : Bool) : ME := fun _ st => .ok (.ref st.length) (st ++ [.dct t []])
section
variable {K : PySem.W.Frag} {W : XW} {ι : Gh} {st : Sto} {H : Hp}
theorem psh_at (R : SRel K ι st H) {p : Addr} : (ι.psh p).ad[st.length]? = some p := by
  show (ι.ad ++ [p])[st.length]? = _
  rw [← R.len, List.getElem?_append_right (Nat.le_refl _), Nat.sub_self]
  rfl
theorem hf_dK {p : Addr} {xs : List (Key × L2.V)} (h : HF H) (hl : xs.length ≤ sizeLine) : HF (upd H p (.dK xs)) := fun a u e => by
  by_cases z : a = p
  · subst z
    rw [upd_same] at e
    cases e
    exact hl
  · rw [upd_ne z] at e
    exact h a u e
def PV (K : PySem.W.Frag) (ι : Gh) (st : Sto) (H : Hp) : List (L2.V × L2.V) → List (D × D) → Prop := Paired fun x p => RD K ι st H x.1 p.1 ∧ RD K ι st H x.2 p.2
def PQ1 (K : PySem.W.Frag) (ι : Gh) (st : Sto) (H : Hp) (Q : List (L2.V × L2.V) → Hp → Prop) (ps : List (D × D)) (st' : Sto) : Prop := ∀ ι' H' xs, SRel K ι' st' H' → Ext ι st H ι' st' H' → PV K ι' st' H' xs ps → Q xs H'
theorem prs_red : ∀ (prs : List (ME × ME)) {ι : Gh} {env : Ev} {st : Sto} {σ : L2.St} {H : Hp} {Q : List (L2.V × L2.V) → Hp → Prop}, SRel K ι st H → EvR K ι st H σ env → (mPrs prs env st).post (PQ1 K ι st H Q) (fun _ _ => False) →
    tPairs (prs.map fun p => (TEo K W p.1, TEo K W p.2)) σ H Q
  | [], ι, env, st, σ, H, Q, R, EV, p => p ι H [] R Ext.refl .nil
  | (a, b) :: r, ι, env, st, σ, H, Q, R, EV, p => by
    refine ⟨ι, env, st, R, EV, Out.post_mono (Out.post_bind p) (fun x s1 q ι1 H1 u R1 E1 ra => ?_) fun _ _ q => q.elim⟩
    refine ⟨ι1, env, s1, R1, EV.ext E1, Out.post_mono (Out.post_bind q) (fun y s2 q2 ι2 H2 w R2 E2 rb => ?_) fun _ _ q => q.elim⟩
    refine prs_red r R2 ((EV.ext E1).ext E2) (Out.post_mono (Out.post_bind q2) (fun ps s3 q3 ι3 H3 xs R3 E3 rp => ?_) fun _ _ q => q)
    exact q3 ι3 H3 ((u, w) :: xs) R3 ((E1.trans E2).trans E3) (.cons ⟨(ra.ext E2).ext E3, rb.ext E3⟩ rp)
theorem keysOf_at : ∀ {ps : List (D × D)} {kvs : List (PyData × D)} {xs : List (L2.V × L2.V)}, keysOf ps = some kvs → PV K ι st H xs ps → ∃ us : List (Key × L2.V), xs = us.map (fun kv => (kV kv.1, kv.2)) ∧ RK K ι st H kvs us ∧ ∀ p ∈ kvs, ∃ k, key1 p.1 = some k
  | [], kvs, _, e, .nil => by cases e; exact ⟨[], rfl, .nil, fun p hp => nomatch hp⟩
  | (.v kd, y) :: r, kvs, _, e, .cons (a := x) h t => by
    unfold keysOf at e
    split at e
    · rename_i k l h1 h2
      cases e
      obtain ⟨us, rfl, h3, h4⟩ := keysOf_at h2 t
      have rc : Rp (Frz ι st) H x.1 kd := h.1
      have hk := kD_of h1
      rw [hk] at rc
      have ew := kV_of rc
      refine ⟨(k, x.2) :: us, ?_, .cons ⟨hk, h.2⟩ h3, fun p hp => ?_⟩
      · rw [List.map_cons, ← ew]
      · rcases List.mem_cons.mp hp with rfl | hp
        · exact ⟨k, h1⟩
        · exact h4 p hp
    · cases e
theorem rk_putAll : ∀ {kvs acc : List (PyData × D)} {us bs : List (Key × L2.V)}, RK K ι st H kvs us → (∀ p ∈ kvs, ∃ k, key1 p.1 = some k) → RK K ι st H acc bs → RK K ι st H (putAll acc kvs) (mergeK bs us)
  | _, _, _, _, .nil, _, r => r
  | _, acc, _, bs, .cons (a := p) (b := q) h t, hk, r => by
    obtain ⟨k, e⟩ := hk p List.mem_cons_self
    have e2 : k = q.1 := by
      have z := e
      rw [h.1, key1_kD] at z
      exact (Option.some.inj z).symm
    subst e2
    have z := rk_putAll t (fun z hz => hk z (List.mem_cons_of_mem _ hz)) (RK.put e h.2 r)
    exact z
theorem putAll_low {n : Nat} : ∀ {kvs acc : List (PyData × D)}, (kvs.all fun p => p.2.low n) = true → (acc.all fun p => p.2.low n) = true → ((putAll acc kvs).all fun p => p.2.low n) = true
  | [], _, _, h => h
  | p :: r, acc, h1, h2 => by
    rw [List.all_cons, Bool.and_eq_true] at h1
    exact putAll_low (kvs := r) h1.2 (putD_low h2 h1.1)
theorem upd_del2 {p : Addr} {u : HO} : upd (del H p) p u = upd H p u := by
  funext b
  by_cases e : b = p
  · subst e; rw [upd_same, upd_same]
  · rw [upd_ne e, del_ne e, upd_ne e]
theorem ext_show {ι1 : Gh} {s1 : Sto} {H1 : Hp} {p : Addr} {u : HO} (R : SRel K ι st H) (hp : H p = none) (R1 : SRel K ι1 s1 H1) (E : Ext (ι.hide p) st (upd H p u) ι1 s1 H1) : ∃ ι2 : Gh, ι1 = ι2.hide p ∧ ι2.hid = ι.hid ∧ SRel K ι2 s1 (del H1 p) ∧ Ext ι st H ι2 s1 (del H1 p) := by
  have e : ι1 = Gh.hide ⟨ι1.ad, ι.hid⟩ p := by
    have e := E.hid
    cases ι1
    simp only at e
    rw [e]
    rfl
  have np : p ∉ ι.hid := R.hid_new hp
  rw [e] at R1 E
  refine ⟨⟨ι1.ad, ι.hid⟩, e, rfl, R1.unhide np, ?_⟩
  have m := ((mv_hide R hp (u := u)).trans E.mv).trans (mv_show R1)
  refine ⟨m.keep, m.pre, rfl, fun a ha => ?_, m.lk⟩
  have na : a ≠ p := fun z => np (by rw [← z]; exact ha)
  rw [del_ne na, E.keepZ a (List.mem_cons_of_mem _ ha), upd_ne na]
theorem disp_red {prs : List (ME × ME)} {σ : L2.St} {Q : VK} (q : TEo K W (mDisp prs) σ H Q) : tDisp (prs.map fun p => (TEo K W p.1, TEo K W p.2)) σ H (fun v H' => HF H' → Q v H') := by
  obtain ⟨ι, env, st, R, EV, p⟩ := q
  intro a ha
  have R1 := R.hide (u := .dK []) ha trivial (hf_dK R.hf (Nat.zero_le _))
  refine prs_red prs R1 ((mv_hide R ha).ev EV) (noX_post (Out.post_mono (Out.post_bind p) (fun ps s1 q ι1 H1 xs R2 E2 rp => ?_) fun _ _ z => z))
  split at q
  · rename_i kvs hk
    split at q
    · rename_i hc
      obtain ⟨us, e1, h2, h3⟩ := keysOf_at hk rp
      have lu : us.length ≤ 15 := by rw [h2.len]; exact hc.1
      have hA : H1 a = some (.dK []) := by rw [E2.keepZ a List.mem_cons_self, upd_same]
      refine ⟨hA, us, e1, lu, fun hf => ?_⟩
      obtain ⟨ι2, eι, eh, R3, E3⟩ := ext_show R ha R2 E2
      have m : Mv ι1 s1 H1 ι2 s1 (del H1 a) := by rw [eι]; rw [eι] at R2; exact mv_show R2
      rw [← upd_del2] at hf ⊢
      have E4 : Ext ι2 s1 (del H1 a) (ι2.psh a) (s1 ++ [.dct false (putAll [] kvs)]) (upd (del H1 a) a (.dK (mergeK [] us))) := Ext.push R3 del_same
      refine q (ι2.psh a) _ _ (R3.push del_same hf ⟨_, upd_same, RK.ext E4 (rk_putAll (m.rk h2) h3 .nil)⟩ (putAll_low hc.2 rfl)) (E3.trans E4) ⟨a, psh_at R3, rfl⟩
    · exact q.elim
  · exact q.elim
end
section
variable {X : Cx} {W : XW} {pos : Pos}
theorem ps_nil0 : PPs X pos [] [] (([] : List (ME × ME)).map fun p => (TEo X.K W p.1, TEo X.K W p.2)) := pps_nil
theorem ps_cons0 {k v : Expr} {ks : List (Option Expr)} {vs : List Expr} {a b : ME} {prs : List (ME × ME)} (hk : PE X k (TEo X.K W a)) (hv : PE X v (TEo X.K W b)) (hr : PPs X pos ks vs (prs.map fun p => (TEo X.K W p.1, TEo X.K W p.2))) :
    PPs X pos (some k :: ks) (v :: vs) (((a, b) :: prs).map fun p => (TEo X.K W p.1, TEo X.K W p.2)) := pps_cons hk hv hr
theorem x_disp {keys : List (Option Expr)} {values : List Expr} {prs : List (ME × ME)} (h : PPs X pos keys values (prs.map fun p => (TEo X.K W p.1, TEo X.K W p.2))) (hall : keys.all (·.isSome) = true := by rfl) (hl : keys.length = values.length := by rfl) (h0 : keys ≠ [] := by exact fun z => nomatch z)
    (h15 : keys.length ≤ 15 := by decide) : PE X (.Dict keys values pos) (TEo X.K W (mDisp prs)) := pe_wrap (pe_disp h hall hl h0 h15) fun _ _ _ q => disp_red q
theorem x_dnew (t : Bool) : PE X (.Dict [] [] pos) (TEo X.K W (mDnew t)) := by
  cases t with
  | false =>
    exact pe_wrap pe_dnewK fun σ H Q q => by
      obtain ⟨ι, env, st, R, EV, p⟩ := q
      intro a ha hf
      exact p _ _ _ (R.push ha hf ⟨_, upd_same, .nil⟩ rfl) (Ext.push R ha) ⟨a, psh_at R, rfl⟩
  | true =>
    exact pe_wrap pe_dnewT fun σ H Q q => by
      obtain ⟨ι, env, st, R, EV, p⟩ := q
      intro a ha hf
      exact p _ _ _ (R.push ha hf ⟨_, upd_same, .nil⟩ rfl) (Ext.push R ha) ⟨a, psh_at R, rfl⟩
end
end Fw
namespace Fw
open PySem PySem.Spec PyProof.Rows L2
theorem bt_len : bootBuiltins "len" = some (.builtin "len") := by decide +kernel
theorem bt_abs : bootBuiltins "abs" = some (.builtin "abs") := by decide +kernel
theorem bt_min : bootBuiltins "min" = some (.builtin "min") := by decide +kernel
theorem bt_max : bootBuiltins "max" = some (.builtin "max") := by decide +kernel
theorem bt_repr : bootBuiltins "repr" = some (.builtin "repr") := by decide +kernel
theorem bt_sorted : bootBuiltins "sorted" = some (.builtin "sorted") := by decide +kernel
theorem bt_int : bootBuiltins "int" = some (.type "int") := by decide +kernel
theorem bt_tuple : bootBuiltins "tuple" = some (.type "tuple") := by decide +kernel
theorem bt_list : bootBuiltins "list" = some (.type "list") := by decide +kernel
structure Cal (P : Program) (w : World) (K : PySem.W.Frag) (mg : Str → Option Value) (base : Heap) (k : Nat) (x : Str) (n : Nat) (xs : List D) (ff : FF) : Prop where
  ex : ∃ (f : Addr) (fd : FuncData) (ps : List Str) (dvs : List L2.V) (ds : List Value), FnG P w K mg base CX0 k f fd ps (spG K V0 n ff) ∧ mg x = some (.ref f) ∧ PySem.W.keepIn K (.ref f) = true ∧ Binds K fd ps ds ∧ Vals dvs ds ∧ ∀ ι st H, RDs K ι st H dvs xs
section
variable {P : Program} {w : World} {K : PySem.W.Frag} {mg : Str → Option Value} {base : Heap} {k : Nat} {x qual : Str} {n nN : Nat} {xs : List D} {ff : FF}
theorem Cal.mono {j : Nat} (c : Cal P w K mg base k x n xs ff) (h : k ≤ j) : Cal P w K mg base j x n xs ff := by
  obtain ⟨f, fd, ps, dvs, ds, F, r⟩ := c.ex
  exact ⟨f, fd, ps, dvs, ds, F.mono h, r⟩
theorem Cal.mk0 {f : Addr} {fd : FuncData} {params : Arguments} {body : List Stmt} {scope : Scope} {ps : List Str} (F : FunD K x qual params body scope [] [] f fd) (m : mg x = some (.ref f)) (G : FnG P w K mg base CX0 k f fd ps (spG K V0 n ff))
    (h : ∀ (kV doc pm : Value) (an : Option Addr) (cdv ct : Value) (us : List Value), us.length = ps.length → bindArgs (PySem.W.fnOf x qual params body scope .none kV doc pm an cdv ct) ⟨us, []⟩ = pure (ps.zip us)) : Cal P w K mg base k x n [] ff :=
  ⟨f, fd, ps, [], [], G, m, F.kp, F.bindsN h, .nil, fun _ _ _ => .nil⟩
end
section
variable {X : Cx} {k n j : Nat} {x : Str} {xs : List D} {ff : FF} {p pos : Pos} {e : Expr} {es : List Expr} {ma : MA}
theorem x_cal (c : Cal X.prog X.w X.K X.mg X.base k x n xs ff) (hr : RmG j X.A) (hk : k ≤ j) (hg : Gl X x) (ha : PA X (e :: es) (TAo X.K WF ma)) {i : Nat} (hn : MLen ma i) (hj : i + xs.length = n)
    (hdb : (x == ("__debug__" : Str)) = false := by decide) (he : starEach (e :: es) X.env = (false, eval e X.env) :: starEach es X.env := by rfl) (hpl : (backTo pos (starEach es X.env)).any (·.1) = false := by rfl) :
    PE X (.Call (.Name x p) (e :: es) [] pos) (TEo X.K WF (mCall ff ma xs)) := by
  obtain ⟨f, fd, ps, dvs, ds, F, hm, kp, hb, hd, hxs⟩ := c.ex
  exact x_call (V := V0) (E := E0) F (hr.mono hk) hg hm kp hb hd pass0 hxs ha hn hj hdb he hpl
theorem g_tp {ts : List Expr} {kk m : Nat} {tpos : Pos} {gs : MGs} {W : XW} {vs : Option (List Nat)} (gd : Gd X) (h : PGs X ts (TGso X.K W gs vs)) (hn : (assignEach ts X.env).length = m := by rfl) (hst : (assignEach ts X.env).findIdx? (·.1) = none := by rfl) :
    PG X (.Tuple ts kk tpos) (TGo X.K W (gTp m gs) vs) := g_tup gd.calm h (pg_tup gd.calm h hn hst)
theorem gn (i : Nat) {vs : Option (List Nat)} {W : XW} {y : Str} (hN : X.N.Nodup) (hi : X.N[i]? = some y := by rfl) (hx : Loc X.env.scope y := by first | exact .inl rfl | exact .inr rfl) (hf : X.fn y = true ∨ X.env.scope.names.lookup y = some .local := by first | exact .inl rfl | exact .inr rfl)
    (hv : ∀ ws, vs = some ws → i ∈ ws := by (intro ws z; cases z <;> decide)) : PG X (.Name y pos) (TGo X.K W (gNm i) vs) := g_name i (pg_name (i := i) hN hi hx hf) hv
theorem xv (i : Nat) {W : XW} {y : Str} (hN : X.N[i]? = some y := by rfl) (hv : Vis X.env.scope y := by first | exact Or.inl rfl | exact Or.inr (Or.inl rfl) | exact Or.inr (Or.inr rfl)) (hd : (y == ("__debug__" : Str)) = false := by decide)
    (hcd : (y == ("__classdict__" : Str)) = false := by decide) : PE X (.Name y pos) (TEo X.K W (mVar i)) := x_var i (pe_var hN hv hd hcd)
theorem s_p2 {i j : Nat} {W : XW} {y z : Str} {a b : Expr} {px py pt : Pos} {kt k2 : Nat} {pt2 : Pos} (gd : Gd X) (hN : X.N.Nodup) (ha : PA X [a, b] (TAo X.K W ma)) (hi : X.N[i]? = some y := by rfl) (hj : X.N[j]? = some z := by rfl) (hij : i ≠ j := by decide)
    (hy : X.env.scope.names.lookup y = some .local := by rfl) (hz : X.env.scope.names.lookup z = some .local := by rfl) (hw : swappedStores [.Tuple [.Name y px, .Name z py] kt pt] (.Tuple [a, b] k2 pt2) X.env = pure (some [y, z]) := by rfl)
    (hs : swapsWithSole [.Tuple [.Name y px, .Name z py] kt pt] (.Tuple [a, b] k2 pt2) pos.line X.env = pure false := by rfl) :
    PS X (.Assign [.Tuple [.Name y px, .Name z py] kt pt] (.Tuple [a, b] k2 pt2) pos) (TSo X.K W (sPar2 i j ma)) := s_par2 ha (ps_par gd.calm hN hi hj hij hy hz ha hw hs)
theorem s_p3 {i j l : Nat} {W : XW} {y z u : Str} {a b c : Expr} {px py pz pt : Pos} {kt k2 : Nat} {pt2 : Pos} (gd : Gd X) (hN : X.N.Nodup) (ha : PA X [a, b, c] (TAo X.K W ma)) (hi : X.N[i]? = some y := by rfl) (hj : X.N[j]? = some z := by rfl) (hl : X.N[l]? = some u := by rfl) (hij : i ≠ j := by decide) (hil : i ≠ l := by decide) (hjl : j ≠ l := by decide)
    (hy : X.env.scope.names.lookup y = some .local := by rfl) (hz : X.env.scope.names.lookup z = some .local := by rfl) (hu : X.env.scope.names.lookup u = some .local := by rfl) (hw : swappedStores [.Tuple [.Name y px, .Name z py, .Name u pz] kt pt] (.Tuple [a, b, c] k2 pt2) X.env = pure (some [y, z, u]) := by rfl)
    (hs : swapsWithSole [.Tuple [.Name y px, .Name z py, .Name u pz] kt pt] (.Tuple [a, b, c] k2 pt2) pos.line X.env = pure false := by rfl) :
    PS X (.Assign [.Tuple [.Name y px, .Name z py, .Name u pz] kt pt] (.Tuple [a, b, c] k2 pt2) pos) (TSo X.K W (sPar3 i j l ma)) := s_par3 ha (ps_par3 gd.calm hN hi hj hl hij hil hjl hy hz hu ha hw hs)
theorem s_pT {W : XW} {m kk k2 : Nat} {p1 p2 : Pos} {ts es : List Expr} {gs : MGs} (gd : Gd X) (ha : PA X es (TAo X.K W ma)) (h : PGs X ts (TGso X.K W gs none)) (hn : (assignEach ts X.env).length = m := by rfl) (hst : (assignEach ts X.env).findIdx? (·.1) = none := by rfl)
    (hs : swapsWithSole [.Tuple ts kk p1] (.Tuple es k2 p2) pos.line X.env = pure false := by rfl) (hw : swappedStores [.Tuple ts kk p1] (.Tuple es k2 p2) X.env = pure none := by rfl) : PS X (.Assign [.Tuple ts kk p1] (.Tuple es k2 p2) pos) (TSo X.K W (sAsgT m ma gs)) :=
  s_asgT ha (pg_tup gd.calm h hn hst) hs hw
end
def rgD (a b : Int) : List PyData := (List.range (b - a).toNat).map fun i => .int (a + (i : Nat))
def rgOk (a b : Int) : Bool := decide (-1000000 ≤ a ∧ a ≤ 1000000 ∧ -1000000 ≤ b ∧ b ≤ 1000000)
theorem rgOk_ok {a b : Int} (h : rgOk a b = true) : RgOk a b := by
  have h := of_decide_eq_true h
  exact ⟨by omega, by omega, by omega, by omega, by omega⟩
theorem rpA_rg {F : Addr → Prop} {H : Hp} (a b : Int) : RpA F H (rgV a b) (rgD a b) := by
  unfold rgV rgD
  have key : ∀ l : List Nat, RpA F H (l.map fun i => V.int (a + (i : Nat))) (l.map fun i => PyData.int (a + (i : Nat))) := fun l => by
    induction l with
    | nil => exact .nil
    | cons i r ih => exact .cons (.int _) ih
  exact key _
def mRg1 (m : ME) : Ev → Sto → Out (List PyData) := fun env st => (m env st).bind fun d s1 => match iOf d with
  | some n => if rgOk 0 n then .ok (rgD 0 n) s1 else .stuck
  | none => .stuck
section
variable {X : Cx} {W : XW} {a b : Expr} {m ma mb : ME} {p q pos pos2 : Pos}
theorem xf_listRg1 (gd : Gd X) (hg : Gl X "list") (hm : X.mg "list" = none) (hg2 : Gl X "range") (hm2 : X.mg "range" = none) (ha : PE X a (TEo X.K W m)) (na : starEach [a] X.env = (false, eval a X.env) :: starEach [] X.env := by rfl)
    (na2 : starEach [Expr.Call (.Name "range" q) [a] [] pos2] X.env = (false, eval (.Call (.Name "range" q) [a] [] pos2) X.env) :: starEach [] X.env := by rfl) :
    PE X (.Call (.Name "list" p) [.Call (.Name "range" q) [a] [] pos2] [] pos) (TFo X.K W (mRg1 m)) :=
  pf_wrap (pe_listRg gd.calm hg hm (prg_1 hg2 hm2 ha na) na2) fun σ H Q q => by
    obtain ⟨ι, env, st, R, EV, p⟩ := q
    refine ⟨ι, env, st, R, EV, Out.post_mono (Out.post_bind p) (fun d s1 q ι1 H1 x R1 E1 ra => ?_) fun _ _ q => q⟩
    split at q
    · rename_i n e1
      split at q
      · rename_i h
        exact ⟨n, iOf_at e1 ra, rgOk_ok h, (q.ext E1).new R1 (rpA_rg 0 n)⟩
      · exact q.elim
    · exact q.elim
end
theorem s_subP {X : Cx} {W : XW} {e o i : Expr} {m mo mi : ME} {pos pos' : Pos} (gd : Gd X) (he : PE X e (TEo X.K W m)) (ho : PE X o (TEo X.K W mo)) (hi : PE X i (TEo X.K W mi))
    (ha : ∀ v, assign (.Subscript o i pos') X.env v = (do
      let ov ← holding [v] (eval o X.env)
      let iv ← holding [v, ov] (eval i X.env)
      standAt pos'
      holding [v, ov, iv] (setItem ov iv v)
      release [v, ov, iv] []) := by intro _; rfl)
    (hs1 : swapsWithSole [.Subscript o i pos'] e pos.line X.env = pure false := by rfl) (hw : swappedStores [.Subscript o i pos'] e X.env = pure none := by rfl) (hs : swapsWith e (some (.Subscript o i pos')) pos.line X.env = pure false := by rfl) :
    PS X (.Assign [.Subscript o i pos'] e pos) (TSo X.K W (sSub m mo mi)) := s_sub gd he ho hi (pg_sub ho hi set_list ha) hs1 hw hs
theorem own_pass {CX : CXT} {P : Program} {w : World} {K : PySem.W.Frag} {mg : Str → Option Value} {base : Heap} {N : List Str} {qual : Str} {scope : Scope} {f : Addr} {cd : Value} {A : Around} {outer : List Env} {s : Shared} {H : Hp} {E : XK} :
    PassesOwn (model P w) (cxOf CX P w K mg base N qual scope f cd A outer s H E).A (cxOf CX P w K mg base N qual scope f cd A outer s H E).env (cxOf CX P w K mg base N qual scope f cd A outer s H E).xe :=
  passes_of (X := cxOf CX P w K mg base N qual scope f cd A outer s H E) (K := fun e s'' => CX outer H s E e s'') (E₁ := fun e' s'' => CX outer H s E e' s'') rfl
end Fw
namespace Fw
open PySem PySem.Spec PyProof.Rows L2
theorem bt_dict : bootBuiltins "dict" = some (.type "dict") := by decide +kernel
end Fw
namespace Fw
open PySem PySem.Spec PyProof.Rows L2
def lexLe : List Int → List Int → Bool
  | [], _ => true
  | _ :: _, [] => false
  | a :: r, b :: q => if a < b then true else if a = b then lexLe r q else false
def insR (a : List Int) : List (List Int) → List (List Int)
  | [] => [a]
  | b :: r => if lexLe a b then a :: b :: r else b :: insR a r
theorem RpA.perm {F : Addr → Prop} {H : Hp} {ys xs : List L2.V} (p : ys.Perm xs) : ∀ {zs : List PyData}, RpA F H xs zs → ∃ zs', RpA F H ys zs' ∧ zs'.Perm zs := by
  induction p with
  | nil => intro zs r; exact ⟨zs, r, .refl _⟩
  | cons x _ ih =>
    intro zs r
    cases r with
    | cons h t =>
      obtain ⟨qs, r2, p2⟩ := ih t
      exact ⟨_ :: qs, .cons h r2, p2.cons _⟩
  | swap x y l =>
    intro zs r
    cases r with
    | cons h t =>
      cases t with
      | cons h2 t2 => exact ⟨_, .cons h2 (.cons h t2), .swap _ _ _⟩
  | trans _ _ h1 h2 =>
    intro zs r
    obtain ⟨q1, r1, p1⟩ := h2 r
    obtain ⟨q2, r2, p2⟩ := h1 r1
    exact ⟨q2, r2, p2.trans p1⟩
theorem perm_unmap {α β : Type} {f : α → β} {ys zs : List β} (p : ys.Perm zs) : ∀ {l : List α}, zs = l.map f → ∃ l' : List α, ys = l'.map f ∧ l'.Perm l := by
  induction p with
  | nil =>
    intro l e
    refine ⟨[], rfl, ?_⟩
    rw [List.map_eq_nil_iff.mp e.symm]
  | cons x _ ih =>
    intro l e
    obtain ⟨a, r, rfl, e1, e2⟩ := List.map_eq_cons_iff.mp e.symm
    obtain ⟨l', h1, h2⟩ := ih e2.symm
    exact ⟨a :: l', by rw [List.map_cons, ← h1, e1], h2.cons a⟩
  | swap x y t =>
    intro l e
    obtain ⟨a, r, rfl, e1, e2⟩ := List.map_eq_cons_iff.mp e.symm
    obtain ⟨b, u, rfl, e3, e4⟩ := List.map_eq_cons_iff.mp e2
    exact ⟨b :: a :: u, by rw [List.map_cons, List.map_cons, e1, e3, e4], .swap a b u⟩
  | trans _ _ h1 h2 =>
    intro l e
    obtain ⟨l1, e1, p1⟩ := h2 e
    obtain ⟨l2, e2, p2⟩ := h1 e1
    exact ⟨l2, e2, p2.trans p1⟩
end Fw
namespace Fw
open PySem PySem.Spec PyProof.Rows L2
mutual
/-- no list within, dicts with keys of whole numbers and texts alone -/
def noL : PyData → Bool
  | .none | .bool _ | .int _ | .str _ => true
  | .list _ => false
  | .tuple xs => noLA xs
  | .dict kvs => noLK kvs
def noLA : List PyData → Bool
  | [] => true
  | x :: r => noL x && noLA r
def noLK : List (PyData × PyData) → Bool
  | [] => true
  | (k, v) :: r => (key1 k).isSome && noL v && noLK r
end
section
variable {X : Cx} {pins : List (Addr × Obj)} {σ : L2.St} {H : Hp} {s : Shared} {F : Addr → Prop}
theorem key_reads {h : Heap} {k : Key} {v : Value} (e : keyIs k v = true) : Reads h v (kD k) [] := by
  rcases keyIs_shape e with ⟨i, t, rfl, rfl⟩ | ⟨x, t, rfl, rfl⟩
  · exact .int i t
  · exact .str x t
mutual
theorem rp_reads (I : Inv X pins σ H s) : ∀ (d : PyData) (v : L2.V) (u : Value), Rp F H v d → noL d = true → RelV v u → ∃ as, Reads s.heap u d as ∧ sysModules ∉ as
  | .none, _, _, h, _, r => by
    cases h
    cases r
    exact ⟨_, .none, by simp⟩
  | .bool b, _, _, h, _, r => by
    cases h
    cases r
    exact ⟨_, .bool b, by simp⟩
  | .int i, _, _, h, _, r => by
    cases h
    obtain ⟨t, rfl⟩ := r
    exact ⟨_, .int i t, by simp⟩
  | .str x, _, _, h, _, r => by
    cases h
    obtain ⟨t, rfl⟩ := r
    exact ⟨_, .str x t, by simp⟩
  | .list _, _, _, _, n, _ => by
    rw [noL] at n
    cases n
  | .tuple ds, _, _, h, n, r => by
    cases h with
    | tup e z f t =>
      cases r
      rw [noL] at n
      obtain ⟨its, rv, ⟨o, ho, hc, k, hd⟩, _⟩ := I.tuple (KTup.sq ⟨_, e, z⟩)
      obtain ⟨as, hr, hn⟩ := rp_readsA I ds _ its t n rv
      exact ⟨as, .tuple ho hc hd hr, hn⟩
  | .dict kvs, _, _, h, n, r => by
    rw [noL] at n
    cases h with
    | dcK e f t =>
      cases r
      obtain ⟨_, hne, vs, kv, o, es, ep, ho, ⟨hc, _, _⟩, hd, _, hp, _⟩ := dk_rd I.hok e
      obtain ⟨as, bs, h1, h2, n1, n2⟩ := rp_readsK I kvs _ vs es.toList t n kv hp
      refine ⟨_, .dict ho hc hd h1 h2, ?_⟩
      simp only [List.mem_cons, List.mem_append, not_or]
      exact ⟨⟨fun z => by rw [z] at hne; simp at hne, n1⟩, n2⟩
    | dcT e f t z =>
      cases t with
      | nil => exact absurd rfl z
      | cons _ _ => rw [noLK] at n; simp [key1] at n
theorem rp_readsA (I : Inv X pins σ H s) : ∀ (ds : List PyData) (vs : List L2.V) (us : List Value), RpA F H vs ds → noLA ds = true → Vals vs us → ∃ as, ReadsAll s.heap us ds as ∧ sysModules ∉ as
  | [], _, _, h, _, r => by
    cases h
    cases r
    exact ⟨_, .nil, by simp⟩
  | d :: ds, _, _, h, n, r => by
    rw [noLA, Bool.and_eq_true] at n
    cases h with
    | cons h1 h2 =>
      cases r with
      | cons r1 r2 =>
        obtain ⟨as, q1, n1⟩ := rp_reads I d _ _ h1 n.1 r1
        obtain ⟨bs, q2, n2⟩ := rp_readsA I ds _ _ h2 n.2 r2
        exact ⟨_, .cons q1 q2, by simp only [List.mem_append, not_or]; exact ⟨n1, n2⟩⟩
theorem rp_readsK (I : Inv X pins σ H s) : ∀ (kvs : List (PyData × PyData)) (xs : List (Key × L2.V)) (vs : List (Key × Value)) (es : List DictEntry), RpK F H xs kvs → noLK kvs = true → KV xs vs → Pairs (mixKind X.prog X.w) es vs →
    ∃ as bs, ReadsAll s.heap (es.map (·.key)) (kvs.map (·.1)) as ∧ ReadsAll s.heap (es.map (·.val)) (kvs.map (·.2)) bs ∧ sysModules ∉ as ∧ sysModules ∉ bs
  | [], xs, vs, es, h, _, k, q => by
    cases h
    cases k
    cases q
    exact ⟨_, _, .nil, .nil, by simp, by simp⟩
  | (kk, d) :: kvs, xs, vs, es, h, n, k, q => by
    rw [noLK, Bool.and_eq_true, Bool.and_eq_true] at n
    cases h with
    | cons h1 h2 =>
      cases k with
      | cons k1 k2 =>
        cases q with
        | cons q1 q2 q3 =>
          obtain ⟨e1, e2⟩ := k1
          obtain ⟨as, r1, n1⟩ := rp_reads I d _ _ h1 n.1.2 e2
          obtain ⟨bs, cs, r2, r3, n2, n3⟩ := rp_readsK I kvs _ _ _ h2 n.2 k2 q3
          refine ⟨[] ++ bs, as ++ cs, .cons ?_ r2, .cons ?_ r3, by simpa using n2, by simp only [List.mem_append, not_or]; exact ⟨n1, n3⟩⟩
          · have e1 : _ = _ := e1
            rw [show kD _ = kD _ from congrArg kD e1]
            exact key_reads q1
          · show Reads s.heap (DictEntry.val _) d as
            rw [q2]
            exact r1
end
end
def rReprK (F : Addr → Prop) : List L2.V → Hp → VK → Prop := fun xs H Q => ∃ x z, xs = [x] ∧ Rp F H x z ∧ noL z = true ∧ z.showable = true ∧ z.depth ≤ 60 ∧ z.shown.length ≤ sizeLine ∧ Q (.str z.shown) H
theorem call_reprK {X : Cx} (g : Gd X) : CallR X (.builtin "repr") (fun xs H Q => ∃ F, rReprK F xs H Q) := by
  rintro pins s σ H xs us Q I r ⟨F, x, z, rfl, hd, hl, h1, h3, h4, q⟩
  obtain ⟨u, rfl, ru⟩ := vals1 r
  obtain ⟨as, rd, hn⟩ := rp_reads I z x u hd hl ru
  cases rd with
  | none => exact PySem.P.repr_of_none ⟨.str _, H, I.tok _, ⟨_, rfl⟩, by simpa only [PyData.shown] using q⟩
  | bool b => exact PySem.P.repr_of_bool ⟨.str _, H, I.tok _, ⟨_, rfl⟩, by simpa only [PyData.shown] using q⟩
  | int i t => exact PySem.P.repr_of_int (by simpa [PyData.showable] using h1) ⟨.str _, H, I.tok _, ⟨_, rfl⟩, by simpa only [PyData.shown] using q⟩
  | str y t => exact PySem.P.repr_of_str ⟨.str _, H, I.tok _, ⟨_, rfl⟩, by simpa only [PyData.shown] using q⟩ (by simpa only [PyData.shown] using h4)
  | list e1 e2 e3 e4 => exact repr_of_reads' (Reads.list e1 e2 e3 e4) h1 (fun _ => hn) g.gu (by have := g.un; omega) (fun _ _ e => e) (fun h' u tk hk => ⟨.str _, H, I.kept hk, ⟨_, rfl⟩, q⟩) h4
  | tuple e1 e2 e3 e4 => exact repr_of_reads' (Reads.tuple e1 e2 e3 e4) h1 (fun _ => hn) g.gu (by have := g.un; omega) (fun _ _ e => e) (fun h' u tk hk => ⟨.str _, H, I.kept hk, ⟨_, rfl⟩, q⟩) h4
  | dict e1 e2 e3 e4 e5 => exact repr_of_reads' (Reads.dict e1 e2 e3 e4 e5) h1 (fun _ => hn) g.gu (by have := g.un; omega) (fun _ _ e => e) (fun h' u tk hk => ⟨.str _, H, I.kept hk, ⟨_, rfl⟩, q⟩) h4
def fReprK : FA := fun ds st => match ds with
  | [.v z] => if noL z && z.showable && decide (z.depth ≤ 60) && decide (z.shown.length ≤ lim) then .ok (.v (.str z.shown)) st else fRepr ds st
  | ds => fRepr ds st
theorem opA_reprK {K : PySem.W.Frag} {W : XW} : OpA K W (fun xs H Q => rRepr K xs H Q ∨ ∃ F, rReprK F xs H Q) fReprK := by
  intro ι st H xs ds Q R r p
  unfold fReprK at p
  split at p
  · rename_i z
    split at p
    · rename_i h
      simp only [Bool.and_eq_true, decide_eq_true_eq] at h
      obtain ⟨x, rfl, r1⟩ := r.one
      exact .inr ⟨Frz ι st, x, z, rfl, r1, h.1.1.1, h.1.1.2, h.1.2, lim_ok h.2, fun _ => p.same R (.str _)⟩
    · exact .inl (opA_repr (W := W) ι st H xs _ Q R r p)
  · exact .inl (opA_repr (W := W) ι st H xs _ Q R r p)
end Fw
namespace Fw
open PySem PySem.Spec PyProof.Rows L2
def Out.Ok {α : Type} (x : Out α) (P : α → Sto → Prop) : Prop := match x with
  | .ok a s => P a s
  | _ => False
theorem Out.Ok.eq {α : Type} {x : Out α} {P : α → Sto → Prop} (h : x.Ok P) : ∃ a s, x = .ok a s ∧ P a s := by
  cases x with
  | ok a s => exact ⟨a, s, rfl, h⟩
  | _ => exact h.elim
theorem Out.Ok.mono {α : Type} {x : Out α} {P Q : α → Sto → Prop} (h : x.Ok P) (i : ∀ a s, P a s → Q a s) : x.Ok Q := by
  cases x with
  | ok a s => exact i a s h
  | _ => exact h
section
variable {α β : Type} {st : Sto} {env : Ev}
@[simp] theorem bOf_bool {b : Bool} : bOf (.v (.bool b)) = some b := rfl
@[simp] theorem low_v {n : Nat} {d : PyData} : (D.v d).low n = true := rfl
@[simp] theorem ok_ok {a : α} {P : α → Sto → Prop} : (Out.ok a st).Ok P ↔ P a st := Iff.rfl
@[simp] theorem ok_stuck {P : α → Sto → Prop} : (Out.stuck : Out α).Ok P ↔ False := Iff.rfl
theorem ok_bind {x : Out α} {f : α → Sto → Out β} {P : β → Sto → Prop} : (x.bind f).Ok P ↔ x.Ok fun a s => (f a s).Ok P := by cases x <;> exact Iff.rfl
@[simp] theorem ok_noX {x : Out α} {P : α → Sto → Prop} : x.noX.Ok P ↔ x.Ok P := by cases x <;> exact Iff.rfl
@[simp] theorem ok_var {i : Nat} {P : D → Sto → Prop} : (mVar i env st).Ok P ↔ ∃ d, env[i]? = some (some d) ∧ P d st := by
  unfold mVar
  constructor
  · intro h
    split at h
    · rename_i d e
      exact ⟨d, e, h⟩
    · exact h.elim
  · rintro ⟨d, e, h⟩
    rw [e]
    exact h
@[simp] theorem ok_C {d : PyData} {P : D → Sto → Prop} : (mC d env st).Ok P ↔ P (.v d) st := Iff.rfl
@[simp] theorem ok_un {f : F1} {a : ME} {P : D → Sto → Prop} : (mUn f a env st).Ok P ↔ (a env st).Ok fun x s => (f x s).Ok P := ok_bind
@[simp] theorem ok_bin {f : F2} {a b : ME} {P : D → Sto → Prop} : (mBin f a b env st).Ok P ↔ (a env st).Ok fun x s => (b env s).Ok fun y s2 => (f x y s2).Ok P := by
  unfold mBin
  simp only [ok_bind]
@[simp] theorem ok_arg {f : FA} {m : MA} {P : D → Sto → Prop} : (mArg f m env st).Ok P ↔ (m env st).Ok fun ds s => (f ds s).Ok P := ok_bind
@[simp] theorem ok_nil {P : List D → Sto → Prop} : (mNil env st).Ok P ↔ P [] st := Iff.rfl
@[simp] theorem ok_cons {a : ME} {m : MA} {P : List D → Sto → Prop} : (mCons a m env st).Ok P ↔ (a env st).Ok fun x s => (m env s).Ok fun ds s2 => P (x :: ds) s2 := by
  unfold mCons
  simp only [ok_bind, ok_ok]
@[simp] theorem ok_call {f : FF} {m : MA} {xs : List D} {P : D → Sto → Prop} : (mCall f m xs env st).Ok P ↔ (m env st).Ok fun ds s => (f (ds ++ xs) s).Ok P := ok_bind
@[simp] theorem ok_TB {m : ME} {P : Bool → Sto → Prop} : (mTB m env st).Ok P ↔ (m env st).Ok fun d s => ∃ k, bOf d = some k ∧ P k s := by
  unfold mTB
  rw [ok_bind]
  constructor
  · intro h
    refine h.mono fun d s q => ?_
    split at q
    · rename_i k e
      exact ⟨k, e, q⟩
    · exact q.elim
  · intro h
    refine h.mono fun d s ⟨k, e, q⟩ => ?_
    rw [e]
    exact q
@[simp] theorem ok_Tru {m : ME} {P : Bool → Sto → Prop} : (mTru' m env st).Ok P ↔ (m env st).Ok fun d s => ∃ k, truS' s d = some k ∧ P k s := by
  unfold mTru'
  rw [ok_bind]
  constructor
  · intro h
    refine h.mono fun d s q => ?_
    split at q
    · rename_i k e
      exact ⟨k, e, q⟩
    · exact q.elim
  · intro h
    refine h.mono fun d s ⟨k, e, q⟩ => ?_
    rw [e]
    exact q
@[simp] theorem ok_notT {t : MT} {P : Bool → Sto → Prop} : (mNotT t env st).Ok P ↔ (t env st).Ok fun k s => P (!k) s := by
  unfold mNotT
  simp only [ok_bind, ok_ok]
theorem ok_ite {c : Bool} {x y : Out α} {P : α → Sto → Prop} : (if c = true then x else y).Ok P ↔ (c = true → x.Ok P) ∧ (c = false → y.Ok P) := by
  cases c <;> simp
@[simp] theorem ok_andT {t u : MT} {P : Bool → Sto → Prop} : (mAndT t u env st).Ok P ↔ (t env st).Ok fun k s => (k = true → (u env s).Ok P) ∧ (k = false → P false s) := by
  unfold mAndT
  simp only [ok_bind, ok_ite, ok_ok]
@[simp] theorem ok_orT {t u : MT} {P : Bool → Sto → Prop} : (mOrT t u env st).Ok P ↔ (t env st).Ok fun k s => (k = true → P true s) ∧ (k = false → (u env s).Ok P) := by
  unfold mOrT
  simp only [ok_bind, ok_ite, ok_ok]
@[simp] theorem ok_andV {a b : ME} {P : D → Sto → Prop} : (mAndV a b env st).Ok P ↔ (a env st).Ok fun d s => ∃ k, truS' s d = some k ∧ (k = true → (b env s).Ok P) ∧ (k = false → P d s) := by
  unfold mAndV
  rw [ok_bind]
  constructor
  · intro h
    refine h.mono fun d s q => ?_
    cases e : truS' s d with
    | none => rw [e] at q; exact q.elim
    | some k =>
      rw [e] at q
      cases k with
      | true => exact ⟨true, rfl, fun _ => q, fun z => nomatch z⟩
      | false => exact ⟨false, rfl, (fun z => nomatch z), fun _ => q⟩
  · intro h
    refine h.mono fun d s ⟨k, e, q1, q2⟩ => ?_
    rw [e]
    cases k with
    | true => exact q1 rfl
    | false => exact q2 rfl
@[simp] theorem ok_orV {a b : ME} {P : D → Sto → Prop} : (mOrV a b env st).Ok P ↔ (a env st).Ok fun d s => ∃ k, truS' s d = some k ∧ (k = true → P d s) ∧ (k = false → (b env s).Ok P) := by
  unfold mOrV
  rw [ok_bind]
  constructor
  · intro h
    refine h.mono fun d s q => ?_
    cases e : truS' s d with
    | none => rw [e] at q; exact q.elim
    | some k =>
      rw [e] at q
      cases k with
      | true => exact ⟨true, rfl, fun _ => q, fun z => nomatch z⟩
      | false => exact ⟨false, rfl, (fun z => nomatch z), fun _ => q⟩
  · intro h
    refine h.mono fun d s ⟨k, e, q1, q2⟩ => ?_
    rw [e]
    cases k with
    | true => exact q1 rfl
    | false => exact q2 rfl
@[simp] theorem ok_notV {a : ME} {P : D → Sto → Prop} : (mNotV a env st).Ok P ↔ (a env st).Ok fun d s => ∃ k, truS' s d = some k ∧ P (.v (.bool (!k))) s := by
  unfold mNotV
  rw [ok_bind]
  constructor
  · intro h
    refine h.mono fun d s q => ?_
    split at q
    · rename_i k e
      exact ⟨k, e, q⟩
    · exact q.elim
  · intro h
    refine h.mono fun d s ⟨k, e, q⟩ => ?_
    rw [e]
    exact q
@[simp] theorem ok_iteE {t : MT} {a b : ME} {P : D → Sto → Prop} : (mIte t a b env st).Ok P ↔ (t env st).Ok fun k s => (k = true → (a env s).Ok P) ∧ (k = false → (b env s).Ok P) := by
  unfold mIte
  simp only [ok_bind, ok_ite]
@[simp] theorem ok_frz {m : MF} {P : D → Sto → Prop} : (mFrz m env st).Ok P ↔ (m env st).Ok fun zs s => P (.v (.list zs)) s := by
  unfold mFrz
  simp only [ok_bind, ok_ok]
@[simp] theorem ok_new {m : MF} {P : D → Sto → Prop} : (mNew m env st).Ok P ↔ (m env st).Ok fun zs s => P (.ref s.length) (s ++ [.lst zs]) := by
  unfold mNew
  simp only [ok_bind, ok_ok]
@[simp] theorem ok_mfArg {f : GA} {m : MA} {P : List PyData → Sto → Prop} : (mfArg f m env st).Ok P ↔ (m env st).Ok fun ds s => (f ds s).Ok P := ok_bind
@[simp] theorem ok_mfBin {f : D → D → Sto → Out (List PyData)} {a b : ME} {P : List PyData → Sto → Prop} : (mfBin f a b env st).Ok P ↔ (a env st).Ok fun x s => (b env s).Ok fun y s2 => (f x y s2).Ok P := by
  unfold mfBin
  simp only [ok_bind]
@[simp] theorem ok_lc {mi : MI} {g : MG} {t : MT} {m : ME} {own : List Nat} {P : List PyData → Sto → Prop} : (mLc mi g t m own env st).Ok P ↔ (mi env st).Ok fun r s => (lcL r.2 g t m (wipeE env own) r.1 s).Ok P := ok_bind
@[simp] theorem ok_M {f : FM} {o : ME} {m : MA} {P : D → Sto → Prop} : (mM f o m env st).Ok P ↔ (o env st).Ok fun x s => isL s x = true ∧ (m env s).Ok fun ds s2 => (f x ds s2).Ok P := by
  unfold mM
  rw [ok_bind]
  constructor
  · intro h
    refine h.mono fun d s q => ?_
    split at q
    · rename_i e
      exact ⟨e, ok_bind.mp q⟩
    · exact q.elim
  · intro h
    refine h.mono fun d s ⟨e, q⟩ => ?_
    rw [if_pos e]
    exact ok_bind.mpr q
@[simp] theorem ok_M0 {f : FM} {o : ME} {P : D → Sto → Prop} : (mM0 f o env st).Ok P ↔ (o env st).Ok fun x s => isL s x = true ∧ (f x [] s).Ok P := by
  unfold mM0
  rw [ok_bind]
  constructor
  · intro h
    refine h.mono fun d s q => ?_
    split at q
    · rename_i e
      exact ⟨e, q⟩
    · exact q.elim
  · intro h
    refine h.mono fun d s ⟨e, q⟩ => ?_
    rw [if_pos e]
    exact q
@[simp] theorem ok_moNone {P : Option Int → Sto → Prop} : (moNone env st).Ok P ↔ P none st := Iff.rfl
@[simp] theorem ok_moSome {m : ME} {P : Option Int → Sto → Prop} : (moSome m env st).Ok P ↔ (m env st).Ok fun d s => ∃ i, iOf d = some i ∧ P (some i) s := by
  unfold moSome
  rw [ok_bind]
  constructor
  · intro h
    refine h.mono fun d s q => ?_
    split at q
    · rename_i k e
      exact ⟨k, e, q⟩
    · exact q.elim
  · intro h
    refine h.mono fun d s ⟨k, e, q⟩ => ?_
    rw [e]
    exact q
@[simp] theorem ok_Sl {m : ME} {lo hi : MO} {P : D → Sto → Prop} : (mSl m lo hi env st).Ok P ↔ (m env st).Ok fun a s => (lo env s).Ok fun l s2 => (hi env s2).Ok fun h s3 => (slD a l h s3).Ok P := by
  unfold mSl
  simp only [ok_bind]
end
theorem lcL_inv {w : Wt} {g : MG} {t : MT} {m : ME} {env0 : Ev} {P : List PyData → Sto → Prop} (I : Nat → List PyData → Sto → Prop) : ∀ (ds : List Itm) (st : Sto) (n : Nat) (acc : List PyData),
    (∀ i d acc s, ds[i]? = some d → I (n + i) acc s → chk w s ∧ (g d env0 s).Ok fun e1 s1 => (t e1 s1).Ok fun k s2 => (k = true → (m e1 s2).Ok fun v s3 => ∃ z, v = .v z ∧ I (n + i + 1) (acc ++ [z]) s3) ∧ (k = false → I (n + i + 1) acc s2)) →
    (∀ acc s, I (n + ds.length) acc s → chk w s ∧ P acc s) → I n acc st → (lcL w g t m env0 ds st).Ok fun zs s => P (acc ++ zs) s
  | [], st, n, acc, _, hE, h => by
    obtain ⟨hc, q⟩ := hE acc st h
    unfold lcL
    rw [if_pos hc]
    show P (acc ++ []) st
    rw [List.append_nil]
    exact q
  | d :: r, st, n, acc, hS, hE, h => by
    obtain ⟨hc, q⟩ := hS 0 d acc st rfl h
    unfold lcL
    rw [if_pos hc]
    rw [ok_bind, ok_noX]
    refine q.mono fun e1 s1 q => ?_
    rw [ok_bind, ok_noX]
    refine q.mono fun k s2 q => ?_
    have rest : ∀ acc' s', I (n + 0 + 1) acc' s' → (lcL w g t m env0 r s').Ok fun zs s => P (acc' ++ zs) s := fun acc' s' h' =>
      lcL_inv I r s' (n + 1) acc' (fun i d acc s hd hi => by
        have z := hS (i + 1) d acc s hd (by rw [show n + (i + 1) = n + 1 + i by omega]; exact hi)
        rw [show n + (i + 1) = n + 1 + i by omega] at z
        exact z) (fun acc s hi => hE acc s (by rw [List.length_cons, show n + (r.length + 1) = n + 1 + r.length by omega]; exact hi)) h'
    cases k with
    | true =>
      rw [if_pos rfl, ok_bind, ok_noX]
      refine (q.1 rfl).mono fun v s3 ⟨z, e, hi⟩ => ?_
      subst e
      show (Out.bind _ _).Ok _
      rw [ok_bind]
      refine (rest _ _ hi).mono fun zs s q => ?_
      show P (acc ++ z :: zs) s
      rw [List.append_assoc] at q
      exact q
    | false =>
      rw [if_neg Bool.false_ne_true]
      exact rest _ _ (q.2 rfl)
theorem lcL_map {g : MG} {t : MT} {m : ME} {env0 : Ev} {st : Sto} (F : Itm → Option PyData) : ∀ (ds : List Itm),
    (∀ d ∈ ds, (g d env0 st).Ok fun e1 s1 => s1 = st ∧ (t e1 st).Ok fun k s2 => s2 = st ∧ (k = true → (m e1 st).Ok fun v s3 => s3 = st ∧ ∃ z, v = .v z ∧ F d = some z) ∧ (k = false → F d = none)) →
    lcL none g t m env0 ds st = .ok (ds.filterMap F) st
  | [], _ => by
    unfold lcL
    rw [if_pos (show chk none st from trivial)]
    rfl
  | d :: r, h => by
    have ih := lcL_map F r fun d hd => h d (List.mem_cons_of_mem _ hd)
    obtain ⟨e1, s1, eg, rfl, q⟩ := (h d List.mem_cons_self).eq
    obtain ⟨k, s2, et, rfl, q1, q2⟩ := q.eq
    unfold lcL
    rw [if_pos (show chk none s2 from trivial), eg, noX_ok, bind_ok, et, noX_ok, bind_ok]
    cases k with
    | true =>
      obtain ⟨v, s3, em, rfl, z, rfl, ez⟩ := (q1 rfl).eq
      rw [if_pos rfl, em, noX_ok, bind_ok]
      show (lcL none g t m env0 r s3).bind _ = _
      rw [ih, bind_ok, List.filterMap_cons, ez]
    | false =>
      rw [if_neg Bool.false_ne_true, ih, List.filterMap_cons, q2 rfl]
def P1i (ds : List D) (f : Int → Prop) : Prop := match ds with
  | [.v (.int j)] => f j
  | _ => False
def P2 (ds : List D) (f : D → D → Prop) : Prop := match ds with
  | [a, b] => f a b
  | _ => False
def P3' (ds : List D) (f : D → D → D → Prop) : Prop := match ds with
  | [a, b, c] => f a b c
  | _ => False
@[simp] theorem p1i_int {j : Int} {f : Int → Prop} : P1i [.v (.int j)] f ↔ f j := Iff.rfl
@[simp] theorem p2_two {a b : D} {f : D → D → Prop} : P2 [a, b] f ↔ f a b := Iff.rfl
@[simp] theorem p3_three {a b c : D} {f : D → D → D → Prop} : P3' [a, b, c] f ↔ f a b c := Iff.rfl
def SO.Ok (x : SO) (N : Ev → Sto → Prop) (T : D → Sto → Prop) : Prop := match x with
  | .nx e s => N e s
  | .rt d s => T d s
  | _ => False
theorem SO.Ok.mono {x : SO} {N N' : Ev → Sto → Prop} {T T' : D → Sto → Prop} (h : x.Ok N T) (hN : ∀ e s, N e s → N' e s) (hT : ∀ d s, T d s → T' d s) : x.Ok N' T' := by
  cases x with
  | nx e s => exact hN e s h
  | rt d s => exact hT d s h
  | _ => exact h
theorem so_to {x : SO} {N : Ev → Sto → Prop} {T : D → Sto → Prop} (M : Ev → Sto → Prop) (h : x.Ok M T) (k : ∀ e s, M e s → N e s) : x.Ok N T := h.mono k fun _ _ z => z
section
variable {N : Ev → Sto → Prop} {T : D → Sto → Prop} {env : Ev} {st : Sto}
theorem so_thn {α : Type} {x : Out α} {f : α → Sto → SO} : (x.thn f).Ok N T ↔ x.Ok fun a s => (f a s).Ok N T := by cases x <;> exact Iff.rfl
@[simp] theorem so_nx {e : Ev} {s : Sto} : (SO.nx e s).Ok N T ↔ N e s := Iff.rfl
@[simp] theorem so_rt {d : D} {s : Sto} : (SO.rt d s).Ok N T ↔ T d s := Iff.rfl
@[simp] theorem so_seq {a b : MS} : (sSeq a b env st).Ok N T ↔ (a env st).Ok (fun e s => (b e s).Ok N T) T := by
  unfold sSeq
  cases a env st <;> exact Iff.rfl
@[simp] theorem so_nil : (sNil env st).Ok N T ↔ N env st := Iff.rfl
@[simp] theorem so_ret {m : ME} : (sRet m env st).Ok N T ↔ (m env st).Ok T := by
  unfold sRet
  rw [so_thn]
  exact Iff.rfl
@[simp] theorem so_retN : (sRetN env st).Ok N T ↔ T (.v .none) st := Iff.rfl
@[simp] theorem so_exp {m : ME} : (sExp m env st).Ok N T ↔ (m env st).Ok fun _ s => N env s := by
  unfold sExp
  rw [so_thn]
  exact Iff.rfl
theorem so_ite {c : Bool} {x y : SO} : (if c = true then x else y).Ok N T ↔ (c = true → x.Ok N T) ∧ (c = false → y.Ok N T) := by cases c <;> simp
@[simp] theorem so_if {t : MT} {a b : MS} : (sIf t a b env st).Ok N T ↔ (t env st).Ok fun k s => (k = true → (a env s).Ok N T) ∧ (k = false → (b env s).Ok N T) := by
  unfold sIf
  simp only [so_thn, so_ite]
@[simp] theorem so_asg {m : ME} {i : Nat} : (sAsg m (gNm i) env st).Ok N T ↔ (m env st).Ok fun d s => N (env.set i (some d)) s := by
  unfold sAsg
  simp only [so_thn]
  exact Iff.rfl
@[simp] theorem so_asgG {m : ME} {n : Nat} {gs : MGs} : (sAsg m (gTp n gs) env st).Ok N T ↔ (m env st).Ok fun d s => (gTp n gs (.one d) env s).Ok fun e1 s1 => N e1 s1 := by
  unfold sAsg
  simp only [so_thn]
  exact Iff.rfl
@[simp] theorem so_par2 {i j : Nat} {m : MA} : (sPar2 i j m env st).Ok N T ↔ (m env st).Ok fun ds s => P2 ds fun a b => N ((env.set i (some a)).set j (some b)) s := by
  unfold sPar2
  rw [so_thn]
  constructor
  · intro h
    refine h.mono fun ds s q => ?_
    split at q
    · exact q
    · exact q.elim
  · intro h
    refine h.mono fun ds s q => ?_
    unfold P2 at q
    split at q
    · exact q
    · exact q.elim
@[simp] theorem so_par3 {i j l : Nat} {m : MA} : (sPar3 i j l m env st).Ok N T ↔ (m env st).Ok fun ds s => P3' ds fun a b c => N (((env.set i (some a)).set j (some b)).set l (some c)) s := by
  unfold sPar3
  rw [so_thn]
  constructor
  · intro h
    refine h.mono fun ds s q => ?_
    split at q
    · exact q
    · exact q.elim
  · intro h
    refine h.mono fun ds s q => ?_
    unfold P3' at q
    split at q
    · exact q
    · exact q.elim
@[simp] theorem so_asgT {n : Nat} {m : MA} {gs : MGs} : (sAsgT n m gs env st).Ok N T ↔ (m env st).Ok fun ds s => (ds.length = n ∧ n ≤ 1000) ∧ (gs ds env s).Ok fun e1 s1 => N e1 s1 := by
  unfold sAsgT
  rw [so_thn]
  constructor
  · intro h
    refine h.mono fun ds s q => ?_
    split at q
    · rename_i e
      exact ⟨e, so_thn.mp q⟩
    · exact q.elim
  · intro h
    refine h.mono fun ds s ⟨e, q⟩ => ?_
    rw [if_pos e]
    exact so_thn.mpr q
@[simp] theorem so_sub {m o i : ME} : (sSub m o i env st).Ok N T ↔ (m env st).Ok fun d s1 => (o env s1).Ok fun x s2 => (i env s2).Ok fun y s3 => (setU x y d s3).Ok fun _ s4 => N env s4 := by
  unfold sSub
  simp only [so_thn]
  exact Iff.rfl
@[simp] theorem so_for {mi : MI} {g : MG} {b : MS} : (sFor mi g b env st).Ok N T ↔ (mi env st).Ok fun r s => (forL r.2 g b r.1 env s).Ok N T := by
  unfold sFor
  rw [so_thn]
end
theorem forL_inv {w : Wt} {g : MG} {b : MS} {N : Ev → Sto → Prop} {T : D → Sto → Prop} (I : Nat → Ev → Sto → Prop) : ∀ (ds : List Itm) (env : Ev) (st : Sto) (n : Nat),
    (∀ i d e s, ds[i]? = some d → I (n + i) e s → chk w s ∧ (g d e s).Ok fun e1 s1 => (b e1 s1).Ok (fun e2 s2 => I (n + i + 1) e2 s2) T) → (∀ e s, I (n + ds.length) e s → chk w s ∧ N e s) → I n env st → (forL w g b ds env st).Ok N T
  | [], env, st, n, _, hE, h => by
    obtain ⟨hc, q⟩ := hE env st h
    unfold forL
    rw [if_pos hc]
    exact q
  | d :: r, env, st, n, hS, hE, h => by
    obtain ⟨hc, q⟩ := hS 0 d env st rfl h
    unfold forL
    rw [if_pos hc, so_thn]
    refine q.mono fun e1 s1 q => ?_
    cases eb : b e1 s1 with
    | nx e2 s2 =>
      rw [eb] at q
      refine forL_inv I r e2 s2 (n + 1) (fun i d e s hd hi => ?_) (fun e s hi => hE e s (by rw [List.length_cons, show n + (r.length + 1) = n + 1 + r.length by omega]; exact hi)) q
      have z := hS (i + 1) d e s hd (by rw [show n + (i + 1) = n + 1 + i by omega]; exact hi)
      rw [show n + (i + 1) = n + 1 + i by omega] at z
      exact z
    | rt d2 s2 => rw [eb] at q; exact q
    | _ => rw [eb] at q; exact q.elim
theorem whileL_inv {t : MT} {b : MS} {N : Ev → Sto → Prop} {T : D → Sto → Prop} (I : Nat → Ev → Sto → Prop)
    (hS : ∀ k e s, I k e s → (t e s).Ok fun c s1 => (c = true → (b e s1).Ok (fun e2 s2 => ∃ j, j < k ∧ I j e2 s2) T) ∧ (c = false → N e s1)) : ∀ (n k : Nat) (env : Ev) (st : Sto), k < n → I k env st → (whileL t b n env st).Ok N T
  | 0, k, env, st, hk, _ => absurd hk (Nat.not_lt_zero _)
  | n + 1, k, env, st, hk, h => by
    unfold whileL
    rw [so_thn]
    refine (hS k env st h).mono fun c s1 q => ?_
    cases c with
    | false => exact q.2 rfl
    | true =>
      rw [if_pos rfl]
      have q := q.1 rfl
      cases eb : b env s1 with
      | nx e2 s2 =>
        rw [eb] at q
        obtain ⟨j, hj, hi⟩ := q
        exact whileL_inv I hS n j e2 s2 (by omega) hi
      | rt d2 s2 => rw [eb] at q; exact q
      | _ => rw [eb] at q; exact q.elim
theorem fnT_ok {nN : Nat} {m : MS} {ds : List D} {st : Sto} {P : D → Sto → Prop} (h : (m (envE nN ds) st).Ok (fun _ s => P (.v .none) (s.take st.length)) (fun d s => d.low st.length = true ∧ P d (s.take st.length))) : (fnT nN m ds st).Ok P := by
  unfold fnT
  cases e : m (envE nN ds) st with
  | nx e1 s => rw [e] at h; exact h
  | rt d s =>
    rw [e] at h
    show (if d.low st.length then Out.ok d (s.take st.length) else .stuck).Ok P
    rw [if_pos h.1]
    exact h.2
  | _ => rw [e] at h; exact h.elim
theorem fnK_ok {nN : Nat} {m : MS} {ds : List D} {st : Sto} {P : D → Sto → Prop} (h : (m (envE nN ds) st).Ok (fun _ s => P (.v .none) s) (fun d s => P d s)) : (fnK nN m ds st).Ok P := by
  unfold fnK
  cases e : m (envE nN ds) st with
  | nx e1 s => rw [e] at h; exact h
  | rt d s => rw [e] at h; exact h
  | _ => rw [e] at h; exact h.elim
theorem Out.Ok.is {α : Type} {x : Out α} {a : α} {s : Sto} (h : x.Ok fun b t => b = a ∧ t = s) : x = .ok a s := by
  obtain ⟨b, t, e, rfl, rfl⟩ := h.eq
  exact e
section
variable {i j : Int} {a b : Bool} {st : Sto} {xs ys : List PyData} {d : PyData} {x y : Str}
theorem iOf_eq {a : D} {k : Int} (h : iOf a = some k) : a = .v (.int k) := by
  cases a with
  | v z =>
    cases z with
    | int j => cases h; rfl
    | _ => cases h
  | _ => cases h
@[simp] theorem iOf_int : iOf (.v (.int i)) = some i := rfl
@[simp] theorem addD_int : addD (.v (.int i)) (.v (.int j)) st = .ok (.v (.int (i + j))) st := rfl
@[simp] theorem subD_int : subD (.v (.int i)) (.v (.int j)) st = .ok (.v (.int (i - j))) st := rfl
@[simp] theorem negD_int : negD (.v (.int i)) st = .ok (.v (.int (-i))) st := rfl
@[simp] theorem ltD_int : ltD (.v (.int i)) (.v (.int j)) st = .ok (.v (.bool (decide (i < j)))) st := rfl
@[simp] theorem leD_int : leD (.v (.int i)) (.v (.int j)) st = .ok (.v (.bool (decide (i ≤ j)))) st := rfl
@[simp] theorem gtD_int : gtD (.v (.int i)) (.v (.int j)) st = .ok (.v (.bool (decide (i > j)))) st := rfl
@[simp] theorem geD_int : geD (.v (.int i)) (.v (.int j)) st = .ok (.v (.bool (decide (i ≥ j)))) st := rfl
theorem mulD_int (h : cMul i j = true) : mulD (.v (.int i)) (.v (.int j)) st = .ok (.v (.int (i * j))) st := by
  show (if cMul i j then _ else _) = _
  rw [if_pos h]
theorem mulD_r (h : -(2 ^ 64) < j ∧ j < 2 ^ 64) : mulD (.v (.int i)) (.v (.int j)) st = .ok (.v (.int (i * j))) st := mulD_int (by
  unfold cMul
  simp only [Bool.or_eq_true, Bool.and_eq_true, decide_eq_true_eq]
  exact .inr h)
theorem mulD_l (h : -(2 ^ 64) < i ∧ i < 2 ^ 64) : mulD (.v (.int i)) (.v (.int j)) st = .ok (.v (.int (i * j))) st := mulD_int (by
  unfold cMul
  simp only [Bool.or_eq_true, Bool.and_eq_true, decide_eq_true_eq]
  exact .inl h)
theorem fdivD_int (h : 0 < j) (h2 : j < 1073741824) : fdivD (.v (.int i)) (.v (.int j)) st = .ok (.v (.int (i / j))) st := by
  show (if cDiv i j then _ else _) = _
  have e : cDiv i j = true := by
    unfold cDiv
    simp only [Bool.and_eq_true, decide_eq_true_eq]
    exact ⟨by omega, by omega⟩
  rw [if_pos e]
  show Out.ok (D.v (.int (i.fdiv j))) st = _
  rw [Int.fdiv_eq_ediv_of_nonneg _ (by omega)]
theorem modD_int (h : 0 < j) : modD (.v (.int i)) (.v (.int j)) st = .ok (.v (.int (i % j))) st := by
  show (if decide (j ≠ 0) then _ else _) = _
  rw [if_pos (decide_eq_true (by omega))]
  show Out.ok (D.v (.int (i.fmod j))) st = _
  rw [Int.fmod_eq_emod_of_nonneg _ (by omega)]
@[simp] theorem isD_bool : isD (.v (.bool a)) (.v (.bool b)) st = .ok (.v (.bool (decide (a = b)))) st := rfl
@[simp] theorem isNotD_bool : isNotD (.v (.bool a)) (.v (.bool b)) st = .ok (.v (.bool (!decide (a = b)))) st := rfl
@[simp] theorem tru_bool : truS' st (.v (.bool b)) = some b := rfl
@[simp] theorem fInt_int : fInt [.v (.int i)] st = .ok (.v (.int i)) st := rfl
theorem fAbs_int : fAbs [.v (.int i)] st = .ok (.v (.int i.natAbs)) st := by
  show Out.ok (D.v (.int (if i < 0 then -i else i))) st = _
  congr 3
  split <;> omega
@[simp] theorem len_tup : fLen [.v (.tuple xs)] st = .ok (.v (.int xs.length)) st := rfl
theorem len_of {a : D} (h : viewS st a = some xs) : fLen [a] st = .ok (.v (.int xs.length)) st := by
  show (match viewS st a with
    | some xs => _
    | none => _) = _
  rw [h]
theorem list_of {a : D} (h : viewS st a = some xs) : gList [a] st = .ok xs st := by
  show (match viewS st a with
    | some xs => _
    | none => _) = _
  rw [h]
@[simp] theorem viewS_list : viewS st (.v (.list xs)) = some xs := rfl
@[simp] theorem tup_list : fTuple [.v (.list xs)] st = .ok (.v (.tuple xs)) st := rfl
theorem viewS_ref {n : Nat} (h : st[n]? = some (.lst xs)) : viewS st (.ref n) = some xs := by
  show (match st[n]? with
    | some (.lst xs) => some xs
    | _ => none) = _
  rw [h]
theorem isL_ref {n : Nat} (h : st[n]? = some (.lst xs)) : isL st (.ref n) = true := by
  show (match st[n]? with
    | some (.lst xs) => some xs
    | _ => none).isSome = _
  rw [h]
  rfl
theorem lAt_ref {n : Nat} (h : st[n]? = some (.lst xs)) : lAt st (.ref n) = some (n, xs) := by
  show (match st[n]? with
    | some (.lst zs) => some (n, zs)
    | _ => none) = _
  rw [h]
theorem tup_of {n : Nat} (h : st[n]? = some (.lst xs)) : fTuple [.ref n] st = .ok (.v (.tuple xs)) st := by
  show (match viewL st (.ref n) with
    | some xs => _
    | none => _) = _
  have e : viewL st (.ref n) = some xs := viewS_ref h
  rw [e]
theorem seqIndex_nat {n k : Nat} (h : k < n) : seqIndex? (k : Int) n = some k := by
  unfold seqIndex?
  have h1 : ¬ (k : Int) < 0 := by omega
  simp only [if_neg h1]
  rw [if_pos (by simp; omega)]
  simp
theorem atI_nat {α : Type} {xs : List α} {k : Nat} : atI xs (k : Int) = xs[k]? := by
  unfold atI ixN
  rw [if_pos (by omega)]
  by_cases h : k < xs.length
  · rw [if_pos (by omega)]
    simp
  · rw [if_neg (by omega), List.getElem?_eq_none (by omega)]
    rfl
theorem pop_at {n k : Nat} (h : st[n]? = some (.lst xs)) (hk : k < xs.length) (hl : xs.length ≤ 1000000) : fmPopAt (.ref n) [.v (.int k)] st = .ok (.v xs[k]) (st.set n (.lst (xs.eraseIdx k))) := by
  unfold fmPopAt
  rw [lAt_ref h]
  show (if -1000000 ≤ (k : Int) ∧ (k : Int) ≤ 1000000 then _ else _) = _
  rw [if_pos (by omega), seqIndex_nat hk]
  show (match xs[k]? with
    | some d => _
    | none => _) = _
  rw [List.getElem?_eq_getElem hk]
theorem append_at {n : Nat} (h : st[n]? = some (.lst xs)) (hl : xs.length < 1000000) : fmAppend (.ref n) [.v d] st = .ok (.v .none) (st.set n (.lst (xs ++ [d]))) := by
  unfold fmAppend
  rw [lAt_ref h]
  show (if xs.length < lim then _ else _) = _
  rw [if_pos (show xs.length < lim from hl)]
theorem sub_of {a : D} {k : Nat} (hv : viewK st a = none) (h : viewS st a = some xs) (hk : xs[k]? = some d) : subsD a (.v (.int k)) st = .ok (.v d) st := by
  unfold subsD
  rw [hv]
  show ixD a _ st = _
  unfold ixD
  rw [h]
  show (match atI xs (k : Int) with
    | some d => _
    | none => _) = _
  rw [atI_nat, hk]
theorem sub_list {k : Nat} (hk : xs[k]? = some d) : subsD (.v (.list xs)) (.v (.int k)) st = .ok (.v d) st := sub_of rfl rfl hk
theorem sub_tup {k : Nat} (hk : xs[k]? = some d) : subsD (.v (.tuple xs)) (.v (.int k)) st = .ok (.v d) st := sub_of rfl rfl hk
theorem set_ref {n k : Nat} (h : st[n]? = some (.lst xs)) (hk : k < xs.length) : setU (.ref n) (.v (.int k)) (.v d) st = .ok () (st.set n (.lst (xs.set k d))) := by
  unfold setU
  rw [lAt_ref h]
  show (match ixN xs.length (k : Int) with
    | some j => _
    | none => _) = _
  have e : ixN xs.length (k : Int) = some k := by
    unfold ixN
    rw [if_pos (by omega), if_pos (by omega)]
    simp
  rw [e]
end
section
variable {m : MA} {me : ME} {env : Ev} {st : Sto} {P : List Itm × Wt → Sto → Prop} {xs ys : List PyData}
theorem ok_R1 : (miR1 m env st).Ok P ↔ (m env st).Ok fun ds s => P1i ds fun j => (-1000000 ≤ j ∧ j ≤ 1000000) ∧ P (rngI 0 j.toNat, none) s := by
  unfold miR1
  rw [ok_bind]
  constructor
  · intro h
    refine h.mono fun ds s q => ?_
    split at q
    · split at q
      · rename_i j e
        split at q
        · rename_i hb
          have ed := (iOf_eq e)
          subst ed
          exact ⟨hb, q⟩
        · exact q.elim
      · exact q.elim
    · exact q.elim
  · intro h
    refine h.mono fun ds s q => ?_
    unfold P1i at q
    split at q
    · rename_i j
      show (if -1000000 ≤ j ∧ j ≤ 1000000 then Out.ok (rngI 0 j.toNat, none) s else .stuck).Ok P
      rw [if_pos q.1]
      exact q.2
    · exact q.elim
def seqW (d : D) (s1 : Sto) : Out (List Itm × Wt) := match d with
  | .scr ns => .ok (ns.map fun n => .one (.v (.int n)), none) s1
  | d => match seqI s1 d with
    | some (zs, w) => .ok (zs.map fun z => .one (.v z), w) s1
    | none => .stuck
theorem ok_seq : (miSeq me env st).Ok P ↔ (me env st).Ok fun d s => (seqW d s).Ok P := ok_bind
@[simp] theorem seqW_list : seqW (.v (.list xs)) st = .ok (xs.map fun z => .one (.v z), none) st := rfl
@[simp] theorem seqW_tup : seqW (.v (.tuple xs)) st = .ok (xs.map fun z => .one (.v z), none) st := rfl
@[simp] theorem seqW_scr {ns : List Int} : seqW (.scr ns) st = .ok (ns.map fun n => .one (.v (.int n)), none) st := rfl
@[simp] theorem ok_gMore {g : MG} {r : MGs} {d : D} {t : List D} {P : Ev → Sto → Prop} : (gMore g r (d :: t) env st).Ok P ↔ (g (.one d) env st).Ok fun e1 s1 => (r t e1 s1).Ok P := ok_bind
@[simp] theorem ok_gNone {P : Ev → Sto → Prop} : (gNone [] env st).Ok P ↔ P env st := Iff.rfl
@[simp] theorem ok_gNm {i : Nat} {d : D} {P : Ev → Sto → Prop} : (gNm i (.one d) env st).Ok P ↔ P (env.set i (some d)) st := Iff.rfl
end
end Fw
namespace Fw
open PySem PySem.Spec PyProof.Rows L2
structure Src where
  stk : List Int
  left : Int
  mixed : Int
  turn : Int
def Src.o (s : Src) : O := .dct false [(.str "cells", .ref 0), (.str "left", .v (.int s.left)), (.str "mixed", .v (.int s.mixed)), (.str "turn", .v (.int s.turn))]
def Src.sto (s : Src) (rest : Sto) : Sto := .lst (s.stk.reverse.map .int) :: s.o :: rest
section
variable {s : Src} {rest : Sto} {x : Int}
@[simp] theorem src_cells : subsD (.ref 1) (.v (.str "cells")) (s.sto rest) = .ok (.ref 0) (s.sto rest) := by rfl
@[simp] theorem src_left : subsD (.ref 1) (.v (.str "left")) (s.sto rest) = .ok (.v (.int s.left)) (s.sto rest) := by rfl
@[simp] theorem src_mixed : subsD (.ref 1) (.v (.str "mixed")) (s.sto rest) = .ok (.v (.int s.mixed)) (s.sto rest) := by rfl
@[simp] theorem src_turn : subsD (.ref 1) (.v (.str "turn")) (s.sto rest) = .ok (.v (.int s.turn)) (s.sto rest) := by rfl
@[simp] theorem set_left : setU (.ref 1) (.v (.str "left")) (.v (.int x)) (s.sto rest) = .ok () (({ s with left := x } : Src).sto rest) := by rfl
@[simp] theorem set_turn : setU (.ref 1) (.v (.str "turn")) (.v (.int x)) (s.sto rest) = .ok () (({ s with turn := x } : Src).sto rest) := by rfl
@[simp] theorem src_len : fLen [.ref 0] (s.sto rest) = .ok (.v (.int s.stk.length)) (s.sto rest) := by
  show Out.ok (D.v (.int ((s.stk.reverse.map PyData.int).length))) (s.sto rest) = _
  rw [List.length_map, List.length_reverse]
@[simp] theorem src_isL : isL (s.sto rest) (.ref 0) = true := rfl
theorem src_pop {c : Int} {r : List Int} (h : s.stk = c :: r) : fmPop (.ref 0) [] (s.sto rest) = .ok (.v (.int c)) (({ s with stk := r } : Src).sto rest) := by
  obtain ⟨k, l, m, t⟩ := s
  simp only at h
  subst h
  show fmPop (.ref 0) [] (.lst ((c :: r).reverse.map .int) :: _ :: rest) = _
  unfold fmPop
  show (match ((c :: r).reverse.map PyData.int)[((c :: r).reverse.map PyData.int).length - 1]? with
    | some d => _
    | none => _) = _
  rw [show ((c :: r).reverse.map PyData.int) = r.reverse.map PyData.int ++ [.int c] by simp]
  rw [List.length_append, List.length_singleton, Nat.add_sub_cancel, List.getElem?_append_right (Nat.le_refl _), Nat.sub_self]
  show Out.ok _ _ = _
  simp only [List.dropLast_concat]
  rfl
end
def Src.ok (s : Src) : Prop := s.stk.length < 1000000
def Pick (f : FF) : Prop := ∀ (s : Src) (rest : Sto) (m : Int), m < 1073741824 → s.ok → (f [.ref 1, .v (.int m)] (s.sto rest)).Ok fun d st => ∃ (r : Int) (s' : Src), d = .v (.int r) ∧ st = s'.sto rest ∧ s'.ok ∧ 0 ≤ r ∧ (1 ≤ m → r < m) ∧ (m ≤ 0 → r = 0)
theorem take_sto {s : Src} {s0 : Src} {rest : Sto} : (s.sto rest).take (s0.sto rest).length = s.sto rest := List.take_length (l := s.sto rest)
end Fw
namespace Fw.LA
open PySem PySem.Spec PyProof.Rows L2 Fw
noncomputable def law_pick_T1 : MT := (mAndT (mTB (mBin ltD (mBin subsD (mVar 0) (mC (.str "left"))) (mC (.int 2)))) (mTB (mBin gtD (mArg fLen (mCons (mVar 2) mNil)) (mC (.int 0)))))
noncomputable def law_pick_B1 : MS := (sSub (mM0 fmPop (mVar 2)) (mVar 0) (mC (.str "left")))
noncomputable def S_law_pick_10 : MS := (sRet (mBin modD (mArg fInt (mCons (mBin fdivD (mVar 5) (mC (.int 16))) mNil)) (mVar 1)))
noncomputable def S_law_pick_9 : MS := (sSeq (sAsg (mBin modD (mArg fInt (mCons (mBin addD (mBin mulD (mVar 5) (mVar 5)) (mBin mulD (mVar 4) (mC (.int 17)))) mNil)) (mC (.int 2147483647))) (gNm 5)) S_law_pick_10)
noncomputable def S_law_pick_8 : MS := (sSeq (sAsg (mBin modD (mArg fInt (mCons (mBin addD (mBin subsD (mVar 0) (mC (.str "mixed"))) (mBin mulD (mVar 4) (mC (.int 104729)))) mNil)) (mC (.int 998244353))) (gNm 5)) S_law_pick_9)
noncomputable def S_law_pick_7 : MS := (sSeq (sAsg (mBin subsD (mVar 0) (mC (.str "turn"))) (gNm 4)) S_law_pick_8)
noncomputable def S_law_pick_6 : MS := (sSeq (sSub (mBin addD (mBin subsD (mVar 0) (mC (.str "turn"))) (mC (.int 1))) (mVar 0) (mC (.str "turn"))) S_law_pick_7)
noncomputable def S_law_pick_5 : MS := (sSeq (sIf (mTB (mBin gtD (mVar 3) (mC (.int 1)))) (sSeq (sSub (mBin fdivD (mVar 3) (mVar 1)) (mVar 0) (mC (.str "left"))) (sRet (mBin modD (mArg fInt (mCons (mVar 3) mNil)) (mVar 1)))) sNil) S_law_pick_6)
noncomputable def S_law_pick_4 : MS := (sSeq (sAsg (mBin subsD (mVar 0) (mC (.str "left"))) (gNm 3)) S_law_pick_5)
noncomputable def S_law_pick_3 : MS := (sSeq (whileL law_pick_T1 law_pick_B1 1000000) S_law_pick_4)
noncomputable def S_law_pick_2 : MS := (sSeq (sAsg (mBin subsD (mVar 0) (mC (.str "cells"))) (gNm 2)) S_law_pick_3)
noncomputable def S_law_pick : MS := (sSeq (sIf (mTB (mBin ltD (mVar 1) (mC (.int 2)))) (sRet (mC (.int 0))) sNil) S_law_pick_2)
noncomputable def f_law_pick : FF := fnT 6 S_law_pick
noncomputable def law_open_cells_E1 : MI := (miSeq (mVar 0))
noncomputable def law_open_cells_G1 : MG := (gNm 2)
noncomputable def law_open_cells_B1 : MS := (sAsg (mBin modD (mArg fInt (mCons (mBin addD (mBin addD (mBin mulD (mVar 1) (mC (.int 69069))) (mBin mulD (mVar 2) (mC (.int 31)))) (mC (.int 5))) mNil)) (mC (.int 2147483629))) (gNm 1))
noncomputable def law_open_cells_E2 : MI := (miSeq (mVar 0))
noncomputable def law_open_cells_G2 : MG := (gNm 2)
noncomputable def law_open_cells_T1 : MT := mYes
noncomputable def law_open_cells_M1 : ME := (mArg fAbs (mCons (mVar 2) mNil))
noncomputable def S_law_open_cells_4 : MS := (sRet (mDisp [((mC (.str "cells")), (mNew (mfRev (mVar 3)))), ((mC (.str "left")), (mC (.int 1))), ((mC (.str "mixed")), (mVar 1)), ((mC (.str "turn")), (mC (.int 0)))]))
noncomputable def S_law_open_cells_3 : MS := (sSeq (sAsg (mFrz (mLc law_open_cells_E2 law_open_cells_G2 law_open_cells_T1 law_open_cells_M1 [2])) (gNm 3)) S_law_open_cells_4)
noncomputable def S_law_open_cells_2 : MS := (sSeq (sFor law_open_cells_E1 law_open_cells_G1 law_open_cells_B1) S_law_open_cells_3)
noncomputable def S_law_open_cells : MS := (sSeq (sAsg (mC (.int 11)) (gNm 1)) S_law_open_cells_2)
noncomputable def f_law_open_cells : FF := fnK 4 S_law_open_cells
noncomputable def law_any_order_E1 : MI := (miR1 (mCons (mArg fLen (mCons (mVar 2) mNil)) mNil))
noncomputable def law_any_order_G1 : MG := (gNm 3)
noncomputable def law_any_order_T1 : MT := mYes
noncomputable def law_any_order_M1 : ME := (mM fmPopAt (mVar 2) (mCons (mCall f_law_pick (mCons (mVar 0) (mCons (mArg fLen (mCons (mVar 2) mNil)) mNil)) []) mNil))
noncomputable def S_law_any_order_2 : MS := (sRet (mFrz (mLc law_any_order_E1 law_any_order_G1 law_any_order_T1 law_any_order_M1 [3])))
noncomputable def S_law_any_order : MS := (sSeq (sAsg (mNew (mfArg gList (mCons (mVar 1) mNil))) (gNm 2)) S_law_any_order_2)
noncomputable def f_law_any_order : FF := fnT 4 S_law_any_order
end Fw.LA
namespace Fw.LB
open PySem PySem.Spec PyProof.Rows L2 Fw
noncomputable def law_pick_T1 : MT := (mAndT (mTB (mBin gtD (mVar 1) (mC (.int 1)))) (mAndT (mTB (mBin ltD (mBin subsD (mVar 0) (mC (.str "left"))) (mC (.int 2)))) (mTB (mBin gtD (mArg fLen (mCons (mBin subsD (mVar 0) (mC (.str "cells"))) mNil)) (mC (.int 0))))))
noncomputable def law_pick_B1 : MS := (sSub (mM0 fmPop (mBin subsD (mVar 0) (mC (.str "cells")))) (mVar 0) (mC (.str "left")))
noncomputable def S_law_pick_8 : MS := (sRet (mBin modD (mArg fInt (mCons (mBin fdivD (mVar 3) (mC (.int 16))) mNil)) (mVar 1)))
noncomputable def S_law_pick_7 : MS := (sSeq (sSub (mVar 3) (mVar 0) (mC (.str "mixed"))) S_law_pick_8)
noncomputable def S_law_pick_6 : MS := (sSeq (sAsg (mBin modD (mArg fInt (mCons (mBin addD (mBin mulD (mVar 3) (mVar 3)) (mBin mulD (mBin subsD (mVar 0) (mC (.str "turn"))) (mC (.int 17)))) mNil)) (mC (.int 2147483647))) (gNm 3)) S_law_pick_7)
noncomputable def S_law_pick_5 : MS := (sSeq (sAsg (mBin modD (mArg fInt (mCons (mBin addD (mBin subsD (mVar 0) (mC (.str "mixed"))) (mBin mulD (mBin subsD (mVar 0) (mC (.str "turn"))) (mC (.int 104729)))) mNil)) (mC (.int 998244353))) (gNm 3)) S_law_pick_6)
noncomputable def S_law_pick_4 : MS := (sSeq (sSub (mBin addD (mBin subsD (mVar 0) (mC (.str "turn"))) (mC (.int 1))) (mVar 0) (mC (.str "turn"))) S_law_pick_5)
noncomputable def S_law_pick_3 : MS := (sSeq (sIf (mOrT (mTB (mBin ltD (mVar 1) (mC (.int 2)))) (mTB (mBin gtD (mVar 2) (mC (.int 1))))) (sSeq (sSub (mBin fdivD (mVar 2) (mArg (f2I intMax) (mCons (mC (.int 1)) (mCons (mVar 1) mNil)))) (mVar 0) (mC (.str "left"))) (sRet (mBin modD (mArg fInt (mCons (mVar 2) mNil)) (mArg (f2I intMax) (mCons (mC (.int 1)) (mCons (mVar 1) mNil)))))) sNil) S_law_pick_4)
noncomputable def S_law_pick_2 : MS := (sSeq (sAsg (mBin subsD (mVar 0) (mC (.str "left"))) (gNm 2)) S_law_pick_3)
noncomputable def S_law_pick : MS := (sSeq (whileL law_pick_T1 law_pick_B1 1000000) S_law_pick_2)
noncomputable def f_law_pick : FF := fnT 4 S_law_pick
end Fw.LB
namespace Fw.LC
open PySem PySem.Spec PyProof.Rows L2 Fw
noncomputable abbrev f_law_pick : FF := Fw.LA.f_law_pick
noncomputable abbrev f_law_any_order : FF := Fw.LA.f_law_any_order
end Fw.LC
namespace Fw
open PySem PySem.Spec PyProof.Rows L2
theorem sq_small {a : Int} (h : 0 ≤ a) (h2 : a < 998244353) : -(2 ^ 64) < a ∧ a < 2 ^ 64 := ⟨by omega, by omega⟩
theorem pickA_ok : Pick LA.f_law_pick := by
  intro s rest m hm hs
  refine fnT_ok ?_
  unfold LA.S_law_pick
  simp only [envE, so_seq, so_if, so_ret, so_retN, so_exp, so_nil, so_nx, so_rt, so_asg, so_asgG, so_par2, so_par3, ok_gNm, ok_gMore, ok_gNone, so_asgT, so_sub, so_for, ok_TB, ok_Tru, ok_notT, ok_andT, ok_orT, ok_andV, ok_orV, ok_notV, ok_iteE, ok_frz, ok_new, ok_mfArg, ok_mfBin, ok_lc, ok_M, ok_M0, ok_moNone, ok_moSome, ok_Sl,
  ok_bin, ok_un, ok_arg, ok_cons, ok_nil, ok_call, ok_var, ok_C, ok_ok, ok_stuck, ok_noX, bOf_bool, low_v, iOf_int, addD_int, subD_int, negD_int, ltD_int, leD_int, gtD_int, geD_int, fInt_int, isD_bool, isNotD_bool, tru_bool, List.map_cons, List.map_nil, List.length_cons, List.length_nil, List.replicate_succ, List.replicate_zero, List.cons_append, List.nil_append,
  List.append_nil, List.getElem?_cons_zero, List.getElem?_cons_succ, List.set_cons_zero, List.set_cons_succ, Option.some.injEq, exists_eq_left', exists_eq_left, true_and, and_true, true_implies, false_implies, implies_true, Bool.false_eq_true, reduceCtorEq, false_and, and_false, D.v.injEq, PyData.int.injEq, D.ref.injEq, p1i_int, p2_two, p3_three, decide_true, Bool.not_true, Bool.not_false, decide_eq_true_eq, decide_eq_false_iff_not]
  refine ⟨fun h => ⟨0, s, rfl, take_sto, hs, Int.le_refl _, fun z => by omega, fun _ => rfl⟩, fun h => ?_⟩
  unfold LA.S_law_pick_2 LA.S_law_pick_3
  simp only [envE, so_seq, so_if, so_ret, so_retN, so_exp, so_nil, so_nx, so_rt, so_asg, so_asgG, so_par2, so_par3, ok_gNm, ok_gMore, ok_gNone, so_asgT, so_sub, so_for, ok_TB, ok_Tru, ok_notT, ok_andT, ok_orT, ok_andV, ok_orV, ok_notV, ok_iteE, ok_frz, ok_new, ok_mfArg, ok_mfBin, ok_lc, ok_M, ok_M0, ok_moNone, ok_moSome, ok_Sl,
  ok_bin, ok_un, ok_arg, ok_cons, ok_nil, ok_call, ok_var, ok_C, ok_ok, ok_stuck, ok_noX, bOf_bool, low_v, iOf_int, addD_int, subD_int, negD_int, ltD_int, leD_int, gtD_int, geD_int, fInt_int, isD_bool, isNotD_bool, tru_bool, List.map_cons, List.map_nil, List.length_cons, List.length_nil, List.replicate_succ, List.replicate_zero, List.cons_append, List.nil_append,
  List.append_nil, List.getElem?_cons_zero, List.getElem?_cons_succ, List.set_cons_zero, List.set_cons_succ, Option.some.injEq, exists_eq_left', exists_eq_left, true_and, and_true, true_implies, false_implies, implies_true, Bool.false_eq_true, reduceCtorEq, false_and, and_false, D.v.injEq, PyData.int.injEq, D.ref.injEq, p1i_int, p2_two, p3_three, decide_true, Bool.not_true, Bool.not_false, decide_eq_true_eq, decide_eq_false_iff_not, src_cells]
  refine so_to (fun e st => ∃ s' : Src, e = [some (D.ref 1), some (D.v (PyData.int m)), some (D.ref 0), none, none, none] ∧ st = s'.sto rest ∧ s'.ok) ?_ ?_
  · refine whileL_inv (fun k e st => ∃ s' : Src, e = [some (D.ref 1), some (D.v (PyData.int m)), some (D.ref 0), none, none, none] ∧ st = s'.sto rest ∧ s'.ok ∧ s'.stk.length = k) ?_ 1000000 s.stk.length _ _ hs ⟨s, rfl, rfl, hs, rfl⟩
    rintro k e st ⟨s', rfl, rfl, ok, hk⟩
    unfold LA.law_pick_T1 LA.law_pick_B1
    simp only [envE, so_seq, so_if, so_ret, so_retN, so_exp, so_nil, so_nx, so_rt, so_asg, so_asgG, so_par2, so_par3, ok_gNm, ok_gMore, ok_gNone, so_asgT, so_sub, so_for, ok_TB, ok_Tru, ok_notT, ok_andT, ok_orT, ok_andV, ok_orV, ok_notV, ok_iteE, ok_frz, ok_new, ok_mfArg, ok_mfBin, ok_lc, ok_M, ok_M0, ok_moNone, ok_moSome, ok_Sl,
  ok_bin, ok_un, ok_arg, ok_cons, ok_nil, ok_call, ok_var, ok_C, ok_ok, ok_stuck, ok_noX, bOf_bool, low_v, iOf_int, addD_int, subD_int, negD_int, ltD_int, leD_int, gtD_int, geD_int, fInt_int, isD_bool, isNotD_bool, tru_bool, List.map_cons, List.map_nil, List.length_cons, List.length_nil, List.replicate_succ, List.replicate_zero, List.cons_append, List.nil_append,
  List.append_nil, List.getElem?_cons_zero, List.getElem?_cons_succ, List.set_cons_zero, List.set_cons_succ, Option.some.injEq, exists_eq_left', exists_eq_left, true_and, and_true, true_implies, false_implies, implies_true, Bool.false_eq_true, reduceCtorEq, false_and, and_false, D.v.injEq, PyData.int.injEq, D.ref.injEq, p1i_int, p2_two, p3_three, decide_true, Bool.not_true, Bool.not_false, decide_eq_true_eq, decide_eq_false_iff_not, src_left, src_len, src_isL]
    refine ⟨fun h => ⟨fun h2 => ?_, fun h2 => ⟨s', rfl, ok⟩⟩, fun h => ⟨s', rfl, ok⟩⟩
    obtain ⟨c, r, e⟩ : ∃ c r, s'.stk = c :: r := by
      cases es : s'.stk with
      | nil => rw [es] at h2; simp at h2
      | cons c r => exact ⟨c, r, rfl⟩
    have hr : s'.stk.length = r.length + 1 := by rw [e]; rfl
    simp only [src_pop e, envE, so_seq, so_if, so_ret, so_retN, so_exp, so_nil, so_nx, so_rt, so_asg, so_asgG, so_par2, so_par3, ok_gNm, ok_gMore, ok_gNone, so_asgT, so_sub, so_for, ok_TB, ok_Tru, ok_notT, ok_andT, ok_orT, ok_andV, ok_orV, ok_notV, ok_iteE, ok_frz, ok_new, ok_mfArg, ok_mfBin, ok_lc, ok_M, ok_M0, ok_moNone, ok_moSome, ok_Sl,
  ok_bin, ok_un, ok_arg, ok_cons, ok_nil, ok_call, ok_var, ok_C, ok_ok, ok_stuck, ok_noX, bOf_bool, low_v, iOf_int, addD_int, subD_int, negD_int, ltD_int, leD_int, gtD_int, geD_int, fInt_int, isD_bool, isNotD_bool, tru_bool, List.map_cons, List.map_nil, List.length_cons, List.length_nil, List.replicate_succ, List.replicate_zero, List.cons_append, List.nil_append,
  List.append_nil, List.getElem?_cons_zero, List.getElem?_cons_succ, List.set_cons_zero, List.set_cons_succ, Option.some.injEq, exists_eq_left', exists_eq_left, true_and, and_true, true_implies, false_implies, implies_true, Bool.false_eq_true, reduceCtorEq, false_and, and_false, D.v.injEq, PyData.int.injEq, D.ref.injEq, p1i_int, p2_two, p3_three, decide_true, Bool.not_true, Bool.not_false, decide_eq_true_eq, decide_eq_false_iff_not, set_left]
    have ok' : s'.stk.length < 1000000 := ok
    exact ⟨r.length, by omega, _, rfl, show r.length < 1000000 by omega, rfl⟩
  · rintro e st ⟨s1, rfl, rfl, ok⟩
    unfold LA.S_law_pick_4 LA.S_law_pick_5
    simp only [envE, so_seq, so_if, so_ret, so_retN, so_exp, so_nil, so_nx, so_rt, so_asg, so_asgG, so_par2, so_par3, ok_gNm, ok_gMore, ok_gNone, so_asgT, so_sub, so_for, ok_TB, ok_Tru, ok_notT, ok_andT, ok_orT, ok_andV, ok_orV, ok_notV, ok_iteE, ok_frz, ok_new, ok_mfArg, ok_mfBin, ok_lc, ok_M, ok_M0, ok_moNone, ok_moSome, ok_Sl,
  ok_bin, ok_un, ok_arg, ok_cons, ok_nil, ok_call, ok_var, ok_C, ok_ok, ok_stuck, ok_noX, bOf_bool, low_v, iOf_int, addD_int, subD_int, negD_int, ltD_int, leD_int, gtD_int, geD_int, fInt_int, isD_bool, isNotD_bool, tru_bool, List.map_cons, List.map_nil, List.length_cons, List.length_nil, List.replicate_succ, List.replicate_zero, List.cons_append, List.nil_append,
  List.append_nil, List.getElem?_cons_zero, List.getElem?_cons_succ, List.set_cons_zero, List.set_cons_succ, Option.some.injEq, exists_eq_left', exists_eq_left, true_and, and_true, true_implies, false_implies, implies_true, Bool.false_eq_true, reduceCtorEq, false_and, and_false, D.v.injEq, PyData.int.injEq, D.ref.injEq, p1i_int, p2_two, p3_three, decide_true, Bool.not_true, Bool.not_false, decide_eq_true_eq, decide_eq_false_iff_not, src_left, set_left, fdivD_int (show (0 : Int) < m by omega) hm, modD_int (show (0 : Int) < m by omega)]
    refine ⟨fun h => ⟨_, _, rfl, take_sto, ok, Int.emod_nonneg _ (by omega), fun _ => Int.emod_lt_of_pos _ (by omega), fun z => by omega⟩, fun h => ?_⟩
    unfold LA.S_law_pick_6 LA.S_law_pick_7 LA.S_law_pick_8 LA.S_law_pick_9 LA.S_law_pick_10
    simp only [envE, so_seq, so_if, so_ret, so_retN, so_exp, so_nil, so_nx, so_rt, so_asg, so_asgG, so_par2, so_par3, ok_gNm, ok_gMore, ok_gNone, so_asgT, so_sub, so_for, ok_TB, ok_Tru, ok_notT, ok_andT, ok_orT, ok_andV, ok_orV, ok_notV, ok_iteE, ok_frz, ok_new, ok_mfArg, ok_mfBin, ok_lc, ok_M, ok_M0, ok_moNone, ok_moSome, ok_Sl,
  ok_bin, ok_un, ok_arg, ok_cons, ok_nil, ok_call, ok_var, ok_C, ok_ok, ok_stuck, ok_noX, bOf_bool, low_v, iOf_int, addD_int, subD_int, negD_int, ltD_int, leD_int, gtD_int, geD_int, fInt_int, isD_bool, isNotD_bool, tru_bool, List.map_cons, List.map_nil, List.length_cons, List.length_nil, List.replicate_succ, List.replicate_zero, List.cons_append, List.nil_append,
  List.append_nil, List.getElem?_cons_zero, List.getElem?_cons_succ, List.set_cons_zero, List.set_cons_succ, Option.some.injEq, exists_eq_left', exists_eq_left, true_and, and_true, true_implies, false_implies, implies_true, Bool.false_eq_true, reduceCtorEq, false_and, and_false, D.v.injEq, PyData.int.injEq, D.ref.injEq, p1i_int, p2_two, p3_three, decide_true, Bool.not_true, Bool.not_false, decide_eq_true_eq, decide_eq_false_iff_not, src_turn, set_turn, src_mixed, mulD_r (show -(2 ^ 64) < (104729 : Int) ∧ (104729 : Int) < 2 ^ 64 by decide), mulD_r (show -(2 ^ 64) < (17 : Int) ∧ (17 : Int) < 2 ^ 64 by decide), modD_int (show (0 : Int) < 998244353 by decide), modD_int (show (0 : Int) < 2147483647 by decide), modD_int (show (0 : Int) < m by omega),
      fdivD_int (show (0 : Int) < 16 by decide) (by decide)]
    rw [mulD_l (sq_small (Int.emod_nonneg _ (by decide)) (Int.emod_lt_of_pos _ (by decide)))]
    simp only [envE, so_seq, so_if, so_ret, so_retN, so_exp, so_nil, so_nx, so_rt, so_asg, so_asgG, so_par2, so_par3, ok_gNm, ok_gMore, ok_gNone, so_asgT, so_sub, so_for, ok_TB, ok_Tru, ok_notT, ok_andT, ok_orT, ok_andV, ok_orV, ok_notV, ok_iteE, ok_frz, ok_new, ok_mfArg, ok_mfBin, ok_lc, ok_M, ok_M0, ok_moNone, ok_moSome, ok_Sl,
  ok_bin, ok_un, ok_arg, ok_cons, ok_nil, ok_call, ok_var, ok_C, ok_ok, ok_stuck, ok_noX, bOf_bool, low_v, iOf_int, addD_int, subD_int, negD_int, ltD_int, leD_int, gtD_int, geD_int, fInt_int, isD_bool, isNotD_bool, tru_bool, List.map_cons, List.map_nil, List.length_cons, List.length_nil, List.replicate_succ, List.replicate_zero, List.cons_append, List.nil_append,
  List.append_nil, List.getElem?_cons_zero, List.getElem?_cons_succ, List.set_cons_zero, List.set_cons_succ, Option.some.injEq, exists_eq_left', exists_eq_left, true_and, and_true, true_implies, false_implies, implies_true, Bool.false_eq_true, reduceCtorEq, false_and, and_false, D.v.injEq, PyData.int.injEq, D.ref.injEq, p1i_int, p2_two, p3_three, decide_true, Bool.not_true, Bool.not_false, decide_eq_true_eq, decide_eq_false_iff_not, modD_int (show (0 : Int) < 2147483647 by decide), modD_int (show (0 : Int) < m by omega), fdivD_int (show (0 : Int) < 16 by decide) (by decide)]
    exact ⟨_, _, rfl, take_sto, ok, Int.emod_nonneg _ (by omega), fun _ => Int.emod_lt_of_pos _ (by omega), fun z => by omega⟩
theorem sto_app {s : Src} {rest : Sto} {o : O} : s.sto rest ++ [o] = s.sto (rest ++ [o]) := rfl
theorem sto_at {s : Src} {rest more : Sto} {o : O} : (s.sto (rest ++ o :: more))[rest.length + 2]? = some o := by
  show (rest ++ o :: more)[rest.length]? = _
  rw [List.getElem?_append_right (Nat.le_refl _), Nat.sub_self]
  rfl
theorem sto_set {s : Src} {rest : Sto} {o u : O} : (s.sto (rest ++ [o])).set (rest.length + 2) u = s.sto (rest ++ [u]) := by
  show _ :: _ :: (rest ++ [o]).set rest.length u = _
  rw [List.set_append_right _ _ (Nat.le_refl _), Nat.sub_self]
  rfl
theorem sto_len {s : Src} {rest : Sto} : (s.sto rest).length = rest.length + 2 := rfl
theorem sto_take {s : Src} {rest more : Sto} : (s.sto (rest ++ more)).take (rest.length + 2) = s.sto rest := by
  show _ :: _ :: (rest ++ more).take rest.length = _
  rw [List.take_left]
  rfl
theorem perm_out {α : Type} : ∀ (l : List α) (k : Nat) (h : k < l.length), (l[k] :: l.eraseIdx k).Perm l
  | [], k, h => absurd h (Nat.not_lt_zero _)
  | a :: l, 0, h => .refl _
  | a :: l, k + 1, h => (List.Perm.swap a _ _).trans ((perm_out l k (Nat.lt_of_succ_lt_succ h)).cons a)
def Shuf (f : FF) : Prop := ∀ (s : Src) (rest : Sto) (d : D) (xs : List PyData), s.ok → viewS (s.sto rest) d = some xs → xs.length ≤ 1000000 → (f [.ref 1, d] (s.sto rest)).Ok fun r st => ∃ (ys : List PyData) (s' : Src), r = .v (.list ys) ∧ st = s'.sto rest ∧ s'.ok ∧ ys.Perm xs
theorem shuf_ok {pick : FF} (hp : Pick pick) : Shuf (fnT 4 (sSeq (sAsg (mNew (mfArg gList (mCons (mVar 1) mNil))) (gNm 2)) (sRet (mFrz (mLc (miR1 (mCons (mArg fLen (mCons (mVar 2) mNil)) mNil)) (gNm 3) mYes
    (mM fmPopAt (mVar 2) (mCons (mCall pick (mCons (mVar 0) (mCons (mArg fLen (mCons (mVar 2) mNil)) mNil)) []) mNil)) [3]))))) := by
  intro s rest d xs hs hv hl
  refine fnT_ok ?_
  simp only [envE, so_seq, so_if, so_ret, so_retN, so_exp, so_nil, so_nx, so_rt, so_asg, so_asgG, so_par2, so_par3, ok_gNm, ok_gMore, ok_gNone, so_asgT, so_sub, so_for, ok_TB, ok_Tru, ok_notT, ok_andT, ok_orT, ok_andV, ok_orV, ok_notV, ok_iteE, ok_frz, ok_new, ok_mfArg, ok_mfBin, ok_lc, ok_M, ok_M0, ok_moNone, ok_moSome, ok_Sl,
  ok_bin, ok_un, ok_arg, ok_cons, ok_nil, ok_call, ok_var, ok_C, ok_ok, ok_stuck, ok_noX, bOf_bool, low_v, iOf_int, addD_int, subD_int, negD_int, ltD_int, leD_int, gtD_int, geD_int, fInt_int, isD_bool, isNotD_bool, tru_bool, List.map_cons, List.map_nil, List.length_cons, List.length_nil, List.replicate_succ, List.replicate_zero, List.cons_append, List.nil_append,
  List.append_nil, List.getElem?_cons_zero, List.getElem?_cons_succ, List.set_cons_zero, List.set_cons_succ, Option.some.injEq, exists_eq_left', exists_eq_left, true_and, and_true, true_implies, false_implies, implies_true, Bool.false_eq_true, reduceCtorEq, false_and, and_false, D.v.injEq, PyData.int.injEq, D.ref.injEq, p1i_int, p2_two, p3_three, decide_true, Bool.not_true, Bool.not_false, decide_eq_true_eq, decide_eq_false_iff_not, list_of hv, ok_R1, sto_len, sto_app]
  rw [len_of (xs := xs) (viewS_ref sto_at)]
  simp only [envE, so_seq, so_if, so_ret, so_retN, so_exp, so_nil, so_nx, so_rt, so_asg, so_asgG, so_par2, so_par3, ok_gNm, ok_gMore, ok_gNone, so_asgT, so_sub, so_for, ok_TB, ok_Tru, ok_notT, ok_andT, ok_orT, ok_andV, ok_orV, ok_notV, ok_iteE, ok_frz, ok_new, ok_mfArg, ok_mfBin, ok_lc, ok_M, ok_M0, ok_moNone, ok_moSome, ok_Sl,
  ok_bin, ok_un, ok_arg, ok_cons, ok_nil, ok_call, ok_var, ok_C, ok_ok, ok_stuck, ok_noX, bOf_bool, low_v, iOf_int, addD_int, subD_int, negD_int, ltD_int, leD_int, gtD_int, geD_int, fInt_int, isD_bool, isNotD_bool, tru_bool, List.map_cons, List.map_nil, List.length_cons, List.length_nil, List.replicate_succ, List.replicate_zero, List.cons_append, List.nil_append,
  List.append_nil, List.getElem?_cons_zero, List.getElem?_cons_succ, List.set_cons_zero, List.set_cons_succ, Option.some.injEq, exists_eq_left', exists_eq_left, true_and, and_true, true_implies, false_implies, implies_true, Bool.false_eq_true, reduceCtorEq, false_and, and_false, D.v.injEq, PyData.int.injEq, D.ref.injEq, p1i_int, p2_two, p3_three, decide_true, Bool.not_true, Bool.not_false, decide_eq_true_eq, decide_eq_false_iff_not]
  refine ⟨by omega, ?_⟩
  have e0 : wipeE [some (D.ref 1), some d, some (D.ref (rest.length + 2)), none] [3] = [some (D.ref 1), some d, some (D.ref (rest.length + 2)), none] := rfl
  rw [e0]
  refine (lcL_inv (P := fun zs st => ∃ (ys : List PyData) (s' : Src), PyData.list zs = PyData.list ys ∧ List.take (rest.length + 2) st = s'.sto rest ∧ s'.ok ∧ ys.Perm xs) (n := 0) (acc := []) (fun i acc st => ∃ (s' : Src) (zs : List PyData), st = s'.sto (rest ++ [.lst zs]) ∧ s'.ok ∧ zs.length + i = xs.length ∧ (acc ++ zs).Perm xs) (rngI 0 (xs.length : Int).toNat) _ ?_ ?_ ⟨s, xs, rfl, hs, by omega, .refl _⟩).mono fun zs st q => q
  · rintro i d1 acc st hd ⟨s1, zs, rfl, ok, hz, hp1⟩
    obtain ⟨hi, rfl⟩ := rngI_get hd
    rw [Nat.zero_add] at hz
    refine ⟨trivial, ?_⟩
    rw [ok_gNm]
    simp only [List.set_cons_succ, List.set_cons_zero]
    show (Out.ok true _).Ok _
    rw [ok_ok]
    refine ⟨fun _ => ?_, fun z => nomatch z⟩
    simp only [envE, so_seq, so_if, so_ret, so_retN, so_exp, so_nil, so_nx, so_rt, so_asg, so_asgG, so_par2, so_par3, ok_gNm, ok_gMore, ok_gNone, so_asgT, so_sub, so_for, ok_TB, ok_Tru, ok_notT, ok_andT, ok_orT, ok_andV, ok_orV, ok_notV, ok_iteE, ok_frz, ok_new, ok_mfArg, ok_mfBin, ok_lc, ok_M, ok_M0, ok_moNone, ok_moSome, ok_Sl,
  ok_bin, ok_un, ok_arg, ok_cons, ok_nil, ok_call, ok_var, ok_C, ok_ok, ok_stuck, ok_noX, bOf_bool, low_v, iOf_int, addD_int, subD_int, negD_int, ltD_int, leD_int, gtD_int, geD_int, fInt_int, isD_bool, isNotD_bool, tru_bool, List.map_cons, List.map_nil, List.length_cons, List.length_nil, List.replicate_succ, List.replicate_zero, List.cons_append, List.nil_append,
  List.append_nil, List.getElem?_cons_zero, List.getElem?_cons_succ, List.set_cons_zero, List.set_cons_succ, Option.some.injEq, exists_eq_left', exists_eq_left, true_and, and_true, true_implies, false_implies, implies_true, Bool.false_eq_true, reduceCtorEq, false_and, and_false, D.v.injEq, PyData.int.injEq, D.ref.injEq, p1i_int, p2_two, p3_three, decide_true, Bool.not_true, Bool.not_false, decide_eq_true_eq, decide_eq_false_iff_not, isL_ref sto_at]
    rw [len_of (xs := zs) (viewS_ref sto_at)]
    simp only [envE, so_seq, so_if, so_ret, so_retN, so_exp, so_nil, so_nx, so_rt, so_asg, so_asgG, so_par2, so_par3, ok_gNm, ok_gMore, ok_gNone, so_asgT, so_sub, so_for, ok_TB, ok_Tru, ok_notT, ok_andT, ok_orT, ok_andV, ok_orV, ok_notV, ok_iteE, ok_frz, ok_new, ok_mfArg, ok_mfBin, ok_lc, ok_M, ok_M0, ok_moNone, ok_moSome, ok_Sl,
  ok_bin, ok_un, ok_arg, ok_cons, ok_nil, ok_call, ok_var, ok_C, ok_ok, ok_stuck, ok_noX, bOf_bool, low_v, iOf_int, addD_int, subD_int, negD_int, ltD_int, leD_int, gtD_int, geD_int, fInt_int, isD_bool, isNotD_bool, tru_bool, List.map_cons, List.map_nil, List.length_cons, List.length_nil, List.replicate_succ, List.replicate_zero, List.cons_append, List.nil_append,
  List.append_nil, List.getElem?_cons_zero, List.getElem?_cons_succ, List.set_cons_zero, List.set_cons_succ, Option.some.injEq, exists_eq_left', exists_eq_left, true_and, and_true, true_implies, false_implies, implies_true, Bool.false_eq_true, reduceCtorEq, false_and, and_false, D.v.injEq, PyData.int.injEq, D.ref.injEq, p1i_int, p2_two, p3_three, decide_true, Bool.not_true, Bool.not_false, decide_eq_true_eq, decide_eq_false_iff_not]
    refine (hp s1 (rest ++ [.lst zs]) zs.length (by omega) ok).mono ?_
    rintro r st ⟨r, s2, rfl, rfl, ok2, h0, h1, _⟩
    have hr := h1 (by omega)
    obtain ⟨k, rfl⟩ : ∃ k : Nat, r = k := ⟨r.toNat, by omega⟩
    have hk : k < zs.length := by omega
    rw [pop_at sto_at hk (by omega), ok_ok, sto_set]
    refine ⟨_, rfl, s2, _, rfl, ok2, by rw [List.length_eraseIdx_of_lt hk]; omega, ?_⟩
    refine List.Perm.trans ?_ hp1
    rw [List.append_assoc]
    refine List.Perm.append_left _ ?_
    exact perm_out zs k hk
  · rintro acc st ⟨s1, zs, rfl, ok, hz, hp1⟩
    refine ⟨trivial, ?_⟩
    have e : zs = [] := List.eq_nil_of_length_eq_zero (by
      have e2 : (rngI 0 (xs.length : Int).toNat).length = xs.length := by unfold rngI; rw [List.length_map, List.length_range]; omega
      omega)
    subst e
    rw [List.append_nil] at hp1
    exact ⟨acc, s1, rfl, sto_take, ok, hp1⟩
theorem shufA : Shuf LA.f_law_any_order := shuf_ok pickA_ok
def Opens (f : FF) : Prop := ∀ ns : List Int, ns.length < 1000000 → (f [.scr ns] []).Ok fun r st => ∃ s : Src, r = .ref 1 ∧ st = s.sto [] ∧ s.ok
theorem abs_map {env0 : Ev} {st : Sto} {i : Nat} (h : i < env0.length) (ns : List Int) : lcL none (gNm i) mYes (mArg fAbs (mCons (mVar i) mNil)) env0 (ns.map fun n => .one (.v (.int n))) st = .ok (ns.map fun n => PyData.int n.natAbs) st := by
  rw [lcL_map (fun d => match d with | .one (.v (.int n)) => some (.int n.natAbs) | _ => none)]
  · congr 1
    rw [List.filterMap_map]
    induction ns with
    | nil => rfl
    | cons n r ih => rw [List.filterMap_cons, List.map_cons, ih]; rfl
  · intro d hd
    obtain ⟨n, _, rfl⟩ := List.mem_map.mp hd
    rw [ok_gNm]
    refine ⟨rfl, ?_⟩
    show (Out.ok true st).Ok _
    rw [ok_ok]
    refine ⟨rfl, fun _ => ?_, fun z => nomatch z⟩
    simp only [ok_arg, ok_cons, ok_var, ok_nil, List.getElem?_set_self h, Option.some.injEq, exists_eq_left', fAbs_int, ok_ok]
    exact ⟨trivial, _, rfl, rfl⟩
theorem mix_for {k : Nat} {j : Nat} {env0 : Ev} (hj : j ≠ 1) (h1 : 1 < env0.length) (hj2 : j < env0.length) (ns : List Int) {st : Sto} {N : Ev → Sto → Prop} {T : D → Sto → Prop} {x : Int} (e1 : env0[1]? = some (some (.v (.int x))))
    (h : ∀ (e : Ev) (y : Int), e.length = env0.length → (∀ i, i ≠ 1 → i ≠ j → e[i]? = env0[i]?) → e[1]? = some (some (.v (.int y))) → N e st) :
    (forL none (gNm j) (sAsg (mBin modD (mArg fInt (mCons (mBin addD (mBin addD (mBin mulD (mVar 1) (mC (.int 69069))) (mBin mulD (mVar j) (mC (.int 31)))) (mC (.int 5))) mNil)) (mC (.int 2147483629))) (gNm 1)) (ns.map fun n => .one (.v (.int n))) env0 st).Ok N T := by
  refine forL_inv (fun _ e s => s = st ∧ e.length = env0.length ∧ (∀ i, i ≠ 1 → i ≠ j → e[i]? = env0[i]?) ∧ ∃ y : Int, e[1]? = some (some (.v (.int y)))) _ _ _ 0 ?_ ?_ ⟨rfl, rfl, fun _ _ _ => rfl, x, e1⟩
  · rintro i d e s hd ⟨rfl, hl, ho, y, ey⟩
    rw [List.getElem?_map] at hd
    obtain ⟨n, _, rfl⟩ := Option.map_eq_some_iff.mp hd
    refine ⟨trivial, ?_⟩
    have e2 : (e.set j (some (D.v (.int n))))[1]? = some (some (.v (.int y))) := by rw [List.getElem?_set_ne hj]; exact ey
    have e3 : (e.set j (some (D.v (.int n))))[j]? = some (some (.v (.int n))) := List.getElem?_set_self (by omega)
    rw [ok_gNm]
    simp only [so_asg, ok_bin, ok_arg, ok_cons, ok_var, ok_C, ok_nil, e2, e3, Option.some.injEq, exists_eq_left', mulD_r (show -(2 ^ 64) < (69069 : Int) ∧ (69069 : Int) < 2 ^ 64 by decide), mulD_r (show -(2 ^ 64) < (31 : Int) ∧ (31 : Int) < 2 ^ 64 by decide), ok_ok, addD_int, fInt_int, modD_int (show (0 : Int) < 2147483629 by decide)]
    refine ⟨trivial, by rw [List.length_set, List.length_set]; exact hl, fun i h1 h2 => ?_, _, List.getElem?_set_self (by rw [List.length_set]; omega)⟩
    rw [List.getElem?_set_ne (Ne.symm h1), List.getElem?_set_ne (Ne.symm h2)]
    exact ho i h1 h2
  · rintro e s ⟨rfl, hl, ho, y, ey⟩
    exact ⟨trivial, h e y hl ho ey⟩
theorem ok_rev {m : ME} {env : Ev} {st : Sto} {P : List PyData → Sto → Prop} : (mfRev m env st).Ok P ↔ (m env st).Ok fun a s => ∃ xs, viewL s a = some xs ∧ P xs.reverse s := by
  unfold mfRev
  rw [ok_bind]
  constructor
  · intro h
    refine h.mono fun d s q => ?_
    split at q
    · rename_i xs e
      exact ⟨xs, e, q⟩
    · exact q.elim
  · intro h
    refine h.mono fun d s ⟨xs, e, q⟩ => ?_
    rw [e]
    exact q
theorem ok_prs0 {env : Ev} {st : Sto} {P : List (D × D) → Sto → Prop} : (mPrs [] env st).Ok P ↔ P [] st := Iff.rfl
theorem ok_prs1 {a b : ME} {r : List (ME × ME)} {env : Ev} {st : Sto} {P : List (D × D) → Sto → Prop} : (mPrs ((a, b) :: r) env st).Ok P ↔ (a env st).Ok fun x s1 => (b env s1).Ok fun y s2 => (mPrs r env s2).Ok fun ps s3 => P ((x, y) :: ps) s3 := by
  show ((a env st).bind _).Ok P ↔ _
  simp only [ok_bind, ok_ok]
theorem ok_disp {prs : List (ME × ME)} {env : Ev} {st : Sto} {P : D → Sto → Prop} : (mDisp prs env st).Ok P ↔ (mPrs prs env st).Ok fun ps s => ∃ kvs, keysOf ps = some kvs ∧ (kvs.length ≤ 15 ∧ (kvs.all fun p => p.2.low s.length) = true) ∧ P (.ref s.length) (s ++ [.dct false (putAll [] kvs)]) := by
  unfold mDisp
  rw [ok_bind, ok_noX]
  constructor
  · intro h
    refine h.mono fun d s q => ?_
    split at q
    · rename_i xs e
      split at q
      · rename_i hc
        exact ⟨xs, e, hc, q⟩
      · exact q.elim
    · exact q.elim
  · intro h
    refine h.mono fun d s ⟨xs, e, hc, q⟩ => ?_
    rw [e]
    show (if _ then _ else _ : Out D).Ok P
    rw [if_pos hc]
    exact q
theorem keysC {x y z : D} {w : D} : keysOf [(.v (.str "cells"), x), (.v (.str "left"), y), (.v (.str "mixed"), z), (.v (.str "turn"), w)] = some [(.str "cells", x), (.str "left", y), (.str "mixed", z), (.str "turn", w)] := rfl
theorem putC {x y z : D} {w : D} : putAll [] [(.str "cells", x), (.str "left", y), (.str "mixed", z), (.str "turn", w)] = [(.str "cells", x), (.str "left", y), (.str "mixed", z), (.str "turn", w)] := by rfl
theorem opens_disp {ns : List Int} {y : Int} {P : D → Sto → Prop} {st : Sto} (hs : st = [.lst ((ns.map fun n => PyData.int n.natAbs).reverse)]) (hl : ns.length < 1000000) (h : ∀ s : Src, s.ok → P (.ref 1) (s.sto [])) :
    ∃ kvs, keysOf [(.v (.str "cells"), .ref 0), (.v (.str "left"), .v (.int 1)), (.v (.str "mixed"), .v (.int y)), (.v (.str "turn"), .v (.int 0))] = some kvs ∧ (kvs.length ≤ 15 ∧ (kvs.all fun p => p.2.low st.length) = true) ∧ P (.ref st.length) (st ++ [.dct false (putAll [] kvs)]) := by
  subst hs
  refine ⟨_, keysC, ⟨by simp, by rfl⟩, ?_⟩
  rw [putC]
  have z := h ⟨ns.map fun n => (n.natAbs : Int), 1, y, 0⟩ (by show (ns.map _).length < 1000000; rw [List.length_map]; exact hl)
  have e : (Src.mk (ns.map fun n => (n.natAbs : Int)) 1 y 0).sto [] = [.lst ((ns.map fun n => PyData.int n.natAbs).reverse)] ++ [.dct false [(.str "cells", .ref 0), (.str "left", .v (.int 1)), (.str "mixed", .v (.int y)), (.str "turn", .v (.int 0))]] := by
    show ([O.lst (((ns.map fun n => (n.natAbs : Int)).reverse).map PyData.int), _] : Sto) = _
    rw [← List.map_reverse, List.map_map, ← List.map_reverse]
    rfl
  rw [e] at z
  exact z
theorem opensA : Opens LA.f_law_open_cells := by
  intro ns hl
  refine fnK_ok ?_
  unfold LA.S_law_open_cells LA.S_law_open_cells_2 LA.law_open_cells_E1
  simp only [envE, so_seq, so_if, so_ret, so_retN, so_exp, so_nil, so_nx, so_rt, so_asg, so_asgG, so_par2, so_par3, ok_gNm, ok_gMore, ok_gNone, so_asgT, so_sub, so_for, ok_TB, ok_Tru, ok_notT, ok_andT, ok_orT, ok_andV, ok_orV, ok_notV, ok_iteE, ok_frz, ok_new, ok_mfArg, ok_mfBin, ok_lc, ok_M, ok_M0, ok_moNone, ok_moSome, ok_Sl,
  ok_bin, ok_un, ok_arg, ok_cons, ok_nil, ok_call, ok_var, ok_C, ok_ok, ok_stuck, ok_noX, bOf_bool, low_v, iOf_int, addD_int, subD_int, negD_int, ltD_int, leD_int, gtD_int, geD_int, fInt_int, isD_bool, isNotD_bool, tru_bool, List.map_cons, List.map_nil, List.length_cons, List.length_nil, List.replicate_succ, List.replicate_zero, List.cons_append, List.nil_append,
  List.append_nil, List.getElem?_cons_zero, List.getElem?_cons_succ, List.set_cons_zero, List.set_cons_succ, Option.some.injEq, exists_eq_left', exists_eq_left, true_and, and_true, true_implies, false_implies, implies_true, Bool.false_eq_true, reduceCtorEq, false_and, and_false, D.v.injEq, PyData.int.injEq, D.ref.injEq, p1i_int, p2_two, p3_three, decide_true, Bool.not_true, Bool.not_false, decide_eq_true_eq, decide_eq_false_iff_not, ok_seq, seqW_scr]
  refine mix_for (k := 0) (j := 2) (x := 11) (by decide) (by simp) (by simp) ns rfl fun e y hl2 ho ey => ?_
  unfold LA.S_law_open_cells_3 LA.law_open_cells_E2
  have e0 : e[0]? = some (some (.scr ns)) := ho 0 (by decide) (by decide)
  have hl3 : e.length = 4 := hl2
  simp only [envE, so_seq, so_if, so_ret, so_retN, so_exp, so_nil, so_nx, so_rt, so_asg, so_asgG, so_par2, so_par3, ok_gNm, ok_gMore, ok_gNone, so_asgT, so_sub, so_for, ok_TB, ok_Tru, ok_notT, ok_andT, ok_orT, ok_andV, ok_orV, ok_notV, ok_iteE, ok_frz, ok_new, ok_mfArg, ok_mfBin, ok_lc, ok_M, ok_M0, ok_moNone, ok_moSome, ok_Sl,
  ok_bin, ok_un, ok_arg, ok_cons, ok_nil, ok_call, ok_var, ok_C, ok_ok, ok_stuck, ok_noX, bOf_bool, low_v, iOf_int, addD_int, subD_int, negD_int, ltD_int, leD_int, gtD_int, geD_int, fInt_int, isD_bool, isNotD_bool, tru_bool, List.map_cons, List.map_nil, List.length_cons, List.length_nil, List.replicate_succ, List.replicate_zero, List.cons_append, List.nil_append,
  List.append_nil, List.getElem?_cons_zero, List.getElem?_cons_succ, List.set_cons_zero, List.set_cons_succ, Option.some.injEq, exists_eq_left', exists_eq_left, true_and, and_true, true_implies, false_implies, implies_true, Bool.false_eq_true, reduceCtorEq, false_and, and_false, D.v.injEq, PyData.int.injEq, D.ref.injEq, p1i_int, p2_two, p3_three, decide_true, Bool.not_true, Bool.not_false, decide_eq_true_eq, decide_eq_false_iff_not, ok_seq, seqW_scr, e0]
  have hw : 2 < (wipeE e [2]).length := by show 2 < (e.set 2 none).length; rw [List.length_set]; omega
  unfold LA.law_open_cells_G2 LA.law_open_cells_T1 LA.law_open_cells_M1
  rw [abs_map hw, ok_ok]
  unfold LA.S_law_open_cells_4
  have e3 : ∀ d : D, (e.set 3 (some d))[3]? = some (some d) := fun d => List.getElem?_set_self (by omega)
  have e1 : ∀ d : D, (e.set 3 (some d))[1]? = some (some (.v (.int y))) := fun d => by rw [List.getElem?_set_ne (by decide)]; exact ey
  simp only [so_ret, ok_disp, ok_prs1, ok_prs0, ok_C, ok_new, ok_rev, ok_var, e3, e1, Option.some.injEq, exists_eq_left']
  refine ⟨_, rfl, ?_⟩
  exact opens_disp (y := y) (P := fun d st => ∃ s : Src, d = .ref 1 ∧ st = s.sto [] ∧ s.ok) (st := [O.lst ((ns.map fun n => PyData.int n.natAbs).reverse)]) rfl hl fun s hs => ⟨s, rfl, rfl, hs⟩
end Fw
namespace Fw
open PySem PySem.Spec PyProof.Rows L2
structure Rep (d : PyData) (w k : Nat) : Prop where
  sh : d.showable = true
  nd : d.hasDict = false
  ls : d.leavesShort 13 = true
  can : d.canLay0 = true
  bulk : d.bulk ≤ w
  dep : d.depth ≤ k
section
variable {d e : PyData} {w k w' k' : Nat} {xs ys : List PyData} {st : Sto}
theorem Rep.mono (r : Rep d w k) (h1 : w ≤ w') (h2 : k ≤ k') : Rep d w' k' := ⟨r.sh, r.nd, r.ls, r.can, Nat.le_trans r.bulk h1, Nat.le_trans r.dep h2⟩
theorem rep_int {i : Int} (h : i.natAbs < 10 ^ 12) : Rep (.int i) w k := by
  refine ⟨?_, rfl, ?_, rfl, by simp [PyData.bulk], by simp [PyData.depth]⟩
  · simp only [PyData.showable, decide_eq_true_eq]
    by_cases h0 : i.natAbs = 0
    · rw [h0]; decide
    · have := (Nat.log2_lt h0 (k := 40)).mpr (Nat.lt_trans h (by decide))
      omega
  · simp only [PyData.leavesShort, decide_eq_true_eq]
    exact PyData.shown_int_le h
theorem rep_all (h : ∀ x ∈ xs, Rep x w k) : PyData.showableAll xs = true ∧ PyData.hasDictAll xs = false ∧ PyData.leavesShortAll 13 xs = true ∧ PyData.canLayAll0 xs = true ∧ PyData.bulkAll xs ≤ xs.length * (w + 1) ∧ PyData.depthAll xs ≤ k := by
  induction xs with
  | nil => exact ⟨rfl, rfl, rfl, rfl, by simp [PyData.bulkAll], by simp [PyData.depthAll]⟩
  | cons x r ih =>
    obtain ⟨a, b, c, e, f, g⟩ := ih fun y hy => h y (List.mem_cons_of_mem _ hy)
    have hx := h x List.mem_cons_self
    refine ⟨by rw [PyData.showableAll, hx.sh, a]; rfl, by rw [PyData.hasDictAll, hx.nd, b]; rfl, by rw [PyData.leavesShortAll, hx.ls, c]; rfl, by rw [PyData.canLayAll0, hx.can, e]; rfl, ?_, ?_⟩
    · rw [PyData.bulkAll, List.length_cons, Nat.add_mul, Nat.one_mul]
      have := hx.bulk
      omega
    · rw [PyData.depthAll]
      exact Nat.max_le.mpr ⟨hx.dep, g⟩
theorem rep_tup (h : ∀ x ∈ xs, Rep x w k) (hl : xs.length ≤ w') : Rep (.tuple xs) (w' * (w + 1)) (k + 1) := by
  obtain ⟨a, b, c, e, f, g⟩ := rep_all h
  exact ⟨by rw [PyData.showable]; exact a, by rw [PyData.hasDict]; exact b, by rw [PyData.leavesShort]; exact c, by rw [PyData.canLay0]; exact e, by rw [PyData.bulk]; exact Nat.le_trans f (Nat.mul_le_mul_right _ hl), by rw [PyData.depth]; exact Nat.succ_le_succ g⟩
theorem rep_ints {is : List Int} (h : ∀ i ∈ is, i.natAbs < 10 ^ 12) (hl : is.length ≤ w') : Rep (.tuple (is.map .int)) w' 1 := by
  have z := rep_tup (xs := is.map .int) (w := 0) (k := 0) (w' := w') (fun x hx => by
    obtain ⟨i, hi, rfl⟩ := List.mem_map.mp hx
    exact rep_int (h i hi)) (by rw [List.length_map]; exact hl)
  rw [Nat.zero_add, Nat.mul_one] at z
  exact z
theorem repr_of0 (r : Rep d w k) (h1 : w ≤ 60000 := by decide) (h2 : k ≤ 60 := by decide) : fRepr [.v d] st = .ok (.v (.str d.shown)) st := by
  have hl := PyData.shown_le_bulk 13 (by decide) d r.ls
  have hb := r.bulk
  show (if _ then _ else _ : Out D) = _
  rw [if_pos]
  simp only [Bool.and_eq_true, Bool.not_eq_true', decide_eq_true_eq]
  refine ⟨⟨⟨r.sh, r.nd⟩, Nat.le_trans r.dep h2⟩, ?_⟩
  show _ ≤ 1000000
  omega
theorem repr_of (r : Rep d w k) (h1 : w ≤ 60000 := by decide) (h2 : k ≤ 60 := by decide) : fReprK [.v d] st = .ok (.v (.str d.shown)) st := by
  show (if noL d && d.showable && decide (d.depth ≤ 60) && decide (d.shown.length ≤ lim) then Out.ok (D.v (.str d.shown)) st else fRepr [.v d] st) = _
  split
  · rfl
  · exact repr_of0 r h1 h2
@[simp] theorem neD_str {x y : Str} : neD (.v (.str x)) (.v (.str y)) st = .ok (.v (.bool (!decide (x = y)))) st := rfl
theorem eqT_of (hd : SeqAt.shaped d = true) (he : SeqAt.shaped e = true) : eqT st (.v d) (.v e) = some (PyData.eqv d e) := by
  show (if SeqAt.shaped d && SeqAt.shaped e then some (PyData.eqv d e) else none) = _
  rw [hd, he]
  rfl
theorem shaped_int {i : Int} : SeqAt.shaped (.int i) = true := by
  unfold SeqAt.shaped
  simp [PyData.canLay0, PyData.depth]
theorem eqS_int {i j : Int} : eqS st (.v (.int i)) (.v (.int j)) = some (decide (i = j)) := by
  refine (eqT_of (st := st) shaped_int shaped_int).trans ?_
  simp only [PyData.eqv]
  exact congrArg some (Bool.eq_iff_iff.mpr (by simp))
@[simp] theorem eqD_int {i j : Int} : eqD (.v (.int i)) (.v (.int j)) st = .ok (.v (.bool (decide (i = j)))) st := by
  unfold eqD
  rw [eqS_int]
@[simp] theorem neD_int {i j : Int} : neD (.v (.int i)) (.v (.int j)) st = .ok (.v (.bool (!decide (i = j)))) st := by
  unfold neD
  rw [eqS_int]
end
end Fw
namespace Fw
open PySem PySem.Spec PyProof.Rows L2
section
variable {st : Sto} {xs ys : List PyData} {a b c e : PyData} {is js : List Int}
@[simp] theorem disp0 : gDisp [] st = .ok [] st := rfl
@[simp] theorem disp1 : gDisp [.v a] st = .ok [a] st := rfl
theorem cut_take {α : Type} (l : List α) (k : Nat) : cutP l none (some (k : Int)) = l.take k := by
  unfold cutP
  rw [HT.sIx_none, HT.sIx_nat, List.drop_zero, Nat.sub_zero]
  rcases Nat.le_total k l.length with h | h
  · rw [Nat.min_eq_left h]
  · rw [Nat.min_eq_right h, List.take_length, List.take_of_length_le h]
theorem cut_drop {α : Type} (l : List α) (k : Nat) : cutP l (some (k : Int)) none = l.drop k := by
  unfold cutP
  rw [HT.sIx_none, HT.sIx_nat]
  rcases Nat.le_total k l.length with h | h
  · rw [Nat.min_eq_left h, List.take_of_length_le (by rw [List.length_drop]; omega)]
  · rw [Nat.min_eq_right h, Nat.sub_self, List.drop_eq_nil_of_le h]
    rfl
theorem slice_list {lo hi : Option Int} : slD (.v (.list xs)) lo hi st = .ok (.v (.list (cutP xs lo hi))) st := rfl
theorem slice_tup {lo hi : Option Int} : slD (.v (.tuple xs)) lo hi st = .ok (.v (.tuple (cutP xs lo hi))) st := rfl
theorem rep_list0 {k : Int} (h1 : -1000000 ≤ k ∧ k ≤ 1000000) (h : xs.length * k.toNat ≤ 1000000) : gRep (.v (.list xs)) (.v (.int k)) st = .ok (List.replicate k.toNat xs).flatten st := by
  show (if -1000000 ≤ k ∧ k ≤ 1000000 ∧ xs.length * k.toNat ≤ lim then _ else _) = _
  rw [if_pos ⟨h1.1, h1.2, h⟩]
theorem rep_one {n : Nat} (h : n ≤ 1000000) : gRep (.v (.list [a])) (.v (.int n)) st = .ok (List.replicate n a) st := by
  rw [rep_list0 ⟨by omega, by omega⟩ (by rw [List.length_singleton, Int.toNat_natCast]; omega), Int.toNat_natCast]
  congr 1
  induction n with
  | zero => rfl
  | succ n ih => rw [List.replicate_succ, List.replicate_succ, List.flatten_cons, ih (by omega)]; rfl
end
section
variable {m : MA} {env : Ev} {st : Sto} {P : List Itm × Wt → Sto → Prop} {xs ys : List PyData} {is js : List Int}
def zipW (ds : List D) (s1 : Sto) : Out (List Itm × Wt) := match ds with
  | [a, b] => match seqI s1 a, seqI s1 b with
    | some (xs, none), some (ys, none) => if isT a == isT b then .ok (zip2I xs ys, none) s1 else .stuck
    | _, _ => .stuck
  | _ => .stuck
theorem ok_zip : (miZip m env st).Ok P ↔ (m env st).Ok fun ds s => (zipW ds s).Ok P := ok_bind
theorem zip_tup : zipW [.v (.tuple xs), .v (.tuple ys)] st = .ok (zip2I xs ys, none) st := rfl
theorem ok_yes {Q : Bool → Sto → Prop} : (mYes env st).Ok Q ↔ Q true st := Iff.rfl
theorem ok_Rg1 {me : ME} {Q : List PyData → Sto → Prop} : (mRg1 me env st).Ok Q ↔ (me env st).Ok fun d s => ∃ n, iOf d = some n ∧ rgOk 0 n = true ∧ Q (rgD 0 n) s := by
  unfold mRg1
  rw [ok_bind]
  constructor
  · intro h
    refine h.mono fun d s q => ?_
    split at q
    · rename_i n e
      split at q
      · rename_i hc
        exact ⟨n, e, hc, q⟩
      · exact q.elim
    · exact q.elim
  · intro h
    refine h.mono fun d s ⟨n, e, hc, q⟩ => ?_
    rw [e]
    show (if rgOk 0 n then Out.ok (rgD 0 n) s else .stuck).Ok Q
    rw [if_pos hc]
    exact q
end
theorem lcL_mapA {α : Type} {g : MG} {t : MT} {m : ME} {env0 : Ev} {st : Sto} (f : α → Itm) (F : α → Option PyData) : ∀ (l : List α),
    (∀ a ∈ l, (g (f a) env0 st).Ok fun e1 s1 => s1 = st ∧ (t e1 st).Ok fun k s2 => s2 = st ∧ (k = true → (m e1 st).Ok fun v s3 => s3 = st ∧ ∃ z, v = .v z ∧ F a = some z) ∧ (k = false → F a = none)) →
    lcL none g t m env0 (l.map f) st = .ok (l.filterMap F) st
  | [], _ => by
    unfold List.map lcL
    rw [if_pos (show chk none st from trivial)]
    rfl
  | a :: r, h => by
    have ih := lcL_mapA f F r fun d hd => h d (List.mem_cons_of_mem _ hd)
    obtain ⟨e1, s1, eg, rfl, q⟩ := (h a List.mem_cons_self).eq
    obtain ⟨k, s2, et, rfl, q1, q2⟩ := q.eq
    rw [List.map_cons]
    unfold lcL
    rw [if_pos (show chk none s2 from trivial), eg, noX_ok, bind_ok, et, noX_ok, bind_ok]
    cases k with
    | true =>
      obtain ⟨v, s3, em, rfl, z, rfl, ez⟩ := (q1 rfl).eq
      rw [if_pos rfl, em, noX_ok, bind_ok]
      show (lcL none g t m env0 (r.map f) s3).bind _ = _
      rw [ih, bind_ok, List.filterMap_cons, ez]
    | false =>
      rw [if_neg Bool.false_ne_true, ih, List.filterMap_cons, q2 rfl]
theorem lcL_all {α : Type} {g : MG} {m : ME} {env0 : Ev} {st : Sto} (f : α → Itm) (F : α → PyData) (l : List α)
    (h : ∀ a ∈ l, (g (f a) env0 st).Ok fun e1 s1 => s1 = st ∧ (m e1 st).Ok fun v s3 => s3 = st ∧ v = .v (F a)) : lcL none g mYes m env0 (l.map f) st = .ok (l.map F) st := by
  rw [lcL_mapA f (fun a => some (F a)) l fun a ha => ?_]
  · rw [List.filterMap_eq_map']
  · refine (h a ha).mono fun e1 s1 ⟨e, q⟩ => ⟨e, ?_⟩
    rw [ok_yes]
    exact ⟨rfl, fun _ => q.mono fun v s3 ⟨e3, ev⟩ => ⟨e3, _, ev, rfl⟩, fun z => nomatch z⟩
end Fw
namespace Fw
open PySem PySem.Spec PyProof.Rows L2
abbrev nI (k : Nat) : PyData := .int (k : Int)
abbrev tNs (l : List Nat) : PyData := .tuple (l.map nI)
abbrev lNs (l : List Nat) : PyData := .list (l.map nI)
section
variable {st : Sto} {l row : List Nat} {k b : Nat} {e0 : Ev} {P : D → Sto → Prop}
theorem flat_nats (l : List Nat) : (l.map nI).all flatP = true := by
  rw [List.all_map]
  exact List.all_eq_true.mpr fun _ _ => rfl
theorem eqv_nat {a b : Nat} : PyData.eqv (nI a) (nI b) = decide (a = b) := by
  simp only [PyData.eqv]
  exact Bool.eq_iff_iff.mpr (by simp only [beq_iff_eq, decide_eq_true_eq]; omega)
theorem any_nat (l : List Nat) (b : Nat) : ((l.map nI).any fun y => PyData.eqv y (nI b)) = decide (b ∈ l) := by
  rw [List.any_map]
  induction l with
  | nil => rfl
  | cons a r ih =>
    rw [List.any_cons, ih]
    show (PyData.eqv (nI a) (nI b) || _) = _
    rw [eqv_nat]
    by_cases h : a = b
    · subst h; simp
    · have : ¬ b = a := fun z => h z.symm
      simp [h, this]
theorem inS_tup : inS st (.v (nI b)) (.v (tNs l)) = some (decide (b ∈ l)) := by
  show (if flatP (nI b) && (l.map nI).all flatP then some ((l.map nI).any fun y => PyData.eqv y (nI b)) else _) = _
  rw [flat_nats, any_nat]
  rfl
theorem inS_list : inS st (.v (nI b)) (.v (lNs l)) = some (decide (b ∈ l)) := by
  show (if flatP (nI b) && (l.map nI).all flatP then some ((l.map nI).any fun y => PyData.eqv y (nI b)) else _) = _
  rw [flat_nats, any_nat]
  rfl
theorem idxP_nat : ∀ {l : List Nat} {b : Nat}, b ∈ l → idxP (nI b) (l.map nI) = some (l.idxOf b)
  | [], _, h => nomatch h
  | a :: r, b, h => by
    rw [List.map_cons]
    unfold idxP
    rw [eqv_nat]
    by_cases e : a = b
    · subst e
      simp
    · have hb : b ∈ r := (List.mem_cons.mp h).resolve_left fun z => e z.symm
      rw [if_neg (by simpa using e), idxP_nat hb, List.idxOf_cons]
      have e2 : (a == b) = false := by simpa using e
      rw [e2]
      rfl
theorem index_tN (h : b ∈ l) : fmIndex (.v (tNs l)) [.v (nI b)] st = .ok (.v (nI (l.idxOf b))) st := by
  show (if flatP (nI b) && (l.map nI).all flatP then _ else _ : Out D) = _
  have e : (flatP (nI b) && (l.map nI).all flatP) = true := by rw [flat_nats]; rfl
  rw [if_pos e, idxP_nat h]
theorem index_lN (h : b ∈ l) : fmIndex (.v (lNs l)) [.v (nI b)] st = .ok (.v (nI (l.idxOf b))) st := by
  show (if flatP (nI b) && (l.map nI).all flatP then _ else _ : Out D) = _
  have e : (flatP (nI b) && (l.map nI).all flatP) = true := by rw [flat_nats]; rfl
  rw [if_pos e, idxP_nat h]
theorem rep_tNs {w : Nat} (h : ∀ k ∈ l, k < 10 ^ 12) (hl : l.length ≤ w) : Rep (tNs l) w 1 := by
  have e : tNs l = .tuple ((l.map fun k : Nat => (k : Int)).map .int) := by
    rw [List.map_map]
    rfl
  rw [e]
  refine rep_ints (fun x hx => ?_) (by rw [List.length_map]; exact hl)
  obtain ⟨k, hk, rfl⟩ := List.mem_map.mp hx
  exact h k hk
end
theorem shaped_nil {t : List PyData → PyData} (h : t = .list ∨ t = .tuple) : SeqAt.shaped (t []) = true := by
  rcases h with rfl | rfl <;> (unfold SeqAt.shaped; simp [PyData.canLay0, PyData.canLayAll0, PyData.depth, PyData.depthAll])
theorem shaped_nats (l : List Nat) : SeqAt.shaped (lNs l) = true := by
  have key : ∀ l : List Nat, PyData.canLayAll0 (l.map nI) = true ∧ PyData.depthAll (l.map nI) = 0 := fun l => by
    induction l with
    | nil => exact ⟨rfl, rfl⟩
    | cons a r ih =>
      rw [List.map_cons, PyData.canLayAll0, PyData.depthAll, ih.1, ih.2]
      simp [PyData.canLay0, PyData.depth]
  unfold SeqAt.shaped
  rw [PyData.canLay0, PyData.depth, (key l).1, (key l).2]
  rfl
theorem ok_Index {mo : ME} {ma : MA} {env : Ev} {st : Sto} {P : D → Sto → Prop} : (mIndex mo ma env st).Ok P ↔ (mo env st).Ok fun o s => (isL s o || isT o) = true ∧ (ma env s).Ok fun ds s2 => (fmIndex o ds s2).Ok P := by
  unfold mIndex
  rw [ok_bind]
  constructor
  · intro h
    refine h.mono fun d s q => ?_
    split at q
    · rename_i e
      exact ⟨e, ok_bind.mp q⟩
    · exact q.elim
  · intro h
    refine h.mono fun d s ⟨e, q⟩ => ?_
    rw [if_pos e]
    exact ok_bind.mpr q
def ups (a n : Nat) : List Nat := (List.range (n - a)).map (a + ·)
theorem cat_list {xs ys : List PyData} {st : Sto} (h : xs.length + ys.length ≤ 1000000) : gCat (.v (.list xs)) (.v (.list ys)) st = .ok (xs ++ ys) st := by
  show (if xs.length + ys.length ≤ lim then _ else _) = _
  rw [if_pos (show xs.length + ys.length ≤ lim from h)]
end Fw
namespace Fw
open PySem PySem.Spec PyProof.Rows L2
section
variable {prog : Program} {w : World} {A : Around} {E : Value → Shared → Prop} {s : Shared}
end
section
variable {X : Cx} {W : XW} {e : Expr} {m : ME} {k : Nat} {p1 p2 p3 pos : Pos}
end
section
variable {st : Sto} {rest : Sto} {xs : List PyData} {z : PyData}
theorem viewK_lst {n : Nat} (h : st[n]? = some (.lst xs)) : viewK st (.ref n) = none := by
  show (match st[n]? with
    | some (.dct t kvs) => some (t, kvs)
    | some (.lck false kvs) => some (false, kvs)
    | _ => none) = _
  rw [h]
def insN (a : Nat) : List Nat → List Nat
  | [] => [a]
  | b :: r => if a ≤ b then a :: b :: r else b :: insN a r
def tyB : PyData → Bool
  | .dict kvs => !isTK kvs
  | _ => true
end
end Fw
namespace Fw
open PySem PySem.Spec PyProof.Rows L2
section
variable {K : PySem.W.Frag} {ι ι' : Gh} {st st' : Sto} {H H' : Hp}
structure Mk (ι : Gh) (st : Sto) (H : Hp) (ι' : Gh) (st' : Sto) (H' : Hp) : Prop where
  keep : ∀ q u, H q = some u → Frz ι st q → Frz ι' st' q ∧ H' q = some u
  pre : ∀ (n : Nat) (a : Addr), ι.ad[n]? = some a → ι'.ad[n]? = some a
theorem Mk.rp (m : Mk ι st H ι' st' H') {v : V} {d : PyData} (h : Rp (Frz ι st) H v d) : Rp (Frz ι' st') H' v d := Rp.mv (fun q u e f => let ⟨a, b⟩ := m.keep q u e f; ⟨a, .inl b⟩) h
theorem Mk.rpA (m : Mk ι st H ι' st' H') {v : List V} {d : List PyData} (h : RpA (Frz ι st) H v d) : RpA (Frz ι' st') H' v d := RpA.mv (fun q u e f => let ⟨a, b⟩ := m.keep q u e f; ⟨a, .inl b⟩) h
theorem Mk.rd (m : Mk ι st H ι' st' H') {x : V} : ∀ {d : D}, RD K ι st H x d → RD K ι' st' H' x d
  | .v d, h => m.rp h
  | .ref n, ⟨a, h1, h2⟩ => ⟨a, m.pre n a h1, h2⟩
  | .scr ns, ⟨a, h1, h2⟩ => ⟨a, h1, h2.imp id fun ⟨o, h, f⟩ => let ⟨a, b⟩ := m.keep _ _ h f; ⟨o, b, a⟩⟩
theorem Mk.rk (m : Mk ι st H ι' st' H') : ∀ {kvs : List (PyData × D)} {xs : List (Key × V)}, RK K ι st H kvs xs → RK K ι' st' H' kvs xs
  | _, _, .nil => .nil
  | _, _, .cons h r => .cons ⟨h.1, m.rd h.2⟩ (Mk.rk m r)
theorem Mk.rt (m : Mk ι st H ι' st' H') : ∀ {kvs : List (PyData × D)} {xs : List (List Key × V)}, RT K ι st H kvs xs → RT K ι' st' H' kvs xs
  | _, _, .nil => .nil
  | _, _, .cons h r => .cons ⟨h.1, m.rd h.2⟩ (Mk.rt m r)
theorem Mk.rtab (m : Mk ι st H ι' st' H') : ∀ {kvs : List (PyData × D)} {xs : List (NestedKey × Addr × V)}, RTab K ι st H kvs xs → RTab K ι' st' H' kvs xs
  | _, _, .nil => .nil
  | _, _, .cons h r => .cons ⟨h.1, m.rp h.2.1, m.rd h.2.2⟩ (Mk.rtab m r)
theorem Mk.rda (m : Mk ι st H ι' st' H') : ∀ {ds : List D} {xs : List V}, RDA K ι st H ds xs → RDA K ι' st' H' ds xs
  | _, _, .nil => .nil
  | _, _, .cons h r => .cons (m.rd h) (Mk.rda m r)
theorem Mk.ro (m : Mk ι st H ι' st' H') {a : Addr} (h : ∀ u, H a = some u → H' a = some u) : ∀ {o : O}, RO K ι st H a o → RO K ι' st' H' a o
  | .dead, _ => trivial
  | .lst _, ⟨xs, q, r⟩ => ⟨xs, h _ q, m.rpA r⟩
  | .dct false _, ⟨xs, q, r⟩ => ⟨xs, h _ q, m.rk r⟩
  | .dct true _, ⟨xs, q, r⟩ => ⟨xs, h _ q, m.rt r⟩
  | .lck false _, ⟨xs, o, q, r⟩ => ⟨xs, o, h _ q, m.rk r⟩
  | .lck true _, ⟨xs, o, q, r⟩ => ⟨xs, o, h _ q, r.1, r.2.1, r.2.2.1, m.rtab r.2.2.2⟩
  | .tpl _, ⟨xs, o, q, r⟩ => ⟨xs, o, h _ q, m.rda r⟩
  | .tab _, ⟨xs, q, r⟩ => ⟨xs, h _ q, r.1, r.2.1, r.2.2.1, m.rtab r.2.2.2⟩
theorem mk_set {n : Nat} {o o' : O} {a : Addr} {u : HO} (h : st[n]? = some o) (hi : ι.ad[n]? = some a) (hl : o ≠ O.dead) : Mk ι st H ι (st.set n o') (upd H a u) :=
  ⟨fun q v e f => ⟨frz_set h hl f, by rw [upd_ne fun z => by subst z; exact hl (f.2 n o h hi)]; exact e⟩, fun _ _ e => e⟩
theorem SRel.unlock (R : SRel K ι st H) {n : Nat} {t : Bool} {kvs : List (PyData × D)} {o' : O} {a : Addr} {u : HO} (h : st[n]? = some (.lck t kvs)) (hi : ι.ad[n]? = some a) (hf : HF (upd H a u)) (ho : RO K ι (st.set n o') (upd H a u) a o') (hw : o'.low n = true) : SRel K ι (st.set n o') (upd H a u) := by
  have hl : O.lck t kvs ≠ O.dead := fun z => nomatch z
  have m := mk_set (H := H) (o' := o') (u := u) h hi hl
  refine ⟨by rw [List.length_set]; exact R.len, fun k v b hm hb => ?_, fun i j b v w hib hjb h1 h2 l1 l2 => ?_, fun k v hm => ?_, fun b hb => ⟨?_, fun k v hm hi' => ?_⟩, hf⟩
  · by_cases e : n = k
    · subst e
      rw [List.getElem?_set_self (List.getElem?_eq_some_iff.mp h).1] at hm
      cases hm
      rw [hi] at hb; cases hb
      exact ho
    · rw [List.getElem?_set_ne e] at hm
      by_cases ed : v = O.dead
      · subst ed; trivial
      · have nb : b ≠ a := fun z => by subst z; exact e (R.inj n k b _ v hi hb h hm hl ed)
        exact m.ro (fun z q => by rw [upd_ne nb]; exact q) (R.obj k v b hm hb)
  · have live : ∀ {i : Nat} {v : O}, (st.set n o')[i]? = some v → v ≠ O.dead → ∃ v', st[i]? = some v' ∧ v' ≠ O.dead := fun {i v} q l => by
      by_cases e : n = i
      · subst e; exact ⟨_, h, hl⟩
      · rw [List.getElem?_set_ne e] at q
        exact ⟨v, q, l⟩
    obtain ⟨v', a1, a2⟩ := live h1 l1
    obtain ⟨w', b1, b2⟩ := live h2 l2
    exact R.inj i j b v' w' hib hjb a1 b1 a2 b2
  · by_cases e : n = k
    · subst e
      rw [List.getElem?_set_self (List.getElem?_eq_some_iff.mp h).1] at hm
      rw [← Option.some.inj hm]
      exact hw
    · rw [List.getElem?_set_ne e] at hm
      exact R.low k v hm
  · obtain ⟨xs, e, d⟩ := (R.hid b hb).1
    have nb : b ≠ a := fun z => by subst z; exact hl ((R.hid b hb).2 n _ h hi)
    exact ⟨xs, by rw [upd_ne nb]; exact e, d⟩
  · by_cases e : n = k
    · subst e
      exact absurd ((R.hid b hb).2 n _ h hi') hl
    · rw [List.getElem?_set_ne e] at hm
      exact (R.hid b hb).2 k v hm hi'
end
def pairsP : List PyData → Option (List (PyData × D))
  | [] => some []
  | .tuple [k, v] :: r => match key1 k, pairsP r with
    | some _, some l => some ((k, .v v) :: l)
    | _, _ => none
  | _ => none
def fDictP : FA := fun ds st => match ds with
  | [d] => match viewL st d with
    | some zs => match pairsP zs with
      | some kvs => .ok (.ref st.length) (st ++ [.dct false (putAll [] kvs)])
      | none => .stuck
    | none => .stuck
  | _ => .stuck
section
variable {K : PySem.W.Frag} {ι : Gh} {st : Sto} {H : Hp}
theorem pairsP_at : ∀ {zs : List PyData} {kvs : List (PyData × D)} {us : List V}, pairsP zs = some kvs → RpA (Frz ι st) H us zs →
    ∃ (ps : List Addr) (xs : List (Key × V)), us = ps.map V.ref ∧ Paired (fun p kv => SqT K H p [kV kv.1, kv.2]) ps xs ∧ RK K ι st H kvs xs ∧ (∀ p ∈ kvs, ∃ k, key1 p.1 = some k) ∧ (kvs.all fun p => p.2.low st.length) = true
  | [], kvs, _, e, .nil => by cases e; exact ⟨[], [], rfl, .nil, .nil, (fun p hp => nomatch hp), rfl⟩
  | z :: r, kvs, _, e, .cons (x := x) (xs := us) h t => by
    unfold pairsP at e
    split at e
    · rename_i h1
      cases h1
    · rename_i k v r' h1
      cases h1
      split at e
      · rename_i kk l h2 h3
        cases e
        obtain ⟨ps, xs, rfl, h4, h5, h6, h7⟩ := pairsP_at h3 t
        cases h with
        | tup hH hd f ra =>
          rename_i a ys o
          cases ra with
          | cons r1 r2 =>
            cases r2 with
            | cons r3 r4 =>
              cases r4
              have hk := kD_of h2
              rw [hk] at r1
              have ew := kV_of r1
              subst ew
              refine ⟨a :: ps, (kk, _) :: xs, rfl, .cons (.inl (.inr ⟨o, hH⟩)) h4, .cons ⟨hk, r3⟩ h5, fun p hp => ?_, ?_⟩
              · rcases List.mem_cons.mp hp with rfl | hp
                · exact ⟨kk, h2⟩
                · exact h6 p hp
              · rw [List.all_cons, h7]; rfl
      · cases e
    · cases e
theorem opA_dictP {W : XW} : OpA K W (fun xs H Q => ∃ (a : Addr) (ps : List Addr) (kvs : List (Key × V)), xs = [.ref a] ∧ SqL K H a (ps.map V.ref) ∧ Paired (fun p kv => SqT K H p [kV kv.1, kv.2]) ps kvs ∧
    ∀ p, H p = none → Q (.ref p) (upd H p (.dK (mergeK [] kvs)))) fDictP := by
  intro ι st H xs ds Q R r p
  unfold fDictP at p
  split at p
  · obtain ⟨x, rfl, r1⟩ := r.one
    split at p
    · rename_i zs e
      split at p
      · rename_i kvs e2
        obtain ⟨q, us, rfl, h1, h2⟩ := viewL_at R e r1
        obtain ⟨ps, ys, rfl, h3, h4, h5, h6⟩ := pairsP_at (K := K) e2 h2
        refine ⟨q, ps, ys, rfl, .of h1, h3, fun b hb hf => ?_⟩
        have E : Ext ι st H (ι.psh b) (st ++ [.dct false (putAll [] kvs)]) (upd H b (.dK (mergeK [] ys))) := Ext.push R hb
        exact p (ι.psh b) _ _ (R.push hb hf ⟨_, upd_same, RK.ext E (rk_putAll h4 h5 .nil)⟩ (putAll_low h6 rfl)) E ⟨b, psh_at R, rfl⟩
      · exact p.elim
    · exact p.elim
  · exact p.elim
end
section
variable {prog : Program} {w : World} {A : Around} {E : Value → Shared → Prop} {s : Shared}
theorem gather_tup {l : Addr} {us : List Value} {Q : List Value → Shared → Prop} (ht : IsTup s.heap l us.toArray) (hz : us.length ≤ sizeLine)
    (h : Q us { s with heap := (s.heap.push (seqObj "list" #[] 0)).update s.heap.objs.size (Obj.mapSeq (· ++ us.toArray)) }) : wpAny (model prog w) A (collect (.ref l)) Q E s := by
  obtain ⟨ob, g1, g2, k, g3⟩ := id ht
  have g1' : (s.heap.push (seqObj "list" #[] 0)).get? l = some ob := Heap.get?_push_of_some _ g1
  unfold collect
  refine wpAny_bind (wpAny_runValue (codeAny_builtin entry_proto_collect' ?_))
  show wpAny _ _ (do again (.builtin "list.__iadd__" ⟨[← newList [], .ref l], []⟩)) _ _ s
  refine wpAny_bind ?_
  refine wpAny_newList ?_
  refine wpAny_pure ⟨Code.quiet_builtin _ (by decide +kernel), ?_⟩
  refine codeAny_builtin entry_list_iadd' ?_
  show wpAny _ _ (Builtin.List.listExtendWith (.ref s.heap.objs.size) (.ref l) (.ref s.heap.objs.size)) _ _ { s with heap := s.heap.push (seqObj "list" #[] 0) }
  unfold Builtin.List.listExtendWith
  refine wpAny_bind (wpAny_typeOf (T := "tuple") ⟨ob, g1', g2⟩ ?_)
  rw [if_pos (by rw [show (Value.type "tuple" == Value.type "tuple") = true from rfl, Bool.or_true])]
  refine wpAny_bind (listItems_at g1' g3 ?_)
  refine wpAny_bind ?_
  refine listItems_at (xs := #[]) (n := 0) (Heap.get?_push_size _ rfl) rfl ?_
  rw [if_neg (by simp)]
  refine wpAny_bind ?_
  refine listUpdate_at (xs := #[]) (n := 0) (Heap.get?_push_size _ rfl) rfl ?_ (Nat.zero_le _) (by show (#[] ++ us.toArray).size ≤ sizeLine + 1; simp only [Array.size_append, List.size_toArray, List.length_nil]; omega)
  refine wpAny_pure ?_
  refine wpAny_bind (m := load s.heap.objs.size) ?_
  refine wpAny_load (get?_update_seq (Heap.get?_push_size _ rfl) _) ?_
  show wpAny _ _ (pure ((#[] : Array Value) ++ us.toArray).toList) Q E _
  have e : ((#[] : Array Value) ++ us.toArray).toList = us := by simp
  rw [e]
  exact wpAny_pure h
end
end Fw
namespace Fw.LD
open PySem PySem.Spec PyProof.Rows L2 Fw
end Fw.LD
set_option maxHeartbeats 400000
namespace PySem.SeqAt
open AutoSeq1 (wpAny_loadPart')
open MeetsSeq
end PySem.SeqAt
namespace Fw
open PySem PySem.Spec PyProof.Rows L2
section
variable {X : Cx} {W : XW} {a b : Expr} {ma mb : ME}
end
end Fw
namespace Fw
open PySem PySem.Spec PyProof.Rows L2
section
variable {K : PySem.W.Frag} {ι ι' : Gh} {st st' : Sto} {H H' : Hp}
end
section
variable {X : Cx} {W : XW} {o i e : Expr} {mo mi me : ME} {pos tpos : Pos} {vs : Option (List Nat)}
end
def keysI (kvs : List (PyData × D)) : List Itm := kvs.map fun p => .one (.v p.1)
def PD1 (K : PySem.W.Frag) (ι : Gh) (st : Sto) (H : Hp) (Q : VK) (kvs : List (PyData × D)) (st' : Sto) : Prop :=
  ∀ ι' H' xs p, SRel K ι' st' H' → Ext ι st H ι' st' H' → RK K ι' st' H' kvs xs → H' p = none → HF (upd H' p (.dK xs)) → Q (.ref p) (upd H' p (.dK xs))
theorem PD1.ext {K : PySem.W.Frag} {ι ι' : Gh} {st st' s2 : Sto} {H H' : Hp} {Q : VK} {kvs : List (PyData × D)} (h : PD1 K ι st H Q kvs s2) (e : Ext ι st H ι' st' H') : PD1 K ι' st' H' Q kvs s2 :=
  fun ι2 H2 xs p R E r => h ι2 H2 xs p R (e.trans E) r
section
variable {X : Cx} {W : XW} {kx vx tg iter : Expr} {ifs : List Expr} {scope : Scope} {own : List (Str × Nat)} {pos : Pos} {mi : MI} {g : MG} {t : MT} {mk mv : ME}
end
section
variable {st : Sto} {env : Ev} {N : Ev → Sto → Prop} {T : D → Sto → Prop}
end
end Fw
namespace Fw
open PySem PySem.Spec PyProof.Rows L2
section
variable {K : PySem.W.Frag} {ι ι1 : Gh} {st s1 : Sto} {H H1 : Hp}
theorem Mk.ev {ι' : Gh} {st' : Sto} {H' : Hp} (m : Mk ι st H ι' st' H') {σ : L2.St} {env : Ev} (h : EvR K ι st H σ env) : EvR K ι' st' H' σ env :=
  ⟨h.1, fun i d q => let ⟨x, h1, h2⟩ := h.2 i d q; ⟨x, h1, m.rd h2⟩⟩
end
end Fw
namespace Fw.LE
open PySem PySem.Spec PyProof.Rows L2 Fw
noncomputable abbrev f_law_pick : FF := Fw.LA.f_law_pick
noncomputable abbrev f_law_any_order : FF := Fw.LA.f_law_any_order
end Fw.LE
namespace Fw
open PySem PySem.Spec PyProof.Rows L2
theorem RDs.app {K : PySem.W.Frag} {ι : Gh} {st : Sto} {H : Hp} : ∀ {xs ys : List V} {ds es : List D}, RDs K ι st H xs ds → RDs K ι st H ys es → RDs K ι st H (xs ++ ys) (ds ++ es)
  | _, _, _, _, .nil, s => s
  | _, _, _, _, .cons h r, s => .cons h (RDs.app r s)
end Fw
namespace L2
open PySem PySem.Spec PyProof.Rows
section
variable {X : Cx} {e : Expr} {te : TE} {p apos cpos pos : Pos}
end
end L2
namespace Fw
open PySem PySem.Spec PyProof.Rows L2
end Fw
namespace Fw
open PySem PySem.Spec PyProof.Rows L2
section
variable {X : Cx} {W : XW} {elt tg iter tg1 iter1 : Expr} {ifs ifs1 : List Expr} {scope : Scope} {own own1 : List (Str × Nat)} {pos : Pos} {mi mi1 : MI} {g g1 : MG} {t t1 : MT} {m : ME}
end
end Fw
namespace L2
open PySem PySem.Spec PyProof.Rows
section
variable {X : Cx}
end
end L2
namespace Fw
open PySem PySem.Spec PyProof.Rows L2
section
variable {K : PySem.W.Frag} {ι : Gh} {st : Sto} {H : Hp}
end
section
variable {X : Cx} {W : XW} {a b : Expr} {m ma mb : ME} {p q pos pos2 : Pos}
end
end Fw
namespace Fw.LF
open PySem PySem.Spec PyProof.Rows L2 Fw
noncomputable abbrev f_law_pick : FF := Fw.LA.f_law_pick
end Fw.LF
namespace Fw
open PySem PySem.Spec PyProof.Rows L2
end Fw
namespace RZ
open PySem PySem.Spec PyProof.Rows L2
end RZ
namespace Fw
open PySem PySem.Spec PyProof.Rows L2
end Fw
namespace Fw
open PySem PySem.Spec PyProof.Rows L2
end Fw
namespace L2
open PySem PySem.Spec PyProof.Rows
section
variable {X : Cx} {pins : List (Addr × Obj)} {σ : St} {H : Hp} {s : Shared} {a b : Addr} {kvs more : List (Key × V)} {A : Around} {E : Value → Shared → Prop}
end
end L2
namespace Fw
open PySem PySem.Spec PyProof.Rows L2
end Fw
namespace RZ
open PySem PySem.Spec PyProof.Rows L2
end RZ
namespace Fw
open PySem PySem.Spec PyProof.Rows L2
end Fw
namespace Fw
open PySem PySem.Spec PyProof.Rows L2
end Fw
namespace Fw
open PySem PySem.Spec PyProof.Rows L2
open PySem.W (AllAlike Sortable dataLe dataLt alike alikeAll sortVals dataKind sortingHeap EachIs)
section
variable {prog : Program} {w : World} {A : Around} {E : Value → Shared → Prop} {s : Shared} {M : Model}
theorem mapM_fun {α β : Type} {f : α → Sem β} (g : α → β) : ∀ (l : List α) {Q : List β → Shared → Prop}, (∀ v ∈ l, ∀ Q' : β → Shared → Prop, Q' (g v) s → wpAny M A (f v) Q' E s) → Q (l.map g) s → wpAny M A (l.mapM f) Q E s
  | [], _, _, h => by rw [List.mapM_nil]; exact wpAny_pure h
  | x :: l, Q, hf, h => by
    rw [List.mapM_cons]
    exact wpAny_bind (hf x (.head _) _ (wpAny_bind (mapM_fun g l (Q := fun bs s' => wpAny M A (pure (g x :: bs)) Q E s') (fun v hv => hf v (.tail _ hv)) (wpAny_pure h))))
def fstV (h : Heap) (v : Value) : Option Value := match v with
  | .ref a => match h.get? a with
    | some o => match o.data with
      | .seq xs _ => xs[0]?
      | _ => none
    | none => none
  | _ => none
theorem tups_kind {vs : List Value} {ds : List PyData} {Q : SortKind → Shared → Prop} (e : EachIs (fun v d => ∃ as, Reads s.heap v d as) vs ds) (ht : ∀ d ∈ ds, ∃ xs, d = .tuple xs) (hne : .tuple [] ∈ ds) (h : Q (if ((vs.map (fstV s.heap)).toArray[0]?.bind id).isSome = true then general' else oneType') s) :
    wpAny M A (keyKind' vs.toArray) Q E s := by
  have look : ∀ v ∈ vs, ∃ a o xs n, v = .ref a ∧ s.heap.get? a = some o ∧ o.cls = .type "tuple" ∧ o.data = .seq xs n := fun v hv => by
    obtain ⟨d, hd, as, r⟩ := e.left v hv
    obtain ⟨xs, rfl⟩ := ht d hd
    cases r with
    | tuple h1 h2 h3 h4 => exact ⟨_, _, _, _, rfl, h1, h2, h3⟩
  have ty : ∀ v ∈ vs, PySem.W.Looks M s.heap (typeOf v) (Value.type "tuple") := fun v hv => by
    obtain ⟨d, hd, as, r⟩ := e.left v hv
    obtain ⟨xs, rfl⟩ := ht d hd
    exact PySem.W.looks_reads r
  have emp : ∃ v ∈ vs, fstV s.heap v = none := by
    have : ∀ {vs : List Value} {ds : List PyData}, EachIs (fun v d => ∃ as, Reads s.heap v d as) vs ds → .tuple [] ∈ ds → ∃ v ∈ vs, ∃ as, Reads s.heap v (.tuple []) as := fun {vs ds} e => by
      induction e with
      | nil => intro h; cases h
      | cons r t ih =>
        intro h
        rcases List.mem_cons.mp h with q | q
        · exact ⟨_, List.mem_cons_self, by rw [q]; exact r⟩
        · obtain ⟨v, hv, q⟩ := ih q
          exact ⟨v, List.mem_cons_of_mem _ hv, q⟩
    obtain ⟨v, hv, as, r⟩ := this e hne
    refine ⟨v, hv, ?_⟩
    cases r with
    | @tuple a o xs n _ _ h1 h2 h3 h4 =>
      have : xs.toList = [] := by
        cases q : xs.toList with
        | nil => rfl
        | cons x r => rw [q] at h4; cases h4
      have hx : xs = #[] := Array.toList_inj.mp (by rw [this])
      show (match s.heap.get? a with
        | some o => match o.data with
          | .seq xs _ => xs[0]?
          | _ => none
        | none => none) = none
      rw [h1]
      show (match o.data with
        | .seq xs _ => xs[0]?
        | _ => none) = none
      rw [h3, hx]
      rfl
  rw [kat_kind_eq, List.mapM_toArray, map_eq_pure_bind]
  refine wpAny_bind (wpAny_bind (mapM_fun (fstV s.heap) vs (fun v hv Q' hq => ?_) (wpAny_pure ?_)))
  · obtain ⟨a, o, xs, n, rfl, h1, h2, h3⟩ := look v hv
    rw [PySem.W.kas_first_eq]
    refine wpAny_bind ((ty _ hv).here ?_)
    rw [if_neg (by simp)]
    refine wpAny_bind (listItems_at h1 h3 ?_)
    refine wpAny_pure ?_
    have e0 : fstV s.heap (.ref a) = xs[0]? := by
      show (match s.heap.get? a with
        | some o => match o.data with
          | .seq xs _ => xs[0]?
          | _ => none
        | none => none) = _
      rw [h1]
      show (match o.data with
        | .seq xs _ => xs[0]?
        | _ => none) = _
      rw [h3]
    rw [e0] at hq
    exact hq
  · have hall : ((vs.map (fstV s.heap)).toArray.all fun x => x.isSome) = false := by
      obtain ⟨v, hv, hn⟩ := emp
      rw [List.all_toArray, List.all_eq_false]
      exact ⟨_, List.mem_map.mpr ⟨v, hv, hn⟩, by simp⟩
    rw [hall, if_neg Bool.false_ne_true]
    by_cases hg : ((vs.map (fstV s.heap)).toArray[0]?.bind id).isSome = true
    · rw [if_pos hg] at h ⊢
      exact wpAny_pure h
    · rw [if_neg hg] at h ⊢
      rw [oneTypeOnly'_eq, List.mapM_toArray, map_eq_pure_bind]
      refine wpAny_bind (wpAny_bind (wpAny_bind (PySem.W.kas_mapM (r := Value.type "tuple") _ (fun v hv Q' hq => (ty v hv).here hq) (wpAny_pure ?_))))
      obtain ⟨v, hv, _⟩ := emp
      cases vs with
      | nil => cases hv
      | cons v1 rest =>
        have hall2 : ((List.map (fun _ => Value.type "tuple") (v1 :: rest)).toArray.all fun x => x == Value.type "tuple") = true := by
          simp only [List.all_toArray, List.all_map, List.all_eq_true]
          intro _ _
          exact beq_self_eq_true _
        have h0 : (List.map (fun _ => Value.type "tuple") (v1 :: rest)).toArray[0]? = some (Value.type "tuple") := by simp
        rw [h0]
        simp only [hall2, if_true]
        exact wpAny_pure (wpAny_pure h)
theorem oneLt_tups {f : Bool} {xs ys : List PyData} {a b : Value} {as bs : List Addr} {Q : Bool → Shared → Prop} (ra : Reads s.heap a (.tuple xs) as) (rb : Reads s.heap b (.tuple ys) bs) (h : alike (.tuple xs) (.tuple ys) = true)
    (hu : A.units + min (PyData.tuple xs).depth (PyData.tuple ys).depth < cLine) (hq : Q (dataLt (.tuple xs) (.tuple ys)) s) : wpAny (model prog w) A (oneLt' f a b) Q E s := by
  cases f with
  | false =>
    rw [oneLt'_eq]
    simp only [Bool.false_eq_true, if_false]
    exact wpAny_bind (PySem.W.rcLt_alike _ _ A s a b as bs ra rb h nofun hu prog w E _ (wpAny_truthy_bool hq))
  | true =>
    have hal : alikeAll xs ys = true := by simpa [alike] using h
    cases ra with
    | @tuple l o vs n _ as1 h1 h2 h3 h4 =>
      cases rb with
      | @tuple l' o' vs' n' _ bs1 k1 k2 k3 k4 =>
        have n1 : vs.size = xs.length := by simpa using PySem.SeqAt.ReadsAll.length _ _ _ h4
        have n2 : vs'.size = ys.length := by simpa using PySem.SeqAt.ReadsAll.length _ _ _ k4
        rw [PySem.W.dataLt_tuple, ← PySem.W.firstLt_toks xs ys hal, ← n1, ← n2] at hq
        rw [oneLt'_eq]
        simp only [if_true]
        refine wpAny_bind (wpAny_cRoomFor (PySem.SeqAt.room_here hu) ?_)
        have hl : s.heap.IsTuple l vs := ⟨_, h1, h2, _, h3⟩
        have hb : s.heap.IsTuple l' vs' := ⟨_, k1, k2, _, k3⟩
        have he : ∀ j (j1 : j < vs.size) (j2 : j < vs'.size), PySem.SeqAt.EqAt A.in1 s vs[j] vs'[j] (PySem.SeqAt.pairEq xs ys j) := fun j j1 j2 => by
          have := PySem.W.eqAt_alikeAll xs ys A.in1 s vs.toList vs'.toList _ _ h4 k4 hal (PySem.SeqAt.room_in hu) j (by simpa using j1) (by simpa using j2)
          simpa using this
        have hr : ∀ j (j1 : j < vs.size) (j2 : j < vs'.size), PySem.SeqAt.pairEq xs ys j = false → PySem.SeqAt.RcLt A.in1 s vs[j] vs'[j] ((fun j => dataLt (xs.getD j .none) (ys.getD j .none)) j) := fun j j1 j2 hj => by
          have := PySem.W.rcLt_alikeAll xs ys A.in1 s vs.toList vs'.toList _ _ h4 k4 hal (PySem.SeqAt.room_in hu) j (by simpa using j1) (by simpa using j2) hj
          simpa using this
        obtain ⟨⟨cls, dd, data, sl⟩, ho, hc, m, hd⟩ := id hl
        obtain ⟨⟨cls2, dd2, data2, sl2⟩, ho2, hc2, m2, hd2⟩ := id hb
        simp only at hc hd hc2 hd2
        subst hc hd hc2 hd2
        refine wpAny_bind (wpAny_callSpecialIfBound?_slot (T := "tuple") ⟨_, ho, rfl⟩ F.slot_tuple_lt (call_meets F.slot_tuple_lt ⟨_, ho, rfl⟩ F.entry_tuple_lt (F.args_tuple_lt_2 _ _) (PySem.SeqAt.tuple_ltAt l l' vs vs' m m2 dd dd2 sl sl2 (PySem.SeqAt.pairEq xs ys) (fun j => dataLt (xs.getD j .none) (ys.getD j .none))) ⟨ho, ho2, he, hr, ?_⟩))
        exact wpAny_truthy_bool hq
theorem sortsAt_tups {vs : List Value} {ds : List PyData} (e : EachIs (fun v d => ∃ as, Reads s.heap v d as) vs ds) (hal : AllAlike ds) (ht : ∀ d ∈ ds, ∃ xs, d = .tuple xs) (hne : .tuple [] ∈ ds) (hu : ∀ d, d ∈ ds → A.units + d.depth < cLine) : PySem.W.SortsAt prog w A s (dataKind s.heap ds) vs := by
  refine ⟨fun v hv => ?_, ?_⟩
  · obtain ⟨d, hd, as, r⟩ := e.left v hv
    exact ⟨_, PySem.W.dataKind_some hal hd r⟩
  · have both : ∀ kd, (kd = general' ∨ kd = oneType') → H.LtAt prog w A s (dataKind s.heap ds) kd := fun kd hkd E x y a b Q ha hb hq => by
      obtain ⟨d, as, hd, ra, rfl⟩ := PySem.W.dataKind_inv ha
      obtain ⟨d', as', hd', rb, rfl⟩ := PySem.W.dataKind_inv hb
      obtain ⟨xs, rfl⟩ := ht d hd
      obtain ⟨ys, rfl⟩ := ht d' hd'
      have room : A.units + min (PyData.tuple xs).depth (PyData.tuple ys).depth < cLine := Nat.lt_of_le_of_lt (Nat.add_le_add_left (Nat.min_le_left _ _) _) (hu _ hd)
      rcases hkd with rfl | rfl
      · rw [show keyLt' general' x y = oneLt' false x y from rfl]
        exact oneLt_tups ra rb (hal _ hd _ hd') room hq
      · rw [keyLt'_oneType]
        exact oneLt_tups ra rb (hal _ hd _ hd') room hq
    refine ⟨if ((vs.map (fstV s.heap)).toArray[0]?.bind id).isSome = true then general' else oneType', both _ ?_, fun _ E Q q => tups_kind e ht hne q⟩
    split
    · exact .inl rfl
    · exact .inr rfl
end
def Sort2 (ds : List PyData) : Prop := Sortable ds ∨ ∀ d ∈ ds, ∃ xs, d = .tuple xs
theorem sortsAt2 {prog : Program} {w : World} {A : Around} {s : Shared} {vs : List Value} {ds : List PyData} (e : EachIs (fun v d => ∃ as, Reads s.heap v d as) vs ds) (hal : AllAlike ds) (hk : Sort2 ds) (hu : ∀ d, d ∈ ds → A.units + d.depth < cLine) : PySem.W.SortsAt prog w A s (dataKind s.heap ds) vs := by
  rcases hk with hk | hk
  · exact PySem.W.SortsAt.data e hal hk hu
  · by_cases hne : PyData.tuple [] ∈ ds
    · exact sortsAt_tups e hal hk hne hu
    · refine PySem.W.SortsAt.data e hal (.inl fun d hd => ?_) hu
      obtain ⟨xs, rfl⟩ := hk d hd
      cases xs with
      | nil => exact absurd hd hne
      | cons x r => exact ⟨x, r, rfl⟩
section
variable {prog : Program} {w : World} {A : Around} {E : Value → Shared → Prop} {s : Shared}
theorem sorted_col {x : Value} {us : List Value} {β : Type} {bs : List β} {enc : β → PyData} {R : Value → β → Prop} {Q : Value → Shared → Prop}
    (col : ∀ (R : List Value → Shared → Prop) (E' : Value → Shared → Prop), (∀ h' tk, (∀ b o, s.heap.get? b = some o → h'.get? b = some o) → R us { s with heap := h', toks := tk }) → wpAny (model prog w) A.in1 (collect x) R E' s)
    (e : EachIs R us bs) (er : EachIs (fun v b => ∃ as, Reads s.heap v (enc b) as) us bs) (hal : AllAlike (bs.map enc)) (hk : Sort2 (bs.map enc)) (hL : bs.length ≤ sizeLine) (hu : ∀ b, b ∈ bs → A.units + 2 + (enc b).depth < cLine)
    (h : ∀ (out : List Value) (h1 h2 : Heap) (tk c : Nat), (∀ b o, s.heap.get? b = some o → h1.get? b = some o) → (∀ b o, h1.get? b = some o → h2.get? b = some o) → h2.get? h1.objs.size = some (seqObj "list" (List.toArray out) c) → EachIs R out (bs.mergeSort (dataLe false enc)) → Q (.ref h1.objs.size) { s with heap := h2, toks := tk }) :
    wpAny (model prog w) A (call (.builtin "sorted") [x]) Q E s := by
  have hl : us.length = bs.length := e.length
  refine Calls.call_function_entry kind_sorted plain_sorted entry_sorted (args_sorted1 _) ?_
  unfold Builtin.«sorted»
  refine wpAny_bind (m := checkCount "sorted" 1 1 _) (wpAny_pure ?_)
  refine wpAny_bind (col _ _ fun h1 tk hk1 => ?_)
  refine wpAny_bind (wpAny_newList ?_ (by rw [hl]; exact hL))
  have hoL : (h1.push (seqObj "list" us.toArray 0)).get? h1.objs.size = some (seqObj "list" us.toArray 0) := Heap.get?_push_size _ rfl
  have k1 : ∀ b o, h1.get? b = some o → (h1.push (seqObj "list" us.toArray 0)).get? b = some o := fun b o q => Heap.get?_push_of_some _ q
  have ne : ∀ b o, h1.get? b = some o → b ≠ h1.objs.size := fun b o q => Nat.ne_of_lt (Heap.lt_size q)
  have k2 : ∀ b o, h1.get? b = some o → (sortingHeap (h1.push (seqObj "list" us.toArray 0)) h1.objs.size us).get? b = some o := fun b o q => PySem.W.sortingHeap_old (ne b o q) (k1 b o q)
  have er' : EachIs (fun v b => ∃ as, Reads (sortingHeap (h1.push (seqObj "list" us.toArray 0)) h1.objs.size us) v (enc b) as) us bs := er.mono fun _ _ ⟨as, r⟩ => ⟨as, PyProof.Rows.Reads.keeps (fun b o q => k2 b o (hk1 b o q)) r⟩
  show wpAny _ _ _ _ _ { s with heap := h1.push (seqObj "list" us.toArray 0), toks := tk }
  refine wpAny_bind (wpAny_holding (wpAny_call_entry slot_list_sort ⟨_, hoL, rfl⟩ entry_list_sort ?_ (args_list_sort _)))
  refine PySem.W.list_sort_vals (κ := dataKind (sortingHeap (h1.push (seqObj "list" us.toArray 0)) h1.objs.size us) (bs.map enc)) hoL (sortsAt2 (s := { s with heap := sortingHeap (h1.push (seqObj "list" us.toArray 0)) h1.objs.size us, toks := tk }) (PySem.W.each_map (R := fun v d => ∃ as, Reads (sortingHeap (h1.push (seqObj "list" us.toArray 0)) h1.objs.size us) v d as) enc er') hal hk (PySem.W.bound_map (A := A.in1.in1) hu)) (by rw [hl]; exact hL) ⟨.none, rfl, ?_⟩
  refine wpAny_pure ⟨_, rfl, ?_⟩
  obtain ⟨c, hc⟩ := PyProof.Rows.sortedHeap_at (vs := us) (out := (sortVals (dataKind (sortingHeap (h1.push (seqObj "list" us.toArray 0)) h1.objs.size us) (bs.map enc)) false us us).toArray) hoL
  refine h _ h1 _ tk c hk1 (fun b o q => ?_) hc (PySem.W.sortVals_data false e er' hal)
  rw [PyProof.Rows.sortedHeap_old (ne b o q) (Heap.lt_size (k1 b o q))]
  exact k1 b o q
theorem collect_tup {l : Addr} {us : List Value} (ht : IsTup s.heap l us.toArray) (hz : us.length ≤ sizeLine) (R : List Value → Shared → Prop) (E' : Value → Shared → Prop)
    (h : ∀ h' tk, (∀ b o, s.heap.get? b = some o → h'.get? b = some o) → R us { s with heap := h', toks := tk }) : wpAny (model prog w) A (collect (.ref l)) R E' s :=
  gather_tup ht hz (h _ s.toks fun b o q => by
    have hlt : b < s.heap.objs.size := Heap.lt_size q
    rw [Heap.get?_update_ne _ _ _ _ (Nat.ne_of_lt hlt), Heap.get?_push_ne _ _ _ (Nat.ne_of_lt hlt)]
    exact q)
theorem collect_lst {l : Addr} {us : List Value} (ht : s.heap.IsList l us.toArray) (hz : us.length ≤ sizeLine) (R : List Value → Shared → Prop) (E' : Value → Shared → Prop)
    (h : ∀ h' tk, (∀ b o, s.heap.get? b = some o → h'.get? b = some o) → R us { s with heap := h', toks := tk }) : wpAny (model prog w) A (collect (.ref l)) R E' s :=
  collect_list ht (h _ s.toks fun b o q => by
    have hlt : b < s.heap.objs.size := Heap.lt_size q
    rw [Heap.get?_update_ne _ _ _ _ (Nat.ne_of_lt hlt), Heap.get?_push_ne _ _ _ (Nat.ne_of_lt hlt)]
    exact q) hz
end
def rSortG (K : PySem.W.Frag) : List V → Hp → VK → Prop := fun vs H Q => ∃ (a : Addr) (xs : List V) (zs : List PyData), vs = [V.ref a] ∧ (SqL K H a xs ∨ SqT K H a xs) ∧ DpAll K H xs zs ∧ AllAlike zs ∧ Sort2 zs ∧ (∀ d ∈ zs, d.depth ≤ 50) ∧
  ∀ (ps : List (V × PyData)) (p : Addr), ps.Perm (xs.zip zs) → ps.map (·.2) = zs.mergeSort (dataLe false id) → H p = none → Q (.ref p) (upd H p (.lst (ps.map (·.1))))
theorem dpAll_len {K : PySem.W.Frag} {H : Hp} : ∀ {xs : List V} {zs : List PyData}, DpAll K H xs zs → xs.length = zs.length
  | _, _, .nil => rfl
  | _, _, .cons _ r => by rw [List.length_cons, List.length_cons, dpAll_len r]
section
variable {X : Cx} {pins : List (Addr × Obj)} {σ : L2.St} {H : Hp} {s : Shared}
theorem each_vals : ∀ {xs : List V} {zs : List PyData} {us : List Value}, Vals xs us → DpAll X.K H xs zs → EachIs (fun v (b : V × PyData) => RelV b.1 v) us (xs.zip zs)
  | _, _, _, .nil, .nil => .nil
  | _, _, _, .cons h r, .cons h2 r2 => .cons h (each_vals r r2)
theorem each_reads (I : Inv X pins σ H s) : ∀ {xs : List V} {zs : List PyData} {us : List Value}, Vals xs us → DpAll X.K H xs zs → EachIs (fun v (b : V × PyData) => ∃ as, Reads s.heap v b.2 as) us (xs.zip zs)
  | _, _, _, .nil, .nil => .nil
  | _, _, _, .cons h r, .cons h2 r2 => .cons (Dp.reads I _ _ _ h2 h) (each_reads I r r2)
theorem vals_each : ∀ {us : List Value} {ps : List (V × PyData)}, EachIs (fun v (b : V × PyData) => RelV b.1 v) us ps → Vals (ps.map (·.1)) us
  | _, _, .nil => .nil
  | _, _, .cons h r => .cons h (vals_each r)
theorem cr_sortG (g : Gd X) : CallR X (.builtin "sorted") (rSortG X.K) := by
  rintro pins s σ H vs us Q I r ⟨a, xs, zs, rfl, hs, hd, hal, hk, hdep, q⟩
  rw [Vals.ref1 r]
  have hlz := dpAll_len hd
  have key : ∀ its : List Value, Vals xs its → xs.length ≤ sizeLine → (∀ (R : List Value → Shared → Prop) (E' : Value → Shared → Prop), (∀ h' tk, (∀ b o, s.heap.get? b = some o → h'.get? b = some o) → R its { s with heap := h', toks := tk }) → wpAny (model X.prog X.w) X.A.in1 (collect (.ref a)) R E' s) →
      wpAny (model X.prog X.w) X.A (call (.builtin "sorted") [.ref a]) (EP X pins σ Q) X.xe s := by
    intro its rv hz col
    have e2 : (xs.zip zs).map (fun b : V × PyData => b.2) = zs := by
      rw [List.map_snd_zip]
      exact Nat.le_of_eq hlz.symm
    refine sorted_col (enc := fun b : V × PyData => b.2) col (each_vals rv hd) (each_reads I rv hd) (by rw [e2]; exact hal) (by rw [e2]; exact hk) (by rw [List.length_zip]; omega) (fun b hb => ?_) fun out h1 h2 tk c k1 k2 hc eo => ?_
    · have := hdep b.2 (by rw [← e2]; exact List.mem_map.mpr ⟨b, hb, rfl⟩)
      have := g.un
      omega
    · have I1 : Inv X pins σ H { s with heap := h1, toks := tk } := I.kept k1
      have hp := List.mergeSort_perm (xs.zip zs) (dataLe false fun b : V × PyData => b.2)
      have hlen : (((xs.zip zs).mergeSort (dataLe false fun b : V × PyData => b.2)).map (·.1)).length ≤ sizeLine := by
        rw [List.length_map, hp.length_eq, List.length_zip]
        omega
      refine ⟨.ref _, _, I1.laid (t' := tk) (o := .lst (((xs.zip zs).mergeSort (dataLe false fun b : V × PyData => b.2)).map (·.1))) k2 (Nat.le_refl _) ⟨hlen, out, c, vals_each eo, hc⟩, rfl, q _ _ hp ?_ (I1.hok.fresh (Nat.le_refl _))⟩
      rw [List.map_mergeSort (r := dataLe false fun b : V × PyData => b.2) (s := dataLe false id) (f := fun b : V × PyData => b.2) fun _ _ _ _ => rfl, e2]
  rcases hs with hs | hs
  · obtain ⟨its, rv, hl, hz⟩ := I.list hs
    exact key its rv hz fun R E' h => collect_lst hl.isList (by rw [← rv.length]; exact hz) R E' h
  · obtain ⟨its, rv, hl, hz⟩ := I.tuple hs
    exact key its rv hz fun R E' h => collect_tup hl (by rw [← rv.length]; exact hz) R E' h
end
def alikeB (zs : List PyData) : Bool := zs.all fun d => zs.all fun e => alike d e
def sortB (zs : List PyData) : Bool := (zs.all fun d => match d with
  | .tuple _ => true
  | _ => false) || zs.all fun d => match d with
  | .tuple _ => false
  | .none => false
  | _ => true
theorem alikeB_ok {zs : List PyData} (h : alikeB zs = true) : AllAlike zs := fun d hd e he => List.all_eq_true.mp (List.all_eq_true.mp h d hd) e he
theorem sortB_ok {zs : List PyData} (h : sortB zs = true) : Sort2 zs := by
  unfold sortB at h
  rcases (Bool.or_eq_true _ _).mp h with h | h
  · refine .inr fun d hd => ?_
    have := List.all_eq_true.mp h d hd
    split at this
    · exact ⟨_, rfl⟩
    · cases this
  · refine .inl (.inr fun d hd => ?_)
    have := List.all_eq_true.mp h d hd
    split at this
    · cases this
    · cases this
    · rename_i h1 h2
      exact ⟨h2, h1⟩
def sorB (zs : List PyData) : Bool := alikeB zs && sortB zs && (zs.all fun d => decide (d.depth ≤ 50)) && !PyData.hasDictAll zs
def gSortG : GA := fun ds st => match ds with
  | [x] => match viewS st x with
    | some zs => if sorB zs then .ok (zs.mergeSort (dataLe false id)) st else .stuck
    | none => .stuck
  | _ => .stuck
theorem rpA_of_perm {F : Addr → Prop} {H : Hp} : ∀ {xs : List V} {zs : List PyData}, RpA F H xs zs → ∀ b ∈ xs.zip zs, Rp F H b.1 b.2
  | _, _, .nil, b, hb => by cases hb
  | _, _, .cons h r, b, hb => by
    rw [List.zip_cons_cons] at hb
    rcases List.mem_cons.mp hb with rfl | hb
    · exact h
    · exact rpA_of_perm r b hb
theorem rpA_all {F : Addr → Prop} {H : Hp} : ∀ {ps : List (V × PyData)}, (∀ b ∈ ps, Rp F H b.1 b.2) → RpA F H (ps.map (·.1)) (ps.map (·.2))
  | [], _ => .nil
  | b :: r, h => .cons (h b List.mem_cons_self) (rpA_all fun c hc => h c (List.mem_cons_of_mem _ hc))
theorem opF_sortG {K : PySem.W.Frag} {W : XW} : OpFA K W (rSortG K) gSortG := by
  intro ι st H xs ds Q R r p
  unfold gSortG at p
  split at p
  · rename_i x
    obtain ⟨y, rfl, r1⟩ := r.one
    split at p
    · rename_i zs e
      split at p
      · rename_i hc
        unfold sorB at hc
        simp only [Bool.and_eq_true, Bool.not_eq_true'] at hc
        obtain ⟨⟨⟨h1, h2⟩, h3⟩, h4⟩ := hc
        obtain ⟨q, us, rfl, hq, hr⟩ := viewS_atF R e r1
        refine ⟨q, us, zs, rfl, ?_, hr.dp h4, alikeB_ok h1, sortB_ok h2, fun d hd => of_decide_eq_true (List.all_eq_true.mp h3 d hd), fun ps b hp hs hb hf => ?_⟩
        · rcases hq with hq | ⟨⟨o, hq, _⟩, _⟩
          · exact .inl (.of hq)
          · exact .inr (.inl (.inr ⟨o, hq⟩))
        · have := rpA_all (fun c hc => rpA_of_perm hr c (hp.mem_iff.mp hc))
          rw [hs] at this
          exact p.new R this b hb hf
      · exact p.elim
    · exact p.elim
  · exact p.elim
theorem xf_sortG {X : Cx} {W : XW} {e : Expr} {es : List Expr} {m : MA} {p pos : Pos} {x : Str} (gd : Gd X) (hg : Gl X x) (hm : X.mg x = none) (hv : bootBuiltins x = some (.builtin "sorted")) (ha : PA X (e :: es) (TAo X.K W m)) (hn : x ≠ "__name__" := by decide) (hdb : (x == ("__debug__" : Str)) = false := by decide)
    (he : starEach (e :: es) X.env = (false, eval e X.env) :: starEach es X.env := by rfl) (hpl : (backTo pos (starEach es X.env)).any (·.1) = false := by rfl) :
    PE X (.Call (.Name x p) (e :: es) [] pos) (TFo X.K W (mfArg gSortG m)) := pf_wrap (pe_callB (cr_sortG gd) hg hm hv ha hn hdb he hpl) fun σ H Q q => tf_arg opF_sortG q
end Fw
namespace Fw
open PySem PySem.Spec PyProof.Rows L2
section
variable {prog : Program} {w : World} {h0 : Heap}
variable {A : Around} {E : Value → Shared → Prop} {s : Shared} {Q : Value → Shared → Prop} {a : Addr} {d : PyData} {as : List Addr}
end
mutual
/-- dicts with keys of whole numbers and texts alone -/
def kOk : PyData → Bool
  | .none | .bool _ | .int _ | .str _ => true
  | .list xs => kOkA xs
  | .tuple xs => kOkA xs
  | .dict kvs => kOkK kvs
def kOkA : List PyData → Bool
  | [] => true
  | x :: r => kOk x && kOkA r
def kOkK : List (PyData × PyData) → Bool
  | [] => true
  | (k, v) :: r => (key1 k).isSome && kOk v && kOkK r
end
section
variable {X : Cx} {pins : List (Addr × Obj)} {σ : L2.St} {H : Hp} {s : Shared} {F : Addr → Prop}
end
def fReprM : FA := fun ds st => match ds with
  | [.v z] => if kOk z && z.showable && decide (z.depth ≤ 60) && decide (z.shown.length ≤ lim) then .ok (.v (.str z.shown)) st else fReprK ds st
  | ds => fReprK ds st
end Fw
namespace Fw
open PySem PySem.Spec PyProof.Rows L2
section
variable {X : Cx} {pins : List (Addr × Obj)} {σ : L2.St} {H : Hp} {s : Shared} {x y : V} {v u : Value} {k : Bool} {Q : VK}
end
section
variable {X : Cx} {W : XW} {a b : Expr} {ma mb : ME}
end
section
variable {xs ys : List PyData} {st : Sto}
end
end Fw
namespace Fw
open PySem PySem.Spec PyProof.Rows L2
end Fw
namespace Fw.LG
open PySem PySem.Spec PyProof.Rows L2 Fw
noncomputable abbrev f_law_pick : FF := Fw.LA.f_law_pick
end Fw.LG
namespace Fw
open PySem PySem.Spec PyProof.Rows L2
mutual
theorem keyN_hash (w w' : World) : ∀ (d : PyData) (k : NestedKey), keyN d = some k → k.hash w = k.hash w'
  | .none, k, e => by rw [keyN] at e; cases e; rfl
  | .int i, k, e => by rw [keyN] at e; cases e; rfl
  | .tuple ds, k, e => by
    rw [keyN] at e
    obtain ⟨ks, e1, rfl⟩ := Option.map_eq_some_iff.mp e
    rw [NestedKey.hash, NestedKey.hash, keyNA_hash w w' ds ks e1]
  | .bool _, k, e => by rw [keyN] at e <;> first | cases e | (intros; intro z; cases z)
  | .str _, k, e => by rw [keyN] at e <;> first | cases e | (intros; intro z; cases z)
  | .list _, k, e => by rw [keyN] at e <;> first | cases e | (intros; intro z; cases z)
  | .dict _, k, e => by rw [keyN] at e <;> first | cases e | (intros; intro z; cases z)
theorem keyNA_hash (w w' : World) : ∀ (ds : List PyData) (ks : List NestedKey), keyNA ds = some ks → NestedKey.hashes w ks = NestedKey.hashes w' ks
  | [], ks, e => by rw [keyNA] at e; cases e; rfl
  | d :: ds, ks, e => by
    rw [keyNA] at e
    split at e
    · rename_i k l h1 h2
      cases e
      rw [NestedKey.hashes, NestedKey.hashes, keyN_hash w w' d k h1, keyNA_hash w w' ds l h2]
    · cases e
end
theorem keyP_at {d : PyData} {k : NestedKey} (e : keyP d = some k) : keyN d = some k ∧ k.depth ≤ 8 := by
  unfold keyP at e
  split at e
  · split at e
    · rename_i k' h
      split at e
      · rename_i hd
        cases e
        exact ⟨h, hd⟩
      · cases e
    · cases e
  · cases e
section
variable {X : Cx} {pins : List (Addr × Obj)} {σ : L2.St} {H : Hp} {s : Shared} {F : Addr → Prop}
mutual
theorem rp_nest (I : Inv X pins σ H s) : ∀ (d : PyData) (v : L2.V) (u : Value) (k : NestedKey), Rp F H v d → keyN d = some k → RelV v u → NestedIs s.heap k u
  | .none, _, u, k, .non, e, r => by rw [keyN] at e; cases e; cases r; exact .none
  | .int i, _, u, k, .int _, e, r => by
    rw [keyN] at e
    cases e
    obtain ⟨t, rfl⟩ := r
    exact .int i t
  | .tuple ds, _, u, k, .tup (a := a) (xs := xs) (o := o) h1 _ _ h4, e, r => by
    rw [keyN] at e
    obtain ⟨ks, e1, rfl⟩ := Option.map_eq_some_iff.mp e
    cases (show u = Value.ref a from r)
    obtain ⟨h5, h6, its, rv, ob, h7, h8, n, h9⟩ := I.hok a _ h1
    exact .tup h7 h8 h9 (by simpa using rp_nestA I ds xs its ks h4 e1 rv)
  | .bool _, _, _, k, _, e, _ => by rw [keyN] at e <;> first | cases e | (intros; intro z; cases z)
  | .str _, _, _, k, _, e, _ => by rw [keyN] at e <;> first | cases e | (intros; intro z; cases z)
  | .list _, _, _, k, _, e, _ => by rw [keyN] at e <;> first | cases e | (intros; intro z; cases z)
  | .dict _, _, _, k, _, e, _ => by rw [keyN] at e <;> first | cases e | (intros; intro z; cases z)
theorem rp_nestA (I : Inv X pins σ H s) : ∀ (ds : List PyData) (vs : List L2.V) (us : List Value) (ks : List NestedKey), RpA F H vs ds → keyNA ds = some ks → Vals vs us → NestedAll s.heap ks us
  | [], _, _, ks, .nil, e, .nil => by rw [keyNA] at e; cases e; exact .nil
  | d :: ds, _, _, ks, .cons h t, e, .cons r rr => by
    rw [keyNA] at e
    split at e
    · rename_i k l h1 h2
      cases e
      exact .cons (rp_nest I d _ _ k h h1 r) (rp_nestA I ds _ _ l t h2 rr)
    · cases e
end
end
def KyH (H : Hp) (v : L2.V) (k : NestedKey) : Prop := ∃ F d, Rp F H v d ∧ keyP d = some k
structure TabH (H : Hp) (a : Addr) (xs : List (NestedKey × Addr × L2.V)) : Prop where
  at' : H a = some (TabO a xs)
  sys : (a == sysModules) = false
  nd : (xs.map (·.1)).Nodup
  len : xs.length ≤ sizeLine
  key : ∀ x ∈ xs, KyH H (.ref x.2.1) x.1
abbrev TR : List (NestedKey × Addr × L2.V) → List (NestedKey × Addr × Value) → Prop := Paired (fun p q => p.1 = q.1 ∧ p.2.1 = q.2.1 ∧ RelV p.2.2 q.2.2)
def hasT (xs : List (NestedKey × Addr × L2.V)) (k : NestedKey) : Bool := xs.any fun x => decide (x.1 = k)
def getT (xs : List (NestedKey × Addr × L2.V)) (k : NestedKey) : Option L2.V := (xs.find? fun x => decide (x.1 = k)).map (·.2.2)
def putT (xs : List (NestedKey × Addr × L2.V)) (k : NestedKey) (p : Addr) (v : L2.V) : List (NestedKey × Addr × L2.V) :=
  if hasT xs k = true then xs.map fun x => if x.1 = k then (x.1, x.2.1, v) else x else xs ++ [(k, p, v)]
theorem TR.keys : ∀ {xs ys}, TR xs ys → ys.map (·.1) = xs.map (·.1)
  | _, _, .nil => rfl
  | _, _, .cons h r => by rw [List.map_cons, List.map_cons, TR.keys r, h.1]
theorem TR.len : ∀ {xs ys}, TR xs ys → ys.length = xs.length
  | _, _, .nil => rfl
  | _, _, .cons h r => by rw [List.length_cons, List.length_cons, TR.len r]
theorem TR.mem : ∀ {xs ys}, TR xs ys → ∀ y ∈ ys, ∃ x ∈ xs, x.1 = y.1 ∧ x.2.1 = y.2.1
  | _, _, .nil, y, hy => by cases hy
  | _, _, .cons h r, y, hy => by
    rcases List.mem_cons.mp hy with rfl | hy
    · exact ⟨_, List.mem_cons_self, h.1, h.2.1⟩
    · obtain ⟨x, hx, e⟩ := TR.mem r y hy
      exact ⟨x, List.mem_cons_of_mem _ hx, e⟩
theorem TR.at : ∀ {xs ys} {k : NestedKey}, TR xs ys → RelO ((xs.find? fun x => decide (x.1 = k)).map (·.2.2)) ((atKey ys k).map (·.2))
  | _, _, _, .nil => trivial
  | x :: xs, y :: ys, k, .cons h r => by
    have ih := TR.at (k := k) r
    unfold atKey at ih ⊢
    rw [List.find?_cons, List.find?_cons, h.1]
    by_cases e : y.1 = k
    · rw [decide_eq_true e]
      exact h.2.2
    · rw [decide_eq_false e]
      exact ih
theorem TR.has {xs ys} {k : NestedKey} (r : TR xs ys) : (atKey ys k).isSome = hasT xs k := by
  have h := r.at (k := k)
  have e : hasT xs k = ((xs.find? fun x => decide (x.1 = k)).map (·.2.2)).isSome := by
    unfold hasT
    rw [Option.isSome_map, Bool.eq_iff_iff, List.any_eq_true, List.find?_isSome]
  rw [e]
  cases h1 : (xs.find? fun x => decide (x.1 = k)).map (·.2.2) with
  | none =>
    rw [h1] at h
    cases h2 : atKey ys k with
    | none => rfl
    | some p => rw [h2] at h; exact h.elim
  | some v =>
    rw [h1] at h
    cases h2 : atKey ys k with
    | none => rw [h2] at h; exact h.elim
    | some p => rfl
theorem TR.append : ∀ {xs ys xs' ys'}, TR xs ys → TR xs' ys' → TR (xs ++ xs') (ys ++ ys')
  | _, _, _, _, .nil, s => s
  | _, _, _, _, .cons h r, s => .cons h (TR.append r s)
theorem TR.putAt {k : NestedKey} {v : L2.V} {u : Value} (rv : RelV v u) : ∀ {xs ys}, TR xs ys → TR (xs.map fun x => if x.1 = k then (x.1, x.2.1, v) else x) (ys.map (PySem.putAt k u))
  | _, _, .nil => .nil
  | x :: xs, y :: ys, .cons h r => by
    refine .cons ?_ (TR.putAt rv r)
    unfold PySem.putAt
    rw [← h.1]
    dsimp only
    by_cases e : x.1 = k
    · rw [if_pos e, if_pos e]
      exact ⟨rfl, h.2.1, rv⟩
    · rw [if_neg e, if_neg e]
      exact h
theorem TR.put {k : NestedKey} {p : Addr} {v : L2.V} {u : Value} {xs ys} (r : TR xs ys) (rv : RelV v u) : TR (putT xs k p v) (storedH ys k p u) := by
  unfold putT storedH
  rw [r.has]
  split
  · exact r.putAt rv
  · exact r.append (.cons ⟨rfl, rfl, rv⟩ .nil)
section
variable {X : Cx} {pins : List (Addr × Obj)} {σ : L2.St} {H : Hp} {s : Shared} {a p : Addr} {k : NestedKey} {xs : List (NestedKey × Addr × L2.V)}
theorem KyH.is (I : Inv X pins σ H s) (h : KyH H (.ref p) k) : (nestedKind X.prog X.w).is s.heap k p := by
  obtain ⟨F, d, r, e⟩ := h
  obtain ⟨e1, e2⟩ := keyP_at e
  exact ⟨rp_nest I d _ _ k r e1 rfl, e2⟩
theorem TabH.dict (I : Inv X pins σ H s) (T : TabH H a xs) : ∃ ys, TR xs ys ∧ s.heap.DictOfH (nestedKind X.prog X.w) a ys := by
  obtain ⟨⟨w, ys, hp, o, es, ep, h1, h2, h3, h4⟩, _, _⟩ := I.hok a _ T.at'
  have hk : ∀ y ∈ ys, (nestedKind X.prog X.w).is s.heap y.1 y.2.1 := fun y hy => by
    obtain ⟨x, hx, e1, e2⟩ := TR.mem hp y hy
    rw [← e1, ← e2]
    exact (T.key x hx).is I
  refine ⟨ys, hp, o, es, ep, h1, h2, h3, ?_, hk, by rw [TR.keys hp]; exact T.nd⟩
  rw [h4]
  refine List.map_congr_left fun y hy => ?_
  obtain ⟨x, hx, e1, e2⟩ := TR.mem hp y hy
  obtain ⟨F, d, _, e⟩ := T.key x hx
  show (⟨y.1.hash w, _, _⟩ : DictEntry) = ⟨y.1.hash X.w, _, _⟩
  rw [← e1, keyN_hash w X.w d x.1 (keyP_at e).1]
theorem tab_new {P : Program} {w : World} {H' : Hp} {h : Heap} {ys : List (NestedKey × Addr × Value)} (r : TR xs ys) (d : h.DictOfH (nestedKind P w) a ys) : ObjOk P w H' h a (TabO a xs) := by
  obtain ⟨o, es, ep, h1, h2, h3, h4, _, _⟩ := d
  refine ⟨⟨w, ys, r, o, es, ep, h1, h2, h3, h4⟩, ⟨o, h1⟩, fun g1 g2 ⟨w', zs, r', o', es', ep', k1, k2, k3, k4⟩ hk => ⟨w', zs, r', o', es', ep', hk o' k1, k2, k3, k4⟩⟩
end
def kOf (d : D) : Option (PyData × NestedKey) := match d with
  | .v kd => match keyP kd with
    | some k => some (kd, k)
    | none => none
  | _ => none
def hasK (kvs : List (PyData × D)) (k : NestedKey) : Bool := kvs.any fun p => decide (keyP p.1 = some k)
def getKT (kvs : List (PyData × D)) (k : NestedKey) : Option D := (kvs.find? fun p => decide (keyP p.1 = some k)).map (·.2)
def putKT (kvs : List (PyData × D)) (kd : PyData) (k : NestedKey) (d : D) : List (PyData × D) :=
  if hasK kvs k = true then kvs.map fun p => if keyP p.1 = some k then (p.1, d) else p else kvs ++ [(kd, d)]
section
variable {K : PySem.W.Frag} {ι : Gh} {st : Sto} {H : Hp} {k : NestedKey}
theorem RTab.len : ∀ {kvs xs}, RTab K ι st H kvs xs → kvs.length = xs.length
  | _, _, .nil => rfl
  | _, _, .cons _ r => by rw [List.length_cons, List.length_cons, RTab.len r]
theorem RTab.has : ∀ {kvs xs} {k : NestedKey}, RTab K ι st H kvs xs → hasK kvs k = hasT xs k
  | _, _, _, .nil => rfl
  | _, _, k, .cons h r => by
    have ih := RTab.has (k := k) r
    unfold hasK hasT at ih ⊢
    rw [List.any_cons, List.any_cons, ih, h.1]
    congr 1
    exact decide_eq_decide.mpr ⟨fun z => Option.some.inj z, fun z => congrArg some z⟩
theorem RTab.get : ∀ {kvs xs} {d : D}, RTab K ι st H kvs xs → getKT kvs k = some d → ∃ v, getT xs k = some v ∧ RD K ι st H v d
  | _, _, d, .nil, e => by cases e
  | p :: kvs, x :: xs, d, .cons h r, e => by
    unfold getKT getT at *
    rw [List.find?_cons, h.1] at e
    rw [List.find?_cons]
    by_cases z : x.1 = k
    · rw [decide_eq_true (congrArg some z)] at e
      rw [decide_eq_true z]
      cases e
      exact ⟨_, rfl, h.2.2⟩
    · rw [decide_eq_false fun q => z (Option.some.inj q)] at e
      rw [decide_eq_false z]
      exact RTab.get r e
theorem RTab.append : ∀ {kvs xs kvs' xs'}, RTab K ι st H kvs xs → RTab K ι st H kvs' xs' → RTab K ι st H (kvs ++ kvs') (xs ++ xs')
  | _, _, _, _, .nil, s => s
  | _, _, _, _, .cons h r, s => .cons h (RTab.append r s)
theorem RTab.putAt {d : D} {v : L2.V} (rd : RD K ι st H v d) : ∀ {kvs xs}, RTab K ι st H kvs xs → RTab K ι st H (kvs.map fun p => if keyP p.1 = some k then (p.1, d) else p) (xs.map fun x => if x.1 = k then (x.1, x.2.1, v) else x)
  | _, _, .nil => .nil
  | p :: kvs, x :: xs, .cons h r => by
    refine .cons ?_ (RTab.putAt rd r)
    dsimp only
    rw [h.1]
    by_cases z : x.1 = k
    · rw [if_pos z, if_pos (congrArg some z)]
      exact ⟨h.1, h.2.1, rd⟩
    · rw [if_neg z, if_neg fun q => z (Option.some.inj q)]
      exact h
theorem RTab.put {d : D} {v : L2.V} {kd : PyData} {p : Addr} {kvs xs} (r : RTab K ι st H kvs xs) (rd : RD K ι st H v d) (hk : keyP kd = some k) (rk : Rp (Frz ι st) H (.ref p) kd) : RTab K ι st H (putKT kvs kd k d) (putT xs k p v) := by
  unfold putKT putT
  rw [r.has]
  split
  · exact r.putAt rd
  · exact r.append (.cons ⟨hk, rk, rd⟩ .nil)
theorem RTab.key : ∀ {kvs xs}, RTab K ι st H kvs xs → ∀ x ∈ xs, KyH H (.ref x.2.1) x.1
  | _, _, .nil, x, hx => by cases hx
  | _, _, .cons h r, x, hx => by
    rcases List.mem_cons.mp hx with rfl | hx
    · exact ⟨_, _, h.2.1, h.1⟩
    · exact RTab.key r x hx
theorem kOf_at {x : L2.V} {d : D} {kd : PyData} (e : kOf d = some (kd, k)) (r : RD K ι st H x d) : ∃ p, x = .ref p ∧ Rp (Frz ι st) H (.ref p) kd ∧ keyP kd = some k := by
  unfold kOf at e
  split at e
  · rename_i kd'
    split at e
    · rename_i k' h
      cases e
      have r' : Rp (Frz ι st) H x kd := r
      unfold keyP at h
      split at h
      · rename_i ds
        cases r' with
        | tup h1 h2 h3 h4 => exact ⟨_, rfl, .tup h1 h2 h3 h4, by unfold keyP; exact h⟩
      · cases h
    · cases e
  · cases e
theorem putKT_low {n : Nat} {kvs : List (PyData × D)} {kd : PyData} {d : D} (h : O.low n (.tab kvs) = true) (hd : d.low n = true) : O.low n (.tab (putKT kvs kd k d)) = true := by
  have h : (kvs.all fun p => p.2.low n) = true := h
  show ((putKT kvs kd k d).all fun p => p.2.low n) = true
  unfold putKT
  rw [List.all_eq_true] at *
  split
  · intro p hp
    obtain ⟨q, hq, rfl⟩ := List.mem_map.mp hp
    split
    · exact hd
    · exact h q hq
  · intro p hp
    rcases List.mem_append.mp hp with hp | hp
    · exact h p hp
    · cases List.mem_singleton.mp hp
      exact hd
theorem putT_nd {xs : List (NestedKey × Addr × L2.V)} {p : Addr} {v : L2.V} (h : (xs.map (·.1)).Nodup) : ((putT xs k p v).map (·.1)).Nodup := by
  unfold putT
  split
  · rw [List.map_map]
    have e : (xs.map ((·.1) ∘ fun x => if x.1 = k then (x.1, x.2.1, v) else x)) = xs.map (·.1) := List.map_congr_left fun x _ => by
      show (if x.1 = k then (x.1, x.2.1, v) else x).1 = x.1
      split <;> rfl
    rw [e]
    exact h
  · rename_i hk
    rw [List.map_append]
    refine List.nodup_append.mpr ⟨h, by simp, fun x hx y hy e => hk ?_⟩
    subst e
    have hy : x = k := by simpa using hy
    subst hy
    obtain ⟨z, hz, e⟩ := List.mem_map.mp hx
    exact List.any_eq_true.mpr ⟨z, hz, decide_eq_true e⟩
end
section
variable {X : Cx} {W : XW} {o i e : Expr} {mo mi me : ME} {pos tpos : Pos} {vs : Option (List Nat)}
end
end Fw
namespace L2
open PySem PySem.Spec PyProof.Rows
section
variable {prog : Program} {w : World} {A : Around} {E : Value → Shared → Prop} {s : Shared} {d : Addr} {es : Array DictEntry} {ep : Nat} {x : Int} {t : Tok}
end
section
variable {X : Cx} {e o : Expr} {ty td : TE} {apos cpos : Pos}
end
end L2
namespace Fw
open PySem PySem.Spec PyProof.Rows L2
section
variable {X : Cx} {W : XW} {e o f : Expr} {me mo mf : ME} {apos cpos : Pos}
end
end Fw
namespace Fw
open PySem PySem.Spec PyProof.Rows L2
section
variable {st : Sto} {env : Ev}
end
end Fw
namespace Fw
open PySem PySem.Spec PyProof.Rows L2
def PrR (K : PySem.W.Frag) (ι : Gh) (st : Sto) (H : Hp) (p : PyData × D) (x : V) : Prop := ∃ t o kx vx, x = .ref t ∧ H t = some (.frz o (.tup [kx, vx])) ∧ Frz ι st t ∧ Rp (Frz ι st) H kx p.1 ∧ (∃ k, key1 p.1 = some k) ∧ RD K ι st H vx p.2
abbrev RPs (K : PySem.W.Frag) (ι : Gh) (st : Sto) (H : Hp) : List (PyData × D) → List V → Prop := Paired (PrR K ι st H)
section
variable {K : PySem.W.Frag} {ι ι' : Gh} {st st' : Sto} {H H' : Hp}
theorem PrR.mv (m : Mv ι st H ι' st' H') {p : PyData × D} {x : V} (h : PrR K ι st H p x) : PrR K ι' st' H' p x := by
  obtain ⟨t, o, kx, vx, rfl, h1, h2, h3, h4, h5⟩ := h
  obtain ⟨f, e⟩ := m.keep t _ h1 h2
  exact ⟨t, o, kx, vx, rfl, e, f, m.rp h3, h4, m.rd h5⟩
theorem RPs.mv (m : Mv ι st H ι' st' H') : ∀ {kvs xs}, RPs K ι st H kvs xs → RPs K ι' st' H' kvs xs
  | _, _, .nil => .nil
  | _, _, .cons h r => .cons (h.mv m) (RPs.mv m r)
end
def PP1 (K : PySem.W.Frag) (ι : Gh) (st : Sto) (H : Hp) (Q : VK) (kvs : List (PyData × D)) (st' : Sto) : Prop :=
  ∀ ι' H' xs p, SRel K ι' st' H' → Ext ι st H ι' st' H' → RPs K ι' st' H' kvs xs → H' p = none → HF (upd H' p (.lst xs)) → Q (.ref p) (upd H' p (.lst xs))
theorem PP1.ext {K : PySem.W.Frag} {ι ι' : Gh} {st st' s2 : Sto} {H H' : Hp} {Q : VK} {kvs : List (PyData × D)} (h : PP1 K ι st H Q kvs s2) (e : Ext ι st H ι' st' H') : PP1 K ι' st' H' Q kvs s2 :=
  fun ι2 H2 xs p R E r => h ι2 H2 xs p R (e.trans E) r
section
variable {X : Cx} {W : XW} {tg iter : Expr} {es : List Expr} {ifs : List Expr} {scope : Scope} {own : List (Str × Nat)} {pos tpos cpos p : Pos} {mi : MI} {g : MG} {t : MT} {m : MA} {x : Str} {kk : Nat}
end
end Fw
namespace Fw.LH
open PySem PySem.Spec PyProof.Rows L2 Fw
noncomputable abbrev f_law_pick : FF := Fw.LB.f_law_pick
end Fw.LH
namespace L2
open PySem PySem.Spec PyProof.Rows
abbrev IsLs (h : Heap) (l : Addr) (vs : List Value) : Prop := ∃ n, h.get? l = some { cls := .type "list", data := .seq vs.toArray n }
section
variable {prog : Program} {w : World} {A : Around} {E : Value → Shared → Prop} {l it S : Addr}
end
section
variable {X : Cx} {pins : List (Addr × Obj)} {σ : L2.St} {H : Hp} {s : Shared}
abbrev LsR (s : Shared) : List (Addr × List V) → List (Addr × List Value) → Prop := Paired (fun q p => q.1 = p.1 ∧ Vals q.2 p.2 ∧ IsLs s.heap p.1 p.2)
theorem LsR.flat : ∀ {xs ls}, LsR s xs ls → Vals (xs.map (·.2)).flatten (ls.map (·.2)).flatten
  | _, _, .nil => .nil
  | _, _, .cons h r => by
    rw [List.map_cons, List.map_cons, List.flatten_cons, List.flatten_cons]
    exact h.2.1.append (LsR.flat r)
theorem LsR.mem : ∀ {xs ls}, LsR s xs ls → ∀ p ∈ ls, IsLs s.heap p.1 p.2
  | _, _, .nil, p, hp => by cases hp
  | _, _, .cons h r, p, hp => by
    rcases List.mem_cons.mp hp with rfl | hp
    · exact h.2.2
    · exact LsR.mem r p hp
end
end L2
namespace Fw
open PySem PySem.Spec PyProof.Rows L2
end Fw
namespace Fw
open PySem PySem.Spec PyProof.Rows L2
open PySem.W (dataLt alike AlikeAll minD)
section
variable {X : Cx} {pins : List (Addr × Obj)} {σ : L2.St} {H : Hp} {s : Shared}
end
end Fw
namespace PySem.SeqAt
open AutoSeq1 (wpAny_loadPart')
open MeetsSeq
end PySem.SeqAt
namespace PySem.SeqAt
open MeetsSeq
end PySem.SeqAt
namespace Fw
open PySem PySem.Spec PyProof.Rows L2
section
variable {X : Cx} {pins : List (Addr × Obj)} {σ : L2.St} {H : Hp} {s : Shared} {x y : V} {v u : Value} {k : Bool} {Q : VK}
end
section
variable {X : Cx} {W : XW} {a b : Expr} {ma mb : ME}
end
section
variable {d e : PyData} {st : Sto}
end
end Fw
namespace L2
open PySem PySem.Spec PyProof.Rows PySem.Calls
section
variable {X : Cx} {es : List Expr} {k : Nat} {pos : Pos}
end
end L2
namespace Fw
open PySem PySem.Spec PyProof.Rows L2
section
variable {X : Cx} {W : XW} {ts : List Expr} {gs : MGs} {pos : Pos} {vs : Option (List Nat)}
end
end Fw
namespace Fw
open PySem PySem.Spec PyProof.Rows L2 PySem.Calls
section
variable {X : Cx} {pins : List (Addr × Obj)} {σ : L2.St} {H : Hp} {s : Shared}
def KVT (H : Hp) (K : PySem.W.Frag) (p : Addr) (kv : NestedKey × Addr × L2.V) : Prop := SqT K H p [.ref kv.2.1, kv.2.2] ∧ KyH H (.ref kv.2.1) kv.1
theorem pairs_ofT (I : Inv X pins σ H s) : ∀ {ps : List Addr} {kvs : List (NestedKey × Addr × L2.V)}, Paired (KVT H X.K) ps kvs →
    ∃ prs : List (NestedKey × Addr × Value), TR kvs prs ∧ prs.length = ps.length ∧ (∀ q ∈ prs, (nestedKind X.prog X.w).is s.heap q.1 q.2.1) ∧ ∀ (j : Nat) (q : NestedKey × Addr × Value), prs[j]? = some q → ∃ b : Addr, ps[j]? = some b ∧ IsTup s.heap b #[.ref q.2.1, q.2.2]
  | _, _, .nil => ⟨[], .nil, rfl, (fun _ h => nomatch h), fun j q e => by simp at e⟩
  | _, _, .cons (a := p) (b := kv) h t => by
    obtain ⟨prs, r, hl, hk, hp⟩ := pairs_ofT I t
    obtain ⟨its, rv, ht, _⟩ := I.tuple h.1
    obtain ⟨u, y, ei, ru, ry⟩ := vals2 rv
    subst ei
    cases (show u = Value.ref kv.2.1 from ru)
    refine ⟨(kv.1, kv.2.1, y) :: prs, .cons ⟨rfl, rfl, ry⟩ r, by rw [List.length_cons, List.length_cons, hl], fun q hq => ?_, fun j q e => ?_⟩
    · rcases List.mem_cons.mp hq with rfl | hq
      · exact h.2.is I
      · exact hk q hq
    · cases j with
      | zero =>
        have e' : (kv.1, kv.2.1, y) = q := Option.some.inj e
        subst e'
        exact ⟨p, rfl, ht⟩
      | succ j =>
        obtain ⟨b, e1, e2⟩ := hp j q (by simpa using e)
        exact ⟨b, by simpa using e1, e2⟩
def putAllT (acc kvs : List (NestedKey × Addr × L2.V)) : List (NestedKey × Addr × L2.V) := kvs.foldl (fun acc p => putT acc p.1 p.2.1 p.2.2) acc
theorem TR.putAll : ∀ {kvs : List (NestedKey × Addr × L2.V)} {prs : List (NestedKey × Addr × Value)} {xs ys}, TR kvs prs → TR xs ys → TR (putAllT xs kvs) (storedAllH ys prs)
  | _, _, _, _, .nil, r => r
  | _, _, _, _, .cons (a := p) (b := q) h t, r => by
    obtain ⟨h1, h2, h3⟩ := h
    have e := TR.put (k := p.1) (p := p.2.1) r h3
    have := TR.putAll t e
    unfold putAllT storedAllH at this ⊢
    rw [List.foldl_cons, List.foldl_cons]
    rw [← h1, ← h2]
    exact this
theorem call_dictTab (gd : Gd X) : CallR X (.type "dict") (fun xs H Q => ∃ (a : Addr) (ps : List Addr) (kvs : List (NestedKey × Addr × L2.V)), xs = [.ref a] ∧ SqL X.K H a (ps.map V.ref) ∧ Paired (KVT H X.K) ps kvs ∧
    ∀ p, H p = none → (p == sysModules) = false → Q (.ref p) (upd H p (TabO p (putAllT [] kvs)))) := by
  intro pins s σ H xs us Q I r q
  obtain ⟨a, ps, kvs, ex, hq, hp, q⟩ := q
  subst ex
  obtain ⟨u, eu, rx⟩ := vals1 r
  subst eu
  cases rx
  obtain ⟨its, rv, pl, hz⟩ := I.list hq
  have ei := refs_at rv
  subst ei
  rw [List.length_map] at hz
  obtain ⟨prs, rel, hl, hk, hpr⟩ := pairs_ofT I hp
  have un := gd.un
  obtain ⟨o, n, ho, hc, hd, hdat⟩ := pl
  have P := PairArg.list (prog := X.prog) (w := X.w) a (ps.map Value.ref).toArray (fun j => ps.getD j 0) (prs.map fun q => (Value.ref q.2.1, q.2.2))
  refine call_dict_pairsH (knd := nestedKind X.prog X.w) (ps := prs) P (I.ok.hd gd.calm) (show X.A.units + 1 + 1 + 8 < cLine by omega) ⟨⟨o, n, ho, hc, hd, hdat⟩, ⟨by simp [hl], fun j k v e => ?_⟩⟩ ⟨by simp, fun i key v e => ?_⟩ (fun h' keep x hx => ?_) (by rw [List.length_map, hl]; exact hz) fun h' tk d' keep => ?_
  · rw [List.getElem?_map] at e
    obtain ⟨q', e1, e2⟩ := Option.map_eq_some_iff.mp e
    obtain ⟨b, g1, g2⟩ := hpr j q' e1
    cases e2
    refine ⟨by simp [g1], .inl ?_⟩
    rw [show (fun j => ps.getD j 0) j = b by show ps.getD j 0 = b; rw [List.getD_eq_getElem?_getD, g1]; rfl]
    obtain ⟨o, k1, k2, n, k3⟩ := g2
    exact ⟨o, k1, k2, n, k3⟩
  · have e : (prs.map fun q => (Value.ref q.2.1, q.2.2))[i]? = some (key, v) := e
    rw [List.getElem?_map] at e
    obtain ⟨q', e1, e2⟩ := Option.map_eq_some_iff.mp e
    cases e2
    exact ⟨q'.1, q'.2.1, e1, rfl⟩
  · obtain ⟨k1, k2⟩ := hk x hx
    exact ⟨NestedIs.at (fun b o vs n hb _ => keep b o (Nat.ne_of_lt (Heap.lt_size hb)) (fun z => nomatch z) hb) _ _ k1, k2⟩
  · exact ⟨.ref s.heap.objs.size, upd H s.heap.objs.size (TabO s.heap.objs.size (putAllT [] kvs)), I.laid (t' := tk) (fun b o e => keep b o (fun z => nomatch z) e) (Nat.le_refl _) (tab_new (TR.putAll rel .nil) d'), rfl, q _ (I.hok.fresh (Nat.le_refl _)) (beq_eq_false_iff_ne.mpr (Ne.symm (Nat.ne_of_lt I.big)))⟩
end
def pairsT : List PyData → Option (List (PyData × NestedKey × PyData))
  | [] => some []
  | .tuple [k, v] :: r => match keyP k, pairsT r with
    | some kk, some l => some ((k, kk, v) :: l)
    | _, _ => none
  | _ => none
def putAllKT (acc : List (PyData × D)) (l : List (PyData × NestedKey × PyData)) : List (PyData × D) := l.foldl (fun acc p => putKT acc p.1 p.2.1 (.v p.2.2)) acc
def fDictT : FA := fun ds st => match ds with
  | [d] => match viewL st d with
    | some zs => match pairsT zs with
      | some l => if l.length ≤ lim then .ok (.ref st.length) (st ++ [.tab (putAllKT [] l)]) else .stuck
      | none => .stuck
    | none => .stuck
  | _ => .stuck
section
variable {K : PySem.W.Frag} {ι : Gh} {st : Sto} {H : Hp}
def RPT (ι : Gh) (st : Sto) (H : Hp) : List (PyData × NestedKey × PyData) → List (NestedKey × Addr × L2.V) → Prop := Paired fun p q => keyP p.1 = some q.1 ∧ p.2.1 = q.1 ∧ Rp (Frz ι st) H (.ref q.2.1) p.1 ∧ Rp (Frz ι st) H q.2.2 p.2.2
theorem pairsT_at : ∀ {zs : List PyData} {l : List (PyData × NestedKey × PyData)} {us : List L2.V}, pairsT zs = some l → RpA (Frz ι st) H us zs →
    ∃ (ps : List Addr) (xs : List (NestedKey × Addr × L2.V)), us = ps.map V.ref ∧ Paired (KVT H K) ps xs ∧ RPT ι st H l xs
  | [], l, _, e, .nil => by cases e; exact ⟨[], [], rfl, .nil, .nil⟩
  | z :: r, l, _, e, .cons (x := x) (xs := us) h t => by
    unfold pairsT at e
    split at e
    · rename_i h1
      cases h1
    · rename_i k v r' h1
      cases h1
      split at e
      · rename_i kk l' h2 h3
        cases e
        obtain ⟨ps, xs, rfl, h4, h5⟩ := pairsT_at h3 t
        cases h with
        | tup hH hd f ra =>
          rename_i a ys o
          cases ra with
          | cons r1 r2 =>
            cases r2 with
            | cons r3 r4 =>
              cases r4
              obtain ⟨p, rfl, rp, _⟩ := kOf_at (K := K) (d := .v k) (kd := k) (k := kk) (by unfold kOf; simp only [h2]) r1
              exact ⟨a :: ps, (kk, p, _) :: xs, rfl, .cons ⟨.inl (.inr ⟨o, hH⟩), ⟨_, k, rp, h2⟩⟩ h4, .cons ⟨h2, rfl, rp, r3⟩ h5⟩
      · cases e
    · cases e
theorem RTab.putAll : ∀ {l : List (PyData × NestedKey × PyData)} {kvs : List (NestedKey × Addr × L2.V)} {acc : List (PyData × D)} {xs : List (NestedKey × Addr × L2.V)}, RPT ι st H l kvs → RTab K ι st H acc xs → (xs.map (·.1)).Nodup → O.low st.length (.tab acc) = true → xs.length + kvs.length ≤ sizeLine →
    RTab K ι st H (putAllKT acc l) (putAllT xs kvs) ∧ ((putAllT xs kvs).map (·.1)).Nodup ∧ O.low st.length (.tab (putAllKT acc l)) = true ∧ (putAllT xs kvs).length ≤ sizeLine
  | _, _, _, _, .nil, r, nd, lw, hl => ⟨r, nd, lw, hl⟩
  | _, _, acc, xs, .cons (a := p) (b := q) h t, r, nd, lw, hl => by
    obtain ⟨h1, h2, h3, h4⟩ := h
    have r1 : RTab K ι st H (putKT acc p.1 q.1 (.v p.2.2)) (putT xs q.1 q.2.1 q.2.2) := r.put h4 h1 h3
    have hlen : (putT xs q.1 q.2.1 q.2.2).length ≤ xs.length + 1 := by
      unfold putT
      split
      · rw [List.length_map]; omega
      · rw [List.length_append]; exact Nat.le_refl _
    rw [List.length_cons] at hl
    have z := RTab.putAll t r1 (putT_nd nd) (putKT_low lw rfl) (by omega)
    unfold putAllKT putAllT at z ⊢
    rw [List.foldl_cons, List.foldl_cons, h2]
    exact z
theorem opA_dictT {W : XW} : OpA K W (fun xs H Q => ∃ (a : Addr) (ps : List Addr) (kvs : List (NestedKey × Addr × L2.V)), xs = [.ref a] ∧ SqL K H a (ps.map V.ref) ∧ Paired (KVT H K) ps kvs ∧
    ∀ p, H p = none → (p == sysModules) = false → Q (.ref p) (upd H p (TabO p (putAllT [] kvs)))) fDictT := by
  intro ι st H xs ds Q R r p
  unfold fDictT at p
  split at p
  · obtain ⟨x, rfl, r1⟩ := r.one
    split at p
    · rename_i zs e
      split at p
      · rename_i l e2
        split at p
        · rename_i hlim
          obtain ⟨q, us, rfl, h1, h2⟩ := viewL_at R e r1
          obtain ⟨ps, ys, rfl, h3, h4⟩ := pairsT_at (K := K) e2 h2
          refine ⟨q, ps, ys, rfl, .of h1, h3, fun b hb hs hf => ?_⟩
          have hyl : ([] : List (NestedKey × Addr × L2.V)).length + ys.length ≤ sizeLine := by
            have e1 := h4.length
            rw [List.length_nil, Nat.zero_add, ← e1]
            exact Nat.le_trans hlim (by unfold lim; size_fits)
          obtain ⟨z1, z2, z3, z4⟩ := RTab.putAll (K := K) h4 .nil List.nodup_nil rfl hyl
          have E : Ext ι st H (ι.psh b) (st ++ [.tab (putAllKT [] l)]) (upd H b (TabO b (putAllT [] ys))) := Ext.push R hb
          exact p (ι.psh b) _ _ (R.push hb hf ⟨_, upd_same, hs, z2, z4, RTab.ext E z1⟩ z3) E ⟨b, psh_at R, rfl⟩
        · exact p.elim
      · exact p.elim
    · exact p.elim
  · exact p.elim
end
end Fw
namespace Fw
open PySem PySem.Spec PyProof.Rows L2 PySem.Calls
open PySem.W (AllAlike Sortable dataLe dataLt alike alikeAll sortVals dataKind sortingHeap EachIs)
def Itab (d : Addr) (o : Obj) (xs : List (NestedKey × Addr × L2.V)) : It :=
  ⟨fun i H => H d = some (.frz o (TabO d xs)) ∧ i < xs.length, fun i H v H' => H' = H ∧ ∃ k p y, xs[i]? = some (k, p, y) ∧ v = .ref p, fun i H => H d = some (.frz o (TabO d xs)) ∧ xs.length ≤ i⟩
theorem TR.get : ∀ {xs : List (NestedKey × Addr × L2.V)} {ys : List (NestedKey × Addr × Value)} {i : Nat} {x}, TR xs ys → xs[i]? = some x → ∃ y, ys[i]? = some y ∧ x.2.1 = y.2.1
  | _, _, _, _, .nil, e => by simp at e
  | _, _, 0, _, .cons h r, e => by simp at e; subst e; exact ⟨_, rfl, h.2.1⟩
  | _, _, i + 1, _, .cons h r, e => by
    obtain ⟨y, h1, h2⟩ := TR.get (i := i) r (by simpa using e)
    exact ⟨y, by simpa using h1, h2⟩
theorem tab_raw {P : Program} {w : World} {H : Hp} {h : Heap} {a : Addr} {xs : List (NestedKey × Addr × L2.V)} (q : ObjOk P w H h a (TabO a xs)) :
    ∃ o es ep, h.get? a = some o ∧ o.ExactDict ∧ o.data = .dict es ep ∧ es.size = xs.length ∧ ∀ (i : Nat) k p y, xs[i]? = some (k, p, y) → ∃ en, es[i]? = some en ∧ en.key = .ref p := by
  obtain ⟨⟨w', ys, r, o, es, ep, h1, h2, h3, h4⟩, _⟩ := q
  refine ⟨o, es, ep, h1, h2, h3, ?_, fun i k p y e => ?_⟩
  · rw [← Array.length_toList, h4, List.length_map, TR.len r]
  · obtain ⟨z, e1, e2⟩ := TR.get r e
    refine ⟨⟨z.1.hash w', .ref z.2.1, z.2.2⟩, ?_, ?_⟩
    · rw [← Array.getElem?_toList, h4, List.getElem?_map, e1]; rfl
    · show Value.ref z.2.1 = Value.ref p
      rw [← e2]
theorem turn_tab {P : Program} {w : World} {K : PySem.W.Frag} {tg : Expr} {d : Addr} {o : Obj} {es : Array DictEntry} {ep : Nat} {xs : List (NestedKey × Addr × L2.V)} (it : Addr) (hod : o.data = .dict es ep) :
    Turn P w K tg (Itab d o xs) [it] it (fun i h => h.IsKeyIter it d i xs.length ep) where
  mem := by simp
  obj := fun i h st b hb => by
    have e : b = it := by simpa using hb
    subst e
    obtain ⟨oi, e, c, dd⟩ := st
    exact ⟨oi, e, fun v z => by rw [dd] at z; cases z⟩
  keep := fun i h h' st k => st.at fun oi e => k it (by simp) oi e
  item := by
    intro X hP hw hK hc i pins s σ H E I hf st hg
    subst hP hw hK
    obtain ⟨hd, hi⟩ := hg
    obtain ⟨f0, f1, f2, f3, f4, f5⟩ := hf it (by simp)
    obtain ⟨hgd, hq⟩ := I.hok d _ hd
    obtain ⟨o', es', ep', h1, hx, hdt, hsz, ent⟩ := tab_raw hq
    rw [hgd] at h1
    cases h1
    obtain ⟨rfl, rfl⟩ := dict_ep hod hdt
    obtain ⟨⟨k, p, y⟩, hkv⟩ : ∃ p, xs[i]? = some p := ⟨xs[i], List.getElem?_eq_getElem hi⟩
    obtain ⟨en, hen, hkey⟩ := ent i k p y hkv
    refine next_key_item st hgd hdt hsz hen fun h' st' sb => ?_
    have I1 : Inv X pins σ H { s with heap := h' } := I.turned (t' := s.toks) (fun b ob hb e => (sb.2 b hb).trans e) f0 f1 f3 f4 f5
    obtain ⟨oi, e, c, dd⟩ := id st'
    exact ⟨en.key, rfl, go_of (s := { s with heap := h' }) e c dd (by decide) ⟨.ref p, H, I1, hkey, ⟨rfl, k, p, y, hkv, rfl⟩, st', fun b hb => (hf b hb).1⟩⟩
  done := by
    intro X hP hw hK hc i pins s σ H E I hf st hg
    subst hP hw hK
    obtain ⟨hd, hi⟩ := hg
    obtain ⟨f0, f1, f2, f3, f4, f5⟩ := hf it (by simp)
    obtain ⟨hgd, hq⟩ := I.hok d _ hd
    obtain ⟨o', es', ep', h1, hx, hdt, hsz, ent⟩ := tab_raw hq
    rw [hgd] at h1
    cases h1
    obtain ⟨rfl, rfl⟩ := dict_ep hod hdt
    exact next_key_end (I.ok.hd hc) st hgd hdt hsz hi fun h' eb => ⟨rfl, I.turned (t' := s.toks) (fun b ob hb e => eb b ob hb e) f0 f1 f3 f4 f5⟩
  self := fun A i s Q E st h => wpAny_pyIter_keyiter st h
def iTab (td : TE) : TI := fun σ H R => td σ H fun x H1 => ∃ d o xs, x = .ref d ∧ H1 d = some (.frz o (TabO d xs)) ∧ (d == sysModules) = false ∧ R (Itab d o xs) H1
theorem pi_tab {X : Cx} {tg e : Expr} {td : TE} (he : PE X e td) : PI X tg e (iTab td) := by
  refine ⟨fun pins s σ H R I h => ?_⟩
  refine thn (he.run pins s σ H _ I h) fun u s1 ⟨x, H1, I1, rx, d, o, xs, ex, hd, hs, q⟩ => ?_
  subst ex
  obtain rfl : u = Value.ref d := rx
  obtain ⟨hgd, hq⟩ := I1.hok d _ hd
  obtain ⟨o', es, ep, h1, hx, hdt, hsz, ent⟩ := tab_raw hq
  rw [hgd] at h1
  cases h1
  refine iter_keys hs hgd hx hdt (pi_one (tk := s1.toks) I1 _ (turn_tab _ hdt) ⟨_, Heap.get?_push_size _ rfl, rfl, ?_⟩ q)
  rw [hsz] <;> rfl
section
variable {K : PySem.W.Frag} {ι ι' : Gh} {st st' : Sto} {H H' : Hp}
theorem rtab_at : ∀ {kvs : List (PyData × D)} {xs : List (NestedKey × Addr × L2.V)}, RTab K ι st H kvs xs → kvs.length = xs.length ∧ ∀ (i : Nat) p, kvs[i]? = some p → ∃ q, xs[i]? = some q ∧ keyP p.1 = some q.1 ∧ Rp (Frz ι st) H (.ref q.2.1) p.1 ∧ RD K ι st H q.2.2 p.2
  | _, _, .nil => ⟨rfl, fun i p z => by simp at z⟩
  | _, _, .cons (b := q0) h r => by
    obtain ⟨h1, h2⟩ := rtab_at r
    refine ⟨by rw [List.length_cons, List.length_cons, h1], fun i p e => ?_⟩
    cases i with
    | zero =>
      have e := Option.some.inj e
      subst e
      exact ⟨q0, rfl, h⟩
    | succ i => exact h2 i p (by simpa using e)
end
def miTab (m : ME) : MI := fun env st => (m env st).bind fun d s1 => match d with
  | .ref n => match s1[n]? with
    | some (.lck true kvs) => .ok (keysI kvs, none) s1
    | _ => .stuck
  | _ => .stuck
theorem i_tab {X : Cx} {W : XW} {tg e : Expr} {m : ME} (he : PE X e (TEo X.K W m)) : PI X tg e (TIo X.K W (miTab m)) :=
  pi_wrap (pi_tab he) fun σ H Rr q => by
    obtain ⟨ι, env, st, R, EV, p⟩ := q
    refine ⟨ι, env, st, R, EV, Out.post_mono (Out.post_bind p) (fun d s1 q ι1 H1 x R1 E1 rd => ?_) fun _ _ z => z⟩
    split at q
    · rename_i n
      obtain ⟨a, hi, rfl⟩ := rd
      split at q
      · rename_i kvs e2
        obtain ⟨xs, o, hH, hs, hnd, hl, hk⟩ := R1.obj n _ a e2 hi
        obtain ⟨hlen, hat⟩ := rtab_at hk
        refine ⟨a, o, xs, rfl, hH, hs, fun _ => q ι1 H1 _ R1 E1 ⟨fun i d ι2 s2 H2 hd R2 M hc => ?_, fun ι2 s2 H2 R2 M hc => ?_, ?_⟩⟩
        · obtain ⟨l1, l2⟩ := M.lk e2 hi
          unfold keysI at hd
          rw [List.getElem?_map] at hd
          obtain ⟨pp, hp, rfl⟩ := Option.map_eq_some_iff.mp hd
          obtain ⟨⟨k, b, v⟩, hq, hk1, hr, hv⟩ := hat i pp hp
          have hil : i < xs.length := (List.getElem?_eq_some_iff.mp hq).1
          refine ⟨⟨l2.trans hH, hil⟩, fun y H3 hy => ?_⟩
          obtain ⟨rfl, k', b', v', hq', rfl⟩ := hy
          rw [hq] at hq'
          cases hq'
          exact ⟨R2, Ext.refl, M.rp hr⟩
        · obtain ⟨l1, l2⟩ := M.lk e2 hi
          unfold keysI
          rw [List.length_map, hlen]
          exact ⟨l2.trans hH, Nat.le_refl _⟩
        · unfold keysI
          rw [List.length_map, hlen]
          exact hl
      · exact q.elim
    · exact q.elim
section
variable {K : PySem.W.Frag} {ι ι1 : Gh} {st s1 : Sto} {H H1 : Hp}
theorem hf_frz {a : Addr} {u : HO} (h : HF H) (hu : szOk u) : HF (upd H a u) := fun b v hb => by
  by_cases e : b = a
  · rw [e, upd_same] at hb; cases hb; exact hu
  · rw [upd_ne e] at hb; exact h b v hb
theorem lockT_at {n : Nat} {kvs : List (PyData × D)} {a : Addr} {xs : List (NestedKey × Addr × L2.V)} (od : Obj) (R : SRel K ι st H) (e2 : st[n]? = some (.tab kvs)) (hi : ι.ad[n]? = some a) (hH : H a = some (TabO a xs)) (hk : (a == sysModules) = false ∧ (xs.map (·.1)).Nodup ∧ xs.length ≤ sizeLine ∧ RTab K ι st H kvs xs) :
    SRel K ι (st.set n (.lck true kvs)) (upd H a (.frz od (TabO a xs))) ∧ Ext ι st H ι (st.set n (.lck true kvs)) (upd H a (.frz od (TabO a xs))) := by
  have E1 : Ext ι st H ι (st.set n (.lck true kvs)) (upd H a (.frz od (TabO a xs))) := Ext.write R e2 hi (fun z => nomatch z) (fun _ _ z => nomatch z)
  exact ⟨R.write e2 hi (fun z => nomatch z) (fun _ _ z => nomatch z) (hf_frz R.hf trivial) ⟨xs, od, upd_same, hk.1, hk.2.1, hk.2.2.1, RTab.ext E1 hk.2.2.2⟩ (R.low n (.tab kvs) e2), E1⟩
theorem unlockT_at {n : Nat} {kvs : List (PyData × D)} {a : Addr} {xs : List (NestedKey × Addr × L2.V)} {od : Obj} (R : SRel K ι st H) (e2 : st[n]? = some (.tab kvs)) (hi : ι.ad[n]? = some a) (hH : H a = some (TabO a xs)) (hk : (a == sysModules) = false ∧ (xs.map (·.1)).Nodup ∧ xs.length ≤ sizeLine ∧ RTab K ι st H kvs xs)
    (E1 : Ext ι st H ι (st.set n (.lck true kvs)) (upd H a (.frz od (TabO a xs)))) (R2 : SRel K ι1 s1 H1) (E2 : Ext ι (st.set n (.lck true kvs)) (upd H a (.frz od (TabO a xs))) ι1 s1 H1) :
    H1 a = some (.frz od (TabO a xs)) ∧ Mk ι1 s1 H1 ι1 (s1.set n (.tab kvs)) (upd H1 a (TabO a xs)) ∧ SRel K ι1 (s1.set n (.tab kvs)) (upd H1 a (TabO a xs)) ∧ Ext ι st H ι1 (s1.set n (.tab kvs)) (upd H1 a (TabO a xs)) := by
  have hn : n < st.length := (List.getElem?_eq_some_iff.mp e2).1
  have hset : (st.set n (.lck true kvs))[n]? = some (.lck true kvs) := List.getElem?_set_self hn
  obtain ⟨l1, l2⟩ := E2.lk hset hi
  have hi1 := E2.pre n a hi
  have hfz : H1 a = some (.frz od (TabO a xs)) := l2.trans upd_same
  have m := mk_set (H := H1) (o' := .tab kvs) (u := TabO a xs) l1 hi1 (fun z => nomatch z)
  obtain ⟨xs', o', hf', hs', hnd', hl', hk'⟩ := R2.obj n _ a l1 hi1
  have hk2 : RTab K ι1 (s1.set n (.tab kvs)) (upd H1 a (TabO a xs)) kvs xs := m.rtab (E2.mv.rtab (RTab.ext E1 hk.2.2.2))
  have R3 : SRel K ι1 (s1.set n (.tab kvs)) (upd H1 a (TabO a xs)) := R2.unlock l1 hi1 (hf_frz R2.hf trivial) ⟨xs, upd_same, hk.1, hk.2.1, hk.2.2.1, hk2⟩ (R.low n (.tab kvs) e2)
  refine ⟨hfz, m, R3, fun b u hb fb => ?_, fun k b hb => E2.pre k b hb, E2.hid, fun b hb => ?_, fun {k t l b} hkk hb => ?_⟩
  · obtain ⟨f1, k1⟩ := E1.keep b u hb fb
    obtain ⟨f2, k2⟩ := E2.keep b u k1 f1
    exact m.keep b u k2 f2
  · have nb : b ≠ a := fun z => by subst z; exact nomatch (R.hid b hb).2 n _ e2 hi
    rw [upd_ne nb, E2.keepZ b hb, upd_ne nb]
  · have nk : n ≠ k := fun z => by subst z; rw [e2] at hkk; cases hkk
    have nb : b ≠ a := fun z => by subst z; exact nk (R.inj n k b _ _ hi hb e2 hkk (fun z => nomatch z) (fun z => nomatch z))
    obtain ⟨g1, g2⟩ := E2.lk (by rw [List.getElem?_set_ne nk]; exact hkk) hb
    exact ⟨by rw [List.getElem?_set_ne nk]; exact g1, by rw [upd_ne nb, g2, upd_ne nb]⟩
end
def sLockT (i : Nat) (m : MS) : MS := fun env st => match env[i]? with
  | some (some (.ref n)) => match st[n]? with
    | some (.tab kvs) => match m env (st.set n (.lck true kvs)) with
      | .nx e s1 => .nx e (s1.set n (.tab kvs))
      | .rt d s1 => .rt d (s1.set n (.tab kvs))
      | _ => .stuck
    | _ => .stuck
  | _ => .stuck
theorem s_lockT {X : Cx} {W : XW} {s : Stmt} {m : MS} (i : Nat) (h : PS X s (TSo X.K W m)) : PS X s (TSo X.K W (sLockT i m)) := ps_wrap (ps_lock h) fun D σ H q => by
  obtain ⟨ι, env, st, R, EV, p⟩ := q
  unfold sLockT at p
  split at p
  · rename_i n e1
    split at p
    · rename_i kvs e2
      obtain ⟨x, hx, a, hi, rfl⟩ := EV.2 i _ e1
      obtain ⟨xs, hH, hk⟩ := R.obj n _ a e2 hi
      refine ⟨a, TabO a xs, hH, trivial, fun od => ?_⟩
      obtain ⟨R1, E1⟩ := lockT_at od R e2 hi hH hk
      refine ⟨ι, env, _, R1, EV.ext E1, ?_⟩
      cases em : m env (st.set n (.lck true kvs)) with
      | nx e s1 =>
        rw [em] at p
        intro ι1 H1 σ1 R2 E2 EV2
        obtain ⟨u1, mk, R3, E3⟩ := unlockT_at R e2 hi hH hk E1 R2 E2
        exact ⟨u1, fun _ => p ι1 _ σ1 R3 E3 (mk.ev EV2)⟩
      | rt d s1 =>
        rw [em] at p
        intro ι1 H1 x R2 E2 rd
        obtain ⟨u1, mk, R3, E3⟩ := unlockT_at R e2 hi hH hk E1 R2 E2
        exact ⟨u1, fun _ => p ι1 _ x R3 E3 (mk.rd rd)⟩
      | _ => rw [em] at p; exact p.elim
    · exact p.elim
  · exact p.elim
theorem so_lockT {st : Sto} {env : Ev} {N : Ev → Sto → Prop} {T : D → Sto → Prop} {n i : Nat} {m : MS} {kvs : List (PyData × D)} (he : env[i]? = some (some (.ref n))) (h : st[n]? = some (.tab kvs)) :
    (sLockT i m env st).Ok N T ↔ (m env (st.set n (.lck true kvs))).Ok (fun e s1 => N e (s1.set n (.tab kvs))) (fun d s1 => T d (s1.set n (.tab kvs))) := by
  unfold sLockT
  rw [he]
  show (match st[n]? with
    | some (.tab kvs) => match m env (st.set n (.lck true kvs)) with
      | .nx e s1 => SO.nx e (s1.set n (.tab kvs))
      | .rt d s1 => .rt d (s1.set n (.tab kvs))
      | _ => .stuck
    | _ => .stuck).Ok N T ↔ _
  rw [h]
  show (match m env (st.set n (.lck true kvs)) with
      | .nx e s1 => SO.nx e (s1.set n (.tab kvs))
      | .rt d s1 => .rt d (s1.set n (.tab kvs))
      | _ => .stuck).Ok N T ↔ _
  cases m env (st.set n (.lck true kvs)) <;> exact Iff.rfl
def TabAt (H : Hp) (a : Addr) (xs : List (NestedKey × Addr × L2.V)) : Prop := (a == sysModules) = false ∧ xs.length ≤ sizeLine ∧ (H a = some (TabO a xs) ∨ ∃ o, H a = some (.frz o (TabO a xs)))
def refsT (xs : List (NestedKey × Addr × L2.V)) : List L2.V := xs.map fun x => V.ref x.2.1
section
variable {X : Cx} {pins : List (Addr × Obj)} {σ : L2.St} {H : Hp} {s : Shared}
theorem tabAt_raw (I : Inv X pins σ H s) {a : Addr} {xs : List (NestedKey × Addr × L2.V)} (h : TabAt H a xs) :
    ∃ es ep, s.heap.DictRaw a es ep ∧ es.size = xs.length ∧ ∀ (i : Nat) k p y, xs[i]? = some (k, p, y) → ∃ en, es[i]? = some en ∧ en.key = .ref p := by
  obtain ⟨h1, h2, h3⟩ := h
  have key : ObjOk X.prog X.w H s.heap a (TabO a xs) := by
    rcases h3 with h3 | ⟨o, h3⟩
    · exact I.hok a _ h3
    · exact (I.hok a _ h3).2
  obtain ⟨o, es, ep, g1, g2, g3, g4, g5⟩ := tab_raw key
  exact ⟨es, ep, ⟨o, g1, g2, g3⟩, g4, g5⟩
theorem vals_keys {es : Array DictEntry} {xs : List (NestedKey × Addr × L2.V)} {us : List Value} (hl : us.length = es.size) (hu : ∀ (i : Nat) v, us[i]? = some v → ∃ hi : i < es.size, v = es[i].key) (hsz : es.size = xs.length) (hx : ∀ (i : Nat) k p y, xs[i]? = some (k, p, y) → ∃ en, es[i]? = some en ∧ en.key = .ref p) : us = xs.map fun x => Value.ref x.2.1 := by
  refine List.ext_getElem? fun i => ?_
  rw [List.getElem?_map]
  by_cases hi : i < us.length
  · have e1 : us[i]? = some us[i] := List.getElem?_eq_getElem hi
    obtain ⟨h1, h2⟩ := hu i _ e1
    have hi2 : i < xs.length := by omega
    have e2 : xs[i]? = some xs[i] := List.getElem?_eq_getElem hi2
    obtain ⟨en, h3, h4⟩ := hx i xs[i].1 xs[i].2.1 xs[i].2.2 e2
    rw [e1, e2, h2]
    have : es[i] = en := by
      rw [Array.getElem?_eq_getElem h1] at h3
      exact Option.some.inj h3
    rw [this, h4]
    rfl
  · rw [List.getElem?_eq_none (by omega), List.getElem?_eq_none (by omega)]
    rfl
theorem vals_refs : ∀ (xs : List (NestedKey × Addr × L2.V)), Vals (refsT xs) (xs.map fun x => Value.ref x.2.1)
  | [] => .nil
  | x :: xs => .cons rfl (vals_refs xs)
end
def rSortT (K : PySem.W.Frag) : List V → Hp → VK → Prop := fun vs H Q => ∃ (a : Addr) (xs : List (NestedKey × Addr × L2.V)) (zs : List PyData), vs = [V.ref a] ∧ TabAt H a xs ∧ DpAll K H (refsT xs) zs ∧ AllAlike zs ∧ Sort2 zs ∧ (∀ d ∈ zs, d.depth ≤ 50) ∧
  ∀ (ps : List (V × PyData)) (p : Addr), ps.Perm ((refsT xs).zip zs) → ps.map (·.2) = zs.mergeSort (dataLe false id) → H p = none → Q (.ref p) (upd H p (.lst (ps.map (·.1))))
theorem cr_sortT {X : Cx} (g : Gd X) : CallR X (.builtin "sorted") (rSortT X.K) := by
  rintro pins s σ H vs us Q I r ⟨a, xs, zs, rfl, hs, hd, hal, hk, hdep, q⟩
  rw [Vals.ref1 r]
  have hlz := dpAll_len hd
  have rv := vals_refs xs
  have hz : (refsT xs).length ≤ sizeLine := by unfold refsT; rw [List.length_map]; exact hs.2.1
  have col : ∀ (R : List Value → Shared → Prop) (E' : Value → Shared → Prop), (∀ h' tk, (∀ b o, s.heap.get? b = some o → h'.get? b = some o) → R (xs.map fun x => Value.ref x.2.1) { s with heap := h', toks := tk }) → wpAny (model X.prog X.w) X.A.in1 (collect (.ref a)) R E' s := by
    intro R E' h
    obtain ⟨es, ep, hr, hsz, hx⟩ := tabAt_raw I hs
    refine PySem.W.kdu_collect (A := X.A.in1) (KdlSrc.rawDict (es := es) (ep := ep) hs.1) (I.ok.hd g.calm) hr (by rw [hsz]; exact hs.2.1) fun h' tk acc hk hacc => ?_
    have e := vals_keys (us := acc.toList) (by rw [Array.length_toList]; exact hacc.1) (fun i v e => hacc.2 i v (by rw [← Array.getElem?_toList]; exact e)) hsz hx
    rw [e]
    exact h h' tk hk
  have e2 : ((refsT xs).zip zs).map (fun b : V × PyData => b.2) = zs := by
    rw [List.map_snd_zip]
    exact Nat.le_of_eq hlz.symm
  refine sorted_col (enc := fun b : V × PyData => b.2) col (each_vals rv hd) (each_reads I rv hd) (by rw [e2]; exact hal) (by rw [e2]; exact hk) (by rw [List.length_zip]; omega) (fun b hb => ?_) fun out h1 h2 tk c k1 k2 hc eo => ?_
  · have := hdep b.2 (by rw [← e2]; exact List.mem_map.mpr ⟨b, hb, rfl⟩)
    have := g.un
    omega
  · have I1 : Inv X pins σ H { s with heap := h1, toks := tk } := I.kept k1
    have hp := List.mergeSort_perm ((refsT xs).zip zs) (dataLe false fun b : V × PyData => b.2)
    have hlen : ((((refsT xs).zip zs).mergeSort (dataLe false fun b : V × PyData => b.2)).map (·.1)).length ≤ sizeLine := by
      rw [List.length_map, hp.length_eq, List.length_zip]
      omega
    refine ⟨.ref _, _, I1.laid (t' := tk) (o := .lst ((((refsT xs).zip zs).mergeSort (dataLe false fun b : V × PyData => b.2)).map (·.1))) k2 (Nat.le_refl _) ⟨hlen, out, c, vals_each eo, hc⟩, rfl, q _ _ hp ?_ (I1.hok.fresh (Nat.le_refl _))⟩
    rw [List.map_mergeSort (r := dataLe false fun b : V × PyData => b.2) (s := dataLe false id) (f := fun b : V × PyData => b.2) fun _ _ _ _ => rfl, e2]
def viewTab (st : Sto) : D → Option (List (PyData × D))
  | .ref n => match st[n]? with
    | some (.tab kvs) => some kvs
    | some (.lck true kvs) => some kvs
    | _ => none
  | _ => none
section
variable {K : PySem.W.Frag} {ι : Gh} {st : Sto} {H : Hp}
theorem refs_rp : ∀ {kvs : List (PyData × D)} {xs : List (NestedKey × Addr × L2.V)}, RTab K ι st H kvs xs → RpA (Frz ι st) H (refsT xs) (kvs.map (·.1))
  | _, _, .nil => .nil
  | _, _, .cons h r => .cons h.2.1 (refs_rp r)
theorem viewTab_at (R : SRel K ι st H) {x : V} {d : D} {kvs : List (PyData × D)} (e : viewTab st d = some kvs) (r : RD K ι st H x d) : ∃ a xs, x = .ref a ∧ TabAt H a xs ∧ RpA (Frz ι st) H (refsT xs) (kvs.map (·.1)) := by
  cases d with
  | v z => cases e
  | scr ns => cases e
  | ref n =>
    obtain ⟨a, h1, h2⟩ := r
    cases q : st[n]? with
    | none => simp only [viewTab, q] at e; cases e
    | some o =>
      simp only [viewTab, q] at e
      have ro := R.obj n o a q h1
      cases o with
      | tab kvs' =>
        cases e
        obtain ⟨xs, g1, g2, g3, g4, g5⟩ := ro
        exact ⟨a, xs, h2, ⟨g2, g4, .inl g1⟩, refs_rp g5⟩
      | lck t kvs' =>
        cases t with
        | false => cases e
        | true =>
          cases e
          obtain ⟨xs, o, g1, g2, g3, g4, g5⟩ := ro
          exact ⟨a, xs, h2, ⟨g2, g4, .inr ⟨o, g1⟩⟩, refs_rp g5⟩
      | _ => cases e
end
def gSorTab : GA := fun ds st => match ds with
  | [x] => match viewTab st x with
    | some kvs => if sorB (kvs.map (·.1)) then .ok ((kvs.map (·.1)).mergeSort (dataLe false id)) st else .stuck
    | none => .stuck
  | _ => .stuck
theorem opF_sorTab {K : PySem.W.Frag} {W : XW} : OpFA K W (rSortT K) gSorTab := by
  intro ι st H xs ds Q R r p
  unfold gSorTab at p
  split at p
  · rename_i x
    obtain ⟨y, rfl, r1⟩ := r.one
    split at p
    · rename_i kvs e
      split at p
      · rename_i hc
        unfold sorB at hc
        simp only [Bool.and_eq_true, Bool.not_eq_true'] at hc
        obtain ⟨⟨⟨h1, h2⟩, h3⟩, h4⟩ := hc
        obtain ⟨q, us, rfl, hq, hr⟩ := viewTab_at R e r1
        refine ⟨q, us, _, rfl, hq, hr.dp h4, alikeB_ok h1, sortB_ok h2, fun d hd => of_decide_eq_true (List.all_eq_true.mp h3 d hd), fun ps b hp hs hb hf => ?_⟩
        have := rpA_all (fun c hc => rpA_of_perm hr c (hp.mem_iff.mp hc))
        rw [hs] at this
        exact p.new R this b hb hf
      · exact p.elim
    · exact p.elim
  · exact p.elim
theorem xf_sorTab {X : Cx} {W : XW} {e : Expr} {es : List Expr} {m : MA} {p pos : Pos} {x : Str} (gd : Gd X) (hg : Gl X x) (hm : X.mg x = none) (hv : bootBuiltins x = some (.builtin "sorted")) (ha : PA X (e :: es) (TAo X.K W m)) (hn : x ≠ "__name__" := by decide) (hdb : (x == ("__debug__" : Str)) = false := by decide)
    (he : starEach (e :: es) X.env = (false, eval e X.env) :: starEach es X.env := by rfl) (hpl : (backTo pos (starEach es X.env)).any (·.1) = false := by rfl) :
    PE X (.Call (.Name x p) (e :: es) [] pos) (TFo X.K W (mfArg gSorTab m)) := pf_wrap (pe_callB (cr_sortT gd) hg hm hv ha hn hdb he hpl) fun σ H Q q => tf_arg opF_sorTab q
end Fw
namespace Wk36
open PySem PySem.Spec PyProof.Rows L2 Fw
abbrev top (i : Nat) : Stmt := PySem.Challenge.pw_pairsandprices_k36_whole_lists_told.main.body.getD i (.Pass ⟨0, 0, 0, 0⟩)
abbrev FnP (K : PySem.W.Frag) (x : Str) (st : Stmt) (f : Addr) (fd : FuncData) : Prop := FunD K x x (defArgs st) (defBody st) (defScope st) [] [] f fd
noncomputable abbrev f_law_open_cells : FF := Fw.LA.f_law_open_cells
noncomputable abbrev f_law_pick : FF := Fw.LA.f_law_pick
noncomputable abbrev f_law_any_order : FF := Fw.LA.f_law_any_order
noncomputable def law_draw_houses_E1 : MI := (miSeq (mVar 7))
noncomputable def law_draw_houses_G1 : MG := (gNm 9)
noncomputable def law_draw_houses_T1 : MT := (mTB (mBin neD (mVar 9) (mVar 6)))
noncomputable def law_draw_houses_M1 : ME := (mVar 9)
noncomputable def law_draw_houses_B1_5 : MS := (sExp (mM fmAppend (mVar 5) (mCons (mArg fTuple (mCons (mVar 7) mNil)) mNil)))
noncomputable def law_draw_houses_B1_4 : MS := (sSeq (sIf (mTB (mBin eqD (mVar 3) (mC (.int 3)))) (sAsg (mFrz (mfBin gCat (mFrz (mLc law_draw_houses_E1 law_draw_houses_G1 law_draw_houses_T1 law_draw_houses_M1 [9])) (mFrz (mfArg gDisp (mCons (mVar 6) mNil))))) (gNm 7)) sNil) law_draw_houses_B1_5)
noncomputable def law_draw_houses_B1_3 : MS := (sSeq (sIf (mTB (mBin eqD (mVar 3) (mC (.int 2)))) (sSeq (sAsg (mCall f_law_pick (mCons (mVar 0) (mCons (mVar 2) mNil)) []) (gNm 8)) (sAsg (mBin addD (mSl (mVar 4) (moSome (mVar 8)) moNone) (mSl (mVar 4) moNone (moSome (mVar 8)))) (gNm 7))) sNil) law_draw_houses_B1_4)
noncomputable def law_draw_houses_B1_2 : MS := (sSeq (sIf (mAndT (mTB (mBin eqD (mVar 3) (mC (.int 1)))) (mTB (mBin gtD (mCall f_law_pick (mCons (mVar 0) (mCons (mC (.int 3)) mNil)) []) (mC (.int 0))))) (sAsg (mSl (mVar 4) moNone moNone) (gNm 7)) sNil) law_draw_houses_B1_3)
noncomputable def law_draw_houses_E2 : MI := (miR1 (mCons (mVar 2) mNil))
noncomputable def law_draw_houses_G2 : MG := (gNm 6)
noncomputable def law_draw_houses_B1 : MS := (sSeq (sAsg (mCall f_law_any_order (mCons (mVar 0) (mCons (mFrz (mRg1 (mVar 2))) mNil)) []) (gNm 7)) law_draw_houses_B1_2)
noncomputable def S_law_draw_houses_4 : MS := (sRet (mArg fTup (mCons (mVar 2) (mCons (mArg fTuple (mCons (mVar 5) mNil)) mNil))))
noncomputable def S_law_draw_houses_3 : MS := (sSeq (sFor law_draw_houses_E2 law_draw_houses_G2 law_draw_houses_B1) S_law_draw_houses_4)
noncomputable def S_law_draw_houses_2 : MS := (sSeq (sPar3 3 4 5 (mCons (mCall f_law_pick (mCons (mVar 0) (mCons (mC (.int 4)) mNil)) []) (mCons (mCall f_law_any_order (mCons (mVar 0) (mCons (mFrz (mRg1 (mVar 2))) mNil)) []) (mCons (mNew (mfArg gDisp mNil)) mNil)))) S_law_draw_houses_3)
noncomputable def S_law_draw_houses : MS := (sSeq (sAsg (mBin addD (mC (.int 1)) (mCall f_law_pick (mCons (mVar 0) (mCons (mVar 1) mNil)) [])) (gNm 2)) S_law_draw_houses_2)
noncomputable def f_law_draw_houses : FF := fnT 10 S_law_draw_houses
noncomputable def law_rounds_E1 : MI := (miSeq (mBin subsD (mBin subsD (mVar 0) (mC (.int 1))) (mVar 4)))
noncomputable def law_rounds_G1 : MG := (gNm 5)
noncomputable def law_rounds_T1 : MT := (mTB (mBin inU (mVar 5) (mVar 1)))
noncomputable def law_rounds_M1 : ME := (mVar 5)
noncomputable def law_rounds_E2 : MI := (miSeq (mVar 1))
noncomputable def law_rounds_G2 : MG := (gNm 4)
noncomputable def law_rounds_T2 : MT := mYes
noncomputable def law_rounds_M2 : ME := (mArg fTup (mCons (mVar 4) (mCons (mBin subsD (mFrz (mLc law_rounds_E1 law_rounds_G1 law_rounds_T1 law_rounds_M1 [5])) (mC (.int 0))) mNil)))
noncomputable def law_rounds_T3 : MT := (mTB (mBin notInU (mVar 8) (mVar 7)))
noncomputable def law_rounds_B3 : MS := (sAsgT 2 (mCons (mFrz (mfBin gCat (mVar 7) (mFrz (mfArg gDisp (mCons (mVar 8) mNil))))) (mCons (mBin subsD (mVar 3) (mVar 8)) mNil)) (gMore (gNm 7) (gMore (gNm 8) gNone)))
noncomputable def law_rounds_B2_3 : MS := (sAsg (mFrz (mfBin gCat (mVar 6) (mFrz (mfBin gRep (mFrz (mfArg gDisp (mCons (mArg fTuple (mCons (mVar 7) mNil)) mNil))) (mArg fInt (mCons (mAndV (mBin eqD (mVar 8) (mVar 4)) (mBin eqD (mVar 4) (mArg (fIntsL lstMin) (mCons (mVar 7) mNil)))) mNil)))))) (gNm 6))
noncomputable def law_rounds_B2_2 : MS := (sSeq (whileL law_rounds_T3 law_rounds_B3 1000000) law_rounds_B2_3)
noncomputable def law_rounds_E3 : MI := (miSeq (mFrz (mfArg gList (mCons (mVar 1) mNil))))
noncomputable def law_rounds_G3 : MG := (gNm 4)
noncomputable def law_rounds_B2 : MS := (sSeq (sAsgT 2 (mCons (mFrz (mfArg gDisp (mCons (mVar 4) mNil))) (mCons (mBin subsD (mVar 3) (mVar 4)) mNil)) (gMore (gNm 7) (gMore (gNm 8) gNone))) law_rounds_B2_2)
noncomputable def law_rounds_E4 : MI := (miSeq (mVar 1))
noncomputable def law_rounds_G4 : MG := (gNm 4)
noncomputable def law_rounds_T4 : MT := (mTB (mBin notInU (mVar 4) (mVar 7)))
noncomputable def law_rounds_M3 : ME := (mVar 4)
noncomputable def law_rounds_E5 : MI := (miSeq (mVar 6))
noncomputable def law_rounds_G5 : MG := (gNm 7)
noncomputable def law_rounds_B4 : MS := (sAsg (mFrz (mLc law_rounds_E4 law_rounds_G4 law_rounds_T4 law_rounds_M3 [4])) (gNm 1))
noncomputable def law_rounds_B1_5 : MS := (sFor law_rounds_E5 law_rounds_G5 law_rounds_B4)
noncomputable def law_rounds_B1_4 : MS := (sSeq (sExp (mM fmAppend (mVar 2) (mCons (mArg fTuple (mCons (mFrz (mfArg gSortG (mCons (mVar 6) mNil))) mNil)) mNil))) law_rounds_B1_5)
noncomputable def law_rounds_B1_3 : MS := (sSeq (sFor law_rounds_E3 law_rounds_G3 law_rounds_B2) law_rounds_B1_4)
noncomputable def law_rounds_B1_2 : MS := (sSeq (sAsg (mFrz (mfArg gDisp mNil)) (gNm 6)) law_rounds_B1_3)
noncomputable def law_rounds_T5 : MT := (mTB (mBin neD (mVar 1) (mFrz (mfArg gDisp mNil))))
noncomputable def law_rounds_B1 : MS := (sSeq (sAsg (mArg fDictP (mCons (mFrz (mLc law_rounds_E2 law_rounds_G2 law_rounds_T2 law_rounds_M2 [4])) mNil)) (gNm 3)) law_rounds_B1_2)
noncomputable def S_law_rounds_3 : MS := (sRet (mArg fTuple (mCons (mVar 2) mNil)))
noncomputable def S_law_rounds_2 : MS := (sSeq (whileL law_rounds_T5 law_rounds_B1 1000000) S_law_rounds_3)
noncomputable def S_law_rounds : MS := (sSeq (sAsgT 2 (mCons (mFrz (mRg1 (mBin subsD (mVar 0) (mC (.int 0))))) (mCons (mNew (mfArg gDisp mNil)) mNil)) (gMore (gNm 1) (gMore (gNm 2) gNone))) S_law_rounds_2)
noncomputable def f_law_rounds : FF := fnT 9 S_law_rounds
noncomputable def law_deal_E1 : MI := (miR1 (mCons (mArg fLen (mCons (mVar 3) mNil)) mNil))
noncomputable def law_deal_G1 : MG := (gNm 4)
noncomputable def law_deal_B3 : MS := (sSub (mBin subsD (mVar 3) (mBin modD (mBin addD (mVar 4) (mC (.int 1))) (mArg fLen (mCons (mVar 3) mNil)))) (mVar 1) (mBin subsD (mVar 3) (mVar 4)))
noncomputable def law_deal_E2 : MI := (miSeq (mVar 2))
noncomputable def law_deal_G2 : MG := (gNm 3)
noncomputable def law_deal_B2 : MS := (sFor law_deal_E1 law_deal_G1 law_deal_B3)
noncomputable def law_deal_E3 : MI := (miSeq (mCall f_law_rounds (mCons (mVar 0) mNil) []))
noncomputable def law_deal_G3 : MG := (gNm 2)
noncomputable def law_deal_B1 : MS := (sFor law_deal_E2 law_deal_G2 law_deal_B2)
noncomputable def law_deal_E4 : MI := (miR1 (mCons (mBin subsD (mVar 0) (mC (.int 0))) mNil))
noncomputable def law_deal_G4 : MG := (gNm 5)
noncomputable def law_deal_T1 : MT := mYes
noncomputable def law_deal_M1 : ME := (mBin subsD (mVar 1) (mVar 5))
noncomputable def S_law_deal_3 : MS := (sRet (mArg fTuple (mCons (mFrz (mLc law_deal_E4 law_deal_G4 law_deal_T1 law_deal_M1 [5])) mNil)))
noncomputable def S_law_deal_2 : MS := (sSeq (sFor law_deal_E3 law_deal_G3 law_deal_B1) S_law_deal_3)
noncomputable def S_law_deal : MS := (sSeq (sAsg (mDnew false) (gNm 1)) S_law_deal_2)
noncomputable def f_law_deal : FF := fnT 6 S_law_deal
noncomputable def pointing_E1 : MI := (miSeq (mBin subsD (mBin subsD (mVar 0) (mC (.int 1))) (mVar 2)))
noncomputable def pointing_G1 : MG := (gNm 3)
noncomputable def pointing_T1 : MT := (mTB (mBin inU (mVar 3) (mVar 1)))
noncomputable def pointing_M1 : ME := (mVar 3)
noncomputable def pointing_E2 : MI := (miSeq (mVar 1))
noncomputable def pointing_G2 : MG := (gNm 2)
noncomputable def pointing_T2 : MT := mYes
noncomputable def pointing_M2 : ME := (mArg fTup (mCons (mVar 2) (mCons (mBin subsD (mFrz (mLc pointing_E1 pointing_G1 pointing_T1 pointing_M1 [3])) (mC (.int 0))) mNil)))
noncomputable def S_pointing : MS := (sRet (mArg fDictP (mCons (mFrz (mLc pointing_E2 pointing_G2 pointing_T2 pointing_M2 [2])) mNil)))
noncomputable def f_pointing : FF := fnK 4 S_pointing
noncomputable def ring_from_B1_2 : MS := (sAsg (mBin subsD (mVar 0) (mVar 1)) (gNm 1))
noncomputable def ring_from_T1 : MT := (mTB (mBin notInU (mVar 1) (mVar 2)))
noncomputable def ring_from_B1 : MS := (sSeq (sExp (mM fmAppend (mVar 2) (mCons (mVar 1) mNil))) ring_from_B1_2)
noncomputable def S_ring_from_5 : MS := (sRet (mArg fTuple (mCons (mFrz (mfBin gCat (mFrz (mfSl (mVar 3) (moSome (mVar 4)) moNone)) (mFrz (mfSl (mVar 3) moNone (moSome (mVar 4)))))) mNil)))
noncomputable def S_ring_from_4 : MS := (sSeq (sAsg (mIndex (mVar 3) (mCons (mArg (fIntsL lstMin) (mCons (mVar 3) mNil)) mNil)) (gNm 4)) S_ring_from_5)
noncomputable def S_ring_from_3 : MS := (sSeq (sAsg (mFrz (mfSl (mVar 2) (moSome (mIndex (mVar 2) (mCons (mVar 1) mNil))) moNone)) (gNm 3)) S_ring_from_4)
noncomputable def S_ring_from_2 : MS := (sSeq (whileL ring_from_T1 ring_from_B1 1000000) S_ring_from_3)
noncomputable def S_ring_from : MS := (sSeq (sAsg (mNew (mfArg gDisp mNil)) (gNm 2)) S_ring_from_2)
noncomputable def f_ring_from : FF := fnT 5 S_ring_from
noncomputable def rounds_E1 : MI := (miSeq (mVar 1))
noncomputable def rounds_G1 : MG := (gNm 5)
noncomputable def rounds_T1 : MT := mYes
noncomputable def rounds_M1 : ME := (mArg fTup (mCons (mCall f_ring_from (mCons (mVar 3) (mCons (mVar 5) mNil)) []) (mCons (mC (.bool true)) mNil)))
noncomputable def rounds_E2 : MI := (miSeq (mVar 1))
noncomputable def rounds_G2 : MG := (gNm 5)
noncomputable def rounds_T2 : MT := (mTB (mBin notInU (mVar 5) (mVar 6)))
noncomputable def rounds_M2 : ME := (mVar 5)
noncomputable def rounds_E3 : MI := (miTab (mVar 4))
noncomputable def rounds_G3 : MG := (gNm 6)
noncomputable def rounds_B2 : MS := (sAsg (mFrz (mLc rounds_E2 rounds_G2 rounds_T2 rounds_M2 [5])) (gNm 1))
noncomputable def rounds_B1_4 : MS := (sLockT 4 (sFor rounds_E3 rounds_G3 rounds_B2))
noncomputable def rounds_B1_3 : MS := (sSeq (sExp (mM fmAppend (mVar 2) (mCons (mArg fTuple (mCons (mFrz (mfArg gSorTab (mCons (mVar 4) mNil))) mNil)) mNil))) rounds_B1_4)
noncomputable def rounds_B1_2 : MS := (sSeq (sAsg (mArg fDictT (mCons (mFrz (mLc rounds_E1 rounds_G1 rounds_T1 rounds_M1 [5])) mNil)) (gNm 4)) rounds_B1_3)
noncomputable def rounds_T3 : MT := (mTB (mBin neD (mVar 1) (mFrz (mfArg gDisp mNil))))
noncomputable def rounds_B1 : MS := (sSeq (sAsg (mCall f_pointing (mCons (mVar 0) (mCons (mVar 1) mNil)) []) (gNm 3)) rounds_B1_2)
noncomputable def S_rounds_3 : MS := (sRet (mArg fTuple (mCons (mVar 2) mNil)))
noncomputable def S_rounds_2 : MS := (sSeq (whileL rounds_T3 rounds_B1 1000000) S_rounds_3)
noncomputable def S_rounds : MS := (sSeq (sPar2 1 2 (mCons (mFrz (mRg1 (mBin subsD (mVar 0) (mC (.int 0))))) (mCons (mNew (mfArg gDisp mNil)) mNil))) S_rounds_2)
noncomputable def f_rounds : FF := fnT 7 S_rounds
noncomputable def deal_by_rings_E1 : MI := (miR1 (mCons (mBin subsD (mVar 0) (mC (.int 0))) mNil))
noncomputable def deal_by_rings_G1 : MG := (gNm 2)
noncomputable def deal_by_rings_T1 : MT := mYes
noncomputable def deal_by_rings_M1 : ME := (mC (.int 0))
noncomputable def deal_by_rings_E2 : MI := (miZip (mCons (mVar 4) (mCons (mBin addD (mSl (mVar 4) (moSome (mC (.int 1))) moNone) (mSl (mVar 4) moNone (moSome (mC (.int 1))))) mNil)))
noncomputable def deal_by_rings_G2 : MG := (gTp 2 (gMore (gNm 5) (gMore (gNm 6) gNone)))
noncomputable def deal_by_rings_B3 : MS := (sSub (mVar 6) (mVar 1) (mVar 5))
noncomputable def deal_by_rings_E3 : MI := (miSeq (mVar 3))
noncomputable def deal_by_rings_G3 : MG := (gNm 4)
noncomputable def deal_by_rings_B2 : MS := (sFor deal_by_rings_E2 deal_by_rings_G2 deal_by_rings_B3)
noncomputable def deal_by_rings_E4 : MI := (miSeq (mCall f_rounds (mCons (mVar 0) mNil) []))
noncomputable def deal_by_rings_G4 : MG := (gNm 3)
noncomputable def deal_by_rings_B1 : MS := (sFor deal_by_rings_E3 deal_by_rings_G3 deal_by_rings_B2)
noncomputable def S_deal_by_rings_3 : MS := (sRet (mArg fTuple (mCons (mVar 1) mNil)))
noncomputable def S_deal_by_rings_2 : MS := (sSeq (sFor deal_by_rings_E4 deal_by_rings_G4 deal_by_rings_B1) S_deal_by_rings_3)
noncomputable def S_deal_by_rings : MS := (sSeq (sAsg (mNew (mLc deal_by_rings_E1 deal_by_rings_G1 deal_by_rings_T1 deal_by_rings_M1 [2])) (gNm 1)) S_deal_by_rings_2)
noncomputable def f_deal_by_rings : FF := fnT 7 S_deal_by_rings
noncomputable def S_told : MS := (sRet (mArg fTup (mCons (mBin subsD (mVar 0) (mC (.int 0))) (mCons (mBin addD (mBin addD (mSl (mBin subsD (mVar 0) (mC (.int 1))) moNone (moSome (mVar 1))) (mArg fTup (mCons (mVar 2) mNil))) (mSl (mBin subsD (mVar 0) (mC (.int 1))) (moSome (mBin addD (mVar 1) (mC (.int 1)))) moNone)) mNil))))
noncomputable def f_told : FF := fnT 3 S_told
noncomputable def law_B2_5 : MS := (sIf (mOrT (mTB (mBin neD (mArg fReprK (mCons (mVar 10) mNil)) (mArg fReprK (mCons (mCall f_law_deal (mCons (mVar 9) mNil) []) mNil)))) (mTB (mBin ltD (mIndex (mBin subsD (mBin subsD (mVar 3) (mC (.int 1))) (mVar 7)) (mCons (mBin subsD (mVar 10) (mVar 7)) mNil)) (mIndex (mBin subsD (mBin subsD (mVar 3) (mC (.int 1))) (mVar 7)) (mCons (mBin subsD (mVar 5) (mVar 7)) mNil))))) (sRet (mC (.bool false))) sNil)
noncomputable def law_B2_4 : MS := (sSeq (sAsg (mCall f_deal_by_rings (mCons (mVar 9) mNil) []) (gNm 10)) law_B2_5)
noncomputable def law_B2_3 : MS := (sSeq (sIf (mTB (mBin neD (mArg fReprK (mCons (mVar 9) mNil)) (mArg fReprK (mCons (mArg fTup (mCons (mVar 4) (mCons (mBin addD (mBin addD (mSl (mBin subsD (mVar 3) (mC (.int 1))) moNone (moSome (mVar 7))) (mArg fTup (mCons (mVar 8) mNil))) (mSl (mBin subsD (mVar 3) (mC (.int 1))) (moSome (mBin addD (mVar 7) (mC (.int 1)))) moNone)) mNil))) mNil)))) (sRet (mC (.bool false))) sNil) law_B2_4)
noncomputable def law_B2_2 : MS := (sSeq (sAsg (mCall f_told (mCons (mVar 3) (mCons (mVar 7) (mCons (mVar 8) mNil))) []) (gNm 9)) law_B2_3)
noncomputable def law_E1 : MI := (miR1 (mCons (mC (.int 4)) mNil))
noncomputable def law_G1 : MG := (gNm 6)
noncomputable def law_B2 : MS := (sSeq (sPar2 7 8 (mCons (mCall f_law_pick (mCons (mVar 1) (mCons (mVar 4) mNil)) []) (mCons (mArg fTuple (mCons (mCall f_law_any_order (mCons (mVar 1) (mCons (mFrz (mRg1 (mVar 4))) mNil)) []) mNil)) mNil))) law_B2_2)
noncomputable def law_E2 : MI := (miSeq (mVar 11))
noncomputable def law_G2 : MG := (gNm 7)
noncomputable def law_B3 : MS := (sAsg (mCall f_told (mCons (mVar 9) (mCons (mVar 7) (mCons (mArg fTuple (mCons (mCall f_law_any_order (mCons (mVar 1) (mCons (mFrz (mRg1 (mVar 4))) mNil)) []) mNil)) mNil))) []) (gNm 9))
noncomputable def law_E3 : MI := (miSeq (mVar 11))
noncomputable def law_G3 : MG := (gNm 7)
noncomputable def law_T1 : MT := mYes
noncomputable def law_M1 : ME := (mBin subD (mIndex (mBin subsD (mBin subsD (mVar 3) (mC (.int 1))) (mVar 7)) (mCons (mBin subsD (mVar 5) (mVar 7)) mNil)) (mIndex (mBin subsD (mBin subsD (mVar 3) (mC (.int 1))) (mVar 7)) (mCons (mBin subsD (mVar 10) (mVar 7)) mNil)))
noncomputable def law_B1_9 : MS := (sIf (mAndT (mTB (mBin geD (mArg (fIntsL lstMin) (mCons (mVar 12) mNil)) (mC (.int 0)))) (mTB (mBin gtD (mArg (fIntsL lstMax) (mCons (mVar 12) mNil)) (mC (.int 0))))) (sRet (mC (.bool false))) sNil)
noncomputable def law_B1_8 : MS := (sSeq (sAsg (mFrz (mLc law_E3 law_G3 law_T1 law_M1 [7])) (gNm 12)) law_B1_9)
noncomputable def law_B1_7 : MS := (sSeq (sAsg (mCall f_deal_by_rings (mCons (mVar 9) mNil) []) (gNm 10)) law_B1_8)
noncomputable def law_B1_6 : MS := (sSeq (sFor law_E2 law_G2 law_B3) law_B1_7)
noncomputable def law_B1_5 : MS := (sSeq (sPar2 11 9 (mCons (mSl (mCall f_law_any_order (mCons (mVar 1) (mCons (mFrz (mRg1 (mVar 4))) mNil)) []) moNone (moSome (mBin addD (mC (.int 1)) (mCall f_law_pick (mCons (mVar 1) (mCons (mVar 4) mNil)) [])))) (mCons (mVar 3) mNil))) law_B1_6)
noncomputable def law_B1_4 : MS := (sSeq (sFor law_E1 law_G1 law_B2) law_B1_5)
noncomputable def law_B1_3 : MS := (sSeq (sIf (mTB (mBin neD (mArg fReprK (mCons (mCall f_deal_by_rings (mCons (mVar 3) mNil) []) mNil)) (mArg fReprK (mCons (mVar 5) mNil)))) (sRet (mC (.bool false))) sNil) law_B1_4)
noncomputable def law_B1_2 : MS := (sSeq (sAsgT 2 (mCons (mBin subsD (mVar 3) (mC (.int 0))) (mCons (mCall f_law_deal (mCons (mVar 3) mNil) []) mNil)) (gMore (gNm 4) (gMore (gNm 5) gNone))) law_B1_3)
noncomputable def law_E4 : MI := (miR1 (mCons (mC (.int 3)) mNil))
noncomputable def law_G4 : MG := (gNm 2)
noncomputable def law_B1 : MS := (sSeq (sAsg (mCall f_law_draw_houses (mCons (mVar 1) (mCons (mC (.int 6)) mNil)) []) (gNm 3)) law_B1_2)
noncomputable def S_law_3 : MS := (sRet (mC (.bool true)))
noncomputable def S_law_2 : MS := (sSeq (sFor law_E4 law_G4 law_B1) S_law_3)
noncomputable def S_law : MS := (sSeq (sAsg (mCall f_law_open_cells (mCons (mVar 0) mNil) []) (gNm 1)) S_law_2)
noncomputable def f_law : FF := fnT 13 S_law
section
variable {P : Program} {w : World} {K : PySem.W.Frag} {mg : Str → Option Value} {base : Heap}
abbrev N_law_open_cells : List Str := ["script", "stirred", "cell", "cells"]
theorem sc_law_open_cells : FnScope N_law_open_cells ["script"] (defScope (top 7)) := ⟨rfl, rfl, rfl, by decide +kernel, rfl, by decide +kernel, by decide +kernel⟩
theorem ok_law_open_cells {f : Addr} {fd : FuncData} (F : FnP K "_law_open_cells" (top 7) f fd) (h_int : mg "int" = none) (h_abs : mg "abs" = none) : FnG P w K mg base CX0 1 f fd ["script"] (spG K V0 1 f_law_open_cells) := by
  refine fnG_K F sc_law_open_cells fun cdv A outer s H E hr => ?_
  have sc := sc_law_open_cells
  have gd := hr.gd (X := cxOf CX0 P w K mg base N_law_open_cells "_law_open_cells" (defScope (top 7)) f cdv A outer s H E) rfl
  exact (ss_cons (s_asg x_int (gn 1 sc.nd)) (ss_cons (s_for gd own_pass (i_seq (xv 0)) (gn 2 sc.nd) (ss_one (s_asg (x_mod (x_callT call_int1 opA_int rfl h_int bt_int (xa_cons (x_add (x_add (x_mul (xv 1) x_int) (x_mul (xv 2) x_int)) x_int) xa_nil)) x_int) (gn 1 sc.nd)))) (ss_cons (s_lcF (i := 3) (own := [("cell", 2)]) gd sc.nd rfl rfl (sw_true rfl rfl rfl (by decide +kernel)) (i_seq (xv 0)) (blkOk_by (N := N_law_open_cells) (sc := defScope (top 7)) (by decide +kernel)) (fun _ _ _ _ _ => ⟨(gn 2 sc.nd), ts_nil, (x_callB call_abs opA_abs rfl h_abs bt_abs (xa_cons (xv 2) xa_nil))⟩)) (ss_one (s_ret (x_disp (ps_cons0 x_str (x_new (xf_rev (xv 3))) (ps_cons0 x_str x_int (ps_cons0 x_str (xv 1) (ps_cons0 x_str x_int ps_nil0))))))))))
abbrev N_law_pick : List Str := ["source", "most", "cells", "others", "lap", "stirred"]
theorem sc_law_pick : FnScope N_law_pick ["source", "most"] (defScope (top 8)) := ⟨rfl, rfl, rfl, by decide +kernel, rfl, by decide +kernel, by decide +kernel⟩
theorem ok_law_pick {f : Addr} {fd : FuncData} (F : FnP K "_law_pick" (top 8) f fd) (h_len : mg "len" = none) (h_int : mg "int" = none) : FnG P w K mg base CX0 1 f fd ["source", "most"] (spG K V0 2 f_law_pick) := by
  refine fnG_T F sc_law_pick fun cdv A outer s H E hr => ?_
  have sc := sc_law_pick
  have gd := hr.gd (X := cxOf CX0 P w K mg base N_law_pick "_law_pick" (defScope (top 8)) f cdv A outer s H E) rfl
  exact (ss_cons (s_if (t_c (c_lt (xv 1) x_int)) (ss_one (s_ret x_int)) ss_nil) (ss_cons (s_asg (x_sub' gd (xv 0) x_str) (gn 2 sc.nd)) (ss_cons (s_while 1000000 own_pass (PW.pt (t_and (t_c (c_lt (x_sub' gd (xv 0) x_str) x_int)) (t_and1 (t_c (c_gt (x_callB call_len opA_len rfl h_len bt_len (xa_cons (xv 2) xa_nil)) x_int))))) (ss_one (s_subP gd (x_m0 PySem.F.plainAttrs_list PySem.F.slot_list_pop PySem.F.type_list_pop mt_pop opM_pop (xv 2)) (xv 0) x_str))) (ss_cons (s_asg (x_sub' gd (xv 0) x_str) (gn 3 sc.nd)) (ss_cons (s_if (t_c (c_gt (xv 3) x_int)) (ss_cons (s_subP gd (x_fdiv (xv 3) (xv 1)) (xv 0) x_str) (ss_one (s_ret (x_mod (x_callT call_int1 opA_int rfl h_int bt_int (xa_cons (xv 3) xa_nil)) (xv 1))))) ss_nil) (ss_cons (s_subP gd (x_add (x_sub' gd (xv 0) x_str) x_int) (xv 0) x_str) (ss_cons (s_asg (x_sub' gd (xv 0) x_str) (gn 4 sc.nd)) (ss_cons (s_asg (x_mod (x_callT call_int1 opA_int rfl h_int bt_int (xa_cons (x_add (x_sub' gd (xv 0) x_str) (x_mul (xv 4) x_int)) xa_nil)) x_int) (gn 5 sc.nd)) (ss_cons (s_asg (x_mod (x_callT call_int1 opA_int rfl h_int bt_int (xa_cons (x_add (x_mul (xv 5) (xv 5)) (x_mul (xv 4) x_int)) xa_nil)) x_int) (gn 5 sc.nd)) (ss_one (s_ret (x_mod (x_callT call_int1 opA_int rfl h_int bt_int (xa_cons (x_fdiv (xv 5) x_int) xa_nil)) (xv 1)))))))))))))
abbrev N_law_any_order : List Str := ["source", "things", "others", "lap"]
theorem sc_law_any_order : FnScope N_law_any_order ["source", "things"] (defScope (top 9)) := ⟨rfl, rfl, rfl, by decide +kernel, rfl, by decide +kernel, by decide +kernel⟩
theorem ok_law_any_order {f : Addr} {fd : FuncData} (F : FnP K "_law_any_order" (top 9) f fd) (h_list : mg "list" = none) (h_len : mg "len" = none) (h_range : mg "range" = none) (C_law_pick : Cal P w K mg base 1 "_law_pick" 2 [] f_law_pick) : FnG P w K mg base CX0 2 f fd ["source", "things"] (spG K V0 2 f_law_any_order) := by
  refine fnG_T F sc_law_any_order fun cdv A outer s H E hr => ?_
  have sc := sc_law_any_order
  have gd := hr.gd (X := cxOf CX0 P w K mg base N_law_any_order "_law_any_order" (defScope (top 9)) f cdv A outer s H E) rfl
  exact (ss_cons (s_asg (x_new (xf_list rfl h_list bt_list (xa_cons (xv 1) xa_nil))) (gn 2 sc.nd)) (ss_one (s_ret (x_frz (xf_lc (own := [("lap", 3)]) gd sc.nd (i_range1 rfl h_range (xa_cons (x_callB call_len opA_len rfl h_len bt_len (xa_cons (xv 2) xa_nil)) xa_nil)) (blkOk_by (N := N_law_any_order) (sc := defScope (top 9)) (by decide +kernel)) (fun _ _ _ _ _ => ⟨(gn 3 sc.nd), ts_nil, (x_m PySem.F.plainAttrs_list PySem.F.slot_list_pop PySem.F.type_list_pop mt_popAt opM_popAt (xv 2) (xa_cons (x_cal C_law_pick hr (by decide) rfl (xa_cons (xv 0) (xa_cons (x_callB call_len opA_len rfl h_len bt_len (xa_cons (xv 2) xa_nil)) xa_nil)) (.c (.c .n)) rfl) xa_nil))⟩))))))
abbrev N_law_draw_houses : List Str := ["source", "most", "n", "road", "first", "lists", "i", "row", "k", "h"]
theorem sc_law_draw_houses : FnScope N_law_draw_houses ["source", "most"] (defScope (top 10)) := ⟨rfl, rfl, rfl, by decide +kernel, rfl, by decide +kernel, by decide +kernel⟩
theorem ok_law_draw_houses {f : Addr} {fd : FuncData} (F : FnP K "_law_draw_houses" (top 10) f fd) (h_range : mg "range" = none) (h_list : mg "list" = none) (h_tuple : mg "tuple" = none) (C_law_pick : Cal P w K mg base 1 "_law_pick" 2 [] f_law_pick) (C_law_any_order : Cal P w K mg base 2 "_law_any_order" 2 [] f_law_any_order) : FnG P w K mg base CX0 3 f fd ["source", "most"] (spG K V0 2 f_law_draw_houses) := by
  refine fnG_T F sc_law_draw_houses fun cdv A outer s H E hr => ?_
  have sc := sc_law_draw_houses
  have gd := hr.gd (X := cxOf CX0 P w K mg base N_law_draw_houses "_law_draw_houses" (defScope (top 10)) f cdv A outer s H E) rfl
  exact (ss_cons (s_asg (x_add x_int (x_cal C_law_pick hr (by decide) rfl (xa_cons (xv 0) (xa_cons (xv 1) xa_nil)) (.c (.c .n)) rfl)) (gn 2 sc.nd)) (ss_cons (s_p3 gd sc.nd (xa_cons (x_cal C_law_pick hr (by decide) rfl (xa_cons (xv 0) (xa_cons x_int xa_nil)) (.c (.c .n)) rfl) (xa_cons (x_cal C_law_any_order hr (by decide) rfl (xa_cons (xv 0) (xa_cons (x_frz (xf_listRg1 gd rfl h_list rfl h_range (xv 2))) xa_nil)) (.c (.c .n)) rfl) (xa_cons (x_new (xf_disp xa_nil)) xa_nil)))) (ss_cons (s_for gd own_pass (i_range1 rfl h_range (xa_cons (xv 2) xa_nil)) (gn 6 sc.nd) (ss_cons (s_asg (x_cal C_law_any_order hr (by decide) rfl (xa_cons (xv 0) (xa_cons (x_frz (xf_listRg1 gd rfl h_list rfl h_range (xv 2))) xa_nil)) (.c (.c .n)) rfl) (gn 7 sc.nd)) (ss_cons (s_if (PW.pt (t_and (t_c (c_eq gd (xv 3) x_int)) (t_and1 (t_c (c_gt (x_cal C_law_pick hr (by decide) rfl (xa_cons (xv 0) (xa_cons x_int xa_nil)) (.c (.c .n)) rfl) x_int))))) (ss_one (s_asg (x_slice (xv 4) xo_none xo_none) (gn 7 sc.nd))) ss_nil) (ss_cons (s_if (t_c (c_eq gd (xv 3) x_int)) (ss_cons (s_asg (x_cal C_law_pick hr (by decide) rfl (xa_cons (xv 0) (xa_cons (xv 2) xa_nil)) (.c (.c .n)) rfl) (gn 8 sc.nd)) (ss_one (s_asg (x_add (x_slice (xv 4) (xo_some (xv 8)) xo_none) (x_slice (xv 4) xo_none (xo_some (xv 8)))) (gn 7 sc.nd)))) ss_nil) (ss_cons (s_if (t_c (c_eq gd (xv 3) x_int)) (ss_one (s_asg (x_frz (xf_cat (x_frz (xf_lc (own := [("h", 9)]) gd sc.nd (i_seq (xv 7)) (blkOk_by (N := N_law_draw_houses) (sc := defScope (top 10)) (by decide +kernel)) (fun _ _ _ _ _ => ⟨(gn 9 sc.nd), (ts_one (t_c (c_ne gd.blk (xv 9) (xv 6)))), (xv 9)⟩))) (x_frz (xf_disp (xa_cons (xv 6) xa_nil))))) (gn 7 sc.nd))) ss_nil) (ss_one (s_expr (x_m PySem.F.plainAttrs_list PySem.F.slot_list_append PySem.F.type_list_append mt_append opM_append (xv 5) (xa_cons (x_callT call_tupleN opA_tuple rfl h_tuple bt_tuple (xa_cons (xv 7) xa_nil)) xa_nil))))))))) (ss_one (s_ret (x_tup (xa_cons (xv 2) (xa_cons (x_callT call_tupleN opA_tuple rfl h_tuple bt_tuple (xa_cons (xv 5) xa_nil)) xa_nil))))))))
abbrev N_law_rounds : List Str := ["houses", "left", "found", "points", "i", "h", "rings", "ring", "j"]
theorem sc_law_rounds : FnScope N_law_rounds ["houses"] (defScope (top 11)) := ⟨rfl, rfl, rfl, by decide +kernel, rfl, by decide +kernel, by decide +kernel⟩
theorem ok_law_rounds {f : Addr} {fd : FuncData} (F : FnP K "_law_rounds" (top 11) f fd) (h_range : mg "range" = none) (h_list : mg "list" = none) (h_dict : mg "dict" = none) (h_tuple : mg "tuple" = none) (h_min : mg "min" = none) (h_int : mg "int" = none) (h_sorted : mg "sorted" = none) : FnG P w K mg base CX0 1 f fd ["houses"] (spG K V0 1 f_law_rounds) := by
  refine fnG_T F sc_law_rounds fun cdv A outer s H E hr => ?_
  have sc := sc_law_rounds
  have gd := hr.gd (X := cxOf CX0 P w K mg base N_law_rounds "_law_rounds" (defScope (top 11)) f cdv A outer s H E) rfl
  exact (ss_cons (s_pT gd (xa_cons (x_frz (xf_listRg1 gd rfl h_list rfl h_range (x_sub' gd (xv 0) x_int))) (xa_cons (x_new (xf_disp xa_nil)) xa_nil)) (gs_cons (gn 1 sc.nd) (gs_cons (gn 2 sc.nd) gs_nil))) (ss_cons (s_while 1000000 own_pass (t_c (c_ne gd (xv 1) (x_frz (xf_disp xa_nil)))) (ss_cons (s_asg (x_callT (call_dictP gd.calm) opA_dictP rfl h_dict bt_dict (xa_cons (x_frz (xf_lc (own := [("i", 4)]) gd sc.nd (i_seq (xv 1)) (blkOk_by (N := N_law_rounds) (sc := defScope (top 11)) (by decide +kernel)) (fun _ _ _ _ _ => ⟨(gn 4 sc.nd), ts_nil, (x_tup (xa_cons (xv 4) (xa_cons (x_sub' gd.blk (x_frz (xf_lc (own := [("h", 5)]) gd.blk sc.nd (i_seq (x_sub' gd.blk (x_sub' gd.blk (xv 0) x_int) (xv 4))) (blkOk_by (by kernel_rfl)) (fun _ _ _ _ _ => ⟨(gn 5 sc.nd), (ts_one (t_c (c_in gd.blk.blk (xv 5) (xv 1)))), (xv 5)⟩))) x_int) xa_nil)))⟩))) xa_nil)) (gn 3 sc.nd)) (ss_cons (s_asg (x_frz (xf_disp xa_nil)) (gn 6 sc.nd)) (ss_cons (s_for gd own_pass (i_seq (x_frz (xf_list rfl h_list bt_list (xa_cons (xv 1) xa_nil)))) (gn 4 sc.nd) (ss_cons (s_pT gd (xa_cons (x_frz (xf_disp (xa_cons (xv 4) xa_nil))) (xa_cons (x_sub' gd (xv 3) (xv 4)) xa_nil)) (gs_cons (gn 7 sc.nd) (gs_cons (gn 8 sc.nd) gs_nil))) (ss_cons (s_while 1000000 own_pass (t_c (c_notIn gd (xv 8) (xv 7))) (ss_one (s_pT gd (xa_cons (x_frz (xf_cat (xv 7) (x_frz (xf_disp (xa_cons (xv 8) xa_nil))))) (xa_cons (x_sub' gd (xv 3) (xv 8)) xa_nil)) (gs_cons (gn 7 sc.nd) (gs_cons (gn 8 sc.nd) gs_nil))))) (ss_one (s_asg (x_frz (xf_cat (xv 6) (x_frz (xf_rep (x_frz (xf_disp (xa_cons (x_callT call_tupleN opA_tuple rfl h_tuple bt_tuple (xa_cons (xv 7) xa_nil)) xa_nil))) (x_callT call_int1 opA_int rfl h_int bt_int (xa_cons (x_and (x_c (c_eq gd (xv 8) (xv 4))) (x_one (x_c (c_eq gd (xv 4) (x_callB (cr_min gd.calm) opA_minL rfl h_min bt_min (xa_cons (xv 7) xa_nil)))))) xa_nil)))))) (gn 6 sc.nd)))))) (ss_cons (s_expr (x_m PySem.F.plainAttrs_list PySem.F.slot_list_append PySem.F.type_list_append mt_append opM_append (xv 2) (xa_cons (x_callT call_tupleN opA_tuple rfl h_tuple bt_tuple (xa_cons (x_frz (xf_sortG gd rfl h_sorted bt_sorted (xa_cons (xv 6) xa_nil))) xa_nil)) xa_nil))) (ss_one (s_for gd own_pass (i_seq (xv 6)) (gn 7 sc.nd) (ss_one (s_asg (x_frz (xf_lc (own := [("i", 4)]) gd sc.nd (i_seq (xv 1)) (blkOk_by (N := N_law_rounds) (sc := defScope (top 11)) (by decide +kernel)) (fun _ _ _ _ _ => ⟨(gn 4 sc.nd), (ts_one (t_c (c_notIn gd.blk (xv 4) (xv 7)))), (xv 4)⟩))) (gn 1 sc.nd)))))))))) (ss_one (s_ret (x_callT call_tupleN opA_tuple rfl h_tuple bt_tuple (xa_cons (xv 2) xa_nil))))))
abbrev N_law_deal : List Str := ["houses", "found", "rings", "ring", "k", "i"]
theorem sc_law_deal : FnScope N_law_deal ["houses"] (defScope (top 12)) := ⟨rfl, rfl, rfl, by decide +kernel, rfl, by decide +kernel, by decide +kernel⟩
theorem ok_law_deal {f : Addr} {fd : FuncData} (F : FnP K "_law_deal" (top 12) f fd) (h_len : mg "len" = none) (h_range : mg "range" = none) (h_tuple : mg "tuple" = none) (C_law_rounds : Cal P w K mg base 1 "_law_rounds" 1 [] f_law_rounds) : FnG P w K mg base CX0 2 f fd ["houses"] (spG K V0 1 f_law_deal) := by
  refine fnG_T F sc_law_deal fun cdv A outer s H E hr => ?_
  have sc := sc_law_deal
  have gd := hr.gd (X := cxOf CX0 P w K mg base N_law_deal "_law_deal" (defScope (top 12)) f cdv A outer s H E) rfl
  exact (ss_cons (s_asg (x_dnew false) (gn 1 sc.nd)) (ss_cons (s_for gd own_pass (i_seq (x_cal C_law_rounds hr (by decide) rfl (xa_cons (xv 0) xa_nil) (.c .n) rfl)) (gn 2 sc.nd) (ss_one (s_for gd own_pass (i_seq (xv 2)) (gn 3 sc.nd) (ss_one (s_for gd own_pass (i_range1 rfl h_range (xa_cons (x_callB call_len opA_len rfl h_len bt_len (xa_cons (xv 3) xa_nil)) xa_nil)) (gn 4 sc.nd) (ss_one (s_subP gd (x_sub' gd (xv 3) (x_mod (x_add (xv 4) x_int) (x_callB call_len opA_len rfl h_len bt_len (xa_cons (xv 3) xa_nil)))) (xv 1) (x_sub' gd (xv 3) (xv 4))))))))) (ss_one (s_ret (x_callT call_tupleN opA_tuple rfl h_tuple bt_tuple (xa_cons (x_frz (xf_lc (own := [("i", 5)]) gd sc.nd (i_range1 rfl h_range (xa_cons (x_sub' gd (xv 0) x_int) xa_nil)) (blkOk_by (N := N_law_deal) (sc := defScope (top 12)) (by decide +kernel)) (fun _ _ _ _ _ => ⟨(gn 5 sc.nd), ts_nil, (x_sub' gd.blk (xv 1) (xv 5))⟩))) xa_nil))))))
abbrev N_pointing : List Str := ["houses", "left", "i", "h"]
theorem sc_pointing : FnScope N_pointing ["houses", "left"] (defScope (top 1)) := ⟨rfl, rfl, rfl, by decide +kernel, rfl, by decide +kernel, by decide +kernel⟩
theorem ok_pointing {f : Addr} {fd : FuncData} (F : FnP K "pointing" (top 1) f fd) (h_dict : mg "dict" = none) : FnG P w K mg base CX0 1 f fd ["houses", "left"] (spG K V0 2 f_pointing) := by
  refine fnG_K F sc_pointing fun cdv A outer s H E hr => ?_
  have sc := sc_pointing
  have gd := hr.gd (X := cxOf CX0 P w K mg base N_pointing "pointing" (defScope (top 1)) f cdv A outer s H E) rfl
  exact (ss_one (s_ret (x_callT (call_dictP gd.calm) opA_dictP rfl h_dict bt_dict (xa_cons (x_frz (xf_lc (own := [("i", 2)]) gd sc.nd (i_seq (xv 1)) (blkOk_by (N := N_pointing) (sc := defScope (top 1)) (by decide +kernel)) (fun _ _ _ _ _ => ⟨(gn 2 sc.nd), ts_nil, (x_tup (xa_cons (xv 2) (xa_cons (x_sub' gd.blk (x_frz (xf_lc (own := [("h", 3)]) gd.blk sc.nd (i_seq (x_sub' gd.blk (x_sub' gd.blk (xv 0) x_int) (xv 2))) (blkOk_by (by kernel_rfl)) (fun _ _ _ _ _ => ⟨(gn 3 sc.nd), (ts_one (t_c (c_in gd.blk.blk (xv 3) (xv 1)))), (xv 3)⟩))) x_int) xa_nil)))⟩))) xa_nil))))
abbrev N_ring_from : List Str := ["points", "person", "seen", "ring", "k"]
theorem sc_ring_from : FnScope N_ring_from ["points", "person"] (defScope (top 2)) := ⟨rfl, rfl, rfl, by decide +kernel, rfl, by decide +kernel, by decide +kernel⟩
theorem ok_ring_from {f : Addr} {fd : FuncData} (F : FnP K "ring_from" (top 2) f fd) (h_min : mg "min" = none) (h_tuple : mg "tuple" = none) : FnG P w K mg base CX0 1 f fd ["points", "person"] (spG K V0 2 f_ring_from) := by
  refine fnG_T F sc_ring_from fun cdv A outer s H E hr => ?_
  have sc := sc_ring_from
  have gd := hr.gd (X := cxOf CX0 P w K mg base N_ring_from "ring_from" (defScope (top 2)) f cdv A outer s H E) rfl
  exact (ss_cons (s_asg (x_new (xf_disp xa_nil)) (gn 2 sc.nd)) (ss_cons (s_while 1000000 own_pass (t_c (c_notIn gd (xv 1) (xv 2))) (ss_cons (s_expr (x_m PySem.F.plainAttrs_list PySem.F.slot_list_append PySem.F.type_list_append mt_append opM_append (xv 2) (xa_cons (xv 1) xa_nil))) (ss_one (s_asg (x_sub' gd (xv 0) (xv 1)) (gn 1 sc.nd))))) (ss_cons (s_asg (x_frz (xf_slice (xv 2) (xo_some (x_index (xv 2) (xa_cons (xv 1) xa_nil))) xo_none)) (gn 3 sc.nd)) (ss_cons (s_asg (x_index (xv 3) (xa_cons (x_callB (cr_min gd.calm) opA_minL rfl h_min bt_min (xa_cons (xv 3) xa_nil)) xa_nil)) (gn 4 sc.nd)) (ss_one (s_ret (x_callT call_tupleN opA_tuple rfl h_tuple bt_tuple (xa_cons (x_frz (xf_cat (x_frz (xf_slice (xv 3) (xo_some (xv 4)) xo_none)) (x_frz (xf_slice (xv 3) xo_none (xo_some (xv 4)))))) xa_nil))))))))
abbrev N_rounds : List Str := ["houses", "left", "found", "points", "rings", "person", "ring"]
theorem sc_rounds : FnScope N_rounds ["houses"] (defScope (top 3)) := ⟨rfl, rfl, rfl, by decide +kernel, rfl, by decide +kernel, by decide +kernel⟩
theorem ok_rounds {f : Addr} {fd : FuncData} (F : FnP K "rounds" (top 3) f fd) (h_range : mg "range" = none) (h_list : mg "list" = none) (h_dict : mg "dict" = none) (h_sorted : mg "sorted" = none) (h_tuple : mg "tuple" = none) (C_pointing : Cal P w K mg base 1 "pointing" 2 [] f_pointing) (C_ring_from : Cal P w K mg base 1 "ring_from" 2 [] f_ring_from) : FnG P w K mg base CX0 2 f fd ["houses"] (spG K V0 1 f_rounds) := by
  refine fnG_T F sc_rounds fun cdv A outer s H E hr => ?_
  have sc := sc_rounds
  have gd := hr.gd (X := cxOf CX0 P w K mg base N_rounds "rounds" (defScope (top 3)) f cdv A outer s H E) rfl
  exact (ss_cons (s_p2 gd sc.nd (xa_cons (x_frz (xf_listRg1 gd rfl h_list rfl h_range (x_sub' gd (xv 0) x_int))) (xa_cons (x_new (xf_disp xa_nil)) xa_nil))) (ss_cons (s_while 1000000 own_pass (t_c (c_ne gd (xv 1) (x_frz (xf_disp xa_nil)))) (ss_cons (s_asg (x_cal C_pointing hr (by decide) rfl (xa_cons (xv 0) (xa_cons (xv 1) xa_nil)) (.c (.c .n)) rfl) (gn 3 sc.nd)) (ss_cons (s_asg (x_callT (call_dictTab gd) opA_dictT rfl h_dict bt_dict (xa_cons (x_frz (xf_lc (own := [("person", 5)]) gd sc.nd (i_seq (xv 1)) (blkOk_by (N := N_rounds) (sc := defScope (top 3)) (by decide +kernel)) (fun _ _ _ _ _ => ⟨(gn 5 sc.nd), ts_nil, (x_tup (xa_cons (x_cal C_ring_from hr (by decide) rfl (xa_cons (xv 3) (xa_cons (xv 5) xa_nil)) (.c (.c .n)) rfl) (xa_cons x_bl xa_nil)))⟩))) xa_nil)) (gn 4 sc.nd)) (ss_cons (s_expr (x_m PySem.F.plainAttrs_list PySem.F.slot_list_append PySem.F.type_list_append mt_append opM_append (xv 2) (xa_cons (x_callT call_tupleN opA_tuple rfl h_tuple bt_tuple (xa_cons (x_frz (xf_sorTab gd rfl h_sorted bt_sorted (xa_cons (xv 4) xa_nil))) xa_nil)) xa_nil))) (ss_one (s_lockT 4 (s_for gd own_pass (i_tab (xv 4)) (gn 6 sc.nd) (ss_one (s_lcF (i := 1) (own := [("person", 5)]) gd sc.nd rfl rfl (sw_true rfl rfl rfl (by decide +kernel)) (i_seq (xv 1)) (blkOk_by (N := N_rounds) (sc := defScope (top 3)) (by decide +kernel)) (fun _ _ _ _ _ => ⟨(gn 5 sc.nd), (ts_one (t_c (c_notIn gd.blk (xv 5) (xv 6)))), (xv 5)⟩)))))))))) (ss_one (s_ret (x_callT call_tupleN opA_tuple rfl h_tuple bt_tuple (xa_cons (xv 2) xa_nil))))))
abbrev N_deal_by_rings : List Str := ["houses", "deal", "person", "rings", "ring", "one", "other"]
theorem sc_deal_by_rings : FnScope N_deal_by_rings ["houses"] (defScope (top 4)) := ⟨rfl, rfl, rfl, by decide +kernel, rfl, by decide +kernel, by decide +kernel⟩
theorem ok_deal_by_rings {f : Addr} {fd : FuncData} (F : FnP K "deal_by_rings" (top 4) f fd) (h_range : mg "range" = none) (h_zip : mg "zip" = none) (h_tuple : mg "tuple" = none) (C_rounds : Cal P w K mg base 2 "rounds" 1 [] f_rounds) : FnG P w K mg base CX0 3 f fd ["houses"] (spG K V0 1 f_deal_by_rings) := by
  refine fnG_T F sc_deal_by_rings fun cdv A outer s H E hr => ?_
  have sc := sc_deal_by_rings
  have gd := hr.gd (X := cxOf CX0 P w K mg base N_deal_by_rings "deal_by_rings" (defScope (top 4)) f cdv A outer s H E) rfl
  exact (ss_cons (s_lcN (i := 1) (own := [("person", 2)]) gd sc.nd rfl rfl (sw_true rfl rfl rfl (by decide +kernel)) (i_range1 rfl h_range (xa_cons (x_sub' gd (xv 0) x_int) xa_nil)) (blkOk_by (N := N_deal_by_rings) (sc := defScope (top 4)) (by decide +kernel)) (fun _ _ _ _ _ => ⟨(gn 2 sc.nd), ts_nil, x_int⟩)) (ss_cons (s_for gd own_pass (i_seq (x_cal C_rounds hr (by decide) rfl (xa_cons (xv 0) xa_nil) (.c .n) rfl)) (gn 3 sc.nd) (ss_one (s_for gd own_pass (i_seq (xv 3)) (gn 4 sc.nd) (ss_one (s_for gd own_pass (i_zip rfl h_zip (xa_cons (xv 4) (xa_cons (x_add (x_slice (xv 4) (xo_some x_int) xo_none) (x_slice (xv 4) xo_none (xo_some x_int))) xa_nil))) (g_tp gd (gs_cons (gn 5 sc.nd) (gs_cons (gn 6 sc.nd) gs_nil))) (ss_one (s_subP gd (xv 6) (xv 1) (xv 5)))))))) (ss_one (s_ret (x_callT call_tupleN opA_tuple rfl h_tuple bt_tuple (xa_cons (xv 1) xa_nil))))))
abbrev N_told : List Str := ["houses", "person", "row"]
theorem sc_told : FnScope N_told ["houses", "person", "row"] (defScope (top 5)) := ⟨rfl, rfl, rfl, by decide +kernel, rfl, by decide +kernel, by decide +kernel⟩
theorem ok_told {f : Addr} {fd : FuncData} (F : FnP K "told" (top 5) f fd)  : FnG P w K mg base CX0 1 f fd ["houses", "person", "row"] (spG K V0 3 f_told) := by
  refine fnG_T F sc_told fun cdv A outer s H E hr => ?_
  have sc := sc_told
  have gd := hr.gd (X := cxOf CX0 P w K mg base N_told "told" (defScope (top 5)) f cdv A outer s H E) rfl
  exact (ss_one (s_ret (x_tup (xa_cons (x_sub' gd (xv 0) x_int) (xa_cons (x_add (x_add (x_slice (x_sub' gd (xv 0) x_int) xo_none (xo_some (xv 1))) (x_tup (xa_cons (xv 2) xa_nil))) (x_slice (x_sub' gd (xv 0) x_int) (xo_some (x_add (xv 1) x_int)) xo_none)) xa_nil)))))
abbrev N_law : List Str := ["script", "source", "lap", "houses", "n", "deal", "turn", "i", "row", "late", "gets", "lot", "gains"]
theorem sc_law : FnScope N_law ["script"] (defScope (top 13)) := ⟨rfl, rfl, rfl, by decide +kernel, rfl, by decide +kernel, by decide +kernel⟩
theorem ok_law {f : Addr} {fd : FuncData} (F : FnP K "law" (top 13) f fd) (h_range : mg "range" = none) (h_repr : mg "repr" = none) (h_list : mg "list" = none) (h_tuple : mg "tuple" = none) (h_max : mg "max" = none) (h_min : mg "min" = none) (C_law_open_cells : Cal P w K mg base 1 "_law_open_cells" 1 [] f_law_open_cells) (C_law_draw_houses : Cal P w K mg base 3 "_law_draw_houses" 2 [] f_law_draw_houses) (C_law_deal : Cal P w K mg base 2 "_law_deal" 1 [] f_law_deal) (C_deal_by_rings : Cal P w K mg base 3 "deal_by_rings" 1 [] f_deal_by_rings) (C_law_any_order : Cal P w K mg base 2 "_law_any_order" 2 [] f_law_any_order) (C_law_pick : Cal P w K mg base 1 "_law_pick" 2 [] f_law_pick) (C_told : Cal P w K mg base 1 "told" 3 [] f_told) : FnG P w K mg base CX0 4 f fd ["script"] (spG K V0 1 f_law) := by
  refine fnG_T F sc_law fun cdv A outer s H E hr => ?_
  have sc := sc_law
  have gd := hr.gd (X := cxOf CX0 P w K mg base N_law "law" (defScope (top 13)) f cdv A outer s H E) rfl
  exact (ss_cons (s_asg (x_cal C_law_open_cells hr (by decide) rfl (xa_cons (xv 0) xa_nil) (.c .n) rfl) (gn 1 sc.nd)) (ss_cons (s_for gd own_pass (i_range1 rfl h_range (xa_cons x_int xa_nil)) (gn 2 sc.nd) (ss_cons (s_asg (x_cal C_law_draw_houses hr (by decide) rfl (xa_cons (xv 1) (xa_cons x_int xa_nil)) (.c (.c .n)) rfl) (gn 3 sc.nd)) (ss_cons (s_pT gd (xa_cons (x_sub' gd (xv 3) x_int) (xa_cons (x_cal C_law_deal hr (by decide) rfl (xa_cons (xv 3) xa_nil) (.c .n) rfl) xa_nil)) (gs_cons (gn 4 sc.nd) (gs_cons (gn 5 sc.nd) gs_nil))) (ss_cons (s_if (t_c (c_ne gd (x_callB ((call_reprN gd).or (call_reprK gd)) opA_reprK rfl h_repr bt_repr (xa_cons (x_cal C_deal_by_rings hr (by decide) rfl (xa_cons (xv 3) xa_nil) (.c .n) rfl) xa_nil)) (x_callB ((call_reprN gd).or (call_reprK gd)) opA_reprK rfl h_repr bt_repr (xa_cons (xv 5) xa_nil)))) (ss_one (s_ret x_bl)) ss_nil) (ss_cons (s_for gd own_pass (i_range1 rfl h_range (xa_cons x_int xa_nil)) (gn 6 sc.nd) (ss_cons (s_p2 gd sc.nd (xa_cons (x_cal C_law_pick hr (by decide) rfl (xa_cons (xv 1) (xa_cons (xv 4) xa_nil)) (.c (.c .n)) rfl) (xa_cons (x_callT call_tupleN opA_tuple rfl h_tuple bt_tuple (xa_cons (x_cal C_law_any_order hr (by decide) rfl (xa_cons (xv 1) (xa_cons (x_frz (xf_listRg1 gd rfl h_list rfl h_range (xv 4))) xa_nil)) (.c (.c .n)) rfl) xa_nil)) xa_nil))) (ss_cons (s_asg (x_cal C_told hr (by decide) rfl (xa_cons (xv 3) (xa_cons (xv 7) (xa_cons (xv 8) xa_nil))) (.c (.c (.c .n))) rfl) (gn 9 sc.nd)) (ss_cons (s_if (t_c (c_ne gd (x_callB ((call_reprN gd).or (call_reprK gd)) opA_reprK rfl h_repr bt_repr (xa_cons (xv 9) xa_nil)) (x_callB ((call_reprN gd).or (call_reprK gd)) opA_reprK rfl h_repr bt_repr (xa_cons (x_tup (xa_cons (xv 4) (xa_cons (x_add (x_add (x_slice (x_sub' gd (xv 3) x_int) xo_none (xo_some (xv 7))) (x_tup (xa_cons (xv 8) xa_nil))) (x_slice (x_sub' gd (xv 3) x_int) (xo_some (x_add (xv 7) x_int)) xo_none)) xa_nil))) xa_nil)))) (ss_one (s_ret x_bl)) ss_nil) (ss_cons (s_asg (x_cal C_deal_by_rings hr (by decide) rfl (xa_cons (xv 9) xa_nil) (.c .n) rfl) (gn 10 sc.nd)) (ss_one (s_if (PW.pt (t_or (t_c (c_ne gd (x_callB ((call_reprN gd).or (call_reprK gd)) opA_reprK rfl h_repr bt_repr (xa_cons (xv 10) xa_nil)) (x_callB ((call_reprN gd).or (call_reprK gd)) opA_reprK rfl h_repr bt_repr (xa_cons (x_cal C_law_deal hr (by decide) rfl (xa_cons (xv 9) xa_nil) (.c .n) rfl) xa_nil)))) (t_or1 (t_c (c_lt (x_index (x_sub' gd (x_sub' gd (xv 3) x_int) (xv 7)) (xa_cons (x_sub' gd (xv 10) (xv 7)) xa_nil)) (x_index (x_sub' gd (x_sub' gd (xv 3) x_int) (xv 7)) (xa_cons (x_sub' gd (xv 5) (xv 7)) xa_nil))))))) (ss_one (s_ret x_bl)) ss_nil))))))) (ss_cons (s_p2 gd sc.nd (xa_cons (x_slice (x_cal C_law_any_order hr (by decide) rfl (xa_cons (xv 1) (xa_cons (x_frz (xf_listRg1 gd rfl h_list rfl h_range (xv 4))) xa_nil)) (.c (.c .n)) rfl) xo_none (xo_some (x_add x_int (x_cal C_law_pick hr (by decide) rfl (xa_cons (xv 1) (xa_cons (xv 4) xa_nil)) (.c (.c .n)) rfl)))) (xa_cons (xv 3) xa_nil))) (ss_cons (s_for gd own_pass (i_seq (xv 11)) (gn 7 sc.nd) (ss_one (s_asg (x_cal C_told hr (by decide) rfl (xa_cons (xv 9) (xa_cons (xv 7) (xa_cons (x_callT call_tupleN opA_tuple rfl h_tuple bt_tuple (xa_cons (x_cal C_law_any_order hr (by decide) rfl (xa_cons (xv 1) (xa_cons (x_frz (xf_listRg1 gd rfl h_list rfl h_range (xv 4))) xa_nil)) (.c (.c .n)) rfl) xa_nil)) xa_nil))) (.c (.c (.c .n))) rfl) (gn 9 sc.nd)))) (ss_cons (s_asg (x_cal C_deal_by_rings hr (by decide) rfl (xa_cons (xv 9) xa_nil) (.c .n) rfl) (gn 10 sc.nd)) (ss_cons (s_lcF (i := 12) (own := [("i", 7)]) gd sc.nd rfl rfl (sw_true rfl rfl rfl (by decide +kernel)) (i_seq (xv 11)) (blkOk_by (N := N_law) (sc := defScope (top 13)) (by decide +kernel)) (fun _ _ _ _ _ => ⟨(gn 7 sc.nd), ts_nil, (x_sub (x_index (x_sub' gd.blk (x_sub' gd.blk (xv 3) x_int) (xv 7)) (xa_cons (x_sub' gd.blk (xv 5) (xv 7)) xa_nil)) (x_index (x_sub' gd.blk (x_sub' gd.blk (xv 3) x_int) (xv 7)) (xa_cons (x_sub' gd.blk (xv 10) (xv 7)) xa_nil)))⟩)) (ss_one (s_if (PW.pt (t_and (t_c (c_ge (x_callB (cr_min gd.calm) opA_minL rfl h_min bt_min (xa_cons (xv 12) xa_nil)) x_int)) (t_and1 (t_c (c_gt (x_callB (cr_max gd.calm) opA_maxL rfl h_max bt_max (xa_cons (xv 12) xa_nil)) x_int))))) (ss_one (s_ret x_bl)) ss_nil))))))))))) (ss_one (s_ret x_bl))))
end
def d_law_open_cells : He.DefD := ⟨("_law_open_cells", none), "_law_open_cells", "_law_open_cells", defArgs (top 7), defBody (top 7), defScope (top 7), [], []⟩
def d_law_pick : He.DefD := ⟨("_law_pick", none), "_law_pick", "_law_pick", defArgs (top 8), defBody (top 8), defScope (top 8), [], []⟩
def d_law_any_order : He.DefD := ⟨("_law_any_order", none), "_law_any_order", "_law_any_order", defArgs (top 9), defBody (top 9), defScope (top 9), [], []⟩
def d_law_draw_houses : He.DefD := ⟨("_law_draw_houses", none), "_law_draw_houses", "_law_draw_houses", defArgs (top 10), defBody (top 10), defScope (top 10), [], []⟩
def d_law_rounds : He.DefD := ⟨("_law_rounds", none), "_law_rounds", "_law_rounds", defArgs (top 11), defBody (top 11), defScope (top 11), [], []⟩
def d_law_deal : He.DefD := ⟨("_law_deal", none), "_law_deal", "_law_deal", defArgs (top 12), defBody (top 12), defScope (top 12), [], []⟩
def d_pointing : He.DefD := ⟨("pointing", none), "pointing", "pointing", defArgs (top 1), defBody (top 1), defScope (top 1), [], []⟩
def d_ring_from : He.DefD := ⟨("ring_from", none), "ring_from", "ring_from", defArgs (top 2), defBody (top 2), defScope (top 2), [], []⟩
def d_rounds : He.DefD := ⟨("rounds", none), "rounds", "rounds", defArgs (top 3), defBody (top 3), defScope (top 3), [], []⟩
def d_deal_by_rings : He.DefD := ⟨("deal_by_rings", none), "deal_by_rings", "deal_by_rings", defArgs (top 4), defBody (top 4), defScope (top 4), [], []⟩
def d_told : He.DefD := ⟨("told", none), "told", "told", defArgs (top 5), defBody (top 5), defScope (top 5), [], []⟩
def d_law : He.DefD := ⟨("law", none), "law", "law", defArgs (top 13), defBody (top 13), defScope (top 13), [], []⟩
def fn : List He.DefD := [d_law_open_cells, d_law_pick, d_law_any_order, d_law_draw_houses, d_law_rounds, d_law_deal, d_pointing, d_ring_from, d_rounds, d_deal_by_rings, d_told, d_law]
def fa : List He.Fa := [.glo "_law_open_cells", .glo "_law_pick", .glo "_law_any_order", .glo "_law_draw_houses", .glo "_law_rounds", .glo "_law_deal", .glo "pointing", .glo "ring_from", .glo "rounds", .glo "deal_by_rings", .glo "told", .glo "law", .free "int", .free "abs", .free "len", .free "list", .free "range", .free "tuple", .free "dict", .free "min", .free "sorted", .free "zip", .free "repr", .free "max"]
abbrev R : PySem.W.OpenRow := PySem.W.OpenLaw.row PySem.Challenge.rw_pairsandprices_k36_whole_lists_told
abbrev hk : PySem.W.Hook := He.hookD 4 fa fn
def ob (s : PySem.W.SharedT) : He.AlD := He.obsDG 4 fa fn (HandSHeadRun.getT s)
theorem ob_eq (s : PySem.W.SharedT) : ob s = hk.obs s.abs := He.obsDG_eq (HandSHeadRun.getT_eq s)
abbrev lo : List PySem.Str := ["pointing", "ring_from", "rounds", "deal_by_rings", "told", "_law_open_cells", "_law_pick", "_law_any_order", "_law_draw_houses", "_law_rounds", "_law_deal"]
theorem run (w : World) : HandSHeadRun.RunEq R (PySem.W.view R.prog [13]) hk ob 1120 lo w := by
  intro os
  kernel_rfl
theorem facts {P : Program} {w : World} {K : PySem.W.Frag} {h : Heap} {mg : Str → Option Value} {f : Addr} (X : K.In h) (G : h.Ns mainGlobals mg) (hfa : mg ("law" : Str) = some (.ref f)) (c : He.SaysD fa fn K) :
    ∃ fd : FuncData, (∀ (s : Shared) (v : Value), BindsTo s fd ⟨[v], []⟩ [("script", v)]) ∧ ∀ base : Heap, K.In base → base.Ns mainGlobals mg → FnG P w K mg base CX0 4 f fd ["script"] (spG K V0 1 f_law) := by
  obtain ⟨fd0, F0⟩ := c.def_ 0 (d := d_law_open_cells) rfl
  have m0 := He.glo_ok X G (c.fact 0 (f := .glo "_law_open_cells") rfl)
  obtain ⟨fd1, F1⟩ := c.def_ 1 (d := d_law_pick) rfl
  have m1 := He.glo_ok X G (c.fact 1 (f := .glo "_law_pick") rfl)
  obtain ⟨fd2, F2⟩ := c.def_ 2 (d := d_law_any_order) rfl
  have m2 := He.glo_ok X G (c.fact 2 (f := .glo "_law_any_order") rfl)
  obtain ⟨fd3, F3⟩ := c.def_ 3 (d := d_law_draw_houses) rfl
  have m3 := He.glo_ok X G (c.fact 3 (f := .glo "_law_draw_houses") rfl)
  obtain ⟨fd4, F4⟩ := c.def_ 4 (d := d_law_rounds) rfl
  have m4 := He.glo_ok X G (c.fact 4 (f := .glo "_law_rounds") rfl)
  obtain ⟨fd5, F5⟩ := c.def_ 5 (d := d_law_deal) rfl
  have m5 := He.glo_ok X G (c.fact 5 (f := .glo "_law_deal") rfl)
  obtain ⟨fd6, F6⟩ := c.def_ 6 (d := d_pointing) rfl
  have m6 := He.glo_ok X G (c.fact 6 (f := .glo "pointing") rfl)
  obtain ⟨fd7, F7⟩ := c.def_ 7 (d := d_ring_from) rfl
  have m7 := He.glo_ok X G (c.fact 7 (f := .glo "ring_from") rfl)
  obtain ⟨fd8, F8⟩ := c.def_ 8 (d := d_rounds) rfl
  have m8 := He.glo_ok X G (c.fact 8 (f := .glo "rounds") rfl)
  obtain ⟨fd9, F9⟩ := c.def_ 9 (d := d_deal_by_rings) rfl
  have m9 := He.glo_ok X G (c.fact 9 (f := .glo "deal_by_rings") rfl)
  obtain ⟨fd10, F10⟩ := c.def_ 10 (d := d_told) rfl
  have m10 := He.glo_ok X G (c.fact 10 (f := .glo "told") rfl)
  obtain ⟨fd11, F11⟩ := c.def_ 11 (d := d_law) rfl
  have m11 := He.glo_ok X G (c.fact 11 (f := .glo "law") rfl)
  have h_int := He.free_ok X G (c.fact 12 (f := .free "int") rfl)
  have h_abs := He.free_ok X G (c.fact 13 (f := .free "abs") rfl)
  have h_len := He.free_ok X G (c.fact 14 (f := .free "len") rfl)
  have h_list := He.free_ok X G (c.fact 15 (f := .free "list") rfl)
  have h_range := He.free_ok X G (c.fact 16 (f := .free "range") rfl)
  have h_tuple := He.free_ok X G (c.fact 17 (f := .free "tuple") rfl)
  have h_dict := He.free_ok X G (c.fact 18 (f := .free "dict") rfl)
  have h_min := He.free_ok X G (c.fact 19 (f := .free "min") rfl)
  have h_sorted := He.free_ok X G (c.fact 20 (f := .free "sorted") rfl)
  have h_zip := He.free_ok X G (c.fact 21 (f := .free "zip") rfl)
  have h_repr := He.free_ok X G (c.fact 22 (f := .free "repr") rfl)
  have h_max := He.free_ok X G (c.fact 23 (f := .free "max") rfl)
  have e := hfa.symm.trans m11
  cases e
  have b := FunD.bindsA (ps := ["script"]) F11 fun _ _ _ _ _ _ us hl => match us, hl with | [_], _ => rfl
  refine ⟨fd11, fun s v => b s [v] rfl, fun base _ _ => ?_⟩
  have C_law_open_cells : Cal P w K mg base 1 "_law_open_cells" 1 [] f_law_open_cells := .mk0 F0 m0 (ok_law_open_cells F0 h_int h_abs) fun _ _ _ _ _ _ us hl => match us, hl with | [_], _ => rfl
  have C_law_pick : Cal P w K mg base 1 "_law_pick" 2 [] f_law_pick := .mk0 F1 m1 (ok_law_pick F1 h_len h_int) fun _ _ _ _ _ _ us hl => match us, hl with | [_, _], _ => rfl
  have C_law_any_order : Cal P w K mg base 2 "_law_any_order" 2 [] f_law_any_order := .mk0 F2 m2 (ok_law_any_order F2 h_list h_len h_range C_law_pick) fun _ _ _ _ _ _ us hl => match us, hl with | [_, _], _ => rfl
  have C_law_draw_houses : Cal P w K mg base 3 "_law_draw_houses" 2 [] f_law_draw_houses := .mk0 F3 m3 (ok_law_draw_houses F3 h_range h_list h_tuple C_law_pick C_law_any_order) fun _ _ _ _ _ _ us hl => match us, hl with | [_, _], _ => rfl
  have C_law_rounds : Cal P w K mg base 1 "_law_rounds" 1 [] f_law_rounds := .mk0 F4 m4 (ok_law_rounds F4 h_range h_list h_dict h_tuple h_min h_int h_sorted) fun _ _ _ _ _ _ us hl => match us, hl with | [_], _ => rfl
  have C_law_deal : Cal P w K mg base 2 "_law_deal" 1 [] f_law_deal := .mk0 F5 m5 (ok_law_deal F5 h_len h_range h_tuple C_law_rounds) fun _ _ _ _ _ _ us hl => match us, hl with | [_], _ => rfl
  have C_pointing : Cal P w K mg base 1 "pointing" 2 [] f_pointing := .mk0 F6 m6 (ok_pointing F6 h_dict) fun _ _ _ _ _ _ us hl => match us, hl with | [_, _], _ => rfl
  have C_ring_from : Cal P w K mg base 1 "ring_from" 2 [] f_ring_from := .mk0 F7 m7 (ok_ring_from F7 h_min h_tuple) fun _ _ _ _ _ _ us hl => match us, hl with | [_, _], _ => rfl
  have C_rounds : Cal P w K mg base 2 "rounds" 1 [] f_rounds := .mk0 F8 m8 (ok_rounds F8 h_range h_list h_dict h_sorted h_tuple C_pointing C_ring_from) fun _ _ _ _ _ _ us hl => match us, hl with | [_], _ => rfl
  have C_deal_by_rings : Cal P w K mg base 3 "deal_by_rings" 1 [] f_deal_by_rings := .mk0 F9 m9 (ok_deal_by_rings F9 h_range h_zip h_tuple C_rounds) fun _ _ _ _ _ _ us hl => match us, hl with | [_], _ => rfl
  have C_told : Cal P w K mg base 1 "told" 3 [] f_told := .mk0 F10 m10 (ok_told F10 ) fun _ _ _ _ _ _ us hl => match us, hl with | [_, _, _], _ => rfl
  exact ok_law F11 h_range h_repr h_list h_tuple h_max h_min C_law_open_cells C_law_draw_houses C_law_deal C_deal_by_rings C_law_any_order C_law_pick C_told
end Wk36
open PySem PySem.W PySem.Calls PyProof.Rows in
theorem Wk36.holds (law : ∀ ns : List Int, ns.length ≤ 63 → ∃ st, Wk36.f_law [.scr ns] [] = .ok (.v (.bool true)) st) : PySem.Challenge.rw_pairsandprices_k36_whole_lists_told.Holds := by
  w_on; o_law
  refine HandSHeadRun.head_any (r := OpenLaw.row PySem.Challenge.rw_pairsandprices_k36_whole_lists_told) (q := view (OpenLaw.row PySem.Challenge.rw_pairsandprices_k36_whole_lists_told).prog [13]) (H := Wk36.hk) (ob := Wk36.ob) (M := 1120) (loose := Wk36.lo) (d := HandSHeadRun.topDef (OpenLaw.row PySem.Challenge.rw_pairsandprices_k36_whole_lists_told).prog 13) (kwd := []) Wk36.ob_eq
    (by kernel_rfl) (fun s => by kernel_rfl) Wk36.run (by kernel_rfl) (by kernel_rfl) (by kernel_rfl) (by rfl) (by first | assumption | decide +kernel) (by decide +kernel) ⟨rfl, rfl, rfl, rfl, rfl, by decide +kernel⟩ ?hw ?hc
  case hw => w_witness2
  case hc =>
    refine Fw.walkG (l := PySem.Challenge.rw_pairsandprices_k36_whole_lists_told) (n := 63) (k := 4) (x := "script") (ff := Wk36.f_law) rfl (by decide) (by kernel_rfl) Fw.rm0 ?F law
    intro w mg fa h Y G hmg0
    obtain ⟨K, KX, c⟩ := Y
    have hmg : mg ("law" : PySem.Str) = some (.ref fa) := by
      have e : (HandSHeadRun.topDef (OpenLaw.row PySem.Challenge.rw_pairsandprices_k36_whole_lists_told).prog 13).name = ("law" : PySem.Str) := by kernel_rfl
      rw [← e]
      exact hmg0
    obtain ⟨fd, hb, hF⟩ := Wk36.facts (P := (PySem.Challenge.rw_pairsandprices_k36_whole_lists_told).prog) (w := w) KX G hmg c
    exact ⟨K, fd, KX, hb, hF⟩
namespace Fw.Hl
open PySem PySem.Spec PyProof.Rows L2 Fw
abbrev rowsD (rows : List (List Nat)) : PyData := .tuple (rows.map tNs)
abbrev hallD (rows : List (List Nat)) : PyData := .tuple [nI rows.length, rowsD rows]
def row (rows : List (List Nat)) (a : Nat) : List Nat := rows.getD a []
section
variable {rows : List (List Nat)} {a b k : Nat} {st : Sto} {ps : List (Nat × Nat)} {c : Option Nat}
theorem hall0 : subsD (.v (hallD rows)) (.v (.int 0)) st = .ok (.v (nI rows.length)) st := sub_tup (k := 0) rfl
theorem hall1 : subsD (.v (hallD rows)) (.v (.int 1)) st = .ok (.v (rowsD rows)) st := sub_tup (k := 1) rfl
theorem hall_row (h : a < rows.length) : subsD (.v (rowsD rows)) (.v (nI a)) st = .ok (.v (tNs (row rows a))) st := by
  refine sub_tup (k := a) ?_
  rw [List.getElem?_map, List.getElem?_eq_getElem h]
  unfold row
  rw [List.getD_eq_getElem?_getD, List.getElem?_eq_getElem h]
  rfl
def want (rows : List (List Nat)) (a b : Nat) : Bool := decide (b ∈ row rows a) && decide (a ∈ row rows b)
def place (rows : List (List Nat)) (a : Nat) : Option Nat → Nat
  | none => (row rows a).length
  | some b => if b ∈ row rows a then (row rows a).idxOf b else (row rows a).length + 1
def partner (ps : List (Nat × Nat)) (a : Nat) : Option Nat := (ps.find? fun p => decide (a = p.1 ∨ a = p.2)).map fun p => if a = p.1 then p.2 else p.1
def ratherO (l : List Nat) (b : Nat) : Option Nat → Bool
  | none => true
  | some c => !decide (c ∈ l) || decide (l.idxOf b < l.idxOf c)
def rather (rows : List (List Nat)) (a b : Nat) (c : Option Nat) : Bool := decide (b ∈ row rows a) && ratherO (row rows a) b c
def brk (rows : List (List Nat)) (ps : List (Nat × Nat)) (a b : Nat) : Bool := rather rows a b (partner ps a) && rather rows b a (partner ps b)
def brkOf (rows : List (List Nat)) (ps : List (Nat × Nat)) (a : Nat) : List (Nat × Nat) := (((ups (a + 1) rows.length).filter (want rows a)).filter (brk rows ps a)).map fun b => (a, b)
def breaking (rows : List (List Nat)) (ps : List (Nat × Nat)) : List (Nat × Nat) := (List.range rows.length).flatMap (brkOf rows ps)
theorem fm_filter {α β : Type} {p : α → Bool} {f : α → β} : ∀ l : List α, (l.filterMap fun b => if p b = true then some (f b) else none) = (l.filter p).map f
  | [] => rfl
  | x :: r => by
    rw [List.filterMap_cons, List.filter_cons]
    by_cases h : p x = true
    · rw [if_pos h, if_pos h, List.map_cons, ← fm_filter r]
    · rw [if_neg h, if_neg h, ← fm_filter r]
theorem place_lt (hb : b ∈ row rows a) : decide ((place rows a (some b) : Int) < (place rows a c : Int)) = rather rows a b c := by
  have h1 := List.idxOf_lt_length_of_mem hb
  have e1 : place rows a (some b) = (row rows a).idxOf b := if_pos hb
  unfold rather
  rw [decide_eq_true hb, e1, Bool.true_and]
  cases c with
  | none =>
    have e2 : place rows a none = (row rows a).length := rfl
    rw [e2]
    exact decide_eq_true (by omega)
  | some c =>
    by_cases hc : c ∈ row rows a
    · have e2 : place rows a (some c) = (row rows a).idxOf c := if_pos hc
      rw [e2]
      show _ = (!decide (c ∈ row rows a) || decide ((row rows a).idxOf b < (row rows a).idxOf c))
      rw [decide_eq_true hc]
      simp
    · have e2 : place rows a (some c) = (row rows a).length + 1 := if_neg hc
      rw [e2]
      show _ = (!decide (c ∈ row rows a) || decide ((row rows a).idxOf b < (row rows a).idxOf c))
      rw [decide_eq_false hc]
      exact decide_eq_true (by omega)
theorem want_row (h : want rows a b = true) : b ∈ row rows a ∧ a ∈ row rows b := by
  unfold want at h
  simpa using h
end
def r2 (p : Nat × Nat) : List Int := [(p.1 : Int), (p.2 : Int)]
def insP (a : Nat × Nat) : List (Nat × Nat) → List (Nat × Nat)
  | [] => [a]
  | b :: r => if lexLe (r2 a) (r2 b) then a :: b :: r else b :: insP a r
def sortP : List (Nat × Nat) → List (Nat × Nat)
  | [] => []
  | a :: r => insP a (sortP r)
section
variable {rows : List (List Nat)} {ps : List (Nat × Nat)} {p : Nat × Nat} {st : Sto}
end
end Fw.Hl
namespace Fw.Hl
open PySem PySem.Spec PyProof.Rows L2 Fw
structure Hall (rows : List (List Nat)) : Prop where
  pos : 1 ≤ rows.length
  nd : ∀ a, (row rows a).Nodup
  mem : ∀ {a b}, b ∈ row rows a → b < rows.length ∧ b ≠ a
def far (p q : Nat × Nat) : Prop := p.1 ≠ q.1 ∧ p.1 ≠ q.2 ∧ p.2 ≠ q.1 ∧ p.2 ≠ q.2
theorem far_symm {p q : Nat × Nat} (h : far p q) : far q p := ⟨h.1.symm, h.2.2.1.symm, h.2.1.symm, h.2.2.2.symm⟩
structure Prs (n : Nat) (ps : List (Nat × Nat)) : Prop where
  lt : ∀ p ∈ ps, p.1 < p.2 ∧ p.2 < n
  far : ps.Pairwise far
structure Prg (rows : List (List Nat)) (ps : List (Nat × Nat)) : Prop extends Prs rows.length ps where
  want : ∀ p ∈ ps, want rows p.1 p.2 = true
theorem Prs.perm {n : Nat} {ps qs : List (Nat × Nat)} (h : Prs n ps) (p : qs.Perm ps) : Prs n qs :=
  ⟨fun q hq => h.lt q (p.mem_iff.mp hq), (p.pairwise_iff far_symm).mpr h.far⟩
theorem sub_len {α : Type} [DecidableEq α] : ∀ {l m : List α}, l.Nodup → (∀ x ∈ l, x ∈ m) → l.length ≤ m.length
  | [], _, _, _ => Nat.zero_le _
  | a :: r, m, nd, h => by
    obtain ⟨h1, h2⟩ := List.nodup_cons.mp nd
    have ha := h a List.mem_cons_self
    have ih := sub_len (m := m.erase a) h2 fun x hx => (List.mem_erase_of_ne fun (e : x = a) => h1 (e ▸ hx)).mpr (h x (List.mem_cons_of_mem _ hx))
    have hp := List.length_pos_of_mem ha
    rw [List.length_erase_of_mem ha] at ih
    rw [List.length_cons]
    omega
theorem Prs.len {n : Nat} {ps : List (Nat × Nat)} (h : Prs n ps) : ps.length ≤ n := by
  have h1 : (ps.map (·.1)).Nodup := List.pairwise_map.mpr (h.far.imp fun h => h.1)
  have h2 := sub_len (m := List.range n) h1 fun x hx => by
    obtain ⟨p, hp, rfl⟩ := List.mem_map.mp hx
    have := h.lt p hp
    exact List.mem_range.mpr (by omega)
  rw [List.length_map, List.length_range] at h2
  exact h2
end Fw.Hl
namespace Fw.Hl
open Fw
section
variable {rows : List (List Nat)} {ps : List (Nat × Nat)} {a b c p q x n : Nat} {L : List Nat} {side : Nat → Bool}
def Br (rows : List (List Nat)) (ps : List (Nat × Nat)) (a b : Nat) : Prop := want rows a b = true ∧ rather rows a b (partner ps a) = true ∧ rather rows b a (partner ps b) = true
theorem want_symm : want rows a b = want rows b a := by
  unfold want
  rw [Bool.and_comm]
theorem Br.symm (h : Br rows ps a b) : Br rows ps b a := ⟨want_symm ▸ h.1, h.2.2, h.2.1⟩
theorem Br.row (h : Br rows ps a b) : b ∈ row rows a ∧ a ∈ row rows b := want_row h.1
theorem rather_iff {o : Option Nat} (hb : b ∈ row rows a) : rather rows a b o = true ↔ place rows a (some b) < place rows a o := by
  rw [← place_lt hb, decide_eq_true_eq]
  omega
theorem far_of {l : List (Nat × Nat)} (h : l.Pairwise far) : ∀ {p q}, p ∈ l → q ∈ l → p = q ∨ far p q := by
  induction l with
  | nil => exact fun hp => nomatch hp
  | cons a r ih =>
    intro p q hp hq
    obtain ⟨h1, h2⟩ := List.pairwise_cons.mp h
    rcases List.mem_cons.mp hp with e1 | hp
    · rcases List.mem_cons.mp hq with e2 | hq
      · exact .inl (e1.trans e2.symm)
      · exact .inr (e1 ▸ h1 q hq)
    · rcases List.mem_cons.mp hq with e2 | hq
      · exact .inr (e2 ▸ far_symm (h1 p hp))
      · exact ih h2 hp hq
theorem partner_iff (h : Prs n ps) : partner ps a = some c ↔ (a, c) ∈ ps ∨ (c, a) ∈ ps := by
  unfold partner
  rw [Option.map_eq_some_iff]
  constructor
  · rintro ⟨p, hp, e⟩
    have hm := List.mem_of_find?_eq_some hp
    have ha : a = p.1 ∨ a = p.2 := by simpa using List.find?_some hp
    by_cases h1 : a = p.1
    · rw [if_pos h1] at e
      left
      rw [h1, ← e]
      exact hm
    · rw [if_neg h1] at e
      right
      rw [← e, ha.resolve_left h1]
      exact hm
  · intro hm
    have hex : ∃ q ∈ ps, decide (a = q.1 ∨ a = q.2) = true ∧ (q = (a, c) ∨ q = (c, a)) := by
      rcases hm with hm | hm
      · exact ⟨_, hm, by simp, .inl rfl⟩
      · exact ⟨_, hm, by simp, .inr rfl⟩
    obtain ⟨q, hq, hqa, hqe⟩ := hex
    cases hf : ps.find? (fun p => decide (a = p.1 ∨ a = p.2)) with
    | none => exact absurd hqa (List.find?_eq_none.mp hf q hq)
    | some r =>
      have hr := List.mem_of_find?_eq_some hf
      have hra : a = r.1 ∨ a = r.2 := by simpa using List.find?_some hf
      have hqa : a = q.1 ∨ a = q.2 := by simpa using hqa
      have hrq : r = q := by
        rcases far_of h.far hr hq with e | e
        · exact e
        · obtain ⟨e1, e2, e3, e4⟩ := e
          rcases hra with u | u <;> rcases hqa with w | w
          · exact absurd (u.symm.trans w) e1
          · exact absurd (u.symm.trans w) e2
          · exact absurd (u.symm.trans w) e3
          · exact absurd (u.symm.trans w) e4
      refine ⟨r, rfl, ?_⟩
      have hlt := h.lt q hq
      rw [hrq]
      rcases hqe with e | e
      · rw [e, if_pos rfl]
      · rw [e] at hlt ⊢
        rw [if_neg (by show ¬ a = c; have := hlt.1; have : c < a := this; omega)]
theorem partner_symm (h : Prs n ps) (e : partner ps a = some c) : partner ps c = some a := (partner_iff h).mpr ((partner_iff h).mp e).symm
theorem partner_want (h : Prg rows ps) (e : partner ps a = some c) : want rows a c = true := by
  rcases (partner_iff h.toPrs).mp e with m | m
  · exact h.want _ m
  · rw [want_symm]; exact h.want _ m
end
end Fw.Hl
namespace Fw.Da
open Fw Fw.Hl
section
variable {rows : List (List Nat)} {μ : List (Nat × Nat)} {S : List Nat} {a b m w x y : Nat} {sd : Nat → Bool}
def wr (rows : List (List Nat)) (a : Nat) : List Nat := (row rows a).filter (want rows a)
theorem mem_wr : b ∈ wr rows a ↔ want rows a b = true := by
  unfold wr
  rw [List.mem_filter]
  exact ⟨fun h => h.2, fun h => ⟨(want_row h).1, h⟩⟩
theorem place_row (h : b ∈ row rows a) : place rows a (some b) = (row rows a).idxOf b := if_pos h
theorem up_idx : ∀ {l : List Nat}, l.Nodup → l.Pairwise fun x y => l.idxOf x < l.idxOf y
  | [], _ => .nil
  | c :: r, nd => by
    obtain ⟨h1, h2⟩ := List.nodup_cons.mp nd
    have ne : ∀ {z}, z ∈ r → (c :: r).idxOf z = r.idxOf z + 1 := fun {z} hz => by
      have hcz : c ≠ z := fun e => h1 (e ▸ hz)
      rw [List.idxOf_cons, show (c == z) = false by simpa using hcz]
      rfl
    refine List.pairwise_cons.mpr ⟨fun z hz => ?_, ?_⟩
    · rw [List.idxOf_cons_self, ne hz]
      exact Nat.succ_pos _
    · refine (up_idx h2).imp_of_mem fun {u v} hu hv huv => ?_
      rw [ne hu, ne hv]
      omega
theorem wr_up (H : Hall rows) : (wr rows a).Pairwise fun x y => place rows a (some x) < place rows a (some y) := by
  have h := (up_idx (H.nd a)).filter (want rows a)
  refine h.imp_of_mem fun {u v} hu hv huv => ?_
  rw [place_row (List.mem_filter.mp hu).1, place_row (List.mem_filter.mp hv).1]
  exact huv
theorem wr_at (H : Hall rows) {i j : Nat} {u v : Nat} (hi : (wr rows a)[i]? = some u) (hj : (wr rows a)[j]? = some v) (h : i < j) : place rows a (some u) < place rows a (some v) := by
  obtain ⟨h1, rfl⟩ := List.getElem?_eq_some_iff.mp hi
  obtain ⟨h2, rfl⟩ := List.getElem?_eq_some_iff.mp hj
  exact List.pairwise_iff_getElem.mp (wr_up H) i j h1 h2 h
theorem wr_idx (h : want rows a b = true) : ∃ i : Nat, (wr rows a)[i]? = some b := List.getElem?_of_mem (mem_wr.mpr h)
structure Two (rows : List (List Nat)) (sd : Nat → Bool) (S : List Nat) : Prop where
  hall : Hall rows
  two : ∀ {a b}, b ∈ row rows a → sd b = !sd a
  nd : S.Nodup
  mem : ∀ {a}, a ∈ S ↔ a < rows.length ∧ sd a = true
abbrev Held := List (Nat × Nat)
def Mild (rows : List (List Nat)) (S : List Nat) (μ : List (Nat × Nat)) : Prop := ∀ {h w}, h ∈ S → Br rows μ h w → partner μ w = none
structure St (rows : List (List Nat)) (S : List Nat) (ask : Nat → Nat) (hd : Held) (free : List Nat) : Prop where
  keys : (hd.map (·.1)).Nodup
  fnd : free.Nodup
  fin : ∀ {m}, m ∈ free → m ∈ S
  held : ∀ {w m}, (w, m) ∈ hd → m ∈ S ∧ ¬ m ∈ free ∧ 0 < ask m ∧ (wr rows m)[ask m - 1]? = some w
  done : ∀ {m}, m ∈ S → ¬ m ∈ free → (∃ w, (w, m) ∈ hd) ∨ (wr rows m).length ≤ ask m
  le : ∀ {m}, ask m ≤ (wr rows m).length
  asked : ∀ {m}, m ∈ S → ∀ {j w}, j < ask m → (wr rows m)[j]? = some w → ∃ m', (w, m') ∈ hd ∧ (m' = m ∨ place rows w (some m') < place rows w (some m))
  opt : ∀ {μ}, Prg rows μ → Mild rows S μ → ∀ {m}, m ∈ S → ∀ {j w}, j < ask m → (wr rows m)[j]? = some w → ¬ (w, m) ∈ hd → partner μ m ≠ some w
theorem key_uniq {hd : Held} (h : (hd.map (·.1)).Nodup) {w m m' : Nat} (h1 : (w, m) ∈ hd) (h2 : (w, m') ∈ hd) : m = m' := by
  induction hd with
  | nil => cases h1
  | cons p r ih =>
    rw [List.map_cons] at h
    obtain ⟨h3, h4⟩ := List.nodup_cons.mp h
    rcases List.mem_cons.mp h1 with e1 | h1 <;> rcases List.mem_cons.mp h2 with e2 | h2
    · have := e1.trans e2.symm; exact congrArg (·.2) this
    · exact absurd (List.mem_map_of_mem (f := (·.1)) h2) (by rw [← e1] at h3; exact h3)
    · exact absurd (List.mem_map_of_mem (f := (·.1)) h1) (by rw [← e2] at h3; exact h3)
    · exact ih h4 h1 h2
theorem start (nd : S.Nodup) : St rows S (fun _ => 0) [] S :=
  ⟨.nil, nd, id, (fun h => nomatch h), fun h1 h2 => absurd h1 h2, Nat.zero_le _, (by intro m _ j w h; exact absurd h (Nat.not_lt_zero _)), (by intro μ _ _ m _ j w h; exact absurd h (Nat.not_lt_zero _))⟩
def inc (ask : Nat → Nat) (a : Nat) : Nat → Nat := fun x => if x = a then ask x + 1 else ask x
theorem inc_same {ask : Nat → Nat} : inc ask a a = ask a + 1 := if_pos rfl
theorem inc_ne {ask : Nat → Nat} (h : x ≠ a) : inc ask a x = ask x := if_neg h
variable {ask : Nat → Nat} {hd : Held} {free : List Nat}
theorem let_go (T : Two rows sd S) {h r : Nat} (hs : h ∈ S) (k : Nat) (hk : (wr rows h)[k]? = some w) (before : ∀ {μ}, Prg rows μ → Mild rows S μ → ∀ {j v}, j < k → (wr rows h)[j]? = some v → partner μ h ≠ some v)
    (better : place rows w (some h) < place rows w (some r)) (pμ : Prg rows μ) (bμ : Mild rows S μ) : partner μ r ≠ some w := fun e => by
  have e2 := partner_symm pμ.toPrs e
  have hwant : want rows h w = true := mem_wr.mp (List.mem_of_getElem? hk)
  have hrow := want_row hwant
  have hrw := want_row (partner_want pμ e2)
  have hne : h ≠ r := fun z => by rw [z] at better; exact Nat.lt_irrefl _ better
  have h1 : rather rows w h (partner μ w) = true := by rw [e2]; exact (rather_iff hrow.2).mpr better
  have h2 : rather rows h w (partner μ h) = true := by
    refine (rather_iff hrow.1).mpr ?_
    cases q : partner μ h with
    | none =>
      rw [place_row hrow.1]
      exact List.idxOf_lt_length_of_mem hrow.1
    | some v =>
      have hwv := partner_want pμ q
      obtain ⟨j, hj⟩ := wr_idx hwv
      rcases Nat.lt_trichotomy j k with c | c | c
      · exact absurd q (before pμ bμ c hj)
      · subst c
        rw [hk] at hj
        cases hj
        have := partner_symm pμ.toPrs q
        rw [e2] at this
        exact absurd (Option.some.inj this) (fun z => hne z.symm)
      · exact wr_at T.hall hk hj c
  have hB : Br rows μ h w := ⟨hwant, h2, h1⟩
  have := bμ hs hB
  rw [e2] at this
  cases this
structure Ask (rows : List (List Nat)) (S : List Nat) (ask : Nat → Nat) (hd : Held) (free : List Nat) (a w : Nat) : Prop where
  st : St rows S ask hd (free ++ [a])
  ask : (wr rows a)[ask a]? = some w
theorem keep (T : Two rows sd S) (A : Ask rows S ask hd free a w) {h : Nat} (hh : (w, h) ∈ hd) (hb : place rows w (some h) < place rows w (some a)) : St rows S (inc ask a) hd (free ++ [a]) := by
  have s := A.st
  have aS : a ∈ S := s.fin (List.mem_append_right _ (List.mem_singleton_self _))
  have hlt := (List.getElem?_eq_some_iff.mp A.ask).1
  have nah : ∀ {v}, ¬ (v, a) ∈ hd := fun h => (s.held h).2.1 (List.mem_append_right _ (List.mem_singleton_self _))
  have old : ∀ {m j}, j < inc ask a m → (m = a ∧ j = ask a) ∨ j < ask m := fun {m j} h => by
    by_cases e : m = a
    · subst e; rw [inc_same] at h; by_cases q : j = ask m
      · exact .inl ⟨rfl, q⟩
      · exact .inr (by omega)
    · rw [inc_ne e] at h; exact .inr h
  refine ⟨s.keys, s.fnd, s.fin, fun {v m} h => ?_, fun {m} hm hf => ?_, fun {m} => ?_, fun {m} hm {j v} hj hv => ?_, fun {μ} pμ bμ {m} hm {j v} hj hv hn => ?_⟩
  · have hma : m ≠ a := fun e => nah (e ▸ h)
    rw [inc_ne hma]
    exact s.held h
  · have e : m ≠ a := fun e => hf (e ▸ List.mem_append_right _ (List.mem_singleton_self _))
    rw [inc_ne e]
    exact s.done hm hf
  · by_cases e : m = a
    · subst e; rw [inc_same]; omega
    · rw [inc_ne e]; exact s.le
  · rcases old hj with ⟨rfl, rfl⟩ | hj
    · rw [A.ask] at hv; cases hv
      exact ⟨h, hh, .inr hb⟩
    · exact s.asked hm hj hv
  · rcases old hj with ⟨rfl, rfl⟩ | hj
    · rw [A.ask] at hv; cases hv
      obtain ⟨h1, h2, h3, h4⟩ := s.held hh
      refine let_go T h1 (ask h - 1) h4 (fun {μ} pμ bμ {j v} hj hv => s.opt pμ bμ h1 (by omega) hv fun z => ?_) hb pμ bμ
      have e := (s.held z).2.2.2
      have hnd := wr_at T.hall hv e hj
      exact Nat.lt_irrefl _ hnd
    · exact s.opt pμ bμ hm hj hv hn
def swap (hd : Held) (w a : Nat) : Held := hd.map fun p => if p.1 = w then (w, a) else p
end
end Fw.Da
namespace Fw.Da
open Fw Fw.Hl
section
variable {rows : List (List Nat)} {μ : List (Nat × Nat)} {S : List Nat} {a b m w x y : Nat} {sd : Nat → Bool} {ask : Nat → Nat} {hd : Held} {free : List Nat}
theorem St.one (s : St rows S ask hd free) {v : Nat} (h1 : (w, m) ∈ hd) (h2 : (v, m) ∈ hd) : w = v := by
  have e1 := (s.held h1).2.2.2
  have e2 := (s.held h2).2.2.2
  rw [e1] at e2
  exact Option.some.inj e2
end
end Fw.Da
namespace Fw.Da
open Fw Fw.Hl
section
variable {rows : List (List Nat)} {μ ν : List (Nat × Nat)} {S : List Nat} {a b m w : Nat} {sd : Nat → Bool}
end
end Fw.Da
namespace Fw.Da
open PySem PySem.Spec PyProof.Rows L2 Fw Fw.Hl
section
variable {rows : List (List Nat)} {μ : List (Nat × Nat)} {S : List Nat} {a b m w x y n : Nat} {sd : Nat → Bool} {ask : Nat → Nat} {hd : Held} {free : List Nat} {st : Sto} {kvs : List (PyData × D)}
theorem keq_nat : keq false (nI a) (nI b) = decide (a = b) := by
  show decide (key1 (nI a) = key1 (nI b)) = _
  refine decide_eq_decide.mpr ⟨fun h => ?_, fun h => by rw [h]⟩
  have h : some (Sum.inl (a : Int) : Key) = some (.inl (b : Int)) := h
  have h := Option.some.inj h
  have h : (a : Int) = (b : Int) := by injection h
  omega
theorem viewK_dct (h : st[n]? = some (.dct false kvs)) : viewK st (.ref n) = some (false, kvs) := by
  show (match st[n]? with
    | some (.dct t kvs) => some (t, kvs)
    | some (.lck false kvs) => some (false, kvs)
    | _ => none) = _
  rw [h]
theorem find_dct (h : st[n]? = some (.dct false kvs)) : findS st (.ref n) (.v (nI a)) = some (getK false kvs (nI a)) := by
  unfold findS
  rw [viewK_dct h]
  rfl
theorem sub_dct {d : D} (h : st[n]? = some (.dct false kvs)) (hg : getK false kvs (nI a) = some d) : subsD (.ref n) (.v (nI a)) st = .ok d st := by
  unfold subsD
  rw [viewK_dct h]
  show lookD (.ref n) (.v (nI a)) st = _
  unfold lookD
  rw [find_dct h, hg]
theorem set_dct {v : Nat} (h : st[n]? = some (.dct false kvs)) (hl : kvs.length < 1000000) : setU (.ref n) (.v (nI a)) (.v (nI v)) st = .ok () (st.set n (.dct false (putD kvs (nI a) (.v (nI v))))) := by
  have e1 : lAt st (.ref n) = none := by
    show (match st[n]? with
      | some (.lst zs) => some (n, zs)
      | _ => none) = _
    rw [h]
  have e2 : kAt st (.ref n) = some kvs := by
    show (match st[n]? with
      | some (.dct false kvs) => some kvs
      | _ => none) = _
    rw [h]
  unfold setU
  rw [e1, e2]
  show (if kvs.length < lim ∧ (D.v (nI v)).low n = true then _ else _) = _
  rw [if_pos ⟨hl, rfl⟩]
def askK (S : List Nat) (ask : Nat → Nat) : List (PyData × D) := S.map fun a => (nI a, D.v (nI (ask a)))
def heldK (hd : Held) : List (PyData × D) := hd.map fun p => (nI p.1, D.v (nI p.2))
theorem ask_get (h : a ∈ S) : getK false (askK S ask) (nI a) = some (.v (nI (ask a))) := by
  unfold getK askK
  induction S with
  | nil => cases h
  | cons b r ih =>
    rw [List.map_cons, List.find?_cons]
    show Option.map (fun x => x.2) (match keq false (nI b) (nI a) with
      | true => some (nI b, D.v (nI (ask b)))
      | false => _) = _
    rw [keq_nat]
    by_cases e : b = a
    · rw [decide_eq_true e, e]; rfl
    · rw [decide_eq_false e]
      exact ih ((List.mem_cons.mp h).resolve_left fun z => e z.symm)
theorem held_get : getK false (heldK hd) (nI w) = (hd.find? fun p => decide (p.1 = w)).map fun p => .v (nI p.2) := by
  unfold getK heldK
  induction hd with
  | nil => rfl
  | cons p r ih =>
    rw [List.map_cons, List.find?_cons, List.find?_cons]
    show Option.map (fun x => x.2) (match keq false (nI p.1) (nI w) with
      | true => some (nI p.1, D.v (nI p.2))
      | false => _) = _
    rw [keq_nat]
    cases decide (p.1 = w) with
    | true => rfl
    | false => exact ih
theorem any_key : ∀ {l : List (PyData × D)} {ks : List Nat}, l.map (·.1) = ks.map nI → (l.any fun p => keq false p.1 (nI a)) = decide (a ∈ ks)
  | [], [], _ => by simp
  | [], _ :: _, h => nomatch h
  | _ :: _, [], h => nomatch h
  | p :: r, k :: ks, h => by
    rw [List.map_cons, List.map_cons] at h
    have h1 := List.head_eq_of_cons_eq h
    have h2 := List.tail_eq_of_cons_eq h
    rw [List.any_cons, h1, keq_nat, any_key h2]
    by_cases e : k = a
    · subst e; simp
    · have e2 : ¬ a = k := fun z => e z.symm
      simp [e, e2]
theorem ask_keys : (askK S ask).map (·.1) = S.map nI := by unfold askK; rw [List.map_map]; rfl
theorem put_new : ∀ {l acc : List Nat}, (acc ++ l).Nodup → putAll (askK acc ask) (askK l ask) = askK (acc ++ l) ask
  | [], acc, _ => by rw [List.append_nil]; rfl
  | b :: r, acc, nd => by
    have nb : ¬ b ∈ acc := fun h => (List.nodup_append.mp nd).2.2 b h b List.mem_cons_self rfl
    have e : putD (askK acc ask) (nI b) (.v (nI (ask b))) = askK (acc ++ [b]) ask := by
      unfold putD
      rw [any_key ask_keys, if_neg (by simpa using nb)]
      unfold askK
      rw [List.map_append]
      rfl
    have e2 : acc ++ [b] ++ r = acc ++ b :: r := by rw [List.append_assoc]; rfl
    show putAll (putD (askK acc ask) (nI b) (.v (nI (ask b)))) (askK r ask) = _
    rw [e, put_new (by rw [e2]; exact nd), e2]
theorem pairs_ask : ∀ l : List Nat, pairsP (l.map fun a => PyData.tuple [nI a, nI (ask a)]) = some (askK l ask)
  | [] => rfl
  | a :: r => by
    rw [List.map_cons]
    show (match key1 (nI a), pairsP (r.map fun a => PyData.tuple [nI a, nI (ask a)]) with
      | some _, some l => some ((nI a, D.v (nI (ask a))) :: l)
      | _, _ => none) = _
    rw [pairs_ask r]
    rfl
theorem dict_ask (nd : S.Nodup) : fDictP [.v (.list (S.map fun a => PyData.tuple [nI a, nI (ask a)]))] st = .ok (.ref st.length) (st ++ [O.dct false (askK S ask)]) := by
  show (match pairsP (S.map fun a => PyData.tuple [nI a, nI (ask a)]) with
    | some kvs => Out.ok (D.ref st.length) (st ++ [O.dct false (putAll [] kvs)])
    | none => .stuck) = _
  rw [pairs_ask]
  show Out.ok (D.ref st.length) (st ++ [O.dct false (putAll (askK [] ask) (askK S ask))]) = _
  rw [put_new (acc := []) nd]
  rfl
def bst (st : Sto) (A B : List (PyData × D)) (F : List PyData) : Sto := st ++ [O.dct false A, O.dct false B, O.lst F]
variable {A A' B B' : List (PyData × D)} {F F' : List PyData}
theorem b1 : (bst st A B F)[st.length + 1]? = some (O.dct false B) := by unfold bst; rw [List.getElem?_append_right (by omega), show st.length + 1 - st.length = 1 by omega]; rfl
theorem b2 : (bst st A B F)[st.length + 2]? = some (O.lst F) := by unfold bst; rw [List.getElem?_append_right (by omega), show st.length + 2 - st.length = 2 by omega]; rfl
end
end Fw.Da
namespace Fw.Da
open PySem PySem.Spec PyProof.Rows L2 Fw Fw.Hl
section
variable {rows : List (List Nat)} {S : List Nat} {sd : Nat → Bool} {st : Sto}
theorem ok_Dnew {b : Bool} {env : Ev} {P : D → Sto → Prop} : (mDnew b env st).Ok P ↔ P (.ref st.length) (st ++ [O.dct b []]) := Iff.rfl
end
end Fw.Da
namespace Fw.Da
open PySem PySem.Spec PyProof.Rows L2 Fw Fw.Hl
section
variable {rows : List (List Nat)} {ps qs μ ν : List (Nat × Nat)} {a b n i : Nat} {st : Sto}
def more (rows : List (List Nat)) (a : Nat) (ps : List (Nat × Nat)) : List (List (Nat × Nat)) := if partner ps a = none then (((ups (a + 1) rows.length).filter (want rows a)).filter fun b => decide (partner ps b = none)).map fun b => sortP (ps ++ [(a, b)]) else []
end
end Fw.Da
namespace Fw.Da
open PySem PySem.Spec PyProof.Rows L2 Fw Fw.Hl
section
variable {rows : List (List Nat)} {ps qs μ ν : List (Nat × Nat)} {a b n i : Nat} {st : Sto}
end
end Fw.Da
namespace Fw.Aq
open PySem PySem.Spec PyProof.Rows L2 Fw Fw.Hl Fw.Da
section
variable {rows : List (List Nat)} {S lot : List Nat} {a b m w n k : Nat} {st : Sto} {ask : Nat → Nat} {hd : Held} {sd : Nat → Bool} {side : Bool}
def holder (hd : Held) (a : Nat) : Option Nat := ((hd.filter fun p => decide (p.2 = a)).map (·.1)).head?
theorem held_at (nd : (hd.map (·.1)).Nodup) {p : Nat × Nat} (hp : p ∈ hd) : getK false (heldK hd) (nI p.1) = some (.v (nI p.2)) := by
  rw [held_get]
  cases q : hd.find? (fun r => decide (r.1 = p.1)) with
  | none => exact absurd (decide_eq_true rfl) (List.find?_eq_none.mp q p hp)
  | some r =>
    have h1 : r.1 = p.1 := by simpa using List.find?_some q
    have hr := List.mem_of_find?_eq_some q
    have : r.2 = p.2 := key_uniq (w := p.1) nd (by rw [← h1]; exact hr) hp
    rw [← this]
    rfl
def freeOf (rows : List (List Nat)) (S : List Nat) (ask : Nat → Nat) (hd : Held) : List Nat := S.filter fun a => decide (ask a < (wr rows a).length) && (holder hd a).isNone
def put (rows : List (List Nat)) (hd : Held) (b a : Nat) : Held := match hd.find? fun p => decide (p.1 = b) with
  | none => hd ++ [(b, a)]
  | some p => if rather rows b a (some p.2) then swap hd b a else hd
end
end Fw.Aq
namespace Fw.Aq
open PySem PySem.Spec PyProof.Rows L2 Fw Fw.Hl Fw.Da
structure AS where
  ask : Nat → Nat
  hd : Held
  out : List (Nat × Nat)
def nxt (rows : List (List Nat)) (S : List Nat) (s : AS) : Option AS := match freeOf rows S s.ask s.hd with
  | [] => none
  | a :: _ => match (wr rows a)[s.ask a]? with
    | none => none
    | some b => some ⟨inc s.ask a, put rows s.hd b a, s.out ++ [(a, b)]⟩
section
variable {rows : List (List Nat)} {S lot : List Nat} {a b m w n k : Nat} {st : Sto} {ask : Nat → Nat} {hd : Held} {sd : Nat → Bool} {side : Bool} {free : List Nat} {s t u : AS}
def left (rows : List (List Nat)) (S : List Nat) (s : AS) : Nat := (S.map fun a => (wr rows a).length - s.ask a).sum
def ast (st : Sto) (F : List PyData) (B A : List (PyData × D)) : Sto := st ++ [O.lst F, O.dct false B, O.dct false A]
variable {A A' B B' : List (PyData × D)} {F F' : List PyData} {more : Sto}
theorem a1 : (ast st F B A ++ more)[st.length + 1]? = some (O.dct false B) := by unfold ast; rw [List.append_assoc, List.getElem?_append_right (by omega), show st.length + 1 - st.length = 1 by omega]; rfl
theorem a2 : (ast st F B A ++ more)[st.length + 2]? = some (O.dct false A) := by unfold ast; rw [List.append_assoc, List.getElem?_append_right (by omega), show st.length + 2 - st.length = 2 by omega]; rfl
end
end Fw.Aq
namespace Fw.Aq
open PySem PySem.Spec PyProof.Rows L2 Fw Fw.Hl Fw.Da
section
variable {rows : List (List Nat)} {S lot : List Nat} {a b m w n k : Nat} {st : Sto} {ps qs μ ν : List (Nat × Nat)}
end
end Fw.Aq
namespace Fw.Aq
open PySem PySem.Spec PyProof.Rows L2 Fw Fw.Hl Fw.Da
section
variable {rows : List (List Nat)} {S lot : List Nat} {a b m w n k : Nat} {st : Sto} {ps qs μ ν : List (Nat × Nat)} {c o : Option Nat}
end
end Fw.Aq
namespace Fw.Aq
open PySem PySem.Spec PyProof.Rows L2 Fw Fw.Hl Fw.Da
section
variable {rows : List (List Nat)} {S lot : List Nat} {a b m w n k : Nat} {st : Sto} {ps qs μ ν : List (Nat × Nat)} {c o : Option Nat}
def flat (ps : List (Nat × Nat)) : List Nat := ps.flatMap fun p => [p.1, p.2]
def lmore (rows : List (List Nat)) (a : Nat) (ps : List (Nat × Nat)) : List (List (Nat × Nat)) := if a ∈ flat ps then [] else ((wr rows a).filter fun b => decide (b > a) && !decide (b ∈ flat ps)).map fun b => ps ++ [(a, b)]
def lto (rows : List (List Nat)) : Nat → List (List (Nat × Nat))
  | 0 => [[]]
  | a + 1 => lto rows a ++ (lto rows a).flatMap (lmore rows a)
def lps (rows : List (List Nat)) : List (List (Nat × Nat)) := (lto rows rows.length).map sortP
def evs (rows : List (List Nat)) : List (List (Nat × Nat)) := (lps rows).filter fun μ => decide (breaking rows μ = [])
end
end Fw.Aq
namespace Fw.Aq
open PySem PySem.Spec PyProof.Rows L2 Fw Fw.Hl Fw.Da
section
variable {rows : List (List Nat)} {S lot : List Nat} {a b m w n k : Nat} {st : Sto} {ps qs μ ν : List (Nat × Nat)} {c o : Option Nat} {side : Bool} {t : AS}
def go (rows : List (List Nat)) (S : List Nat) : Nat → AS → AS
  | 0, s => s
  | k + 1, s => match nxt rows S s with
    | none => s
    | some u => go rows S k u
end
end Fw.Aq
namespace Fw.Aq
open PySem PySem.Spec PyProof.Rows L2 Fw Fw.Hl Fw.Da
section
variable {rows : List (List Nat)} {S lot : List Nat} {a b m w n k : Nat} {st : Sto} {ps qs μ ν L O : List (Nat × Nat)} {c o : Option Nat} {side : Bool} {t : AS}
def bs (lot : List Nat) (L O : List (Nat × Nat)) (a : Nat) : Option Nat := if a ∈ lot then partner L a else partner O a
def ws (lot : List Nat) (L O : List (Nat × Nat)) (a : Nat) : Option Nat := if a ∈ lot then partner O a else partner L a
def okA (rows : List (List Nat)) (lot : List Nat) (L O μ : List (Nat × Nat)) (a : Nat) : Prop := place rows a (bs lot L O a) ≤ place rows a (partner μ a) ∧ place rows a (partner μ a) ≤ place rows a (ws lot L O a)
instance : Decidable (okA rows lot L O μ a) := by unfold okA; infer_instance
end
end Fw.Aq
namespace Fw.Aq
open PySem PySem.Spec PyProof.Rows L2 Fw Fw.Hl Fw.Da
section
variable {rows : List (List Nat)} {S lot : List Nat} {a b m w n k : Nat} {st : Sto} {ps qs μ ν L O : List (Nat × Nat)} {c o : Option Nat} {side : Bool} {t : AS}
def seen (rows : List (List Nat)) (a : Nat) : List Nat := (row rows a).filter fun b => decide (some b ∈ (evs rows).map fun ν => partner ν a)
end
end Fw.Aq
namespace Fw.An
open PySem PySem.Spec PyProof.Rows L2 Fw Fw.Hl Fw.Da Fw.Aq
inductive AV (B : Nat) : PyData → Prop
  | non : AV B .none
  | bl (b : Bool) : AV B (.bool b)
  | int (i : Int) (h : i.natAbs ≤ B) : AV B (.int i)
  | str (x : Str) (h : (x.cps.toList.all fun c => decide (c < 16 ^ 8)) = true) : AV B (.str x)
  | lst (xs : List PyData) (h : ∀ x ∈ xs, AV B x) : AV B (.list xs)
  | tup (xs : List PyData) (h : ∀ x ∈ xs, AV B x) : AV B (.tuple xs)
  | dct : AV B (.dict [])
section
variable {B C w k w' k' : Nat} {d : PyData} {xs ys : List PyData} {st : Sto}
theorem AV.mono (h : AV B d) (hc : B ≤ C) : AV C d := by
  induction h with
  | non => exact .non
  | bl b => exact .bl b
  | int i h => exact .int i (Nat.le_trans h hc)
  | str x h => exact .str x h
  | lst xs h ih => exact .lst xs ih
  | tup xs h ih => exact .tup xs ih
  | dct => exact .dct
theorem AV.all (h : AV B (.tuple xs)) : ∀ x ∈ xs, AV B x := by cases h with | tup _ h => exact h
theorem AV.ok (h : AV B d) (hB : B < 10 ^ 38) : kOk d = true ∧ d.showable = true ∧ d.leavesShort 40 = true ∧ tyB d = true := by
  have all : ∀ xs : List PyData, (∀ x ∈ xs, kOk x = true ∧ x.showable = true ∧ x.leavesShort 40 = true ∧ tyB x = true) → kOkA xs = true ∧ PyData.showableAll xs = true ∧ PyData.leavesShortAll 40 xs = true := fun xs => by
    induction xs with
    | nil => intro _; exact ⟨rfl, rfl, rfl⟩
    | cons x r ih =>
      intro h
      obtain ⟨a, b, c⟩ := ih fun y hy => h y (List.mem_cons_of_mem _ hy)
      obtain ⟨a1, b1, c1, _⟩ := h x List.mem_cons_self
      exact ⟨by rw [kOkA, a1, a]; rfl, by rw [PyData.showableAll, b1, b]; rfl, by rw [PyData.leavesShortAll, c1, c]; rfl⟩
  induction h with
  | non => exact ⟨rfl, rfl, rfl, rfl⟩
  | bl b => exact ⟨rfl, rfl, rfl, rfl⟩
  | int i h =>
    refine ⟨rfl, ?_, ?_, rfl⟩
    · rw [PyData.showable, decide_eq_true_eq]
      by_cases h0 : i.natAbs = 0
      · rw [h0]; decide
      · have h2 : i.natAbs < 2 ^ 200 := Nat.lt_of_le_of_lt h (Nat.lt_trans hB (by decide))
        have := (Nat.log2_lt h0 (k := 200)).mpr h2
        omega
    · rw [PyData.leavesShort, decide_eq_true_eq]
      have e := int_text_length_le10 (k := 38) (by decide) (show i.natAbs < 10 ^ 38 by omega)
      show (Str.ofString (toString i)).length ≤ 40
      rw [PySem.ofString_length]
      omega
  | str x h => exact ⟨rfl, rfl, by rw [PyData.leavesShort]; exact h, rfl⟩
  | lst xs h ih =>
    obtain ⟨a, b, c⟩ := all xs ih
    exact ⟨by rw [kOk]; exact a, by rw [PyData.showable]; exact b, by rw [PyData.leavesShort]; exact c, rfl⟩
  | tup xs h ih =>
    obtain ⟨a, b, c⟩ := all xs ih
    exact ⟨by rw [kOk]; exact a, by rw [PyData.showable]; exact b, by rw [PyData.leavesShort]; exact c, rfl⟩
  | dct => exact ⟨rfl, rfl, rfl, rfl⟩
structure An (B w k : Nat) (d : PyData) : Prop where
  av : AV B d
  bulk : d.bulk ≤ w
  dep : d.depth ≤ k
theorem An.mono (h : An B w k d) (h1 : w ≤ w') (h2 : k ≤ k') (h3 : B ≤ C) : An C w' k' d := ⟨h.av.mono h3, Nat.le_trans h.bulk h1, Nat.le_trans h.dep h2⟩
theorem An.repr (h : An B w k d) (hB : B < 10 ^ 38 := by decide) (hw : w ≤ 20000 := by decide) (hk : k ≤ 60 := by decide) : fReprM [.v d] st = .ok (.v (.str d.shown)) st := by
  obtain ⟨a, b, c, _⟩ := h.av.ok hB
  have hl := PyData.shown_le_bulk 40 (by decide) d c
  have h1 := h.bulk
  show (if kOk d && d.showable && decide (d.depth ≤ 60) && decide (d.shown.length ≤ lim) then Out.ok (D.v (.str d.shown)) st else fReprK [.v d] st) = _
  rw [if_pos]
  simp only [Bool.and_eq_true, decide_eq_true_eq]
  refine ⟨⟨⟨a, b⟩, Nat.le_trans h.dep hk⟩, ?_⟩
  show _ ≤ 1000000
  omega
theorem An.ty (h : AV B d) (hB : B < 10 ^ 38 := by decide) : tyB d = true := (h.ok hB).2.2.2
theorem depA_le {k : Nat} : ∀ {xs : List PyData}, (∀ x ∈ xs, x.depth ≤ k) ↔ PyData.depthAll xs ≤ k
  | [] => by simp [PyData.depthAll]
  | x :: r => by
    rw [PyData.depthAll, Nat.max_le, ← depA_le (xs := r)]
    simp
theorem bulkA_len : ∀ xs : List PyData, xs.length ≤ PyData.bulkAll xs
  | [] => Nat.zero_le _
  | x :: r => by
    have := bulkA_len r
    rw [PyData.bulkAll, List.length_cons]
    omega
theorem bulk_tup : (PyData.tuple xs).bulk = PyData.bulkAll xs := by rw [PyData.bulk]
theorem dep_tup : (PyData.tuple xs).depth = PyData.depthAll xs + 1 := by rw [PyData.depth]
theorem An.tup (h : ∀ x ∈ xs, AV B x ∧ x.depth ≤ k) (hb : PyData.bulkAll xs ≤ w) : An B w (k + 1) (.tuple xs) :=
  ⟨.tup xs fun x hx => (h x hx).1, by rw [bulk_tup]; exact hb, by rw [dep_tup]; exact Nat.succ_le_succ (depA_le.mp fun x hx => (h x hx).2)⟩
theorem An.parts (h : An B w k (.tuple xs)) : ∀ x ∈ xs, AV B x ∧ x.depth + 1 ≤ k := fun x hx => by
  have h1 := h.dep
  rw [dep_tup] at h1
  exact ⟨h.av.all x hx, by have := depA_le.mpr (Nat.le_refl (PyData.depthAll xs)) x hx; omega⟩
theorem An.len (h : An B w k (.tuple xs)) : xs.length ≤ w := by
  have := h.bulk
  rw [bulk_tup] at this
  exact Nat.le_trans (bulkA_len xs) this
theorem add_tup2 (h : xs.length + ys.length ≤ 1000000) : addD (.v (.tuple xs)) (.v (.tuple ys)) st = .ok (.v (.tuple (xs ++ ys))) st := if_pos h
end
section
variable {rest : Sto}
end
section
variable {B w k w' : Nat} {xs ys : List PyData} {st : Sto} {G : List (Nat × Nat)}
theorem bulkA_perm (h : ys.Perm xs) : PyData.bulkAll ys = PyData.bulkAll xs := by
  induction h with
  | nil => rfl
  | cons a _ ih => rw [PyData.bulkAll, PyData.bulkAll, ih]
  | swap a b l => rw [PyData.bulkAll, PyData.bulkAll, PyData.bulkAll, PyData.bulkAll]; omega
  | trans _ _ i j => exact i.trans j
theorem An.mk2 (h : An B w k (.tuple xs)) (hm : ∀ x ∈ ys, x ∈ xs) (hb : PyData.bulkAll ys ≤ w') : An B w' k (.tuple ys) := by
  cases k with
  | zero => have := h.dep; rw [dep_tup] at this; exact absurd this (Nat.not_succ_le_zero _)
  | succ k =>
    refine An.tup (fun x hx => ?_) hb
    obtain ⟨a, b⟩ := h.parts x (hm x hx)
    exact ⟨a, by omega⟩
theorem An.perm (h : An B w k (.tuple xs)) (hs : ys.Perm xs) : An B w k (.tuple ys) := h.mk2 (fun _ hx => hs.mem_iff.mp hx) (by have := h.bulk; rw [bulk_tup] at this; rw [bulkA_perm hs]; exact this)
theorem An.lst (h : An B w k (.tuple xs)) : An B w k (.list xs) := ⟨.lst xs h.av.all, by rw [PyData.bulk]; have := h.bulk; rw [bulk_tup] at this; exact this, by rw [PyData.depth]; have := h.dep; rw [dep_tup] at this; exact this⟩
end
section
variable {st : Sto}
theorem ok_fSl {m : ME} {lo hi : MO} {env : Ev} {P : List PyData → Sto → Prop} : (mfSl m lo hi env st).Ok P ↔ (m env st).Ok fun a s1 => (lo env s1).Ok fun l s2 => (hi env s2).Ok fun h s3 => ∃ xs, viewL s3 a = some xs ∧ P (cutP xs l h) s3 := by
  unfold mfSl
  rw [ok_bind]
  have e : ∀ a l h s3, (match viewL s3 a with
      | some xs => Out.ok (cutP xs l h) s3
      | none => .stuck).Ok P ↔ ∃ xs, viewL s3 a = some xs ∧ P (cutP xs l h) s3 := fun a l h s3 => by
    cases viewL s3 a with
    | none => exact ⟨fun z => z.elim, fun ⟨_, z, _⟩ => nomatch z⟩
    | some xs => exact ⟨fun z => ⟨xs, rfl, z⟩, fun ⟨_, z, q⟩ => by cases z; exact q⟩
  constructor
  · intro z
    refine z.mono fun a s1 q => ?_
    rw [ok_bind] at q
    refine q.mono fun l s2 q => ?_
    rw [ok_bind] at q
    exact q.mono fun h s3 q => (e a l h s3).mp q
  · intro z
    refine z.mono fun a s1 q => ?_
    rw [ok_bind]
    refine q.mono fun l s2 q => ?_
    rw [ok_bind]
    exact q.mono fun h s3 q => (e a l h s3).mpr q
end
section
variable {rows : List (List Nat)} {st : Sto} {B : Nat} {x : PyData} {xs : List PyData}
theorem lcL_auto {α : Type} {g : MG} {t : MT} {m : ME} {env0 : Ev} {f : α → Itm} (p : α → Bool) (F : α → PyData) (l : List α) (h : ∀ a ∈ l, (g (f a) env0 st).Ok fun e1 s1 => s1 = st ∧ (t e1 st).Ok fun k s2 => s2 = st ∧ k = p a ∧ (p a = true → (m e1 st).Ok fun v s3 => s3 = st ∧ v = .v (F a))) :
    lcL none g t m env0 (l.map f) st = .ok ((l.filter p).map F) st := by
  rw [lcL_mapA f (fun a => if p a = true then some (F a) else none), fm_filter]
  intro a ha
  refine (h a ha).mono ?_
  rintro e1 s1 ⟨rfl, h⟩
  refine ⟨rfl, h.mono ?_⟩
  rintro k s2 ⟨rfl, rfl, h⟩
  refine ⟨rfl, fun hk => (h hk).mono ?_, fun hk => by rw [if_neg (by rw [hk]; exact Bool.false_ne_true)]⟩
  rintro v s3 ⟨rfl, rfl⟩
  exact ⟨rfl, _, rfl, by rw [if_pos hk]⟩
end
end Fw.An
namespace Fw.Sg
open PySem PySem.Spec PyProof.Rows L2 Fw Fw.Hl
section
variable {st : Sto}
theorem sort_same {xs ys : List PyData} (hp : xs.Perm ys) (inj : ∀ d ∈ xs, ∀ e ∈ xs, PySem.W.keyToks d = PySem.W.keyToks e → d = e) : xs.mergeSort (PySem.W.dataLe false id) = ys.mergeSort (PySem.W.dataLe false id) := by
  have T := PySem.W.sortLe_total (listOrd itemOrd) false (fun b : PyData => PySem.W.keyToks (id b))
  refine List.Perm.eq_of_pairwise (le := fun a b => PySem.W.dataLe false id a b = true) ?_ (List.pairwise_mergeSort T.trans (fun a b => (Bool.or_eq_true _ _).mpr (T.total a b)) xs) (List.pairwise_mergeSort T.trans (fun a b => (Bool.or_eq_true _ _).mpr (T.total a b)) ys) ((List.mergeSort_perm _ _).trans (hp.trans (List.mergeSort_perm _ _).symm))
  intro a b ha hb h1 h2
  have h1 : (!(PyProof.Rows.lexLt itemOrd (PySem.W.keyToks b) (PySem.W.keyToks a))) = true := h1
  have h2 : (!(PyProof.Rows.lexLt itemOrd (PySem.W.keyToks a) (PySem.W.keyToks b))) = true := h2
  rw [Bool.not_eq_true'] at h1 h2
  exact inj a ((List.mergeSort_perm _ _).mem_iff.mp ha) b (hp.mem_iff.mpr ((List.mergeSort_perm _ _).mem_iff.mp hb)) (lex_total _ _ h2 h1)
end
end Fw.Sg
namespace Fw.Sn
open PySem PySem.Spec PyProof.Rows L2 Fw
section
variable {st : Sto} {l : List Nat}
end
end Fw.Sn
namespace Fw.Ho
open PySem PySem.Spec PyProof.Rows L2 Fw Fw.Hl
structure Hou (rows : List (List Nat)) : Prop where
  pos : 1 ≤ rows.length
  nd : ∀ {a}, a < rows.length → (row rows a).Nodup
  mem : ∀ {a b}, a < rows.length → (b ∈ row rows a ↔ b < rows.length)
structure Dl (n : Nat) (d : List Nat) : Prop where
  len : d.length = n
  nd : d.Nodup
  lt : ∀ x ∈ d, x < n
def at' (d : List Nat) (i : Nat) : Nat := d.getD i 0
section
variable {rows : List (List Nat)} {n i j h g : Nat} {d e : List Nat}
theorem at_get (hi : i < d.length) : d[i]? = some (at' d i) := by
  unfold at'
  rw [List.getD_eq_getElem?_getD, List.getElem?_eq_getElem hi]
  rfl
theorem at_elem (hi : i < d.length) : at' d i = d[i] := by
  have := at_get hi
  rw [List.getElem?_eq_getElem hi] at this
  exact (Option.some.inj this).symm
theorem at_mem (hi : i < d.length) : at' d i ∈ d := List.mem_of_getElem? (at_get hi)
theorem Dl.at_lt (D : Dl n d) (hi : i < n) : at' d i < n := D.lt _ (at_mem (by rw [D.len]; exact hi))
theorem Dl.inj (D : Dl n d) (hi : i < n) (hj : j < n) (e : at' d i = at' d j) : i = j := by
  have hi : i < d.length := by rw [D.len]; exact hi
  have hj : j < d.length := by rw [D.len]; exact hj
  rw [at_elem hi, at_elem hj] at e
  exact (List.getElem_inj (h₀ := hi) (h₁ := hj) D.nd).mp e
theorem pig {A B : List Nat} (nA : A.Nodup) (f : Nat → Nat) (hf : ∀ a ∈ A, f a ∈ B) (inj : ∀ a ∈ A, ∀ b ∈ A, f a = f b → a = b) : A.length ≤ B.length := by
  have h1 : (A.map f).Nodup := by
    refine List.pairwise_map.mpr ?_
    refine List.Pairwise.imp_of_mem (fun {a b} ha hb hne e => hne (inj a ha b hb e)) nA
  have := sub_len h1 (m := B) fun x hx => by obtain ⟨a, ha, rfl⟩ := List.mem_map.mp hx; exact hf a ha
  rwa [List.length_map] at this
theorem Dl.all (D : Dl n d) (hh : h < n) : ∃ i, i < n ∧ at' d i = h := by
  refine Classical.byContradiction fun no => ?_
  have hm : ¬ h ∈ d := fun z => by
    obtain ⟨i, hi, e⟩ := List.mem_iff_getElem.mp z
    exact no ⟨i, by rw [← D.len]; exact hi, by rw [at_elem hi]; exact e⟩
  have := pig (A := h :: d) (B := List.range n) (List.nodup_cons.mpr ⟨hm, D.nd⟩) id (fun a ha => by
    rcases List.mem_cons.mp ha with rfl | z
    · exact List.mem_range.mpr hh
    · exact List.mem_range.mpr (D.lt a z)) (fun _ _ _ _ e => e)
  rw [List.length_cons, List.length_range, D.len] at this
  omega
theorem Dl.ext (D : Dl n d) (E : Dl n e) (h : ∀ i, i < n → at' d i = at' e i) : d = e := by
  refine List.ext_getElem (by rw [D.len, E.len]) fun i h1 h2 => ?_
  have := h i (by rw [← D.len]; exact h1)
  rwa [at_elem h1, at_elem h2] at this
def rk (rows : List (List Nat)) (i h : Nat) : Nat := (row rows i).idxOf h
theorem rk_lt (H : Hou rows) (hi : i < rows.length) (hh : h < rows.length) : rk rows i h < (row rows i).length := List.idxOf_lt_length_of_mem ((H.mem hi).mpr hh)
theorem rk_inj (H : Hou rows) (hi : i < rows.length) (hh : h < rows.length) (hg : g < rows.length) (e : rk rows i h = rk rows i g) : h = g := by
  have q1 := List.getElem_idxOf (rk_lt H hi hh)
  have q2 := List.getElem_idxOf (rk_lt H hi hg)
  rw [← q1, ← q2]
  congr 1
def bst (rows : List (List Nat)) (i : Nat) (T : List Nat) : Nat := ((row rows i).filter fun h => !decide (h ∈ T)).headD 0
theorem idx_filter_le {p : Nat → Bool} : ∀ {l : List Nat} {x y : Nat} {r : List Nat}, l.filter p = x :: r → y ∈ l → p y = true → l.idxOf x ≤ l.idxOf y
  | [], x, y, r, e, _, _ => nomatch e
  | a :: l, x, y, r, e, hy, hp => by
    rw [List.filter_cons] at e
    by_cases pa : p a = true
    · rw [if_pos pa] at e
      injection e with e1 _
      subst e1
      rw [List.idxOf_cons_self]
      exact Nat.zero_le _
    · rw [if_neg pa] at e
      have hya : ¬ a = y := fun z => by subst z; exact pa hp
      have hxa : ¬ a = x := fun z => by
        have : x ∈ l.filter p := by rw [e]; exact .head _
        have := (List.mem_filter.mp this).2
        subst z
        exact pa this
      rw [List.idxOf_cons, List.idxOf_cons, show (a == x) = false by simpa using hxa, show (a == y) = false by simpa using hya]
      have := idx_filter_le (x := x) e ((List.mem_cons.mp hy).resolve_left fun z => hya z.symm) hp
      show _ + 1 ≤ _ + 1
      omega
end
end Fw.Ho
namespace Fw.Ho
open PySem PySem.Spec PyProof.Rows L2 Fw Fw.Hl
section
variable {rows : List (List Nat)} {n i j h g : Nat} {d e w S : List Nat} {F : List (Nat × Nat)}
def lk (F : List (Nat × Nat)) (i : Nat) : Nat := ((F.find? fun p => decide (p.1 = i)).map (·.2)).getD 0
def dOf (n : Nat) (F : List (Nat × Nat)) : List Nat := (List.range n).map (lk F)
theorem lk_of (nd : (F.map (·.1)).Nodup) {p : Nat × Nat} (hp : p ∈ F) : lk F p.1 = p.2 := by
  unfold lk
  cases e : F.find? fun q => decide (q.1 = p.1) with
  | none =>
    have := List.find?_eq_none.mp e p hp
    simp at this
  | some q =>
    have h1 := List.mem_of_find?_eq_some e
    have h2 : q.1 = p.1 := by have := List.find?_some e; simpa using this
    show q.2 = p.2
    have : q = p := by
      refine Classical.byContradiction fun hne => ?_
      have := List.pairwise_map.mp nd
      rcases List.Pairwise.forall_of_forall_of_flip (R := fun a b => a.1 ≠ b.1 ∨ a = b) (fun x _ => .inr rfl) (this.imp fun h => .inl h) (this.imp fun h => .inl fun z => h z.symm) h1 hp with z | z
      · exact z h2
      · exact hne z
    rw [this]
theorem dOf_at (hi : i < n) : at' (dOf n F) i = lk F i := by
  unfold at' dOf
  rw [List.getD_eq_getElem?_getD, List.getElem?_map, List.getElem?_range hi]
  rfl
structure Sq (n : Nat) (s : List Nat) : Prop where
  nd : s.Nodup
  mem : ∀ i, i ∈ s ↔ i < n
theorem Sq.len {s : List Nat} (h : Sq n s) : s.length = n := by
  have h1 := sub_len h.nd (m := List.range n) fun x hx => List.mem_range.mpr ((h.mem x).mp hx)
  have h2 := sub_len (List.nodup_range (n := n)) (m := s) fun x hx => (h.mem x).mpr (List.mem_range.mp hx)
  rw [List.length_range] at h1 h2
  omega
theorem Sq.perm {s : List Nat} (h : Sq n s) : s.Perm (List.range n) := (List.perm_ext_iff_of_nodup h.nd List.nodup_range).mpr fun a => by rw [h.mem, List.mem_range]
def own (d : List Nat) (h : Nat) : Nat := d.idxOf h
end
end Fw.Ho
namespace Fw.Rg
open Fw.Hl
section
variable {n : Nat} {pl pl' : Nat → Nat → Nat} {d d' t t' : Nat → Nat}
structure Lv (n : Nat) (pl : Nat → Nat → Nat) (d t : Nat → Nat) : Prop where
  lt : ∀ i, i < n → d i < n
  inj : ∀ i, i < n → ∀ j, j < n → d i = d j → i = j
  sur : ∀ h, h < n → ∃ p, p < n ∧ d p = h
  lev : ∀ i, i < n → t (d i) = t i
  best : ∀ i, i < n → ∀ h, h < n → t i ≤ t h → pl i (d i) ≤ pl i h
theorem pigeon (f : Nat → Nat) (h : ∀ m, m ≤ n → f m < n) : ∃ a b, a < b ∧ b ≤ n ∧ f a = f b := by
  refine Classical.byContradiction fun z => ?_
  have nd : ((List.range (n + 1)).map f).Nodup := by
    refine List.pairwise_map.mpr (List.pairwise_lt_range.imp_of_mem fun {a b} ha hb hab e => z ⟨a, b, hab, ?_, e⟩)
    have := List.mem_range.mp hb
    omega
  have := sub_len nd (m := List.range n) fun x hx => by
    obtain ⟨m, hm, rfl⟩ := List.mem_map.mp hx
    exact List.mem_range.mpr (h m (by have := List.mem_range.mp hm; omega))
  rw [List.length_map, List.length_range, List.length_range] at this
  omega
def it (d : Nat → Nat) (j : Nat) : Nat → Nat
  | 0 => j
  | m + 1 => d (it d j m)
theorem it_lt (A : Lv n pl d t) {j : Nat} (hj : j < n) : ∀ m, it d j m < n
  | 0 => hj
  | m + 1 => A.lt _ (it_lt A hj m)
theorem it_lev (A : Lv n pl d t) {j : Nat} (hj : j < n) : ∀ m, t (it d j m) = t j
  | 0 => rfl
  | m + 1 => (A.lev _ (it_lt A hj m)).trans (it_lev A hj m)
theorem it_back (A : Lv n pl d t) {j : Nat} (hj : j < n) : ∀ a r, it d j a = it d j (a + r) → it d j r = j
  | 0, r, e => by rw [Nat.zero_add] at e; exact e.symm
  | a + 1, r, e => it_back A hj a r (by
    rw [show a + 1 + r = (a + r) + 1 by omega] at e
    exact A.inj _ (it_lt A hj a) _ (it_lt A hj (a + r)) e)
theorem it_ring (A : Lv n pl d t) {j : Nat} (hj : j < n) : ∃ r, 1 ≤ r ∧ it d j r = j := by
  obtain ⟨a, b, h1, _, h2⟩ := pigeon (n := n) (it d j) fun m _ => it_lt A hj m
  refine ⟨b - a, by omega, it_back A hj a (b - a) ?_⟩
  rw [show a + (b - a) = b by omega]
  exact h2
theorem it_add {j : Nat} (a : Nat) : ∀ b, it d j (a + b) = it d (it d j a) b
  | 0 => rfl
  | b + 1 => by
    show d (it d j (a + b)) = d (it d (it d j a) b)
    rw [it_add a b]
theorem it_late (A : Lv n pl d t) {j : Nat} (hj : j < n) (m : Nat) : ∃ r, m ≤ r ∧ it d j r = j := by
  obtain ⟨r, h1, h2⟩ := it_ring A hj
  have h : ∀ c, it d j (c * r) = j := fun c => by
    induction c with
    | zero => rw [Nat.zero_mul]; rfl
    | succ c ih => rw [Nat.succ_mul, it_add, ih, h2]
  exact ⟨m * r, Nat.le_mul_of_pos_right m h1, h m⟩
theorem least (f : Nat → Nat) : ∃ m, ∀ k, f m ≤ f k := by
  have key : ∀ v m, f m ≤ v → ∃ m, ∀ k, f m ≤ f k := fun v => by
    induction v with
    | zero => exact fun m h => ⟨m, fun k => by omega⟩
    | succ v ih =>
      intro m h
      by_cases z : ∃ k, f k ≤ v
      · obtain ⟨k, hk⟩ := z
        exact ih k hk
      · exact ⟨m, fun k => by have : ¬ f k ≤ v := fun q => z ⟨k, q⟩; omega⟩
  exact key (f 0) 0 (Nat.le_refl _)
theorem lv_same (A : Lv n pl d t) (B : Lv n pl' d' t') (pinj : ∀ i, i < n → ∀ h, h < n → ∀ h', h' < n → pl i h = pl i h' → h = h')
    (hL : ∀ i, i < n → (∀ h, h < n → pl' i h = pl i h) ∨ pl i (d' i) ≤ pl i (d i)) : ∀ i, i < n → d' i = d i := by
  have key : ∀ k j, j < n → t j = k → d' j = d j := fun k => by
    induction k using Nat.strongRecOn with
    | ind k ih =>
      intro j hj hk
      -- whoever of the ring leaves first in the second deal
      have one : ∀ m, m < n → t m = k → t' m ≤ t' (d m) → d' m = d m := fun m hm hmk hle => by
        have hdm := A.lt m hm
        have hdm' := B.lt m hm
        have h1 : pl m (d' m) ≤ pl m (d m) := by
          rcases hL m hm with h | h
          · rw [← h _ hdm', ← h _ hdm]
            exact B.best m hm _ hdm hle
          · exact h
        by_cases hlev : t m ≤ t (d' m)
        · exact pinj m hm _ hdm' _ hdm (Nat.le_antisymm h1 (A.best m hm _ hdm' hlev))
        · obtain ⟨p, hp, e⟩ := A.sur _ hdm'
          have hpl : t p < k := by
            have := A.lev p hp
            rw [e] at this
            omega
          have e2 := ih (t p) hpl p hp rfl
          rw [e] at e2
          have := B.inj p hp m hm e2
          rw [this] at hpl
          omega
      obtain ⟨m0, hmin⟩ := least fun m => t' (it d j m)
      have all : ∀ m, m0 ≤ m → t' (it d j m) = t' (it d j m0) ∧ d' (it d j m) = d (it d j m) := fun m hm => by
        induction m with
        | zero =>
          have : m0 = 0 := by omega
          subst this
          exact ⟨rfl, one _ (it_lt A hj 0) ((it_lev A hj 0).trans hk) (hmin 1)⟩
        | succ m ihm =>
          have hfst : t' (it d j (m + 1)) = t' (it d j m0) := by
            by_cases q : m0 = m + 1
            · rw [q]
            · obtain ⟨u1, u2⟩ := ihm (by omega)
              show t' (d (it d j m)) = _
              rw [← u2, B.lev _ (it_lt A hj m), u1]
          refine ⟨hfst, one _ (it_lt A hj (m + 1)) ((it_lev A hj (m + 1)).trans hk) ?_⟩
          rw [hfst]
          exact hmin (m + 2)
      obtain ⟨r, hr, e⟩ := it_late A hj m0
      have := (all r hr).2
      rw [e] at this
      exact this
  exact fun i hi => key (t i) i hi rfl
structure Part (n : Nat) (pl : Nat → Nat → Nat) (left : List Nat) (r : Nat) (d t : Nat → Nat) : Prop where
  lt : ∀ i, i < n → ¬ i ∈ left → d i < n ∧ ¬ d i ∈ left
  inj : ∀ i, i < n → ¬ i ∈ left → ∀ j, j < n → ¬ j ∈ left → d i = d j → i = j
  sur : ∀ h, h < n → ¬ h ∈ left → ∃ p, p < n ∧ ¬ p ∈ left ∧ d p = h
  lev : ∀ i, i < n → ¬ i ∈ left → t (d i) = t i
  tlt : ∀ i, i < n → ¬ i ∈ left → t i < r
  best : ∀ i, i < n → ¬ i ∈ left → ∀ h, h < n → h ∈ left ∨ t i ≤ t h → pl i (d i) ≤ pl i h
theorem part0 : Part n pl (List.range n) 0 d t := by
  have no : ∀ {i}, i < n → ¬ i ∈ List.range n → False := fun h z => z (List.mem_range.mpr h)
  exact ⟨fun i h z => (no h z).elim, fun i h z => (no h z).elim, fun i h z => (no h z).elim, fun i h z => (no h z).elim, fun i h z => (no h z).elim, fun i h z => (no h z).elim⟩
theorem part_end {r : Nat} (P : Part n pl [] r d t) : Lv n pl d t := by
  have no : ∀ i : Nat, ¬ i ∈ ([] : List Nat) := fun _ h => nomatch h
  exact ⟨fun i h => (P.lt i h (no i)).1, fun i h j h2 e => P.inj i h (no i) j h2 (no j) e, fun h hh => let ⟨p, h1, _, h3⟩ := P.sur h hh (no h); ⟨p, h1, h3⟩, fun i h => P.lev i h (no i), fun i h k hk hle => P.best i h (no i) k hk (.inr hle)⟩
theorem part_step {left left' C : List Nat} {r : Nat} {top : Nat → Nat} (P : Part n pl left r d t) (hl : ∀ i ∈ left, i < n) (hC : ∀ i ∈ C, i ∈ left) (h' : ∀ i, i ∈ left' ↔ i ∈ left ∧ ¬ i ∈ C)
    (h1 : ∀ i ∈ C, top i ∈ C) (h2 : ∀ i ∈ C, ∀ j ∈ C, top i = top j → i = j) (h3 : ∀ h ∈ C, ∃ p ∈ C, top p = h) (h4 : ∀ i ∈ C, ∀ h ∈ left, pl i (top i) ≤ pl i h) :
    Part n pl left' (r + 1) (fun i => if i ∈ C then top i else d i) (fun i => if i ∈ C then r else t i) := by
  have out : ∀ {i}, ¬ i ∈ left' → i ∈ C ∨ (¬ i ∈ C ∧ ¬ i ∈ left) := fun {i} z => by
    by_cases q : i ∈ C
    · exact .inl q
    · exact .inr ⟨q, fun u => z ((h' i).mpr ⟨u, q⟩)⟩
  have inC : ∀ {i}, i ∈ C → ¬ i ∈ left' := fun {i} q z => ((h' i).mp z).2 q
  have notC : ∀ {i}, ¬ i ∈ left → ¬ i ∈ C := fun {i} q z => q (hC i z)
  have notL : ∀ {i}, ¬ i ∈ left → ¬ i ∈ left' := fun {i} q z => q ((h' i).mp z).1
  refine ⟨fun i hi z => ?_, fun i hi z j hj w e => ?_, fun h hh z => ?_, fun i hi z => ?_, fun i hi z => ?_, fun i hi z h hh hor => ?_⟩
  · rcases out z with q | ⟨q, u⟩
    · simp only [if_pos q]
      exact ⟨hl _ (hC _ (h1 i q)), inC (h1 i q)⟩
    · simp only [if_neg q]
      obtain ⟨a, b⟩ := P.lt i hi u
      exact ⟨a, notL b⟩
  · rcases out z with q | ⟨q, u⟩ <;> rcases out w with q2 | ⟨q2, u2⟩
    · simp only [if_pos q, if_pos q2] at e
      exact h2 i q j q2 e
    · simp only [if_pos q, if_neg q2] at e
      exact absurd (hC _ (h1 i q)) (e ▸ (P.lt j hj u2).2)
    · simp only [if_neg q, if_pos q2] at e
      exact absurd (hC _ (h1 j q2)) (e ▸ (P.lt i hi u).2)
    · simp only [if_neg q, if_neg q2] at e
      exact P.inj i hi u j hj u2 e
  · rcases out z with q | ⟨q, u⟩
    · obtain ⟨p, hp, e⟩ := h3 h q
      exact ⟨p, hl _ (hC _ hp), inC hp, by simp only [if_pos hp]; exact e⟩
    · obtain ⟨p, hp, v, e⟩ := P.sur h hh u
      exact ⟨p, hp, notL v, by simp only [if_neg (notC v)]; exact e⟩
  · rcases out z with q | ⟨q, u⟩
    · simp only [if_pos q, if_pos (h1 i q)]
    · have v := notC (P.lt i hi u).2
      simp only [if_neg q, if_neg v]
      exact P.lev i hi u
  · rcases out z with q | ⟨q, u⟩
    · simp only [if_pos q]; omega
    · simp only [if_neg q]
      have := P.tlt i hi u
      omega
  · rcases out z with q | ⟨q, u⟩
    · simp only [if_pos q] at hor ⊢
      by_cases hL : h ∈ left
      · exact h4 i q h hL
      · rcases hor with hor | hor
        · exact absurd ((h' h).mp hor).1 hL
        · rw [if_neg (notC hL)] at hor
          have := P.tlt h hh hL
          omega
    · simp only [if_neg q] at hor ⊢
      refine P.best i hi u h hh ?_
      by_cases hL : h ∈ left
      · exact .inl hL
      · rcases hor with hor | hor
        · exact absurd ((h' h).mp hor).1 hL
        · rw [if_neg (notC hL)] at hor
          exact .inr hor
def Cyc (top : Nat → Nat) (i : Nat) : Prop := ∃ r, 1 ≤ r ∧ it top i r = i
theorem it_front {top : Nat → Nat} {i : Nat} : ∀ r, it top i (r + 1) = it top (top i) r
  | 0 => rfl
  | r + 1 => by
    show top (it top i (r + 1)) = top (it top (top i) r)
    rw [it_front r]
theorem it_times {top : Nat → Nat} {i r : Nat} (h : it top i r = i) : ∀ c, it top i (c * r) = i
  | 0 => by rw [Nat.zero_mul]; rfl
  | c + 1 => by rw [Nat.succ_mul, it_add, it_times h c, h]
theorem cyc_top {top : Nat → Nat} {i : Nat} (h : Cyc top i) : Cyc top (top i) := by
  obtain ⟨r, h1, h2⟩ := h
  refine ⟨r, h1, ?_⟩
  rw [← it_front]
  show top (it top i r) = top i
  rw [h2]
theorem cyc_inj {top : Nat → Nat} {i j : Nat} (hi : Cyc top i) (hj : Cyc top j) (e : top i = top j) : i = j := by
  obtain ⟨r, h1, h2⟩ := hi
  obtain ⟨q, g1, g2⟩ := hj
  have e1 : it top i (q * r) = i := it_times h2 q
  have e2 : it top j (q * r) = j := by rw [Nat.mul_comm]; exact it_times g2 r
  have hp : 1 ≤ q * r := Nat.mul_pos g1 h1
  obtain ⟨m, hm⟩ : ∃ m, q * r = m + 1 := ⟨q * r - 1, by omega⟩
  rw [hm, it_front] at e1 e2
  rw [e] at e1
  exact e1.symm.trans e2
theorem it_in {L : List Nat} {top : Nat → Nat} (hc : ∀ i ∈ L, top i ∈ L) {j : Nat} (hj : j ∈ L) : ∀ m, it top j m ∈ L
  | 0 => hj
  | m + 1 => hc _ (it_in hc hj m)
theorem cyc_ex {L : List Nat} {top : Nat → Nat} (hl : ∀ i ∈ L, i < n) (hc : ∀ i ∈ L, top i ∈ L) {j : Nat} (hj : j ∈ L) : ∃ a, a ≤ n ∧ Cyc top (it top j a) := by
  obtain ⟨a, b, h1, h2, h3⟩ := pigeon (n := n) (it top j) fun m _ => hl _ (it_in hc hj m)
  refine ⟨a, by omega, b - a, by omega, ?_⟩
  rw [← it_add, show a + (b - a) = b by omega, h3]
open Classical in
theorem part_rings {left left' : List Nat} {r : Nat} {top : Nat → Nat} (P : Part n pl left r d t) (hl : ∀ i ∈ left, i < n) (hc : ∀ i ∈ left, top i ∈ left) (h4 : ∀ i ∈ left, ∀ h ∈ left, pl i (top i) ≤ pl i h) (h' : ∀ i, i ∈ left' ↔ i ∈ left ∧ ¬ Cyc top i) :
    Part n pl left' (r + 1) (fun i => if i ∈ left ∧ Cyc top i then top i else d i) (fun i => if i ∈ left ∧ Cyc top i then r else t i) := by
  have hm : ∀ i, i ∈ left.filter (fun i => decide (Cyc top i)) ↔ i ∈ left ∧ Cyc top i := fun i => by rw [List.mem_filter, decide_eq_true_eq]
  have q := part_step (left' := left') (C := left.filter fun i => decide (Cyc top i)) (top := top) P hl (fun i hi => ((hm i).mp hi).1) (fun i => by
    rw [h', hm]
    exact ⟨fun ⟨u, v⟩ => ⟨u, fun z => v z.2⟩, fun ⟨u, v⟩ => ⟨u, fun z => v ⟨u, z⟩⟩⟩)
    (fun i hi => (hm _).mpr ⟨hc i ((hm i).mp hi).1, cyc_top ((hm i).mp hi).2⟩)
    (fun i hi j hj e => cyc_inj ((hm i).mp hi).2 ((hm j).mp hj).2 e)
    (fun h hh => by
      obtain ⟨u, v⟩ := (hm h).mp hh
      obtain ⟨rr, g1, g2⟩ := v
      obtain ⟨m, rfl⟩ : ∃ m, rr = m + 1 := ⟨rr - 1, by omega⟩
      have all : ∀ k, Cyc top (it top h k) := fun k => by
        induction k with
        | zero => exact ⟨m + 1, g1, g2⟩
        | succ k ih => exact cyc_top ih
      exact ⟨it top h m, (hm _).mpr ⟨it_in hc u m, all m⟩, g2⟩)
    (fun i hi h hh => h4 i ((hm i).mp hi).1 h hh)
  have e1 : (fun i => if i ∈ left ∧ Cyc top i then top i else d i) = fun i => if i ∈ left.filter (fun i => decide (Cyc top i)) then top i else d i := funext fun i => by
    by_cases z : i ∈ left ∧ Cyc top i
    · rw [if_pos z, if_pos ((hm i).mpr z)]
    · rw [if_neg z, if_neg fun w => z ((hm i).mp w)]
  have e2 : (fun i => if i ∈ left ∧ Cyc top i then r else t i) = fun i => if i ∈ left.filter (fun i => decide (Cyc top i)) then r else t i := funext fun i => by
    by_cases z : i ∈ left ∧ Cyc top i
    · rw [if_pos z, if_pos ((hm i).mpr z)]
    · rw [if_neg z, if_neg fun w => z ((hm i).mp w)]
  rw [e1, e2]
  exact q
end
end Fw.Rg
namespace Fw.Rg
open PySem PySem.Spec PyProof.Rows L2 Fw Fw.Hl Fw.Ho
section
variable {n i j m r a b k x : Nat} {top : Nat → Nat} {l l' L : List Nat} {rs rs' : List (List Nat)} {rows : List (List Nat)}
def trl (top : Nat → Nat) (i m : Nat) : List Nat := (List.range m).map (it top i)
theorem trl_len : (trl top i m).length = m := by unfold trl; rw [List.length_map, List.length_range]
theorem trl_succ : trl top i (m + 1) = trl top i m ++ [it top i m] := by unfold trl; rw [List.range_succ, List.map_append]; rfl
theorem trl_zero : trl top i 0 = [] := rfl
theorem trl_get (h : k < m) : (trl top i m)[k]? = some (it top i k) := by
  unfold trl
  rw [List.getElem?_map, List.getElem?_range h]
  rfl
theorem mem_trl : x ∈ trl top i m ↔ ∃ k, k < m ∧ it top i k = x := by
  unfold trl
  rw [List.mem_map]
  constructor
  · rintro ⟨k, hk, e⟩; exact ⟨k, List.mem_range.mp hk, e⟩
  · rintro ⟨k, hk, e⟩; exact ⟨k, List.mem_range.mpr hk, e⟩
theorem trl_add (a : Nat) : ∀ b, trl top i (a + b) = trl top i a ++ trl top (it top i a) b
  | 0 => by rw [Nat.add_zero, trl_zero, List.append_nil]
  | b + 1 => by
    rw [← Nat.add_assoc, trl_succ, trl_add a b, trl_succ, it_add, List.append_assoc]
theorem trl_drop (h : a ≤ m) : (trl top i m).drop a = trl top (it top i a) (m - a) := by
  have e := trl_add (top := top) (i := i) a (m - a)
  rw [show a + (m - a) = m by omega] at e
  rw [e, List.drop_append_of_le_length (by rw [trl_len]; exact Nat.le_refl _), List.drop_eq_nil_of_le (by rw [trl_len]; exact Nat.le_refl _), List.nil_append]
theorem trl_take (h : a ≤ m) : (trl top i m).take a = trl top i a := by
  have e := trl_add (top := top) (i := i) a (m - a)
  rw [show a + (m - a) = m by omega] at e
  rw [e, List.take_append_of_le_length (by rw [trl_len]; exact Nat.le_refl _), List.take_of_length_le (by rw [trl_len]; exact Nat.le_refl _)]
theorem trl_inj (nd : (trl top i m).Nodup) (ha : a < m) (hb : b < m) (e : it top i a = it top i b) : a = b := by
  have h1 : a < (trl top i m).length := by rw [trl_len]; exact ha
  have h2 : b < (trl top i m).length := by rw [trl_len]; exact hb
  have g1 := trl_get (top := top) (i := i) ha
  have g2 := trl_get (top := top) (i := i) hb
  rw [List.getElem?_eq_getElem h1] at g1
  rw [List.getElem?_eq_getElem h2] at g2
  exact (List.getElem_inj (h₀ := h1) (h₁ := h2) nd).mp ((Option.some.inj g1).trans (e.trans (Option.some.inj g2).symm))
theorem rep_uniq (nd : (trl top i m).Nodup) (h : it top i m ∈ trl top i m) (nd' : (trl top i r).Nodup) (h' : it top i r ∈ trl top i r) : m = r := by
  have one : ∀ {m r : Nat}, it top i m ∈ trl top i m → (trl top i r).Nodup → ¬ m < r := fun {m r} h nd hl => by
    obtain ⟨a, ha, e⟩ := mem_trl.mp h
    have := trl_inj nd (by omega) hl e
    omega
  have h1 := one h nd'
  have h2 := one h' nd
  omega
theorem it_mod (hm : 1 ≤ m) (e : it top i m = i) : ∀ c, ∃ k, k < m ∧ it top i c = it top i k
  | 0 => ⟨0, hm, rfl⟩
  | c + 1 => by
    obtain ⟨k, hk, h⟩ := it_mod hm e c
    by_cases z : k + 1 = m
    · refine ⟨0, hm, ?_⟩
      show top (it top i c) = i
      rw [h]
      have : it top i (k + 1) = i := by rw [z]; exact e
      exact this
    · refine ⟨k + 1, by omega, ?_⟩
      show top (it top i c) = top (it top i k)
      rw [h]
structure CR (top : Nat → Nat) (l : List Nat) : Prop where
  ex : ∃ i m, 1 ≤ m ∧ l = trl top i m ∧ it top i m = i ∧ ∀ x ∈ l, i ≤ x
  nd : l.Nodup
theorem CR.ne (c : CR top l) : l ≠ [] := by
  obtain ⟨i, m, h1, rfl, h2, h3⟩ := c.ex
  intro z
  have := congrArg List.length z
  rw [trl_len] at this
  rw [List.length_nil] at this
  omega
theorem CR.cyc (c : CR top l) (hx : x ∈ l) : Cyc top x := by
  obtain ⟨i, m, h1, rfl, h2, h3⟩ := c.ex
  obtain ⟨k, hk, rfl⟩ := mem_trl.mp hx
  refine ⟨m, h1, ?_⟩
  rw [← it_add, Nat.add_comm, it_add, h2]
theorem CR.orbit (c : CR top l) (hx : x ∈ l) (q : Nat) : it top x q ∈ l := by
  obtain ⟨i, m, h1, rfl, h2, h3⟩ := c.ex
  obtain ⟨k, hk, rfl⟩ := mem_trl.mp hx
  rw [← it_add]
  obtain ⟨k', h4, h5⟩ := it_mod h1 h2 (k + q)
  exact mem_trl.mpr ⟨k', h4, h5.symm⟩
theorem CR.uniq (c : CR top l) (c' : CR top l') (hx : x ∈ l) (hx' : x ∈ l') : l = l' := by
  have key : ∀ {l l' : List Nat}, CR top l → CR top l' → x ∈ l → x ∈ l' → ∀ i m, 1 ≤ m → l = trl top i m → it top i m = i → i ∈ l' := fun {l l'} c c' hx hx' i m h1 h2 h3 => by
    subst h2
    obtain ⟨k, hk, e⟩ := mem_trl.mp hx
    have : it top x (m - k) = i := by
      rw [← e, ← it_add, show k + (m - k) = m by omega, h3]
    rw [← this]
    exact c'.orbit hx' _
  obtain ⟨i, m, h1, h2, h3, h4⟩ := c.ex
  obtain ⟨j, r, g1, g2, g3, g4⟩ := c'.ex
  have e1 := key c c' hx hx' i m h1 h2 h3
  have e2 := key c' c hx' hx j r g1 g2 g3
  have e : i = j := Nat.le_antisymm (h4 j e2) (g4 i e1)
  subst e
  have hm : m = r := rep_uniq (top := top) (i := i) (h2 ▸ c.nd) (by rw [h3]; exact mem_trl.mpr ⟨0, h1, rfl⟩) (g2 ▸ c'.nd) (by rw [g3]; exact mem_trl.mpr ⟨0, g1, rfl⟩)
  rw [h2, g2, hm]
theorem trl_ring (nd : (trl top i m).Nodup) (h : it top i m ∈ trl top i m) : ∃ a, a < m ∧ it top i a = it top i m ∧ (trl top i m).idxOf (it top i m) = a ∧ (trl top i m).drop a = trl top (it top i a) (m - a) ∧ it top (it top i a) (m - a) = it top i a ∧ (trl top (it top i a) (m - a)).Nodup := by
  obtain ⟨a, ha, e⟩ := mem_trl.mp h
  refine ⟨a, ha, e, ?_, trl_drop (Nat.le_of_lt ha), ?_, ?_⟩
  · have h1 : (trl top i m).idxOf (it top i m) < (trl top i m).length := List.idxOf_lt_length_of_mem h
    have h2 := List.getElem_idxOf h1
    rw [trl_len] at h1
    have g := trl_get (top := top) (i := i) h1
    rw [List.getElem?_eq_getElem (by rw [trl_len]; exact h1), h2] at g
    exact trl_inj nd h1 ha ((Option.some.inj g).symm.trans e.symm)
  · rw [← it_add, show a + (m - a) = m by omega, e]
  · rw [← trl_drop (Nat.le_of_lt ha)]
    exact nd.sublist (List.drop_sublist _ _)
theorem trl_rot (e : it top i m = i) (hk : k ≤ m) : (trl top i m).drop k ++ (trl top i m).take k = trl top (it top i k) m := by
  rw [trl_drop hk, trl_take hk]
  have h := trl_add (top := top) (i := it top i k) (m - k) k
  rw [show m - k + k = m by omega, ← it_add, show k + (m - k) = m by omega, e] at h
  exact h.symm
theorem rot_CR (h1 : 1 ≤ m) (e : it top i m = i) (nd : (trl top i m).Nodup) (hk : k < m) (hmin : ∀ x ∈ trl top i m, it top i k ≤ x) : CR top ((trl top i m).drop k ++ (trl top i m).take k) := by
  have nd' : ((trl top i m).drop k ++ (trl top i m).take k).Nodup := (List.perm_append_comm.trans (by rw [List.take_append_drop])).nodup_iff.mpr nd
  refine ⟨⟨it top i k, m, h1, trl_rot e (Nat.le_of_lt hk), ?_, fun x hx => hmin x ?_⟩, nd'⟩
  · rw [← it_add, Nat.add_comm, it_add, e]
  · rcases List.mem_append.mp hx with z | z
    · exact List.mem_of_mem_drop z
    · exact List.mem_of_mem_take z
theorem least_mem : ∀ {l : List Nat}, l ≠ [] → ∃ x ∈ l, ∀ y ∈ l, x ≤ y
  | [x], _ => ⟨x, .head _, fun y hy => by rw [List.mem_singleton.mp hy]; exact Nat.le_refl _⟩
  | x :: y :: r, _ => by
    obtain ⟨z, h1, h2⟩ := least_mem (l := y :: r) (fun q => nomatch q)
    by_cases h : x ≤ z
    · exact ⟨x, .head _, fun w hw => by
        rcases List.mem_cons.mp hw with rfl | hw
        · exact Nat.le_refl _
        · exact Nat.le_trans h (h2 w hw)⟩
    · exact ⟨z, .tail _ h1, fun w hw => by
        rcases List.mem_cons.mp hw with rfl | hw
        · omega
        · exact h2 w hw⟩
theorem min_period (c : Cyc top i) : ∃ r, 1 ≤ r ∧ it top i r = i ∧ ∀ q, 1 ≤ q → q < r → it top i q ≠ i := by
  obtain ⟨r, h1, h2⟩ := c
  induction r using Nat.strongRecOn with
  | ind r ih =>
    by_cases z : ∃ q, 1 ≤ q ∧ q < r ∧ it top i q = i
    · obtain ⟨q, g1, g2, g3⟩ := z
      exact ih q g2 g1 g3
    · exact ⟨r, h1, h2, fun q g1 g2 g3 => z ⟨q, g1, g2, g3⟩⟩
theorem cyc_CR (c : Cyc top i) : ∃ l, CR top l ∧ i ∈ l ∧ ∀ x ∈ l, ∃ q, it top i q = x := by
  obtain ⟨r, h1, h2, h3⟩ := min_period c
  have hne : ∀ a b, a < b → b < r → it top i a ≠ it top i b := fun a b h4 h5 e => by
    refine h3 (a + (r - b)) (by omega) (by omega) ?_
    rw [it_add, e, ← it_add, show b + (r - b) = r by omega, h2]
  have nd : (trl top i r).Nodup := by
    unfold trl
    exact List.pairwise_map.mpr (List.pairwise_lt_range.imp_of_mem fun {a b} ha hb hab => hne a b hab (List.mem_range.mp hb))
  have ne : trl top i r ≠ [] := fun z => by
    have := congrArg List.length z
    rw [trl_len, List.length_nil] at this
    omega
  obtain ⟨y, hy, hmin⟩ := least_mem ne
  obtain ⟨k, hk, rfl⟩ := mem_trl.mp hy
  refine ⟨_, rot_CR h1 h2 nd hk hmin, ?_, fun x hx => ?_⟩
  · have : i ∈ trl top i r := mem_trl.mpr ⟨0, h1, rfl⟩
    rw [← List.take_append_drop k (trl top i r)] at this
    exact (List.mem_append.mp this).elim (List.mem_append_right _) (List.mem_append_left _)
  · have : x ∈ trl top i r := (List.mem_append.mp hx).elim List.mem_of_mem_drop List.mem_of_mem_take
    obtain ⟨k, _, e⟩ := mem_trl.mp this
    exact ⟨k, e⟩
structure Rs (top : Nat → Nat) (L : List Nat) (rs : List (List Nat)) : Prop where
  nd : rs.Nodup
  mem : ∀ l, l ∈ rs ↔ CR top l ∧ ∀ x ∈ l, x ∈ L
theorem Rs.perm (a : Rs top L rs) (b : Rs top L rs') : rs.Perm rs' := (List.perm_ext_iff_of_nodup a.nd b.nd).mpr fun l => (a.mem l).trans (b.mem l).symm
def srt (rs : List (List Nat)) : List PyData := (rs.map tNs).mergeSort (PySem.W.dataLe false id)
theorem toks_nI (p : Nat) : PySem.W.keyToks (nI p) = [.inl (p : Int)] := by simp [nI, PySem.W.keyToks]
theorem nats_toks : ∀ {l l' : List Nat}, PySem.W.keyToksAll (l.map nI) = PySem.W.keyToksAll (l'.map nI) → l = l'
  | [], [], _ => rfl
  | [], p :: r, h => by
    rw [List.map_cons, PySem.W.toks_all_cons] at h
    cases h
  | p :: r, [], h => by
    rw [List.map_cons, PySem.W.toks_all_cons] at h
    cases h
  | p :: r, q :: t, h => by
    rw [List.map_cons, List.map_cons, PySem.W.toks_all_cons, PySem.W.toks_all_cons, toks_nI, toks_nI] at h
    simp only [List.cons_append, List.nil_append, List.cons.injEq, Sum.inl.injEq, true_and] at h
    obtain ⟨h1, h2⟩ := h
    rw [nats_toks h2, Int.ofNat_inj.mp h1]
theorem tNs_toks (h : PySem.W.keyToks (tNs l) = PySem.W.keyToks (tNs l')) : l = l' := nats_toks h
theorem nats_alike : ∀ G G' : List Nat, PySem.W.alikeAll (G.map nI) (G'.map nI) = true
  | [], _ => by rw [List.map_nil]; cases (List.map nI _) <;> rfl
  | p :: r, [] => rfl
  | p :: r, q :: t => by
    rw [List.map_cons, List.map_cons]
    show (PySem.W.alike (nI p) (nI q) && PySem.W.alikeAll (r.map nI) (t.map nI)) = true
    rw [nats_alike r t]
    rfl
theorem tNs_sor (L : List (List Nat)) : sorB (L.map tNs) = true := by
  have h1 : alikeB (L.map tNs) = true := by
    unfold alikeB
    rw [List.all_eq_true]
    intro x hx
    rw [List.all_eq_true]
    intro y hy
    obtain ⟨G, _, rfl⟩ := List.mem_map.mp hx
    obtain ⟨G', _, rfl⟩ := List.mem_map.mp hy
    exact nats_alike G G'
  have h2 : sortB (L.map tNs) = true := by
    unfold sortB
    rw [Bool.or_eq_true]
    refine .inl (List.all_eq_true.mpr fun x hx => ?_)
    obtain ⟨G, _, rfl⟩ := List.mem_map.mp hx
    rfl
  have h3 : ((L.map tNs).all fun d => decide (d.depth ≤ 50)) = true := by
    refine List.all_eq_true.mpr fun x hx => ?_
    obtain ⟨G, _, rfl⟩ := List.mem_map.mp hx
    have key : ∀ G : List Nat, PyData.depthAll (G.map nI) ≤ 1 := fun G => by
      induction G with
      | nil => simp [PyData.depthAll]
      | cons p r ih =>
        rw [List.map_cons, PyData.depthAll]
        have : (nI p).depth ≤ 1 := by simp [nI, PyData.depth]
        omega
    have := key G
    refine decide_eq_true ?_
    show (PyData.tuple (G.map nI)).depth ≤ 50
    rw [PyData.depth]
    omega
  have h4 : PyData.hasDictAll (L.map tNs) = false := by
    have key : ∀ G : List Nat, PyData.hasDictAll (G.map nI) = false := fun G => by
      induction G with
      | nil => simp [PyData.hasDictAll]
      | cons p r ih =>
        rw [List.map_cons, PyData.hasDictAll, ih]
        simp [nI, PyData.hasDict]
    have key2 : ∀ L : List (List Nat), PyData.hasDictAll (L.map tNs) = false := fun L => by
      induction L with
      | nil => simp [PyData.hasDictAll]
      | cons p r ih =>
        rw [List.map_cons, PyData.hasDictAll, ih]
        have : (tNs p).hasDict = false := by
          show (PyData.tuple (p.map nI)).hasDict = false
          rw [PyData.hasDict, key]
        rw [this]; rfl
    exact key2 L
  unfold sorB
  rw [h1, h2, h3, h4]
  rfl
theorem srt_perm (h : rs.Perm rs') : srt rs = srt rs' := Sg.sort_same (h.map _) fun d hd e he ht => by
  obtain ⟨l, _, rfl⟩ := List.mem_map.mp hd
  obtain ⟨l', _, rfl⟩ := List.mem_map.mp he
  rw [tNs_toks ht]
theorem srt_map (rs : List (List Nat)) : ∃ qs : List (List Nat), qs.Perm rs ∧ srt rs = qs.map tNs := by
  have hp : (srt rs).Perm (rs.map tNs) := List.mergeSort_perm _ _
  have key : ∀ (zs : List PyData) (rs : List (List Nat)), zs.Perm (rs.map tNs) → ∃ qs : List (List Nat), qs.Perm rs ∧ zs = qs.map tNs := by
    intro zs
    induction zs with
    | nil =>
      intro rs h
      have := h.length_eq
      rw [List.length_map, List.length_nil] at this
      rw [List.length_eq_zero_iff.mp this.symm]
      exact ⟨[], .refl _, rfl⟩
    | cons z zs ih =>
      intro rs h
      obtain ⟨l, hl, rfl⟩ := List.mem_map.mp (h.mem_iff.mp (.head _))
      have h2 := (List.perm_cons_erase hl)
      have h3 : zs.Perm ((rs.erase l).map tNs) := by
        have := h.trans (h2.map tNs)
        rw [List.map_cons] at this
        exact this.cons_inv
      obtain ⟨qs, q1, q2⟩ := ih _ h3
      exact ⟨l :: qs, (q1.cons l).trans h2.symm, by rw [q2]; rfl⟩
  exact key _ _ hp
def bstL (rows : List (List Nat)) (L : List Nat) (i : Nat) : Nat := ((row rows i).filter fun h => decide (h ∈ L)).headD 0
theorem bstL_get (H : Hou rows) (hi : i < rows.length) (hL : ∃ h ∈ L, h < rows.length) : ((row rows i).filter fun h => decide (h ∈ L))[0]? = some (bstL rows L i) := by
  obtain ⟨h, h1, h2⟩ := hL
  have hm : h ∈ (row rows i).filter fun h => decide (h ∈ L) := List.mem_filter.mpr ⟨(H.mem hi).mpr h2, decide_eq_true h1⟩
  unfold bstL
  cases e : (row rows i).filter fun h => decide (h ∈ L) with
  | nil => rw [e] at hm; cases hm
  | cons x r => rfl
theorem bstL_ok (H : Hou rows) (hi : i < rows.length) (hl : ∀ h ∈ L, h < rows.length) (ne : L ≠ []) : bstL rows L i ∈ L ∧ ∀ h ∈ L, rk rows i (bstL rows L i) ≤ rk rows i h := by
  obtain ⟨h0, hh⟩ := List.exists_mem_of_ne_nil L ne
  have g := bstL_get H hi ⟨h0, hh, hl h0 hh⟩
  have hm := (List.mem_filter.mp (List.mem_of_getElem? g)).2
  refine ⟨of_decide_eq_true hm, fun h hhL => ?_⟩
  cases e : (row rows i).filter fun h => decide (h ∈ L) with
  | nil => rw [e] at g; cases g
  | cons x r =>
    rw [e] at g
    have : x = bstL rows L i := Option.some.inj g
    rw [← this]
    exact idx_filter_le e ((H.mem hi).mpr (hl h hhL)) (decide_eq_true hhL)
def gone (rs : List (List Nat)) (L : List Nat) : List Nat := L.filter fun i => rs.all fun l => !decide (i ∈ l)
theorem mem_gone : i ∈ gone rs L ↔ i ∈ L ∧ ∀ l ∈ rs, ¬ i ∈ l := by
  unfold gone
  rw [List.mem_filter, List.all_eq_true]
  simp
theorem gone_perm (h : rs.Perm rs') : gone rs L = gone rs' L := by
  unfold gone
  refine List.filter_congr fun i _ => ?_
  rw [Bool.eq_iff_iff, List.all_eq_true, List.all_eq_true]
  exact ⟨fun q l hl => q l (h.mem_iff.mpr hl), fun q l hl => q l (h.mem_iff.mp hl)⟩
theorem gone_cyc (hc : ∀ i ∈ L, top i ∈ L) (R : Rs top L rs) : i ∈ gone rs L ↔ i ∈ L ∧ ¬ Cyc top i := by
  rw [mem_gone]
  refine and_congr_right fun hi => ⟨fun h c => ?_, fun h l hl hil => h (((R.mem l).mp hl).1.cyc hil)⟩
  obtain ⟨l, h1, h2, h3⟩ := cyc_CR c
  refine h l ((R.mem l).mpr ⟨h1, fun x hx => ?_⟩) h2
  obtain ⟨q, rfl⟩ := h3 x hx
  exact it_in hc hi q
theorem gone_lt (hl : ∀ i ∈ L, i < n) (hc : ∀ i ∈ L, top i ∈ L) (ne : L ≠ []) (R : Rs top L rs) : (gone rs L).length < L.length := by
  obtain ⟨j, hj⟩ := List.exists_mem_of_ne_nil L ne
  obtain ⟨a, _, c⟩ := cyc_ex hl hc hj
  refine Nat.lt_of_le_of_ne (List.length_filter_le _ _) fun e => ?_
  have := List.length_filter_eq_length_iff.mp e
  have hin := it_in hc hj a
  have h2 : it top j a ∈ gone rs L := List.mem_filter.mpr ⟨hin, this _ hin⟩
  exact ((gone_cyc hc R).mp h2).2 c
inductive Rds (rows : List (List Nat)) : List Nat → List (List (List Nat)) → Prop
  | nil : Rds rows [] []
  | cons {L rs out} : L ≠ [] → Rs (bstL rows L) L rs → srt rs = rs.map tNs → Rds rows (gone rs L) out → Rds rows L (rs :: out)
theorem map_tNs_inj : ∀ {rs rs' : List (List Nat)}, rs.map tNs = rs'.map tNs → rs = rs'
  | [], [], _ => rfl
  | [], _ :: _, h => nomatch h
  | _ :: _, [], h => nomatch h
  | l :: r, l' :: r', h => by
    rw [List.map_cons, List.map_cons] at h
    injection h with h1 h2
    rw [map_tNs_inj h2, tNs_toks (congrArg PySem.W.keyToks h1)]
theorem Rds.uniq {out out' : List (List (List Nat))} (A : Rds rows L out) : Rds rows L out' → out = out' := by
  induction A generalizing out' with
  | nil =>
    intro B
    cases B with
    | nil => rfl
    | cons h => exact absurd rfl h
  | cons ne R s A ih =>
    intro B
    cases B with
    | nil => exact absurd rfl ne
    | cons ne' R' s' B =>
      have e := srt_perm (R.perm R')
      rw [s, s'] at e
      have e := map_tNs_inj e
      subst e
      rw [ih B]
def Nx (out : List (List (List Nat))) (d : Nat → Nat) : Prop := ∀ rs ∈ out, ∀ l ∈ rs, ∀ k, k < l.length → ∃ x y, l[k]? = some x ∧ l[(k + 1) % l.length]? = some y ∧ d x = y
theorem CR.next (c : CR top l) (hk : k < l.length) : ∃ x, l[k]? = some x ∧ l[(k + 1) % l.length]? = some (top x) := by
  obtain ⟨i, m, h1, rfl, h2, h3⟩ := c.ex
  rw [trl_len] at hk ⊢
  refine ⟨_, trl_get hk, ?_⟩
  by_cases z : k + 1 = m
  · rw [z, Nat.mod_self, trl_get (by omega)]
    have : it top i (k + 1) = i := by rw [z]; exact h2
    have h4 : top (it top i k) = i := this
    rw [h4]
    rfl
  · rw [Nat.mod_eq_of_lt (by omega), trl_get (by omega)]
    rfl
open Classical in
theorem Rds.lv {out : List (List (List Nat))} {d t : Nat → Nat} {r : Nat} (H : Hou rows) (A : Rds rows L out) (hl : ∀ i ∈ L, i < rows.length) (N : Nx out d) (P : Part rows.length (rk rows) L r d t) : ∃ t', Lv rows.length (rk rows) d t' := by
  induction A generalizing t r with
  | nil => exact ⟨t, part_end P⟩
  | @cons L rs out ne R s A ih =>
    have hc : ∀ i ∈ L, bstL rows L i ∈ L := fun i hi => (bstL_ok H (hl i hi) hl ne).1
    have q := part_rings (left' := gone rs L) P hl hc (fun i hi => (bstL_ok H (hl i hi) hl ne).2) fun i => gone_cyc hc R
    have e : (fun i => if i ∈ L ∧ Cyc (bstL rows L) i then bstL rows L i else d i) = d := funext fun i => by
      split
      · rename_i h
        obtain ⟨l, h1, h2, h3⟩ := cyc_CR h.2
        have hlr : l ∈ rs := (R.mem l).mpr ⟨h1, fun x hx => by obtain ⟨q, rfl⟩ := h3 x hx; exact it_in hc h.1 q⟩
        obtain ⟨k, hk, e⟩ := List.mem_iff_getElem.mp h2
        obtain ⟨x, y, g1, g2, g3⟩ := N rs (.head _) l hlr k hk
        obtain ⟨x', f1, f2⟩ := h1.next hk
        rw [f1] at g1
        rw [f2] at g2
        have ex : x' = x := Option.some.inj g1
        have ey : bstL rows L x' = y := Option.some.inj g2
        rw [List.getElem?_eq_getElem hk] at f1
        have hi : x' = i := (Option.some.inj f1).symm.trans e
        rw [← hi, ey, ← g3, ex]
      · rfl
    rw [e] at q
    exact ih (fun i hi => hl i (mem_gone.mp hi).1) (fun rs h => N rs (.tail _ h)) q
theorem Rds.all {out : List (List (List Nat))} (H : Hou rows) (A : Rds rows L out) (hl : ∀ i ∈ L, i < rows.length) : ∀ i ∈ L, ∃ rs ∈ out, ∃ l ∈ rs, i ∈ l := by
  induction A with
  | nil => exact fun i h => nomatch h
  | @cons L rs out ne R s A ih =>
    intro i hi
    by_cases z : i ∈ gone rs L
    · obtain ⟨qs, h1, h2⟩ := ih (fun i hi => hl i (mem_gone.mp hi).1) i z
      exact ⟨qs, .tail _ h1, h2⟩
    · refine Classical.byContradiction fun no => z (mem_gone.mpr ⟨hi, fun l hl hil => no ⟨rs, .head _, l, hl, hil⟩⟩)
theorem Rds.mem {out : List (List (List Nat))} (A : Rds rows L out) : ∀ rs ∈ out, ∀ l ∈ rs, l ≠ [] ∧ l.Nodup ∧ ∀ x ∈ l, x ∈ L := by
  induction A with
  | nil => exact fun i h => nomatch h
  | @cons L rs out ne R s A ih =>
    intro qs hqs l hl
    rcases List.mem_cons.mp hqs with rfl | hqs
    · obtain ⟨c, h⟩ := (R.mem l).mp hl
      exact ⟨c.ne, c.nd, h⟩
    · obtain ⟨h1, h2, h3⟩ := ih qs hqs l hl
      exact ⟨h1, h2, fun x hx => (mem_gone.mp (h3 x hx)).1⟩
theorem Rds.one {out : List (List (List Nat))} (A : Rds rows L out) : ∀ rs ∈ out, ∀ l ∈ rs, ∀ qs ∈ out, ∀ m ∈ qs, ∀ x, x ∈ l → x ∈ m → l = m := by
  induction A with
  | nil => exact fun i h => nomatch h
  | @cons L rs out ne R s A ih =>
    intro ps hps l hl qs hqs m hm x hx hx'
    rcases List.mem_cons.mp hps with e1 | hp <;> rcases List.mem_cons.mp hqs with e2 | hq
    · subst e1; subst e2
      exact ((R.mem l).mp hl).1.uniq ((R.mem m).mp hm).1 hx hx'
    · subst e1
      exact absurd hx ((mem_gone.mp ((A.mem _ hq m hm).2.2 x hx')).2 l hl)
    · subst e2
      exact absurd hx' ((mem_gone.mp ((A.mem _ hp l hl).2.2 x hx)).2 m hm)
    · exact ih ps hp l hl qs hq m hm x hx hx'
end
end Fw.Rg
namespace Wk36
open PySem PySem.Spec PyProof.Rows L2 Fw Fw.Hl Fw.Ho
section
variable {rows : List (List Nat)} {n i j h g : Nat} {d e w S row first : List Nat} {F : List (Nat × Nat)} {st : Sto}
theorem rg_nats {n : Nat} : rgD 0 (n : Int) = (List.range n).map nI := by
  unfold rgD
  rw [show ((n : Int) - 0).toNat = n by omega]
  refine List.map_congr_left fun i _ => ?_
  show PyData.int (0 + (i : Int)) = nI i
  rw [Int.zero_add]
theorem unmap_nats {ys : List PyData} {l : List Nat} (h : ys.Perm (l.map nI)) : ∃ zs : List Nat, ys = zs.map nI ∧ zs.Perm l := perm_unmap h rfl
theorem sto_last {s : Src} {rest : Sto} {o : O} : s.sto rest ++ [o] = s.sto (rest ++ [o]) := rfl
theorem sto_at' {s : Src} {rest : Sto} {o : O} : (s.sto (rest ++ [o]))[rest.length + 2]? = some o := by
  show (O.lst _ :: s.o :: (rest ++ [o]))[rest.length + 2]? = _
  rw [List.getElem?_cons_succ, List.getElem?_cons_succ, List.getElem?_append_right (Nat.le_refl _), Nat.sub_self]
  rfl
theorem sto_set' {s : Src} {rest : Sto} {o u : O} : (s.sto (rest ++ [o])).set (rest.length + 2) u = s.sto (rest ++ [u]) := by
  show (O.lst _ :: s.o :: (rest ++ [o])).set (rest.length + 2) u = _
  rw [List.set_cons_succ, List.set_cons_succ, List.set_append_right _ _ (Nat.le_refl _), Nat.sub_self]
  rfl
theorem sto_take' {s s0 : Src} {rest more : Sto} : (s.sto (rest ++ more)).take (s0.sto rest).length = s.sto rest := by
  show (O.lst _ :: s.o :: (rest ++ more)).take (rest.length + 1 + 1) = _
  rw [List.take_succ_cons, List.take_succ_cons, List.take_left]
  rfl
theorem rot_perm' (l : List Nat) (k : Nat) : (l.drop k ++ l.take k).Perm l := List.perm_append_comm.trans (by rw [List.take_append_drop])
theorem draw_ok {s : Src} {rest : Sto} {most : Nat} (h1 : 1 ≤ most) (h2 : most ≤ 50) (ok : s.ok) :
    (f_law_draw_houses [.ref 1, .v (nI most)] (s.sto rest)).Ok fun d st => ∃ (rows : List (List Nat)) (s' : Src), d = .v (hallD rows) ∧ st = s'.sto rest ∧ s'.ok ∧ Hou rows ∧ rows.length ≤ most := by
  refine fnT_ok ?_
  unfold S_law_draw_houses
  simp only [envE, so_seq, so_if, so_ret, so_retN, so_exp, so_nil, so_nx, so_rt, so_asg, so_asgG, so_par2, so_par3, ok_gNm, ok_gMore, ok_gNone, so_asgT, so_sub, so_for, ok_TB, ok_Tru, ok_notT, ok_andT, ok_orT, ok_andV, ok_orV, ok_notV, ok_iteE, ok_frz, ok_new, ok_mfArg, ok_mfBin, ok_lc, ok_M, ok_M0, ok_moNone, ok_moSome, ok_Sl,
  ok_bin, ok_un, ok_arg, ok_cons, ok_nil, ok_call, ok_var, ok_C, ok_ok, ok_stuck, ok_noX, bOf_bool, low_v, iOf_int, addD_int, subD_int, negD_int, ltD_int, leD_int, gtD_int, geD_int, fInt_int, isD_bool, isNotD_bool, tru_bool, List.map_cons, List.map_nil, List.length_cons, List.length_nil, List.replicate_succ, List.replicate_zero, List.cons_append, List.nil_append,
  List.append_nil, List.getElem?_cons_zero, List.getElem?_cons_succ, List.set_cons_zero, List.set_cons_succ, Option.some.injEq, exists_eq_left', exists_eq_left, true_and, and_true, true_implies, false_implies, implies_true, Bool.false_eq_true, reduceCtorEq, false_and, and_false, D.v.injEq, PyData.int.injEq, D.ref.injEq, p1i_int, p2_two, p3_three, decide_true, Bool.not_true, Bool.not_false, decide_eq_true_eq, decide_eq_false_iff_not]
  refine (pickA_ok s rest (most : Int) (by omega) ok).mono ?_
  rintro _ _ ⟨r, s1, rfl, rfl, ok1, q0, q1, _⟩
  have q1 := q1 (by omega)
  obtain ⟨r, rfl⟩ : ∃ m : Nat, r = (m : Int) := ⟨r.toNat, by omega⟩
  generalize hn : 1 + r = n
  have hadd : ∀ s, addD (.v (.int 1)) (.v (.int (r : Int))) s = .ok (.v (nI n)) s := fun s => by
    rw [addD_int, ← hn]
    congr 3
  rw [hadd, ok_ok]
  have hn1 : 1 ≤ n := by omega
  have hn50 : n ≤ most := by omega
  unfold S_law_draw_houses_2
  simp only [envE, so_seq, so_if, so_ret, so_retN, so_exp, so_nil, so_nx, so_rt, so_asg, so_asgG, so_par2, so_par3, ok_gNm, ok_gMore, ok_gNone, so_asgT, so_sub, so_for, ok_TB, ok_Tru, ok_notT, ok_andT, ok_orT, ok_andV, ok_orV, ok_notV, ok_iteE, ok_frz, ok_new, ok_mfArg, ok_mfBin, ok_lc, ok_M, ok_M0, ok_moNone, ok_moSome, ok_Sl,
  ok_bin, ok_un, ok_arg, ok_cons, ok_nil, ok_call, ok_var, ok_C, ok_ok, ok_stuck, ok_noX, bOf_bool, low_v, iOf_int, addD_int, subD_int, negD_int, ltD_int, leD_int, gtD_int, geD_int, fInt_int, isD_bool, isNotD_bool, tru_bool, List.map_cons, List.map_nil, List.length_cons, List.length_nil, List.replicate_succ, List.replicate_zero, List.cons_append, List.nil_append,
  List.append_nil, List.getElem?_cons_zero, List.getElem?_cons_succ, List.set_cons_zero, List.set_cons_succ, Option.some.injEq, exists_eq_left', exists_eq_left, true_and, and_true, true_implies, false_implies, implies_true, Bool.false_eq_true, reduceCtorEq, false_and, and_false, D.v.injEq, PyData.int.injEq, D.ref.injEq, p1i_int, p2_two, p3_three, decide_true, Bool.not_true, Bool.not_false, decide_eq_true_eq, decide_eq_false_iff_not]
  refine (pickA_ok s1 rest 4 (by omega) ok1).mono ?_
  rintro _ _ ⟨road, s2, rfl, rfl, ok2, _, _, _⟩
  have hrg : rgOk 0 (n : Int) = true := by
    unfold rgOk
    simp
    omega
  simp only [ok_Rg1, envE, so_seq, so_if, so_ret, so_retN, so_exp, so_nil, so_nx, so_rt, so_asg, so_asgG, so_par2, so_par3, ok_gNm, ok_gMore, ok_gNone, so_asgT, so_sub, so_for, ok_TB, ok_Tru, ok_notT, ok_andT, ok_orT, ok_andV, ok_orV, ok_notV, ok_iteE, ok_frz, ok_new, ok_mfArg, ok_mfBin, ok_lc, ok_M, ok_M0, ok_moNone, ok_moSome, ok_Sl,
  ok_bin, ok_un, ok_arg, ok_cons, ok_nil, ok_call, ok_var, ok_C, ok_ok, ok_stuck, ok_noX, bOf_bool, low_v, iOf_int, addD_int, subD_int, negD_int, ltD_int, leD_int, gtD_int, geD_int, fInt_int, isD_bool, isNotD_bool, tru_bool, List.map_cons, List.map_nil, List.length_cons, List.length_nil, List.replicate_succ, List.replicate_zero, List.cons_append, List.nil_append,
  List.append_nil, List.getElem?_cons_zero, List.getElem?_cons_succ, List.set_cons_zero, List.set_cons_succ, Option.some.injEq, exists_eq_left', exists_eq_left, true_and, and_true, true_implies, false_implies, implies_true, Bool.false_eq_true, reduceCtorEq, false_and, and_false, D.v.injEq, PyData.int.injEq, D.ref.injEq, p1i_int, p2_two, p3_three, decide_true, Bool.not_true, Bool.not_false, decide_eq_true_eq, decide_eq_false_iff_not]
  refine ⟨hrg, ?_⟩
  rw [rg_nats]
  have shuf : ∀ (s : Src) (rest : Sto), s.ok → (f_law_any_order [.ref 1, .v (.list ((List.range n).map nI))] (s.sto rest)).Ok fun d st => ∃ (l : List Nat) (s' : Src), d = .v (lNs l) ∧ st = s'.sto rest ∧ s'.ok ∧ l.Perm (List.range n) := fun s rest ok => by
    have hsh := shufA s rest (.v (.list ((List.range n).map nI))) ((List.range n).map nI) ok viewS_list (by rw [List.length_map, List.length_range]; omega)
    refine hsh.mono ?_
    rintro _ _ ⟨ys, s', rfl, rfl, ok', hp⟩
    obtain ⟨zs, rfl, hp2⟩ := unmap_nats hp
    exact ⟨zs, s', rfl, rfl, ok', hp2⟩
  refine (shuf s2 rest ok2).mono ?_
  rintro _ _ ⟨first, s3, rfl, rfl, ok3, hf⟩
  have hlen : ∀ s : Src, (s.sto rest).length = rest.length + 2 := fun _ => rfl
  simp only [envE, so_seq, so_if, so_ret, so_retN, so_exp, so_nil, so_nx, so_rt, so_asg, so_asgG, so_par2, so_par3, ok_gNm, ok_gMore, ok_gNone, so_asgT, so_sub, so_for, ok_TB, ok_Tru, ok_notT, ok_andT, ok_orT, ok_andV, ok_orV, ok_notV, ok_iteE, ok_frz, ok_new, ok_mfArg, ok_mfBin, ok_lc, ok_M, ok_M0, ok_moNone, ok_moSome, ok_Sl,
  ok_bin, ok_un, ok_arg, ok_cons, ok_nil, ok_call, ok_var, ok_C, ok_ok, ok_stuck, ok_noX, bOf_bool, low_v, iOf_int, addD_int, subD_int, negD_int, ltD_int, leD_int, gtD_int, geD_int, fInt_int, isD_bool, isNotD_bool, tru_bool, List.map_cons, List.map_nil, List.length_cons, List.length_nil, List.replicate_succ, List.replicate_zero, List.cons_append, List.nil_append,
  List.append_nil, List.getElem?_cons_zero, List.getElem?_cons_succ, List.set_cons_zero, List.set_cons_succ, Option.some.injEq, exists_eq_left', exists_eq_left, true_and, and_true, true_implies, false_implies, implies_true, Bool.false_eq_true, reduceCtorEq, false_and, and_false, D.v.injEq, PyData.int.injEq, D.ref.injEq, p1i_int, p2_two, p3_three, decide_true, Bool.not_true, Bool.not_false, decide_eq_true_eq, decide_eq_false_iff_not, disp0, sto_last, hlen]
  unfold S_law_draw_houses_3 law_draw_houses_E2
  simp only [envE, so_seq, so_if, so_ret, so_retN, so_exp, so_nil, so_nx, so_rt, so_asg, so_asgG, so_par2, so_par3, ok_gNm, ok_gMore, ok_gNone, so_asgT, so_sub, so_for, ok_TB, ok_Tru, ok_notT, ok_andT, ok_orT, ok_andV, ok_orV, ok_notV, ok_iteE, ok_frz, ok_new, ok_mfArg, ok_mfBin, ok_lc, ok_M, ok_M0, ok_moNone, ok_moSome, ok_Sl,
  ok_bin, ok_un, ok_arg, ok_cons, ok_nil, ok_call, ok_var, ok_C, ok_ok, ok_stuck, ok_noX, bOf_bool, low_v, iOf_int, addD_int, subD_int, negD_int, ltD_int, leD_int, gtD_int, geD_int, fInt_int, isD_bool, isNotD_bool, tru_bool, List.map_cons, List.map_nil, List.length_cons, List.length_nil, List.replicate_succ, List.replicate_zero, List.cons_append, List.nil_append,
  List.append_nil, List.getElem?_cons_zero, List.getElem?_cons_succ, List.set_cons_zero, List.set_cons_succ, Option.some.injEq, exists_eq_left', exists_eq_left, true_and, and_true, true_implies, false_implies, implies_true, Bool.false_eq_true, reduceCtorEq, false_and, and_false, D.v.injEq, PyData.int.injEq, D.ref.injEq, p1i_int, p2_two, p3_three, decide_true, Bool.not_true, Bool.not_false, decide_eq_true_eq, decide_eq_false_iff_not, ok_R1]
  refine ⟨⟨by omega, by omega⟩, ?_⟩
  rw [Int.toNat_natCast]
  refine forL_inv (fun i e st => ∃ (s : Src) (rows : List (List Nat)), st = s.sto (rest ++ [.lst (rows.map tNs)]) ∧ s.ok ∧ rows.length = i ∧ (∀ l ∈ rows, l.Perm (List.range n)) ∧ ∃ x6 x7 x8 x9, e = [some (.ref 1), some (.v (nI most)), some (.v (nI n)), some (.v (.int road)), some (.v (lNs first)), some (.ref (rest.length + 2)), x6, x7, x8, x9]) _ _ _ 0 ?_ ?_ ⟨s3, [], rfl, ok3, rfl, (fun l z => nomatch z), _, _, _, _, rfl⟩
  · rintro i d e st hd ⟨s4, rows, rfl, ok4, hl, hr, x6, x7, x8, x9, rfl⟩
    obtain ⟨hi, rfl⟩ := rngI_get hd
    rw [Int.zero_add, Nat.zero_add] at *
    refine ⟨trivial, ?_⟩
    unfold law_draw_houses_G2 law_draw_houses_B1
    simp only [envE, so_seq, so_if, so_ret, so_retN, so_exp, so_nil, so_nx, so_rt, so_asg, so_asgG, so_par2, so_par3, ok_gNm, ok_gMore, ok_gNone, so_asgT, so_sub, so_for, ok_TB, ok_Tru, ok_notT, ok_andT, ok_orT, ok_andV, ok_orV, ok_notV, ok_iteE, ok_frz, ok_new, ok_mfArg, ok_mfBin, ok_lc, ok_M, ok_M0, ok_moNone, ok_moSome, ok_Sl,
  ok_bin, ok_un, ok_arg, ok_cons, ok_nil, ok_call, ok_var, ok_C, ok_ok, ok_stuck, ok_noX, bOf_bool, low_v, iOf_int, addD_int, subD_int, negD_int, ltD_int, leD_int, gtD_int, geD_int, fInt_int, isD_bool, isNotD_bool, tru_bool, List.map_cons, List.map_nil, List.length_cons, List.length_nil, List.replicate_succ, List.replicate_zero, List.cons_append, List.nil_append,
  List.append_nil, List.getElem?_cons_zero, List.getElem?_cons_succ, List.set_cons_zero, List.set_cons_succ, Option.some.injEq, exists_eq_left', exists_eq_left, true_and, and_true, true_implies, false_implies, implies_true, Bool.false_eq_true, reduceCtorEq, false_and, and_false, D.v.injEq, PyData.int.injEq, D.ref.injEq, p1i_int, p2_two, p3_three, decide_true, Bool.not_true, Bool.not_false, decide_eq_true_eq, decide_eq_false_iff_not, ok_Rg1]
    refine ⟨hrg, ?_⟩
    rw [rg_nats]
    refine (shuf s4 _ ok4).mono ?_
    rintro _ _ ⟨row, s5, rfl, rfl, ok5, hrow⟩
    have fin : ∀ (s9 : Src) (row : List Nat) (x8 x9 : Option D), s9.ok → row.Perm (List.range n) → (law_draw_houses_B1_5 [some (.ref 1), some (.v (nI most)), some (.v (nI n)), some (.v (.int road)), some (.v (lNs first)), some (.ref (rest.length + 2)), some (.v (.int (i : Int))), some (.v (lNs row)), x8, x9] (s9.sto (rest ++ [.lst (rows.map tNs)]))).Ok
        (fun e2 s2 => ∃ (s : Src) (rows : List (List Nat)), s2 = s.sto (rest ++ [.lst (rows.map tNs)]) ∧ s.ok ∧ rows.length = i + 1 ∧ (∀ l ∈ rows, l.Perm (List.range n)) ∧ ∃ x6 x7 x8 x9, e2 = [some (.ref 1), some (.v (nI most)), some (.v (nI n)), some (.v (.int road)), some (.v (lNs first)), some (.ref (rest.length + 2)), x6, x7, x8, x9])
        (fun d st => D.low (s.sto rest).length d = true ∧ ∃ (rows : List (List Nat)) (s' : Src), d = .v (hallD rows) ∧ st.take (s.sto rest).length = s'.sto rest ∧ s'.ok ∧ Hou rows ∧ rows.length ≤ most) := by
      intro s9 row x8 x9 ok hp
      unfold law_draw_houses_B1_5
      simp only [envE, so_seq, so_if, so_ret, so_retN, so_exp, so_nil, so_nx, so_rt, so_asg, so_asgG, so_par2, so_par3, ok_gNm, ok_gMore, ok_gNone, so_asgT, so_sub, so_for, ok_TB, ok_Tru, ok_notT, ok_andT, ok_orT, ok_andV, ok_orV, ok_notV, ok_iteE, ok_frz, ok_new, ok_mfArg, ok_mfBin, ok_lc, ok_M, ok_M0, ok_moNone, ok_moSome, ok_Sl,
  ok_bin, ok_un, ok_arg, ok_cons, ok_nil, ok_call, ok_var, ok_C, ok_ok, ok_stuck, ok_noX, bOf_bool, low_v, iOf_int, addD_int, subD_int, negD_int, ltD_int, leD_int, gtD_int, geD_int, fInt_int, isD_bool, isNotD_bool, tru_bool, List.map_cons, List.map_nil, List.length_cons, List.length_nil, List.replicate_succ, List.replicate_zero, List.cons_append, List.nil_append,
  List.append_nil, List.getElem?_cons_zero, List.getElem?_cons_succ, List.set_cons_zero, List.set_cons_succ, Option.some.injEq, exists_eq_left', exists_eq_left, true_and, and_true, true_implies, false_implies, implies_true, Bool.false_eq_true, reduceCtorEq, false_and, and_false, D.v.injEq, PyData.int.injEq, D.ref.injEq, p1i_int, p2_two, p3_three, decide_true, Bool.not_true, Bool.not_false, decide_eq_true_eq, decide_eq_false_iff_not, tup_list]
      refine ⟨isL_ref sto_at', ?_⟩
      rw [Fw.append_at sto_at' (by rw [List.length_map]; omega), ok_ok, sto_set']
      refine ⟨s9, rows ++ [row], by rw [List.map_append]; rfl, ok, by rw [List.length_append, hl]; rfl, fun l hl => ?_, _, _, _, _, rfl⟩
      rcases List.mem_append.mp hl with z | z
      · exact hr l z
      · rw [List.mem_singleton.mp z]; exact hp
    have fin4 : ∀ (s9 : Src) (row : List Nat) (x8 x9 : Option D), s9.ok → row.Perm (List.range n) → (law_draw_houses_B1_4 [some (.ref 1), some (.v (nI most)), some (.v (nI n)), some (.v (.int road)), some (.v (lNs first)), some (.ref (rest.length + 2)), some (.v (.int (i : Int))), some (.v (lNs row)), x8, x9] (s9.sto (rest ++ [.lst (rows.map tNs)]))).Ok
        (fun e2 s2 => ∃ (s : Src) (rows : List (List Nat)), s2 = s.sto (rest ++ [.lst (rows.map tNs)]) ∧ s.ok ∧ rows.length = i + 1 ∧ (∀ l ∈ rows, l.Perm (List.range n)) ∧ ∃ x6 x7 x8 x9, e2 = [some (.ref 1), some (.v (nI most)), some (.v (nI n)), some (.v (.int road)), some (.v (lNs first)), some (.ref (rest.length + 2)), x6, x7, x8, x9])
        (fun d st => D.low (s.sto rest).length d = true ∧ ∃ (rows : List (List Nat)) (s' : Src), d = .v (hallD rows) ∧ st.take (s.sto rest).length = s'.sto rest ∧ s'.ok ∧ Hou rows ∧ rows.length ≤ most) := by
      intro s9 row x8 x9 ok hp
      unfold law_draw_houses_B1_4
      simp only [envE, so_seq, so_if, so_ret, so_retN, so_exp, so_nil, so_nx, so_rt, so_asg, so_asgG, so_par2, so_par3, ok_gNm, ok_gMore, ok_gNone, so_asgT, so_sub, so_for, ok_TB, ok_Tru, ok_notT, ok_andT, ok_orT, ok_andV, ok_orV, ok_notV, ok_iteE, ok_frz, ok_new, ok_mfArg, ok_mfBin, ok_lc, ok_M, ok_M0, ok_moNone, ok_moSome, ok_Sl,
  ok_bin, ok_un, ok_arg, ok_cons, ok_nil, ok_call, ok_var, ok_C, ok_ok, ok_stuck, ok_noX, bOf_bool, low_v, iOf_int, addD_int, subD_int, negD_int, ltD_int, leD_int, gtD_int, geD_int, fInt_int, isD_bool, isNotD_bool, tru_bool, List.map_cons, List.map_nil, List.length_cons, List.length_nil, List.replicate_succ, List.replicate_zero, List.cons_append, List.nil_append,
  List.append_nil, List.getElem?_cons_zero, List.getElem?_cons_succ, List.set_cons_zero, List.set_cons_succ, Option.some.injEq, exists_eq_left', exists_eq_left, true_and, and_true, true_implies, false_implies, implies_true, Bool.false_eq_true, reduceCtorEq, false_and, and_false, D.v.injEq, PyData.int.injEq, D.ref.injEq, p1i_int, p2_two, p3_three, decide_true, Bool.not_true, Bool.not_false, decide_eq_true_eq, decide_eq_false_iff_not, eqD_int]
      refine ⟨fun _ => ?_, fun _ => fin s9 row x8 x9 ok hp⟩
      unfold law_draw_houses_E1
      simp only [envE, so_seq, so_if, so_ret, so_retN, so_exp, so_nil, so_nx, so_rt, so_asg, so_asgG, so_par2, so_par3, ok_gNm, ok_gMore, ok_gNone, so_asgT, so_sub, so_for, ok_TB, ok_Tru, ok_notT, ok_andT, ok_orT, ok_andV, ok_orV, ok_notV, ok_iteE, ok_frz, ok_new, ok_mfArg, ok_mfBin, ok_lc, ok_M, ok_M0, ok_moNone, ok_moSome, ok_Sl,
  ok_bin, ok_un, ok_arg, ok_cons, ok_nil, ok_call, ok_var, ok_C, ok_ok, ok_stuck, ok_noX, bOf_bool, low_v, iOf_int, addD_int, subD_int, negD_int, ltD_int, leD_int, gtD_int, geD_int, fInt_int, isD_bool, isNotD_bool, tru_bool, List.map_cons, List.map_nil, List.length_cons, List.length_nil, List.replicate_succ, List.replicate_zero, List.cons_append, List.nil_append,
  List.append_nil, List.getElem?_cons_zero, List.getElem?_cons_succ, List.set_cons_zero, List.set_cons_succ, Option.some.injEq, exists_eq_left', exists_eq_left, true_and, and_true, true_implies, false_implies, implies_true, Bool.false_eq_true, reduceCtorEq, false_and, and_false, D.v.injEq, PyData.int.injEq, D.ref.injEq, p1i_int, p2_two, p3_three, decide_true, Bool.not_true, Bool.not_false, decide_eq_true_eq, decide_eq_false_iff_not, ok_seq, seqW_list, List.map_map]
      rw [An.lcL_auto (fun x : Nat => !decide (x = i)) nI]
      rotate_left
      · intro x hx
        unfold law_draw_houses_G1 law_draw_houses_T1 law_draw_houses_M1
        show (gNm 9 (.one (.v (nI x))) _ _).Ok _
        simp only [envE, so_seq, so_if, so_ret, so_retN, so_exp, so_nil, so_nx, so_rt, so_asg, so_asgG, so_par2, so_par3, ok_gNm, ok_gMore, ok_gNone, so_asgT, so_sub, so_for, ok_TB, ok_Tru, ok_notT, ok_andT, ok_orT, ok_andV, ok_orV, ok_notV, ok_iteE, ok_frz, ok_new, ok_mfArg, ok_mfBin, ok_lc, ok_M, ok_M0, ok_moNone, ok_moSome, ok_Sl,
  ok_bin, ok_un, ok_arg, ok_cons, ok_nil, ok_call, ok_var, ok_C, ok_ok, ok_stuck, ok_noX, bOf_bool, low_v, iOf_int, addD_int, subD_int, negD_int, ltD_int, leD_int, gtD_int, geD_int, fInt_int, isD_bool, isNotD_bool, tru_bool, List.map_cons, List.map_nil, List.length_cons, List.length_nil, List.replicate_succ, List.replicate_zero, List.cons_append, List.nil_append,
  List.append_nil, List.getElem?_cons_zero, List.getElem?_cons_succ, List.set_cons_zero, List.set_cons_succ, Option.some.injEq, exists_eq_left', exists_eq_left, true_and, and_true, true_implies, false_implies, implies_true, Bool.false_eq_true, reduceCtorEq, false_and, and_false, D.v.injEq, PyData.int.injEq, D.ref.injEq, p1i_int, p2_two, p3_three, decide_true, Bool.not_true, Bool.not_false, decide_eq_true_eq, decide_eq_false_iff_not, wipeE, neD_int]
        simp
        omega
      have disp1 : ∀ {a : PyData} {s}, gDisp [.v a] s = .ok [a] s := fun {_ _} => rfl
      have hpl : row.length = n := by have := hp.length_eq; rw [List.length_range] at this; exact this
      rw [ok_ok, disp1, ok_ok, cat_list (by rw [List.length_map]; have := List.length_filter_le (fun x => !decide (x = i)) row; show _ + 1 ≤ _; omega), ok_ok]
      have hp2 : (row.filter (fun x => !decide (x = i)) ++ [i]).Perm (List.range n) := by
        have hnd : row.Nodup := hp.nodup_iff.mpr List.nodup_range
        have him : i ∈ row := hp.mem_iff.mpr (List.mem_range.mpr hi)
        refine List.Perm.trans ?_ hp
        refine (List.perm_ext_iff_of_nodup ?_ hnd).mpr fun a => ?_
        · refine List.nodup_append.mpr ⟨hnd.sublist List.filter_sublist, List.pairwise_singleton _ _, fun a ha b hb e => ?_⟩
          have := (List.mem_filter.mp ha).2
          rw [List.mem_singleton.mp hb] at e
          rw [e] at this
          simp at this
        · rw [List.mem_append, List.mem_filter, List.mem_singleton]
          constructor
          · rintro (⟨z, _⟩ | z)
            · exact z
            · rw [z]; exact him
          · intro z
            by_cases e : a = i
            · exact .inr e
            · exact .inl ⟨z, by simp [e]⟩
      have := fin s9 (row.filter (fun x => !decide (x = i)) ++ [i]) x8 x9 ok hp2
      unfold lNs at this
      rw [List.map_append] at this
      exact this
    have fin3 : ∀ (s9 : Src) (row : List Nat) (x8 x9 : Option D), s9.ok → row.Perm (List.range n) → (law_draw_houses_B1_3 [some (.ref 1), some (.v (nI most)), some (.v (nI n)), some (.v (.int road)), some (.v (lNs first)), some (.ref (rest.length + 2)), some (.v (.int (i : Int))), some (.v (lNs row)), x8, x9] (s9.sto (rest ++ [.lst (rows.map tNs)]))).Ok
        (fun e2 s2 => ∃ (s : Src) (rows : List (List Nat)), s2 = s.sto (rest ++ [.lst (rows.map tNs)]) ∧ s.ok ∧ rows.length = i + 1 ∧ (∀ l ∈ rows, l.Perm (List.range n)) ∧ ∃ x6 x7 x8 x9, e2 = [some (.ref 1), some (.v (nI most)), some (.v (nI n)), some (.v (.int road)), some (.v (lNs first)), some (.ref (rest.length + 2)), x6, x7, x8, x9])
        (fun d st => D.low (s.sto rest).length d = true ∧ ∃ (rows : List (List Nat)) (s' : Src), d = .v (hallD rows) ∧ st.take (s.sto rest).length = s'.sto rest ∧ s'.ok ∧ Hou rows ∧ rows.length ≤ most) := by
      intro s9 row x8 x9 ok hp
      unfold law_draw_houses_B1_3
      simp only [envE, so_seq, so_if, so_ret, so_retN, so_exp, so_nil, so_nx, so_rt, so_asg, so_asgG, so_par2, so_par3, ok_gNm, ok_gMore, ok_gNone, so_asgT, so_sub, so_for, ok_TB, ok_Tru, ok_notT, ok_andT, ok_orT, ok_andV, ok_orV, ok_notV, ok_iteE, ok_frz, ok_new, ok_mfArg, ok_mfBin, ok_lc, ok_M, ok_M0, ok_moNone, ok_moSome, ok_Sl,
  ok_bin, ok_un, ok_arg, ok_cons, ok_nil, ok_call, ok_var, ok_C, ok_ok, ok_stuck, ok_noX, bOf_bool, low_v, iOf_int, addD_int, subD_int, negD_int, ltD_int, leD_int, gtD_int, geD_int, fInt_int, isD_bool, isNotD_bool, tru_bool, List.map_cons, List.map_nil, List.length_cons, List.length_nil, List.replicate_succ, List.replicate_zero, List.cons_append, List.nil_append,
  List.append_nil, List.getElem?_cons_zero, List.getElem?_cons_succ, List.set_cons_zero, List.set_cons_succ, Option.some.injEq, exists_eq_left', exists_eq_left, true_and, and_true, true_implies, false_implies, implies_true, Bool.false_eq_true, reduceCtorEq, false_and, and_false, D.v.injEq, PyData.int.injEq, D.ref.injEq, p1i_int, p2_two, p3_three, decide_true, Bool.not_true, Bool.not_false, decide_eq_true_eq, decide_eq_false_iff_not, eqD_int]
      refine ⟨fun _ => ?_, fun _ => fin4 s9 row x8 x9 ok hp⟩
      refine (pickA_ok s9 _ (n : Int) (by omega) ok).mono ?_
      rintro _ _ ⟨k, s6, rfl, rfl, ok6, k0, k1, _⟩
      obtain ⟨k, rfl⟩ : ∃ m : Nat, k = (m : Int) := ⟨k.toNat, by omega⟩
      have hfl : first.length = n := by have := hf.length_eq; rw [List.length_range] at this; exact this
      have a1 : ∀ s, slD (.v (lNs first)) (some (k : Int)) none s = .ok (.v (.list ((first.drop k).map nI))) s := fun s => by rw [slice_list, cut_drop, ← List.map_drop]
      have a2 : ∀ s, slD (.v (lNs first)) none (some (k : Int)) s = .ok (.v (.list ((first.take k).map nI))) s := fun s => by rw [slice_list, cut_take, ← List.map_take]
      have a3 : ∀ s, addD (.v (.list ((first.drop k).map nI))) (.v (.list ((first.take k).map nI))) s = .ok (.v (lNs (first.drop k ++ first.take k))) s := fun s => by
        show (if ((first.drop k).map nI).length + ((first.take k).map nI).length ≤ lim then Out.ok (D.v (.list ((first.drop k).map nI ++ (first.take k).map nI))) s else .stuck) = _
        rw [if_pos (by rw [List.length_map, List.length_map, List.length_drop, List.length_take]; show _ ≤ 1000000; omega), ← List.map_append]
      simp only [envE, so_seq, so_if, so_ret, so_retN, so_exp, so_nil, so_nx, so_rt, so_asg, so_asgG, so_par2, so_par3, ok_gNm, ok_gMore, ok_gNone, so_asgT, so_sub, so_for, ok_TB, ok_Tru, ok_notT, ok_andT, ok_orT, ok_andV, ok_orV, ok_notV, ok_iteE, ok_frz, ok_new, ok_mfArg, ok_mfBin, ok_lc, ok_M, ok_M0, ok_moNone, ok_moSome, ok_Sl,
  ok_bin, ok_un, ok_arg, ok_cons, ok_nil, ok_call, ok_var, ok_C, ok_ok, ok_stuck, ok_noX, bOf_bool, low_v, iOf_int, addD_int, subD_int, negD_int, ltD_int, leD_int, gtD_int, geD_int, fInt_int, isD_bool, isNotD_bool, tru_bool, List.map_cons, List.map_nil, List.length_cons, List.length_nil, List.replicate_succ, List.replicate_zero, List.cons_append, List.nil_append,
  List.append_nil, List.getElem?_cons_zero, List.getElem?_cons_succ, List.set_cons_zero, List.set_cons_succ, Option.some.injEq, exists_eq_left', exists_eq_left, true_and, and_true, true_implies, false_implies, implies_true, Bool.false_eq_true, reduceCtorEq, false_and, and_false, D.v.injEq, PyData.int.injEq, D.ref.injEq, p1i_int, p2_two, p3_three, decide_true, Bool.not_true, Bool.not_false, decide_eq_true_eq, decide_eq_false_iff_not, a1, a2, a3]
      exact fin4 s6 _ _ _ ok6 ((rot_perm' first k).trans hf)
    unfold law_draw_houses_B1_2
    simp only [envE, so_seq, so_if, so_ret, so_retN, so_exp, so_nil, so_nx, so_rt, so_asg, so_asgG, so_par2, so_par3, ok_gNm, ok_gMore, ok_gNone, so_asgT, so_sub, so_for, ok_TB, ok_Tru, ok_notT, ok_andT, ok_orT, ok_andV, ok_orV, ok_notV, ok_iteE, ok_frz, ok_new, ok_mfArg, ok_mfBin, ok_lc, ok_M, ok_M0, ok_moNone, ok_moSome, ok_Sl,
  ok_bin, ok_un, ok_arg, ok_cons, ok_nil, ok_call, ok_var, ok_C, ok_ok, ok_stuck, ok_noX, bOf_bool, low_v, iOf_int, addD_int, subD_int, negD_int, ltD_int, leD_int, gtD_int, geD_int, fInt_int, isD_bool, isNotD_bool, tru_bool, List.map_cons, List.map_nil, List.length_cons, List.length_nil, List.replicate_succ, List.replicate_zero, List.cons_append, List.nil_append,
  List.append_nil, List.getElem?_cons_zero, List.getElem?_cons_succ, List.set_cons_zero, List.set_cons_succ, Option.some.injEq, exists_eq_left', exists_eq_left, true_and, and_true, true_implies, false_implies, implies_true, Bool.false_eq_true, reduceCtorEq, false_and, and_false, D.v.injEq, PyData.int.injEq, D.ref.injEq, p1i_int, p2_two, p3_three, decide_true, Bool.not_true, Bool.not_false, decide_eq_true_eq, decide_eq_false_iff_not, eqD_int]
    refine ⟨fun _ => ?_, fun _ => fin3 s5 row x8 x9 ok5 hrow⟩
    refine (pickA_ok s5 _ 3 (by omega) ok5).mono ?_
    rintro _ _ ⟨q, s6, rfl, rfl, ok6, _, _, _⟩
    have a1 : ∀ s, slD (.v (lNs first)) none none s = .ok (.v (lNs first)) s := fun s => by
      rw [slice_list, show cutP (first.map nI) none none = first.map nI by unfold cutP; rw [show HT.sIx (first.map nI).length 0 none = 0 from rfl, show HT.sIx (first.map nI).length (first.map nI).length none = (first.map nI).length from rfl, List.drop_zero, Nat.sub_zero, List.take_length]]
    simp only [envE, so_seq, so_if, so_ret, so_retN, so_exp, so_nil, so_nx, so_rt, so_asg, so_asgG, so_par2, so_par3, ok_gNm, ok_gMore, ok_gNone, so_asgT, so_sub, so_for, ok_TB, ok_Tru, ok_notT, ok_andT, ok_orT, ok_andV, ok_orV, ok_notV, ok_iteE, ok_frz, ok_new, ok_mfArg, ok_mfBin, ok_lc, ok_M, ok_M0, ok_moNone, ok_moSome, ok_Sl,
  ok_bin, ok_un, ok_arg, ok_cons, ok_nil, ok_call, ok_var, ok_C, ok_ok, ok_stuck, ok_noX, bOf_bool, low_v, iOf_int, addD_int, subD_int, negD_int, ltD_int, leD_int, gtD_int, geD_int, fInt_int, isD_bool, isNotD_bool, tru_bool, List.map_cons, List.map_nil, List.length_cons, List.length_nil, List.replicate_succ, List.replicate_zero, List.cons_append, List.nil_append,
  List.append_nil, List.getElem?_cons_zero, List.getElem?_cons_succ, List.set_cons_zero, List.set_cons_succ, Option.some.injEq, exists_eq_left', exists_eq_left, true_and, and_true, true_implies, false_implies, implies_true, Bool.false_eq_true, reduceCtorEq, false_and, and_false, D.v.injEq, PyData.int.injEq, D.ref.injEq, p1i_int, p2_two, p3_three, decide_true, Bool.not_true, Bool.not_false, decide_eq_true_eq, decide_eq_false_iff_not, a1]
    exact ⟨fun _ => fin3 s6 first x8 x9 ok6 hf, fun _ => fin3 s6 row x8 x9 ok6 hrow⟩
  · rintro e st ⟨s4, rows, rfl, ok4, hl, hr, x6, x7, x8, x9, rfl⟩
    refine ⟨trivial, ?_⟩
    unfold S_law_draw_houses_4
    have hl : rows.length = n := by
      rw [hl]
      unfold rngI
      rw [List.length_map, List.length_range, Nat.zero_add]
    simp only [envE, so_seq, so_if, so_ret, so_retN, so_exp, so_nil, so_nx, so_rt, so_asg, so_asgG, so_par2, so_par3, ok_gNm, ok_gMore, ok_gNone, so_asgT, so_sub, so_for, ok_TB, ok_Tru, ok_notT, ok_andT, ok_orT, ok_andV, ok_orV, ok_notV, ok_iteE, ok_frz, ok_new, ok_mfArg, ok_mfBin, ok_lc, ok_M, ok_M0, ok_moNone, ok_moSome, ok_Sl,
  ok_bin, ok_un, ok_arg, ok_cons, ok_nil, ok_call, ok_var, ok_C, ok_ok, ok_stuck, ok_noX, bOf_bool, low_v, iOf_int, addD_int, subD_int, negD_int, ltD_int, leD_int, gtD_int, geD_int, fInt_int, isD_bool, isNotD_bool, tru_bool, List.map_cons, List.map_nil, List.length_cons, List.length_nil, List.replicate_succ, List.replicate_zero, List.cons_append, List.nil_append,
  List.append_nil, List.getElem?_cons_zero, List.getElem?_cons_succ, List.set_cons_zero, List.set_cons_succ, Option.some.injEq, exists_eq_left', exists_eq_left, true_and, and_true, true_implies, false_implies, implies_true, Bool.false_eq_true, reduceCtorEq, false_and, and_false, D.v.injEq, PyData.int.injEq, D.ref.injEq, p1i_int, p2_two, p3_three, decide_true, Bool.not_true, Bool.not_false, decide_eq_true_eq, decide_eq_false_iff_not, tup_of sto_at']
    have t2 : ∀ {x y : PyData} {s}, fTup [.v x, .v y] s = .ok (.v (.tuple [x, y])) s := fun {_ _ _} => rfl
    rw [t2, ok_ok]
    refine ⟨rfl, rows, s4, by rw [← hl], sto_take' (s0 := s), ok4, ⟨by omega, fun {a} ha => ?_, fun {a b} ha => ?_⟩, by omega⟩
    · have : row rows a ∈ rows := by unfold row; rw [List.getD_eq_getElem?_getD, List.getElem?_eq_getElem ha]; exact List.getElem_mem ha
      exact (hr _ this).nodup_iff.mpr List.nodup_range
    · have : row rows a ∈ rows := by unfold row; rw [List.getD_eq_getElem?_getD, List.getElem?_eq_getElem ha]; exact List.getElem_mem ha
      rw [(hr _ this).mem_iff, List.mem_range, hl]
end
end Wk36
namespace Wk36
open PySem PySem.Spec PyProof.Rows L2 Fw Fw.Hl Fw.Ho Fw.Rg Fw.Da Fw.An
section
variable {rows : List (List Nat)} {n i j h g k m o p : Nat} {d e w L l ring : List Nat} {top : Nat → Nat} {st more : Sto} {x y : O}
theorem hrow {a : Nat} (ha : a < rows.length) : subsD (.v (rowsD rows)) (.v (nI a)) st = .ok (.v (tNs (row rows a))) st := hall_row ha
theorem rg_ok {n : Nat} (h : n ≤ 50) : rgOk 0 (n : Int) = true := by
  unfold rgOk
  simp
  omega
theorem mid_at : (st ++ x :: more)[st.length]? = some x := by
  rw [List.getElem?_append_right (Nat.le_refl _), Nat.sub_self]
  rfl
theorem mid_set : (st ++ x :: more).set st.length y = st ++ y :: more := by
  rw [List.set_append_right _ _ (Nat.le_refl _), Nat.sub_self]
  rfl
theorem mid_take : (st ++ x :: more).take st.length = st := by rw [List.take_left]
theorem mid_push : (st ++ x :: more) ++ [y] = st ++ x :: (more ++ [y]) := by rw [List.append_assoc]; rfl
theorem end_at : (st ++ [x])[st.length]? = some x := mid_at
theorem end_set : (st ++ [x]).set st.length y = st ++ [y] := mid_set
theorem end_take : (st ++ [x]).take st.length = st := mid_take
theorem in_lN : inU (.v (nI h)) (.v (lNs l)) st = .ok (.v (.bool (decide (h ∈ l)))) st := by
  have e : inS st (.v (nI h)) (.v (lNs l)) = some (decide (h ∈ l)) := inS_list
  show (match inS st (.v (nI h)) (.v (lNs l)) with
    | some k => Out.ok (D.v (.bool k)) st
    | none => .stuck) = _
  rw [e]
theorem notin_lN : notInU (.v (nI h)) (.v (lNs l)) st = .ok (.v (.bool (!decide (h ∈ l)))) st := by
  have e : inS st (.v (nI h)) (.v (lNs l)) = some (decide (h ∈ l)) := inS_list
  show (match inS st (.v (nI h)) (.v (lNs l)) with
    | some k => Out.ok (D.v (.bool (!k))) st
    | none => .stuck) = _
  rw [e]
theorem notin_ref {m : Nat} (hst : st[m]? = some (.lst (l.map nI))) : notInU (.v (nI h)) (.ref m) st = .ok (.v (.bool (!decide (h ∈ l)))) st := by
  have e : inS st (.v (nI h)) (.ref m) = some (decide (h ∈ l)) := by
    have h2 : inS st (.v (nI h)) (.v (lNs l)) = some (decide (h ∈ l)) := inS_list
    have hv : viewL st (.ref m) = some (l.map nI) := viewS_ref hst
    unfold inS at h2 ⊢
    rw [viewS_ref hst, hv]
    exact h2
  unfold notInU
  rw [viewK_lst hst]
  show (match inS st (.v (nI h)) (.ref m) with
    | some k => Out.ok (D.v (.bool (!k))) st
    | none => .stuck) = _
  rw [e]
theorem min_nats (ne : l ≠ []) : ∃ x ∈ l, (∀ y ∈ l, x ≤ y) ∧ ∀ st : Sto, fIntsL lstMin [.v (lNs l)] st = .ok (.v (nI x)) st := by
  have io : intsOf (l.map nI) = some (l.map fun x : Nat => (x : Int)) := by
    clear ne
    induction l with
    | nil => rfl
    | cons x r ih =>
      rw [List.map_cons, List.map_cons]
      show (intsOf (r.map nI)).map _ = _
      rw [ih]
      rfl
  have lm : ∀ {l : List Nat}, l ≠ [] → ∃ x ∈ l, (∀ y ∈ l, x ≤ y) ∧ lstMin (l.map fun x : Nat => (x : Int)) = (x : Int) := by
    intro l
    induction l with
    | nil => intro h; exact absurd rfl h
    | cons a r ih =>
      intro _
      cases r with
      | nil => exact ⟨a, .head _, (fun y hy => by rw [List.mem_singleton.mp hy]; exact Nat.le_refl _), by simp [lstMin]⟩
      | cons b r =>
        obtain ⟨x, h1, h2, h3⟩ := ih (fun z => nomatch z)
        have e : lstMin ((a :: b :: r).map fun x : Nat => (x : Int)) = min (a : Int) (lstMin ((b :: r).map fun x : Nat => (x : Int))) := by simp [lstMin]
        rw [e, h3]
        by_cases z : a ≤ x
        · refine ⟨a, .head _, fun y hy => ?_, by omega⟩
          rcases List.mem_cons.mp hy with rfl | hy
          · exact Nat.le_refl _
          · exact Nat.le_trans z (h2 y hy)
        · refine ⟨x, .tail _ h1, fun y hy => ?_, by omega⟩
          rcases List.mem_cons.mp hy with rfl | hy
          · omega
          · exact h2 y hy
  obtain ⟨x, h1, h2, h3⟩ := lm ne
  refine ⟨x, h1, h2, fun st => ?_⟩
  show (match intsOf (l.map nI) with
      | some ns => if 0 < ns.length then Out.ok (D.v (.int (lstMin ns))) st else .stuck
      | none => .stuck) = _
  rw [io]
  show (if 0 < (l.map fun x : Nat => (x : Int)).length then _ else _) = _
  rw [if_pos (by rw [List.length_map]; exact List.length_pos_iff.mpr ne), h3]
theorem best_here (H : Hou rows) (hi : i < rows.length) (hl : ∀ h ∈ L, h < rows.length) (ne : L ≠ []) : subsD (.v (lNs ((row rows i).filter fun h => decide (h ∈ L)))) (.v (.int 0)) st = .ok (.v (nI (bstL rows L i))) st := by
  refine sub_list (k := 0) ?_
  obtain ⟨h, hh⟩ := List.exists_mem_of_ne_nil L ne
  rw [List.getElem?_map, bstL_get H hi ⟨h, hh, hl h hh⟩]
  rfl
theorem pointing_eq (H : Hou rows) (hl : ∀ h ∈ L, h < rows.length) (nd : L.Nodup) (ne : L ≠ []) : f_pointing [.v (hallD rows), .v (lNs L)] st = .ok (.ref st.length) (st ++ [.dct false (askK L (bstL rows L))]) := by
  refine Out.Ok.is (fnK_ok ?_)
  unfold S_pointing pointing_E2
  simp only [envE, so_seq, so_if, so_ret, so_retN, so_exp, so_nil, so_nx, so_rt, so_asg, so_asgG, so_par2, so_par3, ok_gNm, ok_gMore, ok_gNone, so_asgT, so_sub, so_for, ok_TB, ok_Tru, ok_notT, ok_andT, ok_orT, ok_andV, ok_orV, ok_notV, ok_iteE, ok_frz, ok_new, ok_mfArg, ok_mfBin, ok_lc, ok_M, ok_M0, ok_moNone, ok_moSome, ok_Sl,
  ok_bin, ok_un, ok_arg, ok_cons, ok_nil, ok_call, ok_var, ok_C, ok_ok, ok_stuck, ok_noX, bOf_bool, low_v, iOf_int, addD_int, subD_int, negD_int, ltD_int, leD_int, gtD_int, geD_int, fInt_int, isD_bool, isNotD_bool, tru_bool, List.map_cons, List.map_nil, List.length_cons, List.length_nil, List.replicate_succ, List.replicate_zero, List.cons_append, List.nil_append,
  List.append_nil, List.getElem?_cons_zero, List.getElem?_cons_succ, List.set_cons_zero, List.set_cons_succ, Option.some.injEq, exists_eq_left', exists_eq_left, true_and, and_true, true_implies, false_implies, implies_true, Bool.false_eq_true, reduceCtorEq, false_and, and_false, D.v.injEq, PyData.int.injEq, D.ref.injEq, p1i_int, p2_two, p3_three, decide_true, Bool.not_true, Bool.not_false, decide_eq_true_eq, decide_eq_false_iff_not, ok_seq, seqW_list, List.map_map]
  unfold pointing_T2
  rw [lcL_all _ (fun i => PyData.tuple [nI i, nI (bstL rows L i)])]
  rotate_left
  · intro i hi
    unfold pointing_G2 pointing_M2 pointing_E1
    show (gNm 2 (.one (.v (nI i))) _ _).Ok _
    simp only [envE, so_seq, so_if, so_ret, so_retN, so_exp, so_nil, so_nx, so_rt, so_asg, so_asgG, so_par2, so_par3, ok_gNm, ok_gMore, ok_gNone, so_asgT, so_sub, so_for, ok_TB, ok_Tru, ok_notT, ok_andT, ok_orT, ok_andV, ok_orV, ok_notV, ok_iteE, ok_frz, ok_new, ok_mfArg, ok_mfBin, ok_lc, ok_M, ok_M0, ok_moNone, ok_moSome, ok_Sl,
  ok_bin, ok_un, ok_arg, ok_cons, ok_nil, ok_call, ok_var, ok_C, ok_ok, ok_stuck, ok_noX, bOf_bool, low_v, iOf_int, addD_int, subD_int, negD_int, ltD_int, leD_int, gtD_int, geD_int, fInt_int, isD_bool, isNotD_bool, tru_bool, List.map_cons, List.map_nil, List.length_cons, List.length_nil, List.replicate_succ, List.replicate_zero, List.cons_append, List.nil_append,
  List.append_nil, List.getElem?_cons_zero, List.getElem?_cons_succ, List.set_cons_zero, List.set_cons_succ, Option.some.injEq, exists_eq_left', exists_eq_left, true_and, and_true, true_implies, false_implies, implies_true, Bool.false_eq_true, reduceCtorEq, false_and, and_false, D.v.injEq, PyData.int.injEq, D.ref.injEq, p1i_int, p2_two, p3_three, decide_true, Bool.not_true, Bool.not_false, decide_eq_true_eq, decide_eq_false_iff_not, wipeE, hall1, hrow (hl i hi), ok_seq, seqW_tup, List.map_map]
    rw [An.lcL_auto (fun h => decide (h ∈ L)) nI]
    rotate_left
    · intro h hh
      unfold pointing_G1 pointing_T1 pointing_M1
      show (gNm 3 (.one (.v (nI h))) _ _).Ok _
      simp only [envE, so_seq, so_if, so_ret, so_retN, so_exp, so_nil, so_nx, so_rt, so_asg, so_asgG, so_par2, so_par3, ok_gNm, ok_gMore, ok_gNone, so_asgT, so_sub, so_for, ok_TB, ok_Tru, ok_notT, ok_andT, ok_orT, ok_andV, ok_orV, ok_notV, ok_iteE, ok_frz, ok_new, ok_mfArg, ok_mfBin, ok_lc, ok_M, ok_M0, ok_moNone, ok_moSome, ok_Sl,
  ok_bin, ok_un, ok_arg, ok_cons, ok_nil, ok_call, ok_var, ok_C, ok_ok, ok_stuck, ok_noX, bOf_bool, low_v, iOf_int, addD_int, subD_int, negD_int, ltD_int, leD_int, gtD_int, geD_int, fInt_int, isD_bool, isNotD_bool, tru_bool, List.map_cons, List.map_nil, List.length_cons, List.length_nil, List.replicate_succ, List.replicate_zero, List.cons_append, List.nil_append,
  List.append_nil, List.getElem?_cons_zero, List.getElem?_cons_succ, List.set_cons_zero, List.set_cons_succ, Option.some.injEq, exists_eq_left', exists_eq_left, true_and, and_true, true_implies, false_implies, implies_true, Bool.false_eq_true, reduceCtorEq, false_and, and_false, D.v.injEq, PyData.int.injEq, D.ref.injEq, p1i_int, p2_two, p3_three, decide_true, Bool.not_true, Bool.not_false, decide_eq_true_eq, decide_eq_false_iff_not, wipeE, in_lN]
    rw [ok_ok, best_here H (hl i hi) hl ne, ok_ok]
    exact ⟨rfl, rfl⟩
  rw [ok_ok, dict_ask nd, ok_ok]
  exact ⟨rfl, rfl⟩
theorem point_at (hp : p ∈ L) (h : st[o]? = some (.dct false (askK L top))) : subsD (.ref o) (.v (nI p)) st = .ok (.v (nI (top p))) st := sub_dct h (ask_get hp)
theorem trl_more (hc : ∀ i ∈ L, top i ∈ L) (hp : p ∈ L) (hl : ∀ i ∈ L, i < n) (nd : (trl top p m).Nodup) (h : ¬ it top p m ∈ trl top p m) : (trl top p (m + 1)).Nodup ∧ m + 1 ≤ n := by
  have nd' : (trl top p (m + 1)).Nodup := by
    rw [trl_succ]
    refine List.nodup_append.mpr ⟨nd, List.pairwise_singleton _ _, fun a ha b hb e => h ?_⟩
    rw [List.mem_singleton.mp hb] at e
    rw [← e]; exact ha
  refine ⟨nd', ?_⟩
  have := sub_len nd' (m := List.range n) fun x hx => by
    obtain ⟨k, _, rfl⟩ := mem_trl.mp hx
    exact List.mem_range.mpr (hl _ (it_in hc hp k))
  rwa [trl_len, List.length_range] at this
theorem ring_ok (hn : n ≤ 50) (hc : ∀ i ∈ L, top i ∈ L) (hl : ∀ i ∈ L, i < n) (hp : p ∈ L) (ho : ∀ more : Sto, (st ++ more)[o]? = some (.dct false (askK L top))) :
    (f_ring_from [.ref o, .v (nI p)] st).Ok fun r t => t = st ∧ ∃ l q, r = .v (tNs l) ∧ CR top l ∧ it top p q ∈ l ∧ ∀ x ∈ l, x ∈ L := by
  refine fnT_ok ?_
  have disp0' : ∀ {s}, gDisp [] s = .ok [] s := fun {_} => rfl
  unfold S_ring_from
  simp only [envE, so_seq, so_if, so_ret, so_retN, so_exp, so_nil, so_nx, so_rt, so_asg, so_asgG, so_par2, so_par3, ok_gNm, ok_gMore, ok_gNone, so_asgT, so_sub, so_for, ok_TB, ok_Tru, ok_notT, ok_andT, ok_orT, ok_andV, ok_orV, ok_notV, ok_iteE, ok_frz, ok_new, ok_mfArg, ok_mfBin, ok_lc, ok_M, ok_M0, ok_moNone, ok_moSome, ok_Sl,
  ok_bin, ok_un, ok_arg, ok_cons, ok_nil, ok_call, ok_var, ok_C, ok_ok, ok_stuck, ok_noX, bOf_bool, low_v, iOf_int, addD_int, subD_int, negD_int, ltD_int, leD_int, gtD_int, geD_int, fInt_int, isD_bool, isNotD_bool, tru_bool, List.map_cons, List.map_nil, List.length_cons, List.length_nil, List.replicate_succ, List.replicate_zero, List.cons_append, List.nil_append,
  List.append_nil, List.getElem?_cons_zero, List.getElem?_cons_succ, List.set_cons_zero, List.set_cons_succ, Option.some.injEq, exists_eq_left', exists_eq_left, true_and, and_true, true_implies, false_implies, implies_true, Bool.false_eq_true, reduceCtorEq, false_and, and_false, D.v.injEq, PyData.int.injEq, D.ref.injEq, p1i_int, p2_two, p3_three, decide_true, Bool.not_true, Bool.not_false, decide_eq_true_eq, decide_eq_false_iff_not, disp0']
  unfold S_ring_from_2
  simp only [envE, so_seq, so_if, so_ret, so_retN, so_exp, so_nil, so_nx, so_rt, so_asg, so_asgG, so_par2, so_par3, ok_gNm, ok_gMore, ok_gNone, so_asgT, so_sub, so_for, ok_TB, ok_Tru, ok_notT, ok_andT, ok_orT, ok_andV, ok_orV, ok_notV, ok_iteE, ok_frz, ok_new, ok_mfArg, ok_mfBin, ok_lc, ok_M, ok_M0, ok_moNone, ok_moSome, ok_Sl,
  ok_bin, ok_un, ok_arg, ok_cons, ok_nil, ok_call, ok_var, ok_C, ok_ok, ok_stuck, ok_noX, bOf_bool, low_v, iOf_int, addD_int, subD_int, negD_int, ltD_int, leD_int, gtD_int, geD_int, fInt_int, isD_bool, isNotD_bool, tru_bool, List.map_cons, List.map_nil, List.length_cons, List.length_nil, List.replicate_succ, List.replicate_zero, List.cons_append, List.nil_append,
  List.append_nil, List.getElem?_cons_zero, List.getElem?_cons_succ, List.set_cons_zero, List.set_cons_succ, Option.some.injEq, exists_eq_left', exists_eq_left, true_and, and_true, true_implies, false_implies, implies_true, Bool.false_eq_true, reduceCtorEq, false_and, and_false, D.v.injEq, PyData.int.injEq, D.ref.injEq, p1i_int, p2_two, p3_three, decide_true, Bool.not_true, Bool.not_false, decide_eq_true_eq, decide_eq_false_iff_not]
  refine whileL_inv (fun k e t => ∃ m, k = n - m ∧ m ≤ n ∧ (trl top p m).Nodup ∧ t = st ++ [.lst ((trl top p m).map nI)] ∧ ∃ x3 x4, e = [some (.ref o), some (.v (nI (it top p m))), some (.ref st.length), x3, x4]) ?_ 1000000 n _ _ (by omega) ⟨0, rfl, Nat.zero_le _, List.nodup_nil, rfl, _, _, rfl⟩
  rintro k e t ⟨m, rfl, hm, nd, rfl, x3, x4, rfl⟩
  unfold ring_from_T1
  simp only [envE, so_seq, so_if, so_ret, so_retN, so_exp, so_nil, so_nx, so_rt, so_asg, so_asgG, so_par2, so_par3, ok_gNm, ok_gMore, ok_gNone, so_asgT, so_sub, so_for, ok_TB, ok_Tru, ok_notT, ok_andT, ok_orT, ok_andV, ok_orV, ok_notV, ok_iteE, ok_frz, ok_new, ok_mfArg, ok_mfBin, ok_lc, ok_M, ok_M0, ok_moNone, ok_moSome, ok_Sl,
  ok_bin, ok_un, ok_arg, ok_cons, ok_nil, ok_call, ok_var, ok_C, ok_ok, ok_stuck, ok_noX, bOf_bool, low_v, iOf_int, addD_int, subD_int, negD_int, ltD_int, leD_int, gtD_int, geD_int, fInt_int, isD_bool, isNotD_bool, tru_bool, List.map_cons, List.map_nil, List.length_cons, List.length_nil, List.replicate_succ, List.replicate_zero, List.cons_append, List.nil_append,
  List.append_nil, List.getElem?_cons_zero, List.getElem?_cons_succ, List.set_cons_zero, List.set_cons_succ, Option.some.injEq, exists_eq_left', exists_eq_left, true_and, and_true, true_implies, false_implies, implies_true, Bool.false_eq_true, reduceCtorEq, false_and, and_false, D.v.injEq, PyData.int.injEq, D.ref.injEq, p1i_int, p2_two, p3_three, decide_true, Bool.not_true, Bool.not_false, decide_eq_true_eq, decide_eq_false_iff_not, notin_ref end_at]
  constructor
  · intro h
    rw [Bool.not_eq_true', decide_eq_false_iff_not] at h
    obtain ⟨nd', hm'⟩ := trl_more hc hp hl nd h
    unfold ring_from_B1
    simp only [envE, so_seq, so_if, so_ret, so_retN, so_exp, so_nil, so_nx, so_rt, so_asg, so_asgG, so_par2, so_par3, ok_gNm, ok_gMore, ok_gNone, so_asgT, so_sub, so_for, ok_TB, ok_Tru, ok_notT, ok_andT, ok_orT, ok_andV, ok_orV, ok_notV, ok_iteE, ok_frz, ok_new, ok_mfArg, ok_mfBin, ok_lc, ok_M, ok_M0, ok_moNone, ok_moSome, ok_Sl,
  ok_bin, ok_un, ok_arg, ok_cons, ok_nil, ok_call, ok_var, ok_C, ok_ok, ok_stuck, ok_noX, bOf_bool, low_v, iOf_int, addD_int, subD_int, negD_int, ltD_int, leD_int, gtD_int, geD_int, fInt_int, isD_bool, isNotD_bool, tru_bool, List.map_cons, List.map_nil, List.length_cons, List.length_nil, List.replicate_succ, List.replicate_zero, List.cons_append, List.nil_append,
  List.append_nil, List.getElem?_cons_zero, List.getElem?_cons_succ, List.set_cons_zero, List.set_cons_succ, Option.some.injEq, exists_eq_left', exists_eq_left, true_and, and_true, true_implies, false_implies, implies_true, Bool.false_eq_true, reduceCtorEq, false_and, and_false, D.v.injEq, PyData.int.injEq, D.ref.injEq, p1i_int, p2_two, p3_three, decide_true, Bool.not_true, Bool.not_false, decide_eq_true_eq, decide_eq_false_iff_not]
    refine ⟨isL_ref end_at, ?_⟩
    rw [Fw.append_at end_at (by rw [List.length_map, trl_len]; omega), ok_ok, end_set]
    unfold ring_from_B1_2
    simp only [envE, so_seq, so_if, so_ret, so_retN, so_exp, so_nil, so_nx, so_rt, so_asg, so_asgG, so_par2, so_par3, ok_gNm, ok_gMore, ok_gNone, so_asgT, so_sub, so_for, ok_TB, ok_Tru, ok_notT, ok_andT, ok_orT, ok_andV, ok_orV, ok_notV, ok_iteE, ok_frz, ok_new, ok_mfArg, ok_mfBin, ok_lc, ok_M, ok_M0, ok_moNone, ok_moSome, ok_Sl,
  ok_bin, ok_un, ok_arg, ok_cons, ok_nil, ok_call, ok_var, ok_C, ok_ok, ok_stuck, ok_noX, bOf_bool, low_v, iOf_int, addD_int, subD_int, negD_int, ltD_int, leD_int, gtD_int, geD_int, fInt_int, isD_bool, isNotD_bool, tru_bool, List.map_cons, List.map_nil, List.length_cons, List.length_nil, List.replicate_succ, List.replicate_zero, List.cons_append, List.nil_append,
  List.append_nil, List.getElem?_cons_zero, List.getElem?_cons_succ, List.set_cons_zero, List.set_cons_succ, Option.some.injEq, exists_eq_left', exists_eq_left, true_and, and_true, true_implies, false_implies, implies_true, Bool.false_eq_true, reduceCtorEq, false_and, and_false, D.v.injEq, PyData.int.injEq, D.ref.injEq, p1i_int, p2_two, p3_three, decide_true, Bool.not_true, Bool.not_false, decide_eq_true_eq, decide_eq_false_iff_not, point_at (it_in hc hp m) (ho _)]
    refine ⟨n - (m + 1), by omega, m + 1, rfl, hm', nd', ?_, _, _, rfl⟩
    rw [trl_succ, List.map_append]
    rfl
  · intro h
    rw [Bool.not_eq_false', decide_eq_true_eq] at h
    obtain ⟨a, ha, ea, eix, edr, eback, ndr⟩ := trl_ring nd h
    have hixr : fmIndex (.ref st.length) [.v (nI (it top p m))] (st ++ [.lst ((trl top p m).map nI)]) = .ok (.v (nI a)) (st ++ [.lst ((trl top p m).map nI)]) := by
      have q := index_lN (st := st ++ [.lst ((trl top p m).map nI)]) h
      rw [eix] at q
      unfold fmIndex at q ⊢
      rw [viewS_ref end_at]
      exact q
    unfold S_ring_from_3
    simp only [envE, so_seq, so_if, so_ret, so_retN, so_exp, so_nil, so_nx, so_rt, so_asg, so_asgG, so_par2, so_par3, ok_gNm, ok_gMore, ok_gNone, so_asgT, so_sub, so_for, ok_TB, ok_Tru, ok_notT, ok_andT, ok_orT, ok_andV, ok_orV, ok_notV, ok_iteE, ok_frz, ok_new, ok_mfArg, ok_mfBin, ok_lc, ok_M, ok_M0, ok_moNone, ok_moSome, ok_Sl,
  ok_bin, ok_un, ok_arg, ok_cons, ok_nil, ok_call, ok_var, ok_C, ok_ok, ok_stuck, ok_noX, bOf_bool, low_v, iOf_int, addD_int, subD_int, negD_int, ltD_int, leD_int, gtD_int, geD_int, fInt_int, isD_bool, isNotD_bool, tru_bool, List.map_cons, List.map_nil, List.length_cons, List.length_nil, List.replicate_succ, List.replicate_zero, List.cons_append, List.nil_append,
  List.append_nil, List.getElem?_cons_zero, List.getElem?_cons_succ, List.set_cons_zero, List.set_cons_succ, Option.some.injEq, exists_eq_left', exists_eq_left, true_and, and_true, true_implies, false_implies, implies_true, Bool.false_eq_true, reduceCtorEq, false_and, and_false, D.v.injEq, PyData.int.injEq, D.ref.injEq, p1i_int, p2_two, p3_three, decide_true, Bool.not_true, Bool.not_false, decide_eq_true_eq, decide_eq_false_iff_not, ok_fSl, ok_Index, hixr]
    refine ⟨by rw [isL_ref end_at]; rfl, _, viewS_ref end_at, ?_⟩
    have ecut : cutP ((trl top p m).map nI) (some (a : Int)) none = (trl top (it top p a) (m - a)).map nI := by
      rw [cut_drop, ← List.map_drop, edr]
    rw [ecut]
    generalize hr : m - a = r at *
    have hr1 : 1 ≤ r := by omega
    have rne : trl top (it top p a) r ≠ [] := fun z => by
      have := congrArg List.length z
      rw [trl_len, List.length_nil] at this
      omega
    obtain ⟨y, hy, hmin, hmn⟩ := min_nats rne
    unfold S_ring_from_4
    simp only [envE, so_seq, so_if, so_ret, so_retN, so_exp, so_nil, so_nx, so_rt, so_asg, so_asgG, so_par2, so_par3, ok_gNm, ok_gMore, ok_gNone, so_asgT, so_sub, so_for, ok_TB, ok_Tru, ok_notT, ok_andT, ok_orT, ok_andV, ok_orV, ok_notV, ok_iteE, ok_frz, ok_new, ok_mfArg, ok_mfBin, ok_lc, ok_M, ok_M0, ok_moNone, ok_moSome, ok_Sl,
  ok_bin, ok_un, ok_arg, ok_cons, ok_nil, ok_call, ok_var, ok_C, ok_ok, ok_stuck, ok_noX, bOf_bool, low_v, iOf_int, addD_int, subD_int, negD_int, ltD_int, leD_int, gtD_int, geD_int, fInt_int, isD_bool, isNotD_bool, tru_bool, List.map_cons, List.map_nil, List.length_cons, List.length_nil, List.replicate_succ, List.replicate_zero, List.cons_append, List.nil_append,
  List.append_nil, List.getElem?_cons_zero, List.getElem?_cons_succ, List.set_cons_zero, List.set_cons_succ, Option.some.injEq, exists_eq_left', exists_eq_left, true_and, and_true, true_implies, false_implies, implies_true, Bool.false_eq_true, reduceCtorEq, false_and, and_false, D.v.injEq, PyData.int.injEq, D.ref.injEq, p1i_int, p2_two, p3_three, decide_true, Bool.not_true, Bool.not_false, decide_eq_true_eq, decide_eq_false_iff_not, ok_Index]
    rw [show fIntsL lstMin [.v (.list ((trl top (it top p a) r).map nI))] (st ++ [.lst ((trl top p m).map nI)]) = _ from hmn _, ok_ok]
    obtain ⟨k, hk, ek⟩ := mem_trl.mp hy
    have hixk : (trl top (it top p a) r).idxOf y = k := by
      have h1 : (trl top (it top p a) r).idxOf y < (trl top (it top p a) r).length := List.idxOf_lt_length_of_mem hy
      have h2 := List.getElem_idxOf h1
      rw [trl_len] at h1
      have g := trl_get (top := top) (i := it top p a) h1
      rw [List.getElem?_eq_getElem (by rw [trl_len]; exact h1), h2] at g
      exact trl_inj ndr h1 hk ((Option.some.inj g).symm.trans ek.symm)
    have hix2 : ∀ s, fmIndex (.v (.list ((trl top (it top p a) r).map nI))) [.v (nI y)] s = .ok (.v (nI k)) s := fun s => by
      have q := index_lN (st := s) hy
      rw [hixk] at q
      exact q
    rw [hix2, ok_ok]
    refine ⟨rfl, ?_⟩
    unfold S_ring_from_5
    simp only [envE, so_seq, so_if, so_ret, so_retN, so_exp, so_nil, so_nx, so_rt, so_asg, so_asgG, so_par2, so_par3, ok_gNm, ok_gMore, ok_gNone, so_asgT, so_sub, so_for, ok_TB, ok_Tru, ok_notT, ok_andT, ok_orT, ok_andV, ok_orV, ok_notV, ok_iteE, ok_frz, ok_new, ok_mfArg, ok_mfBin, ok_lc, ok_M, ok_M0, ok_moNone, ok_moSome, ok_Sl,
  ok_bin, ok_un, ok_arg, ok_cons, ok_nil, ok_call, ok_var, ok_C, ok_ok, ok_stuck, ok_noX, bOf_bool, low_v, iOf_int, addD_int, subD_int, negD_int, ltD_int, leD_int, gtD_int, geD_int, fInt_int, isD_bool, isNotD_bool, tru_bool, List.map_cons, List.map_nil, List.length_cons, List.length_nil, List.replicate_succ, List.replicate_zero, List.cons_append, List.nil_append,
  List.append_nil, List.getElem?_cons_zero, List.getElem?_cons_succ, List.set_cons_zero, List.set_cons_succ, Option.some.injEq, exists_eq_left', exists_eq_left, true_and, and_true, true_implies, false_implies, implies_true, Bool.false_eq_true, reduceCtorEq, false_and, and_false, D.v.injEq, PyData.int.injEq, D.ref.injEq, p1i_int, p2_two, p3_three, decide_true, Bool.not_true, Bool.not_false, decide_eq_true_eq, decide_eq_false_iff_not, ok_fSl]
    refine ⟨_, rfl, _, rfl, ?_⟩
    rw [cut_drop, cut_take, ← List.map_drop, ← List.map_take, cat_list (by rw [List.length_map, List.length_map, List.length_drop, List.length_take, trl_len]; omega), ok_ok, ← List.map_append, tup_list, ok_ok]
    refine ⟨low_v, end_take, _, a, rfl, rot_CR hr1 eback ndr hk (fun x hx => by rw [ek]; exact hmin x hx), ?_, fun x hx => ?_⟩
    · have : it top p a ∈ trl top (it top p a) r := mem_trl.mpr ⟨0, hr1, rfl⟩
      rw [← List.take_append_drop k (trl top (it top p a) r)] at this
      exact (List.mem_append.mp this).elim (List.mem_append_right _) (List.mem_append_left _)
    · have : x ∈ trl top (it top p a) r := (List.mem_append.mp hx).elim List.mem_of_mem_drop List.mem_of_mem_take
      obtain ⟨q, _, rfl⟩ := mem_trl.mp this
      exact it_in hc (it_in hc hp a) q
end
end Wk36
namespace Wk36
open PySem PySem.Spec PyProof.Rows L2 Fw Fw.Hl Fw.Ho Fw.Rg Fw.Da Fw.An
section
variable {rows : List (List Nat)} {n i j h g k m o p : Nat} {d e w L l ring : List Nat} {rs qs : List (List Nat)} {top : Nat → Nat} {st more : Sto} {x y : O}
def insR (acc : List (List Nat)) (l : List Nat) : List (List Nat) := if l ∈ acc then acc else acc ++ [l]
def dif (ls : List (List Nat)) : List (List Nat) := ls.foldl insR []
theorem insR_mem {acc : List (List Nat)} : w ∈ insR acc l ↔ w ∈ acc ∨ w = l := by
  unfold insR
  split
  · rename_i h
    exact ⟨.inl, fun z => z.elim id fun e => e ▸ h⟩
  · rw [List.mem_append, List.mem_singleton]
theorem foldR_mem : ∀ (ls acc : List (List Nat)), w ∈ ls.foldl insR acc ↔ w ∈ acc ∨ w ∈ ls
  | [], acc => by simp
  | l :: ls, acc => by
    rw [List.foldl_cons, foldR_mem ls, insR_mem, List.mem_cons, or_assoc]
theorem insR_nd {acc : List (List Nat)} (h : acc.Nodup) : (insR acc l).Nodup := by
  unfold insR
  split
  · exact h
  · rename_i q
    exact List.nodup_append.mpr ⟨h, List.pairwise_singleton _ _, fun a ha b hb e => q (by rw [List.mem_singleton.mp hb] at e; rw [← e]; exact ha)⟩
theorem foldR_nd : ∀ (ls acc : List (List Nat)), acc.Nodup → (ls.foldl insR acc).Nodup
  | [], acc, h => h
  | l :: ls, acc, h => foldR_nd ls _ (insR_nd h)
theorem dif_mem {ls : List (List Nat)} : w ∈ dif ls ↔ w ∈ ls := by unfold dif; rw [foldR_mem]; simp
theorem dif_nd (ls : List (List Nat)) : (dif ls).Nodup := foldR_nd ls [] List.nodup_nil
def tabR (acc : List (List Nat)) : List (PyData × D) := acc.map fun l => (tNs l, D.v (.bool true))
def kR (l : List Nat) : NestedKey := .tup (l.map fun i : Nat => NestedKey.num (i : Int))
theorem keyP_R (l : List Nat) : keyP (tNs l) = some (kR l) := by
  have h1 : keyNA (l.map nI) = some (l.map fun i : Nat => NestedKey.num i) := by
    induction l with
    | nil => rw [List.map_nil, keyNA]; rfl
    | cons a r ih =>
      rw [List.map_cons, keyNA, ih]
      show (match keyN (.int a), some _ with
        | some k, some ks => some (k :: ks)
        | _, _ => none) = _
      rw [keyN]
      rfl
  have h2 : keyN (tNs l) = some (kR l) := by
    show keyN (.tuple (l.map nI)) = _
    rw [keyN, h1]
    rfl
  have h3 : (kR l).depth ≤ 8 := by
    have key : ∀ l : List Nat, NestedKey.depthAll (l.map fun i : Nat => NestedKey.num i) ≤ 2 := fun l => by
      induction l with
      | nil => simp [NestedKey.depthAll]
      | cons a r ih => rw [List.map_cons, NestedKey.depthAll]; simp [NestedKey.depth]; omega
    have := key l
    unfold kR
    rw [NestedKey.depth]
    omega
  show (match keyN (tNs l) with
    | some k => if k.depth ≤ 8 then some k else none
    | none => none) = _
  rw [h2]
  exact if_pos h3
theorem kR_inj (h : kR l = kR w) : l = w := by
  unfold kR at h
  injection h with h
  have : ∀ l w : List Nat, (l.map fun i : Nat => NestedKey.num i) = (w.map fun i : Nat => NestedKey.num i) → l = w := fun l => by
    induction l with
    | nil => intro w h; cases w with
      | nil => rfl
      | cons a r => cases h
    | cons a r ih =>
      intro w h
      cases w with
      | nil => cases h
      | cons b s =>
        rw [List.map_cons, List.map_cons] at h
        injection h with h1 h2
        injection h1 with h1
        rw [ih s h2, Int.ofNat_inj.mp h1]
  exact this l w h
theorem pairsT_R : ∀ ls : List (List Nat), pairsT (ls.map fun l => PyData.tuple [tNs l, .bool true]) = some (ls.map fun l => (tNs l, kR l, PyData.bool true))
  | [] => rfl
  | l :: r => by
    rw [List.map_cons]
    show (match keyP (tNs l), pairsT (r.map fun l => PyData.tuple [tNs l, .bool true]) with
      | some kk, some l' => some ((tNs l, kk, PyData.bool true) :: l')
      | _, _ => none) = _
    rw [keyP_R, pairsT_R r]
    rfl
theorem hasK_R {acc : List (List Nat)} : hasK (tabR acc) (kR l) = decide (l ∈ acc) := by
  unfold hasK tabR
  rw [List.any_map]
  induction acc with
  | nil => simp
  | cons a r ih =>
    rw [List.any_cons, ih]
    show (decide (keyP (tNs a) = some (kR l)) || _) = _
    rw [keyP_R]
    by_cases e : a = l
    · subst e; simp
    · have : ¬ some (kR a) = some (kR l) := fun z => e (kR_inj (Option.some.inj z))
      have e2 : ¬ l = a := fun z => e z.symm
      simp [this, e2]
theorem putKT_R {acc : List (List Nat)} : putKT (tabR acc) (tNs l) (kR l) (.v (.bool true)) = tabR (insR acc l) := by
  unfold putKT
  rw [hasK_R]
  by_cases h : l ∈ acc
  · rw [if_pos (decide_eq_true h)]
    unfold insR
    rw [if_pos h]
    unfold tabR
    rw [List.map_map]
    refine List.map_congr_left fun a _ => ?_
    show (if keyP (tNs a) = some (kR l) then (tNs a, D.v (.bool true)) else (tNs a, D.v (.bool true))) = _
    split <;> rfl
  · rw [if_neg (by rw [decide_eq_false h]; exact Bool.false_ne_true)]
    unfold insR
    rw [if_neg h]
    unfold tabR
    rw [List.map_append]
    rfl
theorem putAll_R : ∀ (ls acc : List (List Nat)), putAllKT (tabR acc) (ls.map fun l => (tNs l, kR l, PyData.bool true)) = tabR (ls.foldl insR acc)
  | [], acc => rfl
  | l :: ls, acc => by
    have := putAll_R ls (insR acc l)
    rw [← putKT_R] at this
    exact this
theorem dict_R {ls : List (List Nat)} (hl : ls.length ≤ 1000000) : fDictT [.v (.list (ls.map fun l => PyData.tuple [tNs l, .bool true]))] st = .ok (.ref st.length) (st ++ [.tab (tabR (dif ls))]) := by
  show (match pairsT (ls.map fun l => PyData.tuple [tNs l, .bool true]) with
      | some l => if l.length ≤ lim then Out.ok (D.ref st.length) (st ++ [O.tab (putAllKT [] l)]) else .stuck
      | none => .stuck) = _
  rw [pairsT_R]
  show (if (ls.map fun l => (tNs l, kR l, PyData.bool true)).length ≤ lim then _ else _) = _
  rw [if_pos (by rw [List.length_map]; exact hl)]
  have := putAll_R ls []
  rw [show tabR [] = [] from rfl] at this
  rw [this]
  rfl
theorem sorT_R (hst : st[m]? = some (.tab (tabR rs))) : gSorTab [.ref m] st = .ok (srt rs) st := by
  have hv : viewTab st (.ref m) = some (tabR rs) := by
    show (match st[m]? with
      | some (.tab kvs) => some kvs
      | some (.lck true kvs) => some kvs
      | _ => none) = _
    rw [hst]
  have hk : (tabR rs).map (·.1) = rs.map tNs := by unfold tabR; rw [List.map_map]; rfl
  show (match viewTab st (.ref m) with
    | some kvs => if sorB (kvs.map (Prod.fst : PyData × D → PyData)) then Out.ok ((kvs.map (Prod.fst : PyData × D → PyData)).mergeSort (PySem.W.dataLe false id)) st else .stuck
    | none => .stuck) = _
  rw [hv]
  show (if sorB ((tabR rs).map (·.1)) then Out.ok (((tabR rs).map (·.1)).mergeSort (PySem.W.dataLe false id)) st else .stuck) = _
  rw [hk, if_pos (tNs_sor rs)]
  rfl
theorem sortG_R : gSortG [.v (.list (rs.map tNs))] st = .ok (srt rs) st := by
  show (if sorB (rs.map tNs) then _ else _) = _
  rw [if_pos (tNs_sor rs)]
  rfl
theorem ok_Tab {me : ME} {env : Ev} {P : List Itm × Wt → Sto → Prop} : (miTab me env st).Ok P ↔ (me env st).Ok fun d s => (match d with
    | .ref n => (match s[n]? with
      | some (.lck true kvs) => Out.ok (keysI kvs, none) s
      | _ => .stuck)
    | _ => .stuck : Out (List Itm × Wt)).Ok P := ok_bind
def rdD (rs : List (List Nat)) : PyData := .tuple (rs.map tNs)
def rdsD (out : List (List (List Nat))) : PyData := .tuple (out.map rdD)
theorem sto_back {kvs kvs' : List (PyData × D)} (h : st[m]? = some (.tab kvs)) : (st.set m (.lck true kvs')).set m (.tab kvs) = st := by
  rw [List.set_set]
  obtain ⟨h1, h2⟩ := List.getElem?_eq_some_iff.mp h
  exact List.set_getElem_self h1 |> (by rw [← h2]; exact ·)
theorem gone_snoc : gone (rs ++ [l]) L = (gone rs L).filter fun i => !decide (i ∈ l) := by
  unfold gone
  rw [List.filter_filter]
  refine List.filter_congr fun i _ => ?_
  rw [List.all_append, Bool.and_comm]
  simp
theorem notin_tN : notInU (.v (nI h)) (.v (tNs l)) st = .ok (.v (.bool (!decide (h ∈ l)))) st := by
  have e : inS st (.v (nI h)) (.v (tNs l)) = some (decide (h ∈ l)) := inS_tup
  show (match inS st (.v (nI h)) (.v (tNs l)) with
    | some k => Out.ok (D.v (.bool (!k))) st
    | none => .stuck) = _
  rw [e]
theorem gone_nil : gone [] L = L := by
  unfold gone
  exact List.filter_eq_self.mpr fun _ _ => rfl
theorem Rs_perm (R : Rs top L rs) (h : qs.Perm rs) : Rs top L qs := ⟨h.nodup_iff.mpr R.nd, fun l => by rw [h.mem_iff]; exact R.mem l⟩
theorem rds_step {out : List (List (List Nat))} (ne : L ≠ []) (R : Rs (bstL rows L) L rs) (hr : ∀ rest, Rds rows L rest → Rds rows w (out ++ rest)) : ∃ qs, qs.Perm rs ∧ srt rs = qs.map tNs ∧ ∀ rest, Rds rows (gone rs L) rest → Rds rows w ((out ++ [qs]) ++ rest) := by
  obtain ⟨qs, h1, h2⟩ := srt_map rs
  refine ⟨qs, h1, h2, fun rest A => ?_⟩
  rw [List.append_assoc]
  exact hr _ (.cons ne (Rs_perm R h1) (by rw [srt_perm h1, h2]) (by rw [gone_perm h1]; exact A))
theorem ne_nil {L : List Nat} : neD (.v (lNs L)) (.v (.list [])) st = .ok (.v (.bool (!L.isEmpty))) st := by
  have e : eqS st (.v (lNs L)) (.v (.list [])) = some L.isEmpty := by
    refine (eqT_of (st := st) (shaped_nats L) (shaped_nil (t := .list) (.inl rfl))).trans ?_
    cases L with
    | nil => simp [PyData.eqv, PyData.eqvAll]
    | cons a r =>
      show some (PyData.eqv (.list (nI a :: r.map nI)) (.list [])) = _
      rw [PyData.eqv, PyData.eqvAll]
      rfl
  unfold neD
  rw [e]
theorem rounds_ok (H : Hou rows) (hn : rows.length ≤ 50) : (f_rounds [.v (hallD rows)] st).Ok fun r t => t = st ∧ ∃ out, r = .v (rdsD out) ∧ Rds rows (List.range rows.length) out := by
  refine fnT_ok ?_
  have disp0' : ∀ {s}, gDisp [] s = .ok [] s := fun {_} => rfl
  unfold S_rounds
  simp only [envE, so_seq, so_if, so_ret, so_retN, so_exp, so_nil, so_nx, so_rt, so_asg, so_asgG, so_par2, so_par3, ok_gNm, ok_gMore, ok_gNone, so_asgT, so_sub, so_for, ok_TB, ok_Tru, ok_notT, ok_andT, ok_orT, ok_andV, ok_orV, ok_notV, ok_iteE, ok_frz, ok_new, ok_mfArg, ok_mfBin, ok_lc, ok_M, ok_M0, ok_moNone, ok_moSome, ok_Sl,
  ok_bin, ok_un, ok_arg, ok_cons, ok_nil, ok_call, ok_var, ok_C, ok_ok, ok_stuck, ok_noX, bOf_bool, low_v, iOf_int, addD_int, subD_int, negD_int, ltD_int, leD_int, gtD_int, geD_int, fInt_int, isD_bool, isNotD_bool, tru_bool, List.map_cons, List.map_nil, List.length_cons, List.length_nil, List.replicate_succ, List.replicate_zero, List.cons_append, List.nil_append,
  List.append_nil, List.getElem?_cons_zero, List.getElem?_cons_succ, List.set_cons_zero, List.set_cons_succ, Option.some.injEq, exists_eq_left', exists_eq_left, true_and, and_true, true_implies, false_implies, implies_true, Bool.false_eq_true, reduceCtorEq, false_and, and_false, D.v.injEq, PyData.int.injEq, D.ref.injEq, p1i_int, p2_two, p3_three, decide_true, Bool.not_true, Bool.not_false, decide_eq_true_eq, decide_eq_false_iff_not, hall0, ok_Rg1]
  refine ⟨rg_ok hn, ?_⟩
  rw [rg_nats]
  simp only [disp0', envE, so_seq, so_if, so_ret, so_retN, so_exp, so_nil, so_nx, so_rt, so_asg, so_asgG, so_par2, so_par3, ok_gNm, ok_gMore, ok_gNone, so_asgT, so_sub, so_for, ok_TB, ok_Tru, ok_notT, ok_andT, ok_orT, ok_andV, ok_orV, ok_notV, ok_iteE, ok_frz, ok_new, ok_mfArg, ok_mfBin, ok_lc, ok_M, ok_M0, ok_moNone, ok_moSome, ok_Sl,
  ok_bin, ok_un, ok_arg, ok_cons, ok_nil, ok_call, ok_var, ok_C, ok_ok, ok_stuck, ok_noX, bOf_bool, low_v, iOf_int, addD_int, subD_int, negD_int, ltD_int, leD_int, gtD_int, geD_int, fInt_int, isD_bool, isNotD_bool, tru_bool, List.map_cons, List.map_nil, List.length_cons, List.length_nil, List.replicate_succ, List.replicate_zero, List.cons_append, List.nil_append,
  List.append_nil, List.getElem?_cons_zero, List.getElem?_cons_succ, List.set_cons_zero, List.set_cons_succ, Option.some.injEq, exists_eq_left', exists_eq_left, true_and, and_true, true_implies, false_implies, implies_true, Bool.false_eq_true, reduceCtorEq, false_and, and_false, D.v.injEq, PyData.int.injEq, D.ref.injEq, p1i_int, p2_two, p3_three, decide_true, Bool.not_true, Bool.not_false, decide_eq_true_eq, decide_eq_false_iff_not]
  unfold S_rounds_2
  simp only [envE, so_seq, so_if, so_ret, so_retN, so_exp, so_nil, so_nx, so_rt, so_asg, so_asgG, so_par2, so_par3, ok_gNm, ok_gMore, ok_gNone, so_asgT, so_sub, so_for, ok_TB, ok_Tru, ok_notT, ok_andT, ok_orT, ok_andV, ok_orV, ok_notV, ok_iteE, ok_frz, ok_new, ok_mfArg, ok_mfBin, ok_lc, ok_M, ok_M0, ok_moNone, ok_moSome, ok_Sl,
  ok_bin, ok_un, ok_arg, ok_cons, ok_nil, ok_call, ok_var, ok_C, ok_ok, ok_stuck, ok_noX, bOf_bool, low_v, iOf_int, addD_int, subD_int, negD_int, ltD_int, leD_int, gtD_int, geD_int, fInt_int, isD_bool, isNotD_bool, tru_bool, List.map_cons, List.map_nil, List.length_cons, List.length_nil, List.replicate_succ, List.replicate_zero, List.cons_append, List.nil_append,
  List.append_nil, List.getElem?_cons_zero, List.getElem?_cons_succ, List.set_cons_zero, List.set_cons_succ, Option.some.injEq, exists_eq_left', exists_eq_left, true_and, and_true, true_implies, false_implies, implies_true, Bool.false_eq_true, reduceCtorEq, false_and, and_false, D.v.injEq, PyData.int.injEq, D.ref.injEq, p1i_int, p2_two, p3_three, decide_true, Bool.not_true, Bool.not_false, decide_eq_true_eq, decide_eq_false_iff_not]
  refine whileL_inv (fun k e t => ∃ L out more x3 x4 x5 x6, k = L.length ∧ (∀ i ∈ L, i < rows.length) ∧ L.Nodup ∧ (∀ rest, Rds rows L rest → Rds rows (List.range rows.length) (out ++ rest)) ∧ out.length + L.length ≤ rows.length ∧ t = st ++ O.lst (out.map rdD) :: more ∧ e = [some (.v (hallD rows)), some (.v (lNs L)), some (.ref st.length), x3, x4, x5, x6]) ?_ 1000000 rows.length _ _ (by omega) ⟨List.range rows.length, [], [], none, none, none, none, by rw [List.length_range], (fun i h => List.mem_range.mp h), List.nodup_range, (fun rest h => h), by rw [List.length_range]; simp, rfl, rfl⟩
  rintro _ e t ⟨L, out, more, x3, x4, x5, x6, rfl, hl, nd, hr, hlen, rfl, rfl⟩
  unfold rounds_T3
  simp only [envE, so_seq, so_if, so_ret, so_retN, so_exp, so_nil, so_nx, so_rt, so_asg, so_asgG, so_par2, so_par3, ok_gNm, ok_gMore, ok_gNone, so_asgT, so_sub, so_for, ok_TB, ok_Tru, ok_notT, ok_andT, ok_orT, ok_andV, ok_orV, ok_notV, ok_iteE, ok_frz, ok_new, ok_mfArg, ok_mfBin, ok_lc, ok_M, ok_M0, ok_moNone, ok_moSome, ok_Sl,
  ok_bin, ok_un, ok_arg, ok_cons, ok_nil, ok_call, ok_var, ok_C, ok_ok, ok_stuck, ok_noX, bOf_bool, low_v, iOf_int, addD_int, subD_int, negD_int, ltD_int, leD_int, gtD_int, geD_int, fInt_int, isD_bool, isNotD_bool, tru_bool, List.map_cons, List.map_nil, List.length_cons, List.length_nil, List.replicate_succ, List.replicate_zero, List.cons_append, List.nil_append,
  List.append_nil, List.getElem?_cons_zero, List.getElem?_cons_succ, List.set_cons_zero, List.set_cons_succ, Option.some.injEq, exists_eq_left', exists_eq_left, true_and, and_true, true_implies, false_implies, implies_true, Bool.false_eq_true, reduceCtorEq, false_and, and_false, D.v.injEq, PyData.int.injEq, D.ref.injEq, p1i_int, p2_two, p3_three, decide_true, Bool.not_true, Bool.not_false, decide_eq_true_eq, decide_eq_false_iff_not, disp0', ne_nil]
  constructor
  · intro h
    have ne : L ≠ [] := fun z => by rw [z] at h; cases h
    have hc : ∀ i ∈ L, bstL rows L i ∈ L := fun i hi => (bstL_ok H (hl i hi) hl ne).1
    have hLn : L.length ≤ rows.length := by
      have := sub_len nd (m := List.range rows.length) fun x hx => List.mem_range.mpr (hl x hx)
      rwa [List.length_range] at this
    unfold rounds_B1
    simp only [envE, so_seq, so_if, so_ret, so_retN, so_exp, so_nil, so_nx, so_rt, so_asg, so_asgG, so_par2, so_par3, ok_gNm, ok_gMore, ok_gNone, so_asgT, so_sub, so_for, ok_TB, ok_Tru, ok_notT, ok_andT, ok_orT, ok_andV, ok_orV, ok_notV, ok_iteE, ok_frz, ok_new, ok_mfArg, ok_mfBin, ok_lc, ok_M, ok_M0, ok_moNone, ok_moSome, ok_Sl,
  ok_bin, ok_un, ok_arg, ok_cons, ok_nil, ok_call, ok_var, ok_C, ok_ok, ok_stuck, ok_noX, bOf_bool, low_v, iOf_int, addD_int, subD_int, negD_int, ltD_int, leD_int, gtD_int, geD_int, fInt_int, isD_bool, isNotD_bool, tru_bool, List.map_cons, List.map_nil, List.length_cons, List.length_nil, List.replicate_succ, List.replicate_zero, List.cons_append, List.nil_append,
  List.append_nil, List.getElem?_cons_zero, List.getElem?_cons_succ, List.set_cons_zero, List.set_cons_succ, Option.some.injEq, exists_eq_left', exists_eq_left, true_and, and_true, true_implies, false_implies, implies_true, Bool.false_eq_true, reduceCtorEq, false_and, and_false, D.v.injEq, PyData.int.injEq, D.ref.injEq, p1i_int, p2_two, p3_three, decide_true, Bool.not_true, Bool.not_false, decide_eq_true_eq, decide_eq_false_iff_not, pointing_eq H hl nd ne]
    generalize hS : st ++ O.lst (out.map rdD) :: more ++ [O.dct false (askK L (bstL rows L))] = S1
    have ho : ∀ more' : Sto, (S1 ++ more')[(st ++ O.lst (out.map rdD) :: more).length]? = some (.dct false (askK L (bstL rows L))) := fun more' => by
      rw [← hS, List.append_assoc, List.getElem?_append_right (Nat.le_refl _), Nat.sub_self]
      rfl
    generalize (st ++ O.lst (out.map rdD) :: more).length = o at ho ⊢
    unfold rounds_B1_2
    simp only [envE, so_seq, so_if, so_ret, so_retN, so_exp, so_nil, so_nx, so_rt, so_asg, so_asgG, so_par2, so_par3, ok_gNm, ok_gMore, ok_gNone, so_asgT, so_sub, so_for, ok_TB, ok_Tru, ok_notT, ok_andT, ok_orT, ok_andV, ok_orV, ok_notV, ok_iteE, ok_frz, ok_new, ok_mfArg, ok_mfBin, ok_lc, ok_M, ok_M0, ok_moNone, ok_moSome, ok_Sl,
  ok_bin, ok_un, ok_arg, ok_cons, ok_nil, ok_call, ok_var, ok_C, ok_ok, ok_stuck, ok_noX, bOf_bool, low_v, iOf_int, addD_int, subD_int, negD_int, ltD_int, leD_int, gtD_int, geD_int, fInt_int, isD_bool, isNotD_bool, tru_bool, List.map_cons, List.map_nil, List.length_cons, List.length_nil, List.replicate_succ, List.replicate_zero, List.cons_append, List.nil_append,
  List.append_nil, List.getElem?_cons_zero, List.getElem?_cons_succ, List.set_cons_zero, List.set_cons_succ, Option.some.injEq, exists_eq_left', exists_eq_left, true_and, and_true, true_implies, false_implies, implies_true, Bool.false_eq_true, reduceCtorEq, false_and, and_false, D.v.injEq, PyData.int.injEq, D.ref.injEq, p1i_int, p2_two, p3_three, decide_true, Bool.not_true, Bool.not_false, decide_eq_true_eq, decide_eq_false_iff_not]
    unfold rounds_E1
    simp only [envE, so_seq, so_if, so_ret, so_retN, so_exp, so_nil, so_nx, so_rt, so_asg, so_asgG, so_par2, so_par3, ok_gNm, ok_gMore, ok_gNone, so_asgT, so_sub, so_for, ok_TB, ok_Tru, ok_notT, ok_andT, ok_orT, ok_andV, ok_orV, ok_notV, ok_iteE, ok_frz, ok_new, ok_mfArg, ok_mfBin, ok_lc, ok_M, ok_M0, ok_moNone, ok_moSome, ok_Sl,
  ok_bin, ok_un, ok_arg, ok_cons, ok_nil, ok_call, ok_var, ok_C, ok_ok, ok_stuck, ok_noX, bOf_bool, low_v, iOf_int, addD_int, subD_int, negD_int, ltD_int, leD_int, gtD_int, geD_int, fInt_int, isD_bool, isNotD_bool, tru_bool, List.map_cons, List.map_nil, List.length_cons, List.length_nil, List.replicate_succ, List.replicate_zero, List.cons_append, List.nil_append,
  List.append_nil, List.getElem?_cons_zero, List.getElem?_cons_succ, List.set_cons_zero, List.set_cons_succ, Option.some.injEq, exists_eq_left', exists_eq_left, true_and, and_true, true_implies, false_implies, implies_true, Bool.false_eq_true, reduceCtorEq, false_and, and_false, D.v.injEq, PyData.int.injEq, D.ref.injEq, p1i_int, p2_two, p3_three, decide_true, Bool.not_true, Bool.not_false, decide_eq_true_eq, decide_eq_false_iff_not, ok_seq, seqW_list, List.map_map]
    -- the rings, one for each
    have hpop : ∀ {a : Nat}, a ∈ L → a < rows.length := fun {a} h => hl a h
    have hcl := lcL_inv (w := none) (g := rounds_G1) (t := rounds_T1) (m := rounds_M1) (env0 := wipeE [some (.v (hallD rows)), some (.v (lNs L)), some (.ref st.length), some (.ref o), x4, x5, x6] [5]) (P := fun zs s => s = S1 ∧ ∃ ls : List (List Nat), zs = ls.map (fun l => PyData.tuple [tNs l, .bool true]) ∧ ls.length = L.length ∧ Rs (bstL rows L) L (dif ls)) (fun idx acc s => s = S1 ∧ ∃ ls : List (List Nat), acc = ls.map (fun l => PyData.tuple [tNs l, .bool true]) ∧ ls.length = idx ∧ (∀ l ∈ ls, CR (bstL rows L) l ∧ ∀ x ∈ l, x ∈ L) ∧ ∀ p ∈ L.take idx, ∃ l ∈ ls, ∃ q, it (bstL rows L) p q ∈ l) (L.map ((fun z => Itm.one (.v z)) ∘ nI)) S1 0 [] ?s1 ?s2 ⟨rfl, [], rfl, rfl, (fun l z => nomatch z), fun p z => nomatch z⟩
    case s1 =>
      rintro idx d acc s hd ⟨rfl, ls, rfl, e1, e2, e3⟩
      rw [List.getElem?_map] at hd
      obtain ⟨p, hp, rfl⟩ := Option.map_eq_some_iff.mp hd
      have hpL := List.mem_of_getElem? hp
      refine ⟨trivial, ?_⟩
      unfold rounds_G1 rounds_T1 rounds_M1
      show (gNm 5 (.one (.v (nI p))) _ _).Ok _
      simp only [envE, so_seq, so_if, so_ret, so_retN, so_exp, so_nil, so_nx, so_rt, so_asg, so_asgG, so_par2, so_par3, ok_gNm, ok_gMore, ok_gNone, so_asgT, so_sub, so_for, ok_TB, ok_Tru, ok_notT, ok_andT, ok_orT, ok_andV, ok_orV, ok_notV, ok_iteE, ok_frz, ok_new, ok_mfArg, ok_mfBin, ok_lc, ok_M, ok_M0, ok_moNone, ok_moSome, ok_Sl,
  ok_bin, ok_un, ok_arg, ok_cons, ok_nil, ok_call, ok_var, ok_C, ok_ok, ok_stuck, ok_noX, bOf_bool, low_v, iOf_int, addD_int, subD_int, negD_int, ltD_int, leD_int, gtD_int, geD_int, fInt_int, isD_bool, isNotD_bool, tru_bool, List.map_cons, List.map_nil, List.length_cons, List.length_nil, List.replicate_succ, List.replicate_zero, List.cons_append, List.nil_append,
  List.append_nil, List.getElem?_cons_zero, List.getElem?_cons_succ, List.set_cons_zero, List.set_cons_succ, Option.some.injEq, exists_eq_left', exists_eq_left, true_and, and_true, true_implies, false_implies, implies_true, Bool.false_eq_true, reduceCtorEq, false_and, and_false, D.v.injEq, PyData.int.injEq, D.ref.injEq, p1i_int, p2_two, p3_three, decide_true, Bool.not_true, Bool.not_false, decide_eq_true_eq, decide_eq_false_iff_not, wipeE, ok_yes]
      have hk := ring_ok (n := rows.length) (st := s) hn hc hl hpL ho
      refine hk.mono ?_
      rintro _ _ ⟨rfl, l, q, rfl, h1, h2, h3⟩
      refine ⟨_, rfl, rfl, ls ++ [l], by rw [List.map_append]; rfl, by rw [List.length_append, e1]; rfl, fun w hw => ?_, fun p' hp' => ?_⟩
      · rcases List.mem_append.mp hw with z | z
        · exact e2 w z
        · rw [List.mem_singleton.mp z]; exact ⟨h1, h3⟩
      · rw [Nat.zero_add] at hp'
        rw [List.take_add_one, hp] at hp'
        rcases List.mem_append.mp hp' with z | z
        · obtain ⟨l', h4, h5⟩ := e3 p' (by rw [Nat.zero_add]; exact z)
          exact ⟨l', List.mem_append_left _ h4, h5⟩
        · have : p' = p := List.mem_singleton.mp z
          rw [this]
          exact ⟨l, List.mem_append_right _ (.head _), q, h2⟩
    case s2 =>
      rintro acc s ⟨rfl, ls, rfl, e1, e2, e3⟩
      refine ⟨trivial, ?_⟩
      rw [Nat.zero_add, List.length_map, List.take_of_length_le (Nat.le_refl _)] at e3
      rw [Nat.zero_add, List.length_map] at e1
      have R : Rs (bstL rows L) L (dif ls) := ⟨dif_nd ls, fun l => by
        rw [dif_mem]
        refine ⟨fun h => e2 l h, fun ⟨c, h⟩ => ?_⟩
        obtain ⟨x, hx⟩ := List.exists_mem_of_ne_nil l c.ne
        obtain ⟨l', h1, q, h2⟩ := e3 x (h x hx)
        rw [c.uniq (e2 l' h1).1 (c.orbit hx q) h2]
        exact h1⟩
      exact ⟨rfl, ls, rfl, e1, R⟩
    · simp only [List.nil_append] at hcl
      refine hcl.mono ?_
      rintro _ s ⟨rfl, ls, rfl, e1, R⟩
      rw [dict_R (by rw [e1]; omega), ok_ok]
      generalize dif ls = rs at R
      have hs1 : s = st ++ O.lst (out.map rdD) :: (more ++ [O.dct false (askK L (bstL rows L))]) := by rw [← hS, mid_push]
      subst hs1
      generalize more ++ [O.dct false (askK L (bstL rows L))] = mr
      rw [mid_push]
      have hat : (st ++ O.lst (out.map rdD) :: (mr ++ [O.tab (tabR rs)]))[(st ++ O.lst (out.map rdD) :: mr).length]? = some (O.tab (tabR rs)) := by
        rw [← mid_push]; exact end_at
      have hat2 : ∀ out' : List (List (List Nat)), (st ++ O.lst (out'.map rdD) :: (mr ++ [O.tab (tabR rs)]))[(st ++ O.lst (out.map rdD) :: mr).length]? = some (O.tab (tabR rs)) := fun out' => by
        rw [List.getElem?_append_right (by rw [List.length_append, List.length_cons]; omega)] at hat ⊢
        rw [List.length_append, List.length_cons, show st.length + (mr.length + 1) - st.length = mr.length + 1 by omega] at hat ⊢
        exact hat
      generalize (st ++ O.lst (out.map rdD) :: mr).length = tb at hat hat2
      generalize mr ++ [O.tab (tabR rs)] = mt at hat hat2
      obtain ⟨qs, g1, g2, g3⟩ := rds_step ne R hr
      unfold rounds_B1_3
      simp only [envE, so_seq, so_if, so_ret, so_retN, so_exp, so_nil, so_nx, so_rt, so_asg, so_asgG, so_par2, so_par3, ok_gNm, ok_gMore, ok_gNone, so_asgT, so_sub, so_for, ok_TB, ok_Tru, ok_notT, ok_andT, ok_orT, ok_andV, ok_orV, ok_notV, ok_iteE, ok_frz, ok_new, ok_mfArg, ok_mfBin, ok_lc, ok_M, ok_M0, ok_moNone, ok_moSome, ok_Sl,
  ok_bin, ok_un, ok_arg, ok_cons, ok_nil, ok_call, ok_var, ok_C, ok_ok, ok_stuck, ok_noX, bOf_bool, low_v, iOf_int, addD_int, subD_int, negD_int, ltD_int, leD_int, gtD_int, geD_int, fInt_int, isD_bool, isNotD_bool, tru_bool, List.map_cons, List.map_nil, List.length_cons, List.length_nil, List.replicate_succ, List.replicate_zero, List.cons_append, List.nil_append,
  List.append_nil, List.getElem?_cons_zero, List.getElem?_cons_succ, List.set_cons_zero, List.set_cons_succ, Option.some.injEq, exists_eq_left', exists_eq_left, true_and, and_true, true_implies, false_implies, implies_true, Bool.false_eq_true, reduceCtorEq, false_and, and_false, D.v.injEq, PyData.int.injEq, D.ref.injEq, p1i_int, p2_two, p3_three, decide_true, Bool.not_true, Bool.not_false, decide_eq_true_eq, decide_eq_false_iff_not, sorT_R hat, g2]
      refine ⟨isL_ref mid_at, ?_⟩
      rw [tup_list, ok_ok, Fw.append_at mid_at (by rw [List.length_map]; omega), ok_ok, mid_set]
      have ea : out.map rdD ++ [PyData.tuple (qs.map tNs)] = (out ++ [qs]).map rdD := by rw [List.map_append]; rfl
      rw [ea]
      unfold rounds_B1_4
      rw [so_lockT (n := tb) rfl (hat2 _)]
      unfold rounds_E3
      simp only [envE, so_seq, so_if, so_ret, so_retN, so_exp, so_nil, so_nx, so_rt, so_asg, so_asgG, so_par2, so_par3, ok_gNm, ok_gMore, ok_gNone, so_asgT, so_sub, so_for, ok_TB, ok_Tru, ok_notT, ok_andT, ok_orT, ok_andV, ok_orV, ok_notV, ok_iteE, ok_frz, ok_new, ok_mfArg, ok_mfBin, ok_lc, ok_M, ok_M0, ok_moNone, ok_moSome, ok_Sl,
  ok_bin, ok_un, ok_arg, ok_cons, ok_nil, ok_call, ok_var, ok_C, ok_ok, ok_stuck, ok_noX, bOf_bool, low_v, iOf_int, addD_int, subD_int, negD_int, ltD_int, leD_int, gtD_int, geD_int, fInt_int, isD_bool, isNotD_bool, tru_bool, List.map_cons, List.map_nil, List.length_cons, List.length_nil, List.replicate_succ, List.replicate_zero, List.cons_append, List.nil_append,
  List.append_nil, List.getElem?_cons_zero, List.getElem?_cons_succ, List.set_cons_zero, List.set_cons_succ, Option.some.injEq, exists_eq_left', exists_eq_left, true_and, and_true, true_implies, false_implies, implies_true, Bool.false_eq_true, reduceCtorEq, false_and, and_false, D.v.injEq, PyData.int.injEq, D.ref.injEq, p1i_int, p2_two, p3_three, decide_true, Bool.not_true, Bool.not_false, decide_eq_true_eq, decide_eq_false_iff_not, ok_Tab]
      have hset : ((st ++ O.lst ((out ++ [qs]).map rdD) :: mt).set tb (.lck true (tabR rs)))[tb]? = some (.lck true (tabR rs)) := List.getElem?_set_self (List.getElem?_eq_some_iff.mp (hat2 _)).1
      rw [hset]
      simp only [envE, so_seq, so_if, so_ret, so_retN, so_exp, so_nil, so_nx, so_rt, so_asg, so_asgG, so_par2, so_par3, ok_gNm, ok_gMore, ok_gNone, so_asgT, so_sub, so_for, ok_TB, ok_Tru, ok_notT, ok_andT, ok_orT, ok_andV, ok_orV, ok_notV, ok_iteE, ok_frz, ok_new, ok_mfArg, ok_mfBin, ok_lc, ok_M, ok_M0, ok_moNone, ok_moSome, ok_Sl,
  ok_bin, ok_un, ok_arg, ok_cons, ok_nil, ok_call, ok_var, ok_C, ok_ok, ok_stuck, ok_noX, bOf_bool, low_v, iOf_int, addD_int, subD_int, negD_int, ltD_int, leD_int, gtD_int, geD_int, fInt_int, isD_bool, isNotD_bool, tru_bool, List.map_cons, List.map_nil, List.length_cons, List.length_nil, List.replicate_succ, List.replicate_zero, List.cons_append, List.nil_append,
  List.append_nil, List.getElem?_cons_zero, List.getElem?_cons_succ, List.set_cons_zero, List.set_cons_succ, Option.some.injEq, exists_eq_left', exists_eq_left, true_and, and_true, true_implies, false_implies, implies_true, Bool.false_eq_true, reduceCtorEq, false_and, and_false, D.v.injEq, PyData.int.injEq, D.ref.injEq, p1i_int, p2_two, p3_three, decide_true, Bool.not_true, Bool.not_false, decide_eq_true_eq, decide_eq_false_iff_not]
      have hkeys : keysI (tabR rs) = rs.map fun l => Itm.one (.v (tNs l)) := by unfold keysI tabR; rw [List.map_map]; rfl
      rw [hkeys]
      have hgl := gone_lt hl hc ne R
      refine forL_inv (fun idx e2 s2 => s2 = (st ++ O.lst ((out ++ [qs]).map rdD) :: mt).set tb (.lck true (tabR rs)) ∧ ∃ y5 y6, e2 = [some (.v (hallD rows)), some (.v (lNs (gone (rs.take idx) L))), some (.ref st.length), some (.ref o), some (.ref tb), y5, y6]) _ _ _ 0 ?_ ?_ ⟨rfl, _, _, by rw [List.take_zero, gone_nil]⟩
      · rintro idx d e2 s2 hd ⟨rfl, y5, y6, rfl⟩
        rw [List.getElem?_map] at hd
        obtain ⟨l, hl', rfl⟩ := Option.map_eq_some_iff.mp hd
        refine ⟨trivial, ?_⟩
        unfold rounds_G3 rounds_B2 rounds_E2
        show (gNm 6 (.one (.v (tNs l))) _ _).Ok _
        simp only [envE, so_seq, so_if, so_ret, so_retN, so_exp, so_nil, so_nx, so_rt, so_asg, so_asgG, so_par2, so_par3, ok_gNm, ok_gMore, ok_gNone, so_asgT, so_sub, so_for, ok_TB, ok_Tru, ok_notT, ok_andT, ok_orT, ok_andV, ok_orV, ok_notV, ok_iteE, ok_frz, ok_new, ok_mfArg, ok_mfBin, ok_lc, ok_M, ok_M0, ok_moNone, ok_moSome, ok_Sl,
  ok_bin, ok_un, ok_arg, ok_cons, ok_nil, ok_call, ok_var, ok_C, ok_ok, ok_stuck, ok_noX, bOf_bool, low_v, iOf_int, addD_int, subD_int, negD_int, ltD_int, leD_int, gtD_int, geD_int, fInt_int, isD_bool, isNotD_bool, tru_bool, List.map_cons, List.map_nil, List.length_cons, List.length_nil, List.replicate_succ, List.replicate_zero, List.cons_append, List.nil_append,
  List.append_nil, List.getElem?_cons_zero, List.getElem?_cons_succ, List.set_cons_zero, List.set_cons_succ, Option.some.injEq, exists_eq_left', exists_eq_left, true_and, and_true, true_implies, false_implies, implies_true, Bool.false_eq_true, reduceCtorEq, false_and, and_false, D.v.injEq, PyData.int.injEq, D.ref.injEq, p1i_int, p2_two, p3_three, decide_true, Bool.not_true, Bool.not_false, decide_eq_true_eq, decide_eq_false_iff_not, ok_seq, seqW_list, List.map_map]
        rw [lcL_auto (fun i => !decide (i ∈ l)) nI]
        rotate_left
        · intro i hi
          unfold rounds_G2 rounds_T2 rounds_M2
          show (gNm 5 (.one (.v (nI i))) _ _).Ok _
          simp only [envE, so_seq, so_if, so_ret, so_retN, so_exp, so_nil, so_nx, so_rt, so_asg, so_asgG, so_par2, so_par3, ok_gNm, ok_gMore, ok_gNone, so_asgT, so_sub, so_for, ok_TB, ok_Tru, ok_notT, ok_andT, ok_orT, ok_andV, ok_orV, ok_notV, ok_iteE, ok_frz, ok_new, ok_mfArg, ok_mfBin, ok_lc, ok_M, ok_M0, ok_moNone, ok_moSome, ok_Sl,
  ok_bin, ok_un, ok_arg, ok_cons, ok_nil, ok_call, ok_var, ok_C, ok_ok, ok_stuck, ok_noX, bOf_bool, low_v, iOf_int, addD_int, subD_int, negD_int, ltD_int, leD_int, gtD_int, geD_int, fInt_int, isD_bool, isNotD_bool, tru_bool, List.map_cons, List.map_nil, List.length_cons, List.length_nil, List.replicate_succ, List.replicate_zero, List.cons_append, List.nil_append,
  List.append_nil, List.getElem?_cons_zero, List.getElem?_cons_succ, List.set_cons_zero, List.set_cons_succ, Option.some.injEq, exists_eq_left', exists_eq_left, true_and, and_true, true_implies, false_implies, implies_true, Bool.false_eq_true, reduceCtorEq, false_and, and_false, D.v.injEq, PyData.int.injEq, D.ref.injEq, p1i_int, p2_two, p3_three, decide_true, Bool.not_true, Bool.not_false, decide_eq_true_eq, decide_eq_false_iff_not, wipeE, notin_tN]
        rw [ok_ok]
        rw [Nat.zero_add, List.take_add_one, hl', show (some l).toList = [l] from rfl, gone_snoc]
        exact ⟨rfl, _, _, rfl⟩
      · rintro e2 s2 ⟨rfl, y5, y6, rfl⟩
        refine ⟨trivial, ?_⟩
        rw [Nat.zero_add, List.length_map, List.take_of_length_le (Nat.le_refl _), sto_back (hat2 _)]
        refine ⟨(gone rs L).length, hgl, gone rs L, out ++ [qs], mt, _, _, _, _, rfl, fun i h => hl i (mem_gone.mp h).1, nd.sublist List.filter_sublist, g3, ?_, rfl, rfl⟩
        rw [List.length_append, List.length_singleton]
        omega
  · intro h
    have e0 : L = [] := by cases L with
      | nil => rfl
      | cons a r => cases h
    subst e0
    unfold S_rounds_3
    simp only [envE, so_seq, so_if, so_ret, so_retN, so_exp, so_nil, so_nx, so_rt, so_asg, so_asgG, so_par2, so_par3, ok_gNm, ok_gMore, ok_gNone, so_asgT, so_sub, so_for, ok_TB, ok_Tru, ok_notT, ok_andT, ok_orT, ok_andV, ok_orV, ok_notV, ok_iteE, ok_frz, ok_new, ok_mfArg, ok_mfBin, ok_lc, ok_M, ok_M0, ok_moNone, ok_moSome, ok_Sl,
  ok_bin, ok_un, ok_arg, ok_cons, ok_nil, ok_call, ok_var, ok_C, ok_ok, ok_stuck, ok_noX, bOf_bool, low_v, iOf_int, addD_int, subD_int, negD_int, ltD_int, leD_int, gtD_int, geD_int, fInt_int, isD_bool, isNotD_bool, tru_bool, List.map_cons, List.map_nil, List.length_cons, List.length_nil, List.replicate_succ, List.replicate_zero, List.cons_append, List.nil_append,
  List.append_nil, List.getElem?_cons_zero, List.getElem?_cons_succ, List.set_cons_zero, List.set_cons_succ, Option.some.injEq, exists_eq_left', exists_eq_left, true_and, and_true, true_implies, false_implies, implies_true, Bool.false_eq_true, reduceCtorEq, false_and, and_false, D.v.injEq, PyData.int.injEq, D.ref.injEq, p1i_int, p2_two, p3_three, decide_true, Bool.not_true, Bool.not_false, decide_eq_true_eq, decide_eq_false_iff_not, tup_of mid_at]
    refine ⟨mid_take, out, rfl, ?_⟩
    have := hr [] .nil
    rwa [List.append_nil] at this
end
end Wk36
namespace Wk36
open PySem PySem.Spec PyProof.Rows L2 Fw Fw.Hl Fw.Ho Fw.Rg Fw.Da Fw.An
section
variable {rows : List (List Nat)} {n i j h g k m o p : Nat} {d e w L l ring : List Nat} {rs qs : List (List Nat)} {top : Nat → Nat} {st more : Sto} {x y : O}
theorem head_CR (c : CR top l) (h : l.head? = some p) : ∃ m, l = trl top p m ∧ 1 ≤ m ∧ it top p m = p ∧ ∀ x ∈ l, p ≤ x := by
  obtain ⟨i, m, h1, h2, h3, h4⟩ := c.ex
  have : i = p := by
    rw [h2, List.head?_eq_getElem?, trl_get h1] at h
    exact Option.some.inj h
  subst this
  exact ⟨m, h2, h1, h3, h4⟩
theorem ring_here (h1 : 1 ≤ m) (nd : (trl top p m).Nodup) (h : it top p m ∈ trl top p m) (hy : g ∈ trl top p m) (hmin : ∀ x ∈ trl top p m, g ≤ x) :
    (CR top l ∧ l.head? = some p) ↔ (it top p m = p ∧ p = g) ∧ l = trl top p m := by
  constructor
  · rintro ⟨c, hh⟩
    obtain ⟨r, e1, e2, e3, e4⟩ := head_CR c hh
    have em : m = r := rep_uniq nd h (e1 ▸ c.nd) (by rw [e3]; exact mem_trl.mpr ⟨0, e2, rfl⟩)
    subst em
    refine ⟨⟨e3, Nat.le_antisymm (e4 g (e1 ▸ hy)) (hmin p (mem_trl.mpr ⟨0, h1, rfl⟩))⟩, e1⟩
  · rintro ⟨⟨e1, e2⟩, rfl⟩
    refine ⟨⟨⟨p, m, h1, rfl, e1, fun x hx => by rw [e2]; exact hmin x hx⟩, nd⟩, ?_⟩
    rw [List.head?_eq_getElem?, trl_get h1]
    rfl
theorem walk_ok {x0 x2 x5 x6 : Option D} (hn : n ≤ 50) (hc : ∀ i ∈ L, top i ∈ L) (hl : ∀ i ∈ L, i < n) (hp : p ∈ L) (hrl : rs.length ≤ 50) (ho : st[o]? = some (.dct false (askK L top))) {x7 x8 : Option D} {T : D → Sto → Prop} :
    (law_rounds_B2 [x0, some (.v (lNs L)), x2, some (.ref o), some (.v (nI p)), x5, some (.v (.list (rs.map tNs))), x7, x8] st).Ok
      (fun e t => t = st ∧ ∃ x7 x8 ls, e = [x0, some (.v (lNs L)), x2, some (.ref o), some (.v (nI p)), x5, some (.v (.list ((rs ++ ls).map tNs))), x7, x8] ∧ ls.length ≤ 1 ∧ ∀ l, l ∈ ls ↔ CR top l ∧ l.head? = some p) T := by
  have disp1 : ∀ {a : PyData} {s}, gDisp [.v a] s = .ok [a] s := fun {_ _} => rfl
  unfold law_rounds_B2
  simp only [envE, so_seq, so_if, so_ret, so_retN, so_exp, so_nil, so_nx, so_rt, so_asg, so_asgG, so_par2, so_par3, ok_gNm, ok_gMore, ok_gNone, so_asgT, so_sub, so_for, ok_TB, ok_Tru, ok_notT, ok_andT, ok_orT, ok_andV, ok_orV, ok_notV, ok_iteE, ok_frz, ok_new, ok_mfArg, ok_mfBin, ok_lc, ok_M, ok_M0, ok_moNone, ok_moSome, ok_Sl,
  ok_bin, ok_un, ok_arg, ok_cons, ok_nil, ok_call, ok_var, ok_C, ok_ok, ok_stuck, ok_noX, bOf_bool, low_v, iOf_int, addD_int, subD_int, negD_int, ltD_int, leD_int, gtD_int, geD_int, fInt_int, isD_bool, isNotD_bool, tru_bool, List.map_cons, List.map_nil, List.length_cons, List.length_nil, List.replicate_succ, List.replicate_zero, List.cons_append, List.nil_append,
  List.append_nil, List.getElem?_cons_zero, List.getElem?_cons_succ, List.set_cons_zero, List.set_cons_succ, Option.some.injEq, exists_eq_left', exists_eq_left, true_and, and_true, true_implies, false_implies, implies_true, Bool.false_eq_true, reduceCtorEq, false_and, and_false, D.v.injEq, PyData.int.injEq, D.ref.injEq, p1i_int, p2_two, p3_three, decide_true, Bool.not_true, Bool.not_false, decide_eq_true_eq, decide_eq_false_iff_not, disp1, point_at hp ho]
  refine ⟨by decide, ?_⟩
  unfold law_rounds_B2_2
  simp only [envE, so_seq, so_if, so_ret, so_retN, so_exp, so_nil, so_nx, so_rt, so_asg, so_asgG, so_par2, so_par3, ok_gNm, ok_gMore, ok_gNone, so_asgT, so_sub, so_for, ok_TB, ok_Tru, ok_notT, ok_andT, ok_orT, ok_andV, ok_orV, ok_notV, ok_iteE, ok_frz, ok_new, ok_mfArg, ok_mfBin, ok_lc, ok_M, ok_M0, ok_moNone, ok_moSome, ok_Sl,
  ok_bin, ok_un, ok_arg, ok_cons, ok_nil, ok_call, ok_var, ok_C, ok_ok, ok_stuck, ok_noX, bOf_bool, low_v, iOf_int, addD_int, subD_int, negD_int, ltD_int, leD_int, gtD_int, geD_int, fInt_int, isD_bool, isNotD_bool, tru_bool, List.map_cons, List.map_nil, List.length_cons, List.length_nil, List.replicate_succ, List.replicate_zero, List.cons_append, List.nil_append,
  List.append_nil, List.getElem?_cons_zero, List.getElem?_cons_succ, List.set_cons_zero, List.set_cons_succ, Option.some.injEq, exists_eq_left', exists_eq_left, true_and, and_true, true_implies, false_implies, implies_true, Bool.false_eq_true, reduceCtorEq, false_and, and_false, D.v.injEq, PyData.int.injEq, D.ref.injEq, p1i_int, p2_two, p3_three, decide_true, Bool.not_true, Bool.not_false, decide_eq_true_eq, decide_eq_false_iff_not]
  refine whileL_inv (fun k e t => t = st ∧ ∃ m, k = n - m ∧ 1 ≤ m ∧ m ≤ n ∧ (trl top p m).Nodup ∧ e = [x0, some (.v (lNs L)), x2, some (.ref o), some (.v (nI p)), x5, some (.v (.list (rs.map tNs))), some (.v (lNs (trl top p m))), some (.v (nI (it top p m)))]) ?_ 1000000 (n - 1) _ _ (by omega) ⟨rfl, 1, rfl, Nat.le_refl _, by have := hl p hp; omega, List.pairwise_singleton _ _, rfl⟩
  rintro k e t ⟨rfl, m, rfl, h1, hm, nd, rfl⟩
  unfold law_rounds_T3
  simp only [envE, so_seq, so_if, so_ret, so_retN, so_exp, so_nil, so_nx, so_rt, so_asg, so_asgG, so_par2, so_par3, ok_gNm, ok_gMore, ok_gNone, so_asgT, so_sub, so_for, ok_TB, ok_Tru, ok_notT, ok_andT, ok_orT, ok_andV, ok_orV, ok_notV, ok_iteE, ok_frz, ok_new, ok_mfArg, ok_mfBin, ok_lc, ok_M, ok_M0, ok_moNone, ok_moSome, ok_Sl,
  ok_bin, ok_un, ok_arg, ok_cons, ok_nil, ok_call, ok_var, ok_C, ok_ok, ok_stuck, ok_noX, bOf_bool, low_v, iOf_int, addD_int, subD_int, negD_int, ltD_int, leD_int, gtD_int, geD_int, fInt_int, isD_bool, isNotD_bool, tru_bool, List.map_cons, List.map_nil, List.length_cons, List.length_nil, List.replicate_succ, List.replicate_zero, List.cons_append, List.nil_append,
  List.append_nil, List.getElem?_cons_zero, List.getElem?_cons_succ, List.set_cons_zero, List.set_cons_succ, Option.some.injEq, exists_eq_left', exists_eq_left, true_and, and_true, true_implies, false_implies, implies_true, Bool.false_eq_true, reduceCtorEq, false_and, and_false, D.v.injEq, PyData.int.injEq, D.ref.injEq, p1i_int, p2_two, p3_three, decide_true, Bool.not_true, Bool.not_false, decide_eq_true_eq, decide_eq_false_iff_not, notin_lN]
  constructor
  · intro h
    rw [Bool.not_eq_true', decide_eq_false_iff_not] at h
    obtain ⟨nd', hm'⟩ := trl_more hc hp hl nd h
    unfold law_rounds_B3
    have hcat : ∀ s, gCat (.v (lNs (trl top p m))) (.v (.list [nI (it top p m)])) s = .ok ((trl top p (m + 1)).map nI) s := fun s => by
      rw [cat_list (by rw [List.length_map, trl_len]; show m + 1 ≤ _; omega), trl_succ, List.map_append]
      rfl
    simp only [envE, so_seq, so_if, so_ret, so_retN, so_exp, so_nil, so_nx, so_rt, so_asg, so_asgG, so_par2, so_par3, ok_gNm, ok_gMore, ok_gNone, so_asgT, so_sub, so_for, ok_TB, ok_Tru, ok_notT, ok_andT, ok_orT, ok_andV, ok_orV, ok_notV, ok_iteE, ok_frz, ok_new, ok_mfArg, ok_mfBin, ok_lc, ok_M, ok_M0, ok_moNone, ok_moSome, ok_Sl,
  ok_bin, ok_un, ok_arg, ok_cons, ok_nil, ok_call, ok_var, ok_C, ok_ok, ok_stuck, ok_noX, bOf_bool, low_v, iOf_int, addD_int, subD_int, negD_int, ltD_int, leD_int, gtD_int, geD_int, fInt_int, isD_bool, isNotD_bool, tru_bool, List.map_cons, List.map_nil, List.length_cons, List.length_nil, List.replicate_succ, List.replicate_zero, List.cons_append, List.nil_append,
  List.append_nil, List.getElem?_cons_zero, List.getElem?_cons_succ, List.set_cons_zero, List.set_cons_succ, Option.some.injEq, exists_eq_left', exists_eq_left, true_and, and_true, true_implies, false_implies, implies_true, Bool.false_eq_true, reduceCtorEq, false_and, and_false, D.v.injEq, PyData.int.injEq, D.ref.injEq, p1i_int, p2_two, p3_three, decide_true, Bool.not_true, Bool.not_false, decide_eq_true_eq, decide_eq_false_iff_not, disp1, hcat, point_at (it_in hc hp m) ho]
    exact ⟨by decide, n - (m + 1), by omega, m + 1, rfl, by omega, hm', nd', rfl⟩
  · intro h
    rw [Bool.not_eq_false', decide_eq_true_eq] at h
    have rne : trl top p m ≠ [] := fun z => by
      have := congrArg List.length z
      rw [trl_len, List.length_nil] at this
      omega
    obtain ⟨y, hy, hmin, hmn⟩ := min_nats rne
    unfold law_rounds_B2_3
    have hmn2 : ∀ s, fIntsL lstMin [.v (lNs (trl top p m))] s = .ok (.v (nI y)) s := fun s => hmn s
    have htl : ∀ s, fTuple [.v (lNs (trl top p m))] s = .ok (.v (tNs (trl top p m))) s := fun s => rfl
    have fin : ∀ b : Bool, (b = true ↔ it top p m = p ∧ p = y) → (fInt [.v (.bool b)] t).Ok fun x s => (gRep (.v (.list [tNs (trl top p m)])) x s).Ok fun zs s => (gCat (.v (.list (rs.map tNs))) (.v (.list zs)) s).Ok fun zs s => s = t ∧ ∃ x7 x8 ls, [x0, some (D.v (lNs L)), x2, some (D.ref o), some (D.v (nI p)), x5, some (D.v (PyData.list zs)), some (D.v (lNs (trl top p m))), some (D.v (nI (it top p m)))] = [x0, some (.v (lNs L)), x2, some (.ref o), some (.v (nI p)), x5, some (.v (.list ((rs ++ ls).map tNs))), x7, x8] ∧ ls.length ≤ 1 ∧ ∀ l, l ∈ ls ↔ CR top l ∧ l.head? = some p := fun b hb => by
      have fb : fInt [.v (.bool b)] t = .ok (.v (.int (if b then 1 else 0 : Nat))) t := by cases b <;> rfl
      rw [fb, ok_ok, rep_one (by split <;> omega), ok_ok, cat_list (by rw [List.length_map, List.length_replicate]; split <;> omega), ok_ok]
      refine ⟨rfl, _, _, List.replicate (if b then 1 else 0) (trl top p m), by rw [List.map_append, List.map_replicate], by rw [List.length_replicate]; split <;> omega, fun l => ?_⟩
      rw [ring_here h1 nd h hy hmin, ← hb]
      cases b with
      | true => simp
      | false => simp
    simp only [envE, so_seq, so_if, so_ret, so_retN, so_exp, so_nil, so_nx, so_rt, so_asg, so_asgG, so_par2, so_par3, ok_gNm, ok_gMore, ok_gNone, so_asgT, so_sub, so_for, ok_TB, ok_Tru, ok_notT, ok_andT, ok_orT, ok_andV, ok_orV, ok_notV, ok_iteE, ok_frz, ok_new, ok_mfArg, ok_mfBin, ok_lc, ok_M, ok_M0, ok_moNone, ok_moSome, ok_Sl,
  ok_bin, ok_un, ok_arg, ok_cons, ok_nil, ok_call, ok_var, ok_C, ok_ok, ok_stuck, ok_noX, bOf_bool, low_v, iOf_int, addD_int, subD_int, negD_int, ltD_int, leD_int, gtD_int, geD_int, fInt_int, isD_bool, isNotD_bool, tru_bool, List.map_cons, List.map_nil, List.length_cons, List.length_nil, List.replicate_succ, List.replicate_zero, List.cons_append, List.nil_append,
  List.append_nil, List.getElem?_cons_zero, List.getElem?_cons_succ, List.set_cons_zero, List.set_cons_succ, Option.some.injEq, exists_eq_left', exists_eq_left, true_and, and_true, true_implies, false_implies, implies_true, Bool.false_eq_true, reduceCtorEq, false_and, and_false, D.v.injEq, PyData.int.injEq, D.ref.injEq, p1i_int, p2_two, p3_three, decide_true, Bool.not_true, Bool.not_false, decide_eq_true_eq, decide_eq_false_iff_not, eqD_int, hmn2, htl, disp1]
    refine ⟨fun e1 => fin _ ?_, fun e1 => fin _ ?_⟩
    · rw [decide_eq_true_eq]
      have e1 : it top p m = p := by omega
      exact ⟨fun z => ⟨e1, by omega⟩, fun z => by rw [z.2]⟩
    · rw [decide_eq_true_eq]
      exact ⟨fun z => absurd z e1, fun z => absurd (by rw [z.1]) e1⟩
theorem law_rounds_ok (H : Hou rows) (hn : rows.length ≤ 50) : (f_law_rounds [.v (hallD rows)] st).Ok fun r t => t = st ∧ ∃ out, r = .v (rdsD out) ∧ Rds rows (List.range rows.length) out := by
  refine fnT_ok ?_
  have disp0' : ∀ {s}, gDisp [] s = .ok [] s := fun {_} => rfl
  unfold S_law_rounds
  simp only [envE, so_seq, so_if, so_ret, so_retN, so_exp, so_nil, so_nx, so_rt, so_asg, so_asgG, so_par2, so_par3, ok_gNm, ok_gMore, ok_gNone, so_asgT, so_sub, so_for, ok_TB, ok_Tru, ok_notT, ok_andT, ok_orT, ok_andV, ok_orV, ok_notV, ok_iteE, ok_frz, ok_new, ok_mfArg, ok_mfBin, ok_lc, ok_M, ok_M0, ok_moNone, ok_moSome, ok_Sl,
  ok_bin, ok_un, ok_arg, ok_cons, ok_nil, ok_call, ok_var, ok_C, ok_ok, ok_stuck, ok_noX, bOf_bool, low_v, iOf_int, addD_int, subD_int, negD_int, ltD_int, leD_int, gtD_int, geD_int, fInt_int, isD_bool, isNotD_bool, tru_bool, List.map_cons, List.map_nil, List.length_cons, List.length_nil, List.replicate_succ, List.replicate_zero, List.cons_append, List.nil_append,
  List.append_nil, List.getElem?_cons_zero, List.getElem?_cons_succ, List.set_cons_zero, List.set_cons_succ, Option.some.injEq, exists_eq_left', exists_eq_left, true_and, and_true, true_implies, false_implies, implies_true, Bool.false_eq_true, reduceCtorEq, false_and, and_false, D.v.injEq, PyData.int.injEq, D.ref.injEq, p1i_int, p2_two, p3_three, decide_true, Bool.not_true, Bool.not_false, decide_eq_true_eq, decide_eq_false_iff_not, hall0, ok_Rg1]
  refine ⟨rg_ok hn, ?_⟩
  rw [rg_nats]
  simp only [disp0', envE, so_seq, so_if, so_ret, so_retN, so_exp, so_nil, so_nx, so_rt, so_asg, so_asgG, so_par2, so_par3, ok_gNm, ok_gMore, ok_gNone, so_asgT, so_sub, so_for, ok_TB, ok_Tru, ok_notT, ok_andT, ok_orT, ok_andV, ok_orV, ok_notV, ok_iteE, ok_frz, ok_new, ok_mfArg, ok_mfBin, ok_lc, ok_M, ok_M0, ok_moNone, ok_moSome, ok_Sl,
  ok_bin, ok_un, ok_arg, ok_cons, ok_nil, ok_call, ok_var, ok_C, ok_ok, ok_stuck, ok_noX, bOf_bool, low_v, iOf_int, addD_int, subD_int, negD_int, ltD_int, leD_int, gtD_int, geD_int, fInt_int, isD_bool, isNotD_bool, tru_bool, List.map_cons, List.map_nil, List.length_cons, List.length_nil, List.replicate_succ, List.replicate_zero, List.cons_append, List.nil_append,
  List.append_nil, List.getElem?_cons_zero, List.getElem?_cons_succ, List.set_cons_zero, List.set_cons_succ, Option.some.injEq, exists_eq_left', exists_eq_left, true_and, and_true, true_implies, false_implies, implies_true, Bool.false_eq_true, reduceCtorEq, false_and, and_false, D.v.injEq, PyData.int.injEq, D.ref.injEq, p1i_int, p2_two, p3_three, decide_true, Bool.not_true, Bool.not_false, decide_eq_true_eq, decide_eq_false_iff_not]
  refine ⟨by decide, ?_⟩
  unfold S_law_rounds_2
  simp only [envE, so_seq, so_if, so_ret, so_retN, so_exp, so_nil, so_nx, so_rt, so_asg, so_asgG, so_par2, so_par3, ok_gNm, ok_gMore, ok_gNone, so_asgT, so_sub, so_for, ok_TB, ok_Tru, ok_notT, ok_andT, ok_orT, ok_andV, ok_orV, ok_notV, ok_iteE, ok_frz, ok_new, ok_mfArg, ok_mfBin, ok_lc, ok_M, ok_M0, ok_moNone, ok_moSome, ok_Sl,
  ok_bin, ok_un, ok_arg, ok_cons, ok_nil, ok_call, ok_var, ok_C, ok_ok, ok_stuck, ok_noX, bOf_bool, low_v, iOf_int, addD_int, subD_int, negD_int, ltD_int, leD_int, gtD_int, geD_int, fInt_int, isD_bool, isNotD_bool, tru_bool, List.map_cons, List.map_nil, List.length_cons, List.length_nil, List.replicate_succ, List.replicate_zero, List.cons_append, List.nil_append,
  List.append_nil, List.getElem?_cons_zero, List.getElem?_cons_succ, List.set_cons_zero, List.set_cons_succ, Option.some.injEq, exists_eq_left', exists_eq_left, true_and, and_true, true_implies, false_implies, implies_true, Bool.false_eq_true, reduceCtorEq, false_and, and_false, D.v.injEq, PyData.int.injEq, D.ref.injEq, p1i_int, p2_two, p3_three, decide_true, Bool.not_true, Bool.not_false, decide_eq_true_eq, decide_eq_false_iff_not]
  refine whileL_inv (fun k e t => ∃ L out more x3 x4 x5 x6 x7 x8, k = L.length ∧ (∀ i ∈ L, i < rows.length) ∧ L.Nodup ∧ (∀ rest, Rds rows L rest → Rds rows (List.range rows.length) (out ++ rest)) ∧ out.length + L.length ≤ rows.length ∧ t = st ++ O.lst (out.map rdD) :: more ∧ e = [some (.v (hallD rows)), some (.v (lNs L)), some (.ref st.length), x3, x4, x5, x6, x7, x8]) ?_ 1000000 rows.length _ _ (by omega) ⟨List.range rows.length, [], [], none, none, none, none, none, none, by rw [List.length_range], (fun i h => List.mem_range.mp h), List.nodup_range, (fun rest h => h), by rw [List.length_range]; simp, rfl, rfl⟩
  rintro _ e t ⟨L, out, more, x3, x4, x5, x6, x7, x8, rfl, hl, nd, hr, hlen, rfl, rfl⟩
  unfold law_rounds_T5
  simp only [envE, so_seq, so_if, so_ret, so_retN, so_exp, so_nil, so_nx, so_rt, so_asg, so_asgG, so_par2, so_par3, ok_gNm, ok_gMore, ok_gNone, so_asgT, so_sub, so_for, ok_TB, ok_Tru, ok_notT, ok_andT, ok_orT, ok_andV, ok_orV, ok_notV, ok_iteE, ok_frz, ok_new, ok_mfArg, ok_mfBin, ok_lc, ok_M, ok_M0, ok_moNone, ok_moSome, ok_Sl,
  ok_bin, ok_un, ok_arg, ok_cons, ok_nil, ok_call, ok_var, ok_C, ok_ok, ok_stuck, ok_noX, bOf_bool, low_v, iOf_int, addD_int, subD_int, negD_int, ltD_int, leD_int, gtD_int, geD_int, fInt_int, isD_bool, isNotD_bool, tru_bool, List.map_cons, List.map_nil, List.length_cons, List.length_nil, List.replicate_succ, List.replicate_zero, List.cons_append, List.nil_append,
  List.append_nil, List.getElem?_cons_zero, List.getElem?_cons_succ, List.set_cons_zero, List.set_cons_succ, Option.some.injEq, exists_eq_left', exists_eq_left, true_and, and_true, true_implies, false_implies, implies_true, Bool.false_eq_true, reduceCtorEq, false_and, and_false, D.v.injEq, PyData.int.injEq, D.ref.injEq, p1i_int, p2_two, p3_three, decide_true, Bool.not_true, Bool.not_false, decide_eq_true_eq, decide_eq_false_iff_not, disp0', ne_nil]
  constructor
  · intro h
    have ne : L ≠ [] := fun z => by rw [z] at h; cases h
    have hc : ∀ i ∈ L, bstL rows L i ∈ L := fun i hi => (bstL_ok H (hl i hi) hl ne).1
    have hLn : L.length ≤ rows.length := by
      have := sub_len nd (m := List.range rows.length) fun x hx => List.mem_range.mpr (hl x hx)
      rwa [List.length_range] at this
    unfold law_rounds_B1 law_rounds_E2
    simp only [envE, so_seq, so_if, so_ret, so_retN, so_exp, so_nil, so_nx, so_rt, so_asg, so_asgG, so_par2, so_par3, ok_gNm, ok_gMore, ok_gNone, so_asgT, so_sub, so_for, ok_TB, ok_Tru, ok_notT, ok_andT, ok_orT, ok_andV, ok_orV, ok_notV, ok_iteE, ok_frz, ok_new, ok_mfArg, ok_mfBin, ok_lc, ok_M, ok_M0, ok_moNone, ok_moSome, ok_Sl,
  ok_bin, ok_un, ok_arg, ok_cons, ok_nil, ok_call, ok_var, ok_C, ok_ok, ok_stuck, ok_noX, bOf_bool, low_v, iOf_int, addD_int, subD_int, negD_int, ltD_int, leD_int, gtD_int, geD_int, fInt_int, isD_bool, isNotD_bool, tru_bool, List.map_cons, List.map_nil, List.length_cons, List.length_nil, List.replicate_succ, List.replicate_zero, List.cons_append, List.nil_append,
  List.append_nil, List.getElem?_cons_zero, List.getElem?_cons_succ, List.set_cons_zero, List.set_cons_succ, Option.some.injEq, exists_eq_left', exists_eq_left, true_and, and_true, true_implies, false_implies, implies_true, Bool.false_eq_true, reduceCtorEq, false_and, and_false, D.v.injEq, PyData.int.injEq, D.ref.injEq, p1i_int, p2_two, p3_three, decide_true, Bool.not_true, Bool.not_false, decide_eq_true_eq, decide_eq_false_iff_not, ok_seq, seqW_list, List.map_map]
    unfold law_rounds_T2
    rw [lcL_all _ (fun i => PyData.tuple [nI i, nI (bstL rows L i)])]
    rotate_left
    · intro i hi
      unfold law_rounds_G2 law_rounds_M2 law_rounds_E1
      show (gNm 4 (.one (.v (nI i))) _ _).Ok _
      simp only [envE, so_seq, so_if, so_ret, so_retN, so_exp, so_nil, so_nx, so_rt, so_asg, so_asgG, so_par2, so_par3, ok_gNm, ok_gMore, ok_gNone, so_asgT, so_sub, so_for, ok_TB, ok_Tru, ok_notT, ok_andT, ok_orT, ok_andV, ok_orV, ok_notV, ok_iteE, ok_frz, ok_new, ok_mfArg, ok_mfBin, ok_lc, ok_M, ok_M0, ok_moNone, ok_moSome, ok_Sl,
  ok_bin, ok_un, ok_arg, ok_cons, ok_nil, ok_call, ok_var, ok_C, ok_ok, ok_stuck, ok_noX, bOf_bool, low_v, iOf_int, addD_int, subD_int, negD_int, ltD_int, leD_int, gtD_int, geD_int, fInt_int, isD_bool, isNotD_bool, tru_bool, List.map_cons, List.map_nil, List.length_cons, List.length_nil, List.replicate_succ, List.replicate_zero, List.cons_append, List.nil_append,
  List.append_nil, List.getElem?_cons_zero, List.getElem?_cons_succ, List.set_cons_zero, List.set_cons_succ, Option.some.injEq, exists_eq_left', exists_eq_left, true_and, and_true, true_implies, false_implies, implies_true, Bool.false_eq_true, reduceCtorEq, false_and, and_false, D.v.injEq, PyData.int.injEq, D.ref.injEq, p1i_int, p2_two, p3_three, decide_true, Bool.not_true, Bool.not_false, decide_eq_true_eq, decide_eq_false_iff_not, wipeE, hall1, hrow (hl i hi), ok_seq, seqW_tup, List.map_map]
      rw [lcL_auto (fun h => decide (h ∈ L)) nI]
      rotate_left
      · intro h hh
        unfold law_rounds_G1 law_rounds_T1 law_rounds_M1
        show (gNm 5 (.one (.v (nI h))) _ _).Ok _
        simp only [envE, so_seq, so_if, so_ret, so_retN, so_exp, so_nil, so_nx, so_rt, so_asg, so_asgG, so_par2, so_par3, ok_gNm, ok_gMore, ok_gNone, so_asgT, so_sub, so_for, ok_TB, ok_Tru, ok_notT, ok_andT, ok_orT, ok_andV, ok_orV, ok_notV, ok_iteE, ok_frz, ok_new, ok_mfArg, ok_mfBin, ok_lc, ok_M, ok_M0, ok_moNone, ok_moSome, ok_Sl,
  ok_bin, ok_un, ok_arg, ok_cons, ok_nil, ok_call, ok_var, ok_C, ok_ok, ok_stuck, ok_noX, bOf_bool, low_v, iOf_int, addD_int, subD_int, negD_int, ltD_int, leD_int, gtD_int, geD_int, fInt_int, isD_bool, isNotD_bool, tru_bool, List.map_cons, List.map_nil, List.length_cons, List.length_nil, List.replicate_succ, List.replicate_zero, List.cons_append, List.nil_append,
  List.append_nil, List.getElem?_cons_zero, List.getElem?_cons_succ, List.set_cons_zero, List.set_cons_succ, Option.some.injEq, exists_eq_left', exists_eq_left, true_and, and_true, true_implies, false_implies, implies_true, Bool.false_eq_true, reduceCtorEq, false_and, and_false, D.v.injEq, PyData.int.injEq, D.ref.injEq, p1i_int, p2_two, p3_three, decide_true, Bool.not_true, Bool.not_false, decide_eq_true_eq, decide_eq_false_iff_not, wipeE, in_lN]
      rw [ok_ok, best_here H (hl i hi) hl ne, ok_ok]
      exact ⟨rfl, rfl⟩
    rw [ok_ok, dict_ask nd, ok_ok]
    have ho : (st ++ O.lst (out.map rdD) :: more ++ [O.dct false (askK L (bstL rows L))])[(st ++ O.lst (out.map rdD) :: more).length]? = some (.dct false (askK L (bstL rows L))) := end_at
    rw [mid_push] at ho ⊢
    generalize (st ++ O.lst (out.map rdD) :: more).length = o at ho ⊢
    generalize more ++ [O.dct false (askK L (bstL rows L))] = mr at ho ⊢
    unfold law_rounds_B1_2
    simp only [envE, so_seq, so_if, so_ret, so_retN, so_exp, so_nil, so_nx, so_rt, so_asg, so_asgG, so_par2, so_par3, ok_gNm, ok_gMore, ok_gNone, so_asgT, so_sub, so_for, ok_TB, ok_Tru, ok_notT, ok_andT, ok_orT, ok_andV, ok_orV, ok_notV, ok_iteE, ok_frz, ok_new, ok_mfArg, ok_mfBin, ok_lc, ok_M, ok_M0, ok_moNone, ok_moSome, ok_Sl,
  ok_bin, ok_un, ok_arg, ok_cons, ok_nil, ok_call, ok_var, ok_C, ok_ok, ok_stuck, ok_noX, bOf_bool, low_v, iOf_int, addD_int, subD_int, negD_int, ltD_int, leD_int, gtD_int, geD_int, fInt_int, isD_bool, isNotD_bool, tru_bool, List.map_cons, List.map_nil, List.length_cons, List.length_nil, List.replicate_succ, List.replicate_zero, List.cons_append, List.nil_append,
  List.append_nil, List.getElem?_cons_zero, List.getElem?_cons_succ, List.set_cons_zero, List.set_cons_succ, Option.some.injEq, exists_eq_left', exists_eq_left, true_and, and_true, true_implies, false_implies, implies_true, Bool.false_eq_true, reduceCtorEq, false_and, and_false, D.v.injEq, PyData.int.injEq, D.ref.injEq, p1i_int, p2_two, p3_three, decide_true, Bool.not_true, Bool.not_false, decide_eq_true_eq, decide_eq_false_iff_not, disp0']
    unfold law_rounds_B1_3 law_rounds_E3
    have hgl0 : ∀ s, gList [.v (lNs L)] s = .ok (L.map nI) s := fun s => rfl
    simp only [envE, so_seq, so_if, so_ret, so_retN, so_exp, so_nil, so_nx, so_rt, so_asg, so_asgG, so_par2, so_par3, ok_gNm, ok_gMore, ok_gNone, so_asgT, so_sub, so_for, ok_TB, ok_Tru, ok_notT, ok_andT, ok_orT, ok_andV, ok_orV, ok_notV, ok_iteE, ok_frz, ok_new, ok_mfArg, ok_mfBin, ok_lc, ok_M, ok_M0, ok_moNone, ok_moSome, ok_Sl,
  ok_bin, ok_un, ok_arg, ok_cons, ok_nil, ok_call, ok_var, ok_C, ok_ok, ok_stuck, ok_noX, bOf_bool, low_v, iOf_int, addD_int, subD_int, negD_int, ltD_int, leD_int, gtD_int, geD_int, fInt_int, isD_bool, isNotD_bool, tru_bool, List.map_cons, List.map_nil, List.length_cons, List.length_nil, List.replicate_succ, List.replicate_zero, List.cons_append, List.nil_append,
  List.append_nil, List.getElem?_cons_zero, List.getElem?_cons_succ, List.set_cons_zero, List.set_cons_succ, Option.some.injEq, exists_eq_left', exists_eq_left, true_and, and_true, true_implies, false_implies, implies_true, Bool.false_eq_true, reduceCtorEq, false_and, and_false, D.v.injEq, PyData.int.injEq, D.ref.injEq, p1i_int, p2_two, p3_three, decide_true, Bool.not_true, Bool.not_false, decide_eq_true_eq, decide_eq_false_iff_not, ok_seq, hgl0, seqW_list, List.map_map]
    refine forL_inv (fun idx e2 s2 => s2 = st ++ O.lst (out.map rdD) :: mr ∧ ∃ rs y4 y7 y8, e2 = [some (.v (hallD rows)), some (.v (lNs L)), some (.ref st.length), some (.ref o), y4, x5, some (.v (.list (rs.map tNs))), y7, y8] ∧ rs.Nodup ∧ rs.length ≤ idx ∧ ∀ l, l ∈ rs ↔ CR (bstL rows L) l ∧ ∃ p ∈ L.take idx, l.head? = some p) _ _ _ 0 ?_ ?_ ⟨rfl, [], _, _, _, rfl, List.nodup_nil, Nat.le_refl _, fun l => ⟨(fun z => nomatch z), fun ⟨_, p, z, _⟩ => by rw [List.take_zero] at z; cases z⟩⟩
    · rintro idx d e2 s2 hd ⟨rfl, rs, y4, y7, y8, rfl, q1, q2, q3⟩
      rw [List.getElem?_map] at hd
      obtain ⟨p, hp, rfl⟩ := Option.map_eq_some_iff.mp hd
      have hpL := List.mem_of_getElem? hp
      have hidx := (List.getElem?_eq_some_iff.mp hp).1
      refine ⟨trivial, ?_⟩
      unfold law_rounds_G3
      show (gNm 4 (.one (.v (nI p))) _ _).Ok _
      simp only [envE, so_seq, so_if, so_ret, so_retN, so_exp, so_nil, so_nx, so_rt, so_asg, so_asgG, so_par2, so_par3, ok_gNm, ok_gMore, ok_gNone, so_asgT, so_sub, so_for, ok_TB, ok_Tru, ok_notT, ok_andT, ok_orT, ok_andV, ok_orV, ok_notV, ok_iteE, ok_frz, ok_new, ok_mfArg, ok_mfBin, ok_lc, ok_M, ok_M0, ok_moNone, ok_moSome, ok_Sl,
  ok_bin, ok_un, ok_arg, ok_cons, ok_nil, ok_call, ok_var, ok_C, ok_ok, ok_stuck, ok_noX, bOf_bool, low_v, iOf_int, addD_int, subD_int, negD_int, ltD_int, leD_int, gtD_int, geD_int, fInt_int, isD_bool, isNotD_bool, tru_bool, List.map_cons, List.map_nil, List.length_cons, List.length_nil, List.replicate_succ, List.replicate_zero, List.cons_append, List.nil_append,
  List.append_nil, List.getElem?_cons_zero, List.getElem?_cons_succ, List.set_cons_zero, List.set_cons_succ, Option.some.injEq, exists_eq_left', exists_eq_left, true_and, and_true, true_implies, false_implies, implies_true, Bool.false_eq_true, reduceCtorEq, false_and, and_false, D.v.injEq, PyData.int.injEq, D.ref.injEq, p1i_int, p2_two, p3_three, decide_true, Bool.not_true, Bool.not_false, decide_eq_true_eq, decide_eq_false_iff_not]
      have hw := walk_ok (n := rows.length) (rs := rs) (x0 := some (.v (hallD rows))) (x2 := some (.ref st.length)) (x5 := x5) (x6 := none) (x7 := y7) (x8 := y8) (T := fun d s => D.low (List.length st) d = true ∧ List.take (List.length st) s = st ∧ ∃ out, d = D.v (rdsD out) ∧ Rds rows (List.range rows.length) out) hn hc hl hpL (by omega) ho
      refine hw.mono ?_ fun _ _ z => z
      rintro _ _ ⟨rfl, z7, z8, ls, rfl, l1, l2⟩
      have hnew : ∀ p' ∈ L.take idx, p' ≠ p := fun p' h e => by
        subst e
        obtain ⟨j, hj, e⟩ := List.mem_iff_getElem.mp h
        rw [List.length_take] at hj
        rw [List.getElem_take] at e
        obtain ⟨_, e'⟩ := List.getElem?_eq_some_iff.mp hp
        have := (List.getElem_inj (h₀ := by omega) (h₁ := hidx) nd).mp (e.trans e'.symm)
        omega
      refine ⟨rfl, rs ++ ls, _, _, _, rfl, ?_, ?_, fun l => ?_⟩
      · refine List.nodup_append.mpr ⟨q1, ?_, fun a ha b hb e => ?_⟩
        · match ls, l1 with
          | [], _ => exact List.nodup_nil
          | [a], _ => exact List.pairwise_singleton _ _
        · obtain ⟨_, p', h4, h5⟩ := (q3 a).mp ha
          obtain ⟨_, h6⟩ := (l2 b).mp hb
          rw [e, h6] at h5
          exact hnew p' (by rw [Nat.zero_add] at h4; exact h4) (Option.some.inj h5).symm
      · rw [List.length_append]; omega
      · rw [List.mem_append, q3, l2, Nat.zero_add, List.take_add_one, hp]
        constructor
        · rintro (⟨c, p', h4, h5⟩ | ⟨c, h5⟩)
          · exact ⟨c, p', List.mem_append_left _ h4, h5⟩
          · exact ⟨c, p, List.mem_append_right _ (.head _), h5⟩
        · rintro ⟨c, p', h4, h5⟩
          rcases List.mem_append.mp h4 with z | z
          · exact .inl ⟨c, p', z, h5⟩
          · have : p' = p := List.mem_singleton.mp z
            subst this
            exact .inr ⟨c, h5⟩
    · rintro e2 s2 ⟨rfl, rs, y4, y7, y8, rfl, q1, q2, q3⟩
      refine ⟨trivial, ?_⟩
      rw [Nat.zero_add, List.length_map] at q2
      rw [Nat.zero_add, List.length_map, List.take_of_length_le (Nat.le_refl _)] at q3
      have R : Rs (bstL rows L) L rs := ⟨q1, fun l => by
        rw [q3]
        refine and_congr_right fun c => ⟨fun ⟨p, hp, hh⟩ x hx => ?_, fun h => ?_⟩
        · obtain ⟨m, rfl, _⟩ := head_CR c hh
          obtain ⟨k, _, rfl⟩ := mem_trl.mp hx
          exact it_in hc hp k
        · cases e : l with
          | nil => exact absurd e c.ne
          | cons a r => exact ⟨a, h a (by rw [e]; exact .head _), rfl⟩⟩
      obtain ⟨qs, g1, g2, g3⟩ := rds_step ne R hr
      unfold law_rounds_B1_4
      simp only [envE, so_seq, so_if, so_ret, so_retN, so_exp, so_nil, so_nx, so_rt, so_asg, so_asgG, so_par2, so_par3, ok_gNm, ok_gMore, ok_gNone, so_asgT, so_sub, so_for, ok_TB, ok_Tru, ok_notT, ok_andT, ok_orT, ok_andV, ok_orV, ok_notV, ok_iteE, ok_frz, ok_new, ok_mfArg, ok_mfBin, ok_lc, ok_M, ok_M0, ok_moNone, ok_moSome, ok_Sl,
  ok_bin, ok_un, ok_arg, ok_cons, ok_nil, ok_call, ok_var, ok_C, ok_ok, ok_stuck, ok_noX, bOf_bool, low_v, iOf_int, addD_int, subD_int, negD_int, ltD_int, leD_int, gtD_int, geD_int, fInt_int, isD_bool, isNotD_bool, tru_bool, List.map_cons, List.map_nil, List.length_cons, List.length_nil, List.replicate_succ, List.replicate_zero, List.cons_append, List.nil_append,
  List.append_nil, List.getElem?_cons_zero, List.getElem?_cons_succ, List.set_cons_zero, List.set_cons_succ, Option.some.injEq, exists_eq_left', exists_eq_left, true_and, and_true, true_implies, false_implies, implies_true, Bool.false_eq_true, reduceCtorEq, false_and, and_false, D.v.injEq, PyData.int.injEq, D.ref.injEq, p1i_int, p2_two, p3_three, decide_true, Bool.not_true, Bool.not_false, decide_eq_true_eq, decide_eq_false_iff_not, sortG_R, g2]
      refine ⟨isL_ref mid_at, ?_⟩
      rw [tup_list, ok_ok, Fw.append_at mid_at (by rw [List.length_map]; omega), ok_ok, mid_set]
      have ea : out.map rdD ++ [PyData.tuple (qs.map tNs)] = (out ++ [qs]).map rdD := by rw [List.map_append]; rfl
      rw [ea]
      unfold law_rounds_B1_5 law_rounds_E5
      simp only [envE, so_seq, so_if, so_ret, so_retN, so_exp, so_nil, so_nx, so_rt, so_asg, so_asgG, so_par2, so_par3, ok_gNm, ok_gMore, ok_gNone, so_asgT, so_sub, so_for, ok_TB, ok_Tru, ok_notT, ok_andT, ok_orT, ok_andV, ok_orV, ok_notV, ok_iteE, ok_frz, ok_new, ok_mfArg, ok_mfBin, ok_lc, ok_M, ok_M0, ok_moNone, ok_moSome, ok_Sl,
  ok_bin, ok_un, ok_arg, ok_cons, ok_nil, ok_call, ok_var, ok_C, ok_ok, ok_stuck, ok_noX, bOf_bool, low_v, iOf_int, addD_int, subD_int, negD_int, ltD_int, leD_int, gtD_int, geD_int, fInt_int, isD_bool, isNotD_bool, tru_bool, List.map_cons, List.map_nil, List.length_cons, List.length_nil, List.replicate_succ, List.replicate_zero, List.cons_append, List.nil_append,
  List.append_nil, List.getElem?_cons_zero, List.getElem?_cons_succ, List.set_cons_zero, List.set_cons_succ, Option.some.injEq, exists_eq_left', exists_eq_left, true_and, and_true, true_implies, false_implies, implies_true, Bool.false_eq_true, reduceCtorEq, false_and, and_false, D.v.injEq, PyData.int.injEq, D.ref.injEq, p1i_int, p2_two, p3_three, decide_true, Bool.not_true, Bool.not_false, decide_eq_true_eq, decide_eq_false_iff_not, ok_seq, seqW_list, List.map_map]
      have hgl := gone_lt hl hc ne R
      refine forL_inv (fun idx e2 s2 => s2 = st ++ O.lst ((out ++ [qs]).map rdD) :: mr ∧ ∃ z4 z7, e2 = [some (.v (hallD rows)), some (.v (lNs (gone (rs.take idx) L))), some (.ref st.length), some (.ref o), z4, x5, some (.v (.list (rs.map tNs))), z7, y8]) _ _ _ 0 ?_ ?_ ⟨rfl, _, _, by rw [List.take_zero, gone_nil]⟩
      · rintro idx d e2 s2 hd ⟨rfl, z4, z7, rfl⟩
        rw [List.getElem?_map] at hd
        obtain ⟨l, hl', rfl⟩ := Option.map_eq_some_iff.mp hd
        refine ⟨trivial, ?_⟩
        unfold law_rounds_G5 law_rounds_B4 law_rounds_E4
        show (gNm 7 (.one (.v (tNs l))) _ _).Ok _
        simp only [envE, so_seq, so_if, so_ret, so_retN, so_exp, so_nil, so_nx, so_rt, so_asg, so_asgG, so_par2, so_par3, ok_gNm, ok_gMore, ok_gNone, so_asgT, so_sub, so_for, ok_TB, ok_Tru, ok_notT, ok_andT, ok_orT, ok_andV, ok_orV, ok_notV, ok_iteE, ok_frz, ok_new, ok_mfArg, ok_mfBin, ok_lc, ok_M, ok_M0, ok_moNone, ok_moSome, ok_Sl,
  ok_bin, ok_un, ok_arg, ok_cons, ok_nil, ok_call, ok_var, ok_C, ok_ok, ok_stuck, ok_noX, bOf_bool, low_v, iOf_int, addD_int, subD_int, negD_int, ltD_int, leD_int, gtD_int, geD_int, fInt_int, isD_bool, isNotD_bool, tru_bool, List.map_cons, List.map_nil, List.length_cons, List.length_nil, List.replicate_succ, List.replicate_zero, List.cons_append, List.nil_append,
  List.append_nil, List.getElem?_cons_zero, List.getElem?_cons_succ, List.set_cons_zero, List.set_cons_succ, Option.some.injEq, exists_eq_left', exists_eq_left, true_and, and_true, true_implies, false_implies, implies_true, Bool.false_eq_true, reduceCtorEq, false_and, and_false, D.v.injEq, PyData.int.injEq, D.ref.injEq, p1i_int, p2_two, p3_three, decide_true, Bool.not_true, Bool.not_false, decide_eq_true_eq, decide_eq_false_iff_not, ok_seq, seqW_list, List.map_map]
        rw [lcL_auto (fun i => !decide (i ∈ l)) nI]
        rotate_left
        · intro i hi
          unfold law_rounds_G4 law_rounds_T4 law_rounds_M3
          show (gNm 4 (.one (.v (nI i))) _ _).Ok _
          simp only [envE, so_seq, so_if, so_ret, so_retN, so_exp, so_nil, so_nx, so_rt, so_asg, so_asgG, so_par2, so_par3, ok_gNm, ok_gMore, ok_gNone, so_asgT, so_sub, so_for, ok_TB, ok_Tru, ok_notT, ok_andT, ok_orT, ok_andV, ok_orV, ok_notV, ok_iteE, ok_frz, ok_new, ok_mfArg, ok_mfBin, ok_lc, ok_M, ok_M0, ok_moNone, ok_moSome, ok_Sl,
  ok_bin, ok_un, ok_arg, ok_cons, ok_nil, ok_call, ok_var, ok_C, ok_ok, ok_stuck, ok_noX, bOf_bool, low_v, iOf_int, addD_int, subD_int, negD_int, ltD_int, leD_int, gtD_int, geD_int, fInt_int, isD_bool, isNotD_bool, tru_bool, List.map_cons, List.map_nil, List.length_cons, List.length_nil, List.replicate_succ, List.replicate_zero, List.cons_append, List.nil_append,
  List.append_nil, List.getElem?_cons_zero, List.getElem?_cons_succ, List.set_cons_zero, List.set_cons_succ, Option.some.injEq, exists_eq_left', exists_eq_left, true_and, and_true, true_implies, false_implies, implies_true, Bool.false_eq_true, reduceCtorEq, false_and, and_false, D.v.injEq, PyData.int.injEq, D.ref.injEq, p1i_int, p2_two, p3_three, decide_true, Bool.not_true, Bool.not_false, decide_eq_true_eq, decide_eq_false_iff_not, wipeE, notin_tN]
        rw [ok_ok]
        rw [Nat.zero_add, List.take_add_one, hl', show (some l).toList = [l] from rfl, gone_snoc]
        exact ⟨rfl, _, _, rfl⟩
      · rintro e2 s2 ⟨rfl, z4, z7, rfl⟩
        refine ⟨trivial, ?_⟩
        rw [Nat.zero_add, List.length_map, List.take_of_length_le (Nat.le_refl _)]
        refine ⟨(gone rs L).length, hgl, gone rs L, out ++ [qs], mr, _, _, _, _, _, _, rfl, fun i h => hl i (mem_gone.mp h).1, nd.sublist List.filter_sublist, g3, ?_, rfl, rfl⟩
        rw [List.length_append, List.length_singleton]
        omega
  · intro h
    have e0 : L = [] := by cases L with
      | nil => rfl
      | cons a r => cases h
    subst e0
    unfold S_law_rounds_3
    simp only [envE, so_seq, so_if, so_ret, so_retN, so_exp, so_nil, so_nx, so_rt, so_asg, so_asgG, so_par2, so_par3, ok_gNm, ok_gMore, ok_gNone, so_asgT, so_sub, so_for, ok_TB, ok_Tru, ok_notT, ok_andT, ok_orT, ok_andV, ok_orV, ok_notV, ok_iteE, ok_frz, ok_new, ok_mfArg, ok_mfBin, ok_lc, ok_M, ok_M0, ok_moNone, ok_moSome, ok_Sl,
  ok_bin, ok_un, ok_arg, ok_cons, ok_nil, ok_call, ok_var, ok_C, ok_ok, ok_stuck, ok_noX, bOf_bool, low_v, iOf_int, addD_int, subD_int, negD_int, ltD_int, leD_int, gtD_int, geD_int, fInt_int, isD_bool, isNotD_bool, tru_bool, List.map_cons, List.map_nil, List.length_cons, List.length_nil, List.replicate_succ, List.replicate_zero, List.cons_append, List.nil_append,
  List.append_nil, List.getElem?_cons_zero, List.getElem?_cons_succ, List.set_cons_zero, List.set_cons_succ, Option.some.injEq, exists_eq_left', exists_eq_left, true_and, and_true, true_implies, false_implies, implies_true, Bool.false_eq_true, reduceCtorEq, false_and, and_false, D.v.injEq, PyData.int.injEq, D.ref.injEq, p1i_int, p2_two, p3_three, decide_true, Bool.not_true, Bool.not_false, decide_eq_true_eq, decide_eq_false_iff_not, tup_of mid_at]
    refine ⟨mid_take, out, rfl, ?_⟩
    have := hr [] .nil
    rwa [List.append_nil] at this
end
end Wk36
namespace Wk36
open PySem PySem.Spec PyProof.Rows L2 Fw Fw.Hl Fw.Ho Fw.Rg Fw.Da Fw.An
section
variable {rows : List (List Nat)} {n i j h g k m o p a v : Nat} {d e w L l ring : List Nat} {rs qs : List (List Nat)} {out : List (List (List Nat))} {top : Nat → Nat} {st more : Sto} {x y : O} {F P : List (Nat × Nat)}
theorem zip_nats' {l m : List Nat} : zip2I (l.map nI) (m.map nI) = (l.zip m).map fun p => .many [.v (nI p.1), .v (nI p.2)] := by
  unfold zip2I
  rw [List.zip_map, List.map_map]
  rfl
def rp (l : List Nat) : List (Nat × Nat) := l.zip (l.tail ++ l.take 1)
theorem rp_get (hk : k < l.length) : ∃ x y, l[k]? = some x ∧ l[(k + 1) % l.length]? = some y ∧ (rp l)[k]? = some (x, y) := by
  have hlen : (l.tail ++ l.take 1).length = l.length := by rw [List.length_append, List.length_tail, List.length_take]; omega
  have h1 : l[k]? = some l[k] := List.getElem?_eq_getElem hk
  have hy : ∃ y, l[(k + 1) % l.length]? = some y := ⟨l[(k + 1) % l.length]'(Nat.mod_lt _ (by omega)), List.getElem?_eq_getElem _⟩
  obtain ⟨y, hy⟩ := hy
  refine ⟨l[k], y, h1, hy, ?_⟩
  unfold rp
  refine List.getElem?_zip_eq_some.mpr ⟨h1, ?_⟩
  rw [← hy]
  by_cases z : k + 1 = l.length
  · rw [z, Nat.mod_self, List.getElem?_append_right (by rw [List.length_tail]; omega), List.length_tail, show k - (l.length - 1) = 0 by omega, List.getElem?_take_of_lt (by omega)]
  · rw [Nat.mod_eq_of_lt (by omega), List.getElem?_append_left (by rw [List.length_tail]; omega), List.getElem?_tail]
theorem rp_len : (rp l).length = l.length := by
  unfold rp
  rw [List.length_zip, List.length_append, List.length_tail, List.length_take]
  omega
theorem rp_mem {q : Nat × Nat} (h : q ∈ rp l) : ∃ k, k < l.length ∧ l[k]? = some q.1 ∧ l[(k + 1) % l.length]? = some q.2 := by
  obtain ⟨k, hk, e⟩ := List.mem_iff_getElem.mp h
  rw [rp_len] at hk
  obtain ⟨x, y, h1, h2, h3⟩ := rp_get hk
  rw [List.getElem?_eq_getElem (by rw [rp_len]; exact hk), e] at h3
  cases h3
  exact ⟨k, hk, h1, h2⟩
theorem rp_in {q : Nat × Nat} (h : q ∈ rp l) : q.1 ∈ l ∧ q.2 ∈ l := by
  obtain ⟨k, _, h1, h2⟩ := rp_mem h
  exact ⟨List.mem_of_getElem? h1, List.mem_of_getElem? h2⟩
def rsP (rs : List (List Nat)) : List (Nat × Nat) := rs.flatMap rp
def allP (out : List (List (List Nat))) : List (Nat × Nat) := out.flatMap rsP
theorem mem_allP {q : Nat × Nat} : q ∈ allP out ↔ ∃ rs ∈ out, ∃ l ∈ rs, q ∈ rp l := by
  unfold allP rsP
  simp only [List.mem_flatMap]
theorem allP_con (A : Rds rows L out) : ∀ p ∈ allP out, ∀ q ∈ allP out, p.1 = q.1 → p = q := by
  intro p hp q hq e
  obtain ⟨rs, h1, l, h2, h3⟩ := mem_allP.mp hp
  obtain ⟨qs, g1, l', g2, g3⟩ := mem_allP.mp hq
  have el : l = l' := A.one rs h1 l h2 qs g1 l' g2 p.1 (rp_in h3).1 (by rw [e]; exact (rp_in g3).1)
  subst el
  obtain ⟨k, hk, e1, e2⟩ := rp_mem h3
  obtain ⟨k', hk', e3, e4⟩ := rp_mem g3
  have nd := (A.mem rs h1 l h2).2.1
  rw [e, ← e3] at e1
  have ek : k = k' := (List.getElem?_inj hk nd).mp e1
  subst ek
  rw [e2] at e4
  exact Prod.ext e (Option.some.inj e4)
theorem allP_lt (A : Rds rows L out) (hl : ∀ i ∈ L, i < n) {q : Nat × Nat} (h : q ∈ allP out) : q.1 < n ∧ q.2 < n := by
  obtain ⟨rs, h1, l, h2, h3⟩ := mem_allP.mp h
  have := (A.mem rs h1 l h2).2.2
  exact ⟨hl _ (this _ (rp_in h3).1), hl _ (this _ (rp_in h3).2)⟩
def DealOf (rows : List (List Nat)) (d : List Nat) : Prop := d.length = rows.length ∧ ∃ out, Rds rows (List.range rows.length) out ∧ ∀ q ∈ allP out, at' d q.1 = q.2
theorem DealOf.nx {out : List (List (List Nat))} (h : ∀ q ∈ allP out, at' d q.1 = q.2) : Nx out (at' d) := fun rs hrs l hl k hk => by
  obtain ⟨x, y, h1, h2, h3⟩ := rp_get hk
  exact ⟨x, y, h1, h2, h _ (mem_allP.mpr ⟨rs, hrs, l, hl, List.mem_of_getElem? h3⟩)⟩
theorem range_lt : ∀ i ∈ List.range n, i < n := fun _ h => List.mem_range.mp h
theorem DealOf.uniq (H : Hou rows) (A : DealOf rows d) (B : DealOf rows e) : d = e := by
  obtain ⟨l1, out, A, h1⟩ := A
  obtain ⟨l2, out', B, h2⟩ := B
  have := A.uniq B
  subst this
  refine List.ext_getElem (by rw [l1, l2]) fun i hi hi' => ?_
  rw [← at_elem hi, ← at_elem hi']
  obtain ⟨rs, h3, l, h4, h5⟩ := A.all H range_lt i (List.mem_range.mpr (by omega))
  obtain ⟨k, hk, e⟩ := List.mem_iff_getElem.mp h5
  obtain ⟨x, y, g1, g2, g3⟩ := rp_get hk
  have ex : x = i := by rw [List.getElem?_eq_getElem hk] at g1; exact (Option.some.inj g1).symm.trans e
  subst ex
  have hq := mem_allP.mpr ⟨rs, h3, l, h4, List.mem_of_getElem? g3⟩
  rw [h1 _ hq, h2 _ hq]
theorem DealOf.lv (H : Hou rows) (A : DealOf rows d) : ∃ t, Lv rows.length (rk rows) (at' d) t := by
  obtain ⟨l1, out, A, h1⟩ := A
  exact A.lv H range_lt (DealOf.nx h1) (t := fun _ => 0) (r := 0) part0
theorem DealOf.dl (H : Hou rows) (A : DealOf rows d) : Dl rows.length d := by
  obtain ⟨t, V⟩ := A.lv H
  have l1 := A.1
  refine ⟨l1, ?_, fun x hx => ?_⟩
  · refine List.pairwise_iff_getElem.mpr fun i j hi hj hij e => ?_
    rw [← at_elem hi, ← at_elem hj] at e
    have := V.inj i (by omega) j (by omega) e
    omega
  · obtain ⟨i, hi, e⟩ := List.mem_iff_getElem.mp hx
    rw [← e, ← at_elem hi]
    exact V.lt i (by omega)
def wr (D : List Nat) (ps : List (Nat × Nat)) : List Nat := ps.foldl (fun D q => D.set q.1 q.2) D
theorem wr_app (D : List Nat) (ps qs : List (Nat × Nat)) : wr D (ps ++ qs) = wr (wr D ps) qs := List.foldl_append ..
theorem wr_len : ∀ (ps : List (Nat × Nat)) (D : List Nat), (wr D ps).length = D.length
  | [], D => rfl
  | q :: ps, D => (wr_len ps (D.set q.1 q.2)).trans (List.length_set ..)
theorem wr_at (con : ∀ p ∈ P, ∀ q ∈ P, p.1 = q.1 → p = q) : ∀ (ps : List (Nat × Nat)) (D : List Nat), (∀ q ∈ ps, q ∈ P) → ∀ q ∈ P, q.1 < D.length → (q ∈ ps ∨ at' D q.1 = q.2) → at' (wr D ps) q.1 = q.2
  | [], D, _, q, _, _, h => h.elim (fun z => nomatch z) id
  | x :: ps, D, hp, q, hq, hl, h => by
    refine wr_at con ps (D.set x.1 x.2) (fun z hz => hp z (.tail _ hz)) q hq (by rw [List.length_set]; exact hl) ?_
    by_cases e : x.1 = q.1
    · have := con x (hp x (.head _)) q hq e
      subst this
      refine .inr ?_
      unfold at'
      rw [List.getD_eq_getElem?_getD, List.getElem?_set_self hl]
      rfl
    · rcases h with h | h
      · rcases List.mem_cons.mp h with rfl | h
        · exact absurd rfl e
        · exact .inl h
      · refine .inr ?_
        unfold at' at h ⊢
        rw [List.getD_eq_getElem?_getD, List.getElem?_set_ne e, ← List.getD_eq_getElem?_getD]
        exact h
theorem take_rp (hk : k < l.length) {x y : Nat} (e : (rp l)[k]? = some (x, y)) : wr d ((rp l).take (k + 1)) = (wr d ((rp l).take k)).set x y := by
  rw [List.take_add_one, e, wr_app]
  rfl
theorem take_rs (e : rs[k]? = some l) : wr d (rsP (rs.take (k + 1))) = wr (wr d (rsP (rs.take k))) (rp l) := by
  unfold rsP
  rw [List.take_add_one, e, List.flatMap_append, wr_app]
  simp
theorem take_out (e : out[k]? = some rs) : wr d (allP (out.take (k + 1))) = wr (wr d (allP (out.take k))) (rsP rs) := by
  unfold allP
  rw [List.take_add_one, e, List.flatMap_append, wr_app]
  simp
theorem deal_ok (H : Hou rows) (hn : rows.length ≤ 50) : (f_deal_by_rings [.v (hallD rows)] st).Ok fun r t => t = st ∧ ∃ d, r = .v (tNs d) ∧ DealOf rows d := by
  refine fnT_ok ?_
  unfold S_deal_by_rings deal_by_rings_E1 deal_by_rings_T1
  simp only [envE, so_seq, so_if, so_ret, so_retN, so_exp, so_nil, so_nx, so_rt, so_asg, so_asgG, so_par2, so_par3, ok_gNm, ok_gMore, ok_gNone, so_asgT, so_sub, so_for, ok_TB, ok_Tru, ok_notT, ok_andT, ok_orT, ok_andV, ok_orV, ok_notV, ok_iteE, ok_frz, ok_new, ok_mfArg, ok_mfBin, ok_lc, ok_M, ok_M0, ok_moNone, ok_moSome, ok_Sl,
  ok_bin, ok_un, ok_arg, ok_cons, ok_nil, ok_call, ok_var, ok_C, ok_ok, ok_stuck, ok_noX, bOf_bool, low_v, iOf_int, addD_int, subD_int, negD_int, ltD_int, leD_int, gtD_int, geD_int, fInt_int, isD_bool, isNotD_bool, tru_bool, List.map_cons, List.map_nil, List.length_cons, List.length_nil, List.replicate_succ, List.replicate_zero, List.cons_append, List.nil_append,
  List.append_nil, List.getElem?_cons_zero, List.getElem?_cons_succ, List.set_cons_zero, List.set_cons_succ, Option.some.injEq, exists_eq_left', exists_eq_left, true_and, and_true, true_implies, false_implies, implies_true, Bool.false_eq_true, reduceCtorEq, false_and, and_false, D.v.injEq, PyData.int.injEq, D.ref.injEq, p1i_int, p2_two, p3_three, decide_true, Bool.not_true, Bool.not_false, decide_eq_true_eq, decide_eq_false_iff_not, ok_R1, hall0]
  refine ⟨⟨by omega, by omega⟩, ?_⟩
  rw [Int.toNat_natCast, show rngI 0 rows.length = (List.range rows.length).map (fun i : Nat => Itm.one (.v (.int (0 + (i : Int))))) from rfl, lcL_all _ (fun _ => nI 0)]
  rotate_left
  · intro a ha
    unfold deal_by_rings_G1 deal_by_rings_M1
    show (gNm 2 (.one (.v (.int (0 + (a : Int))))) _ _).Ok _
    simp only [envE, so_seq, so_if, so_ret, so_retN, so_exp, so_nil, so_nx, so_rt, so_asg, so_asgG, so_par2, so_par3, ok_gNm, ok_gMore, ok_gNone, so_asgT, so_sub, so_for, ok_TB, ok_Tru, ok_notT, ok_andT, ok_orT, ok_andV, ok_orV, ok_notV, ok_iteE, ok_frz, ok_new, ok_mfArg, ok_mfBin, ok_lc, ok_M, ok_M0, ok_moNone, ok_moSome, ok_Sl,
  ok_bin, ok_un, ok_arg, ok_cons, ok_nil, ok_call, ok_var, ok_C, ok_ok, ok_stuck, ok_noX, bOf_bool, low_v, iOf_int, addD_int, subD_int, negD_int, ltD_int, leD_int, gtD_int, geD_int, fInt_int, isD_bool, isNotD_bool, tru_bool, List.map_cons, List.map_nil, List.length_cons, List.length_nil, List.replicate_succ, List.replicate_zero, List.cons_append, List.nil_append,
  List.append_nil, List.getElem?_cons_zero, List.getElem?_cons_succ, List.set_cons_zero, List.set_cons_succ, Option.some.injEq, exists_eq_left', exists_eq_left, true_and, and_true, true_implies, false_implies, implies_true, Bool.false_eq_true, reduceCtorEq, false_and, and_false, D.v.injEq, PyData.int.injEq, D.ref.injEq, p1i_int, p2_two, p3_three, decide_true, Bool.not_true, Bool.not_false, decide_eq_true_eq, decide_eq_false_iff_not, wipeE]
    rfl
  rw [ok_ok]
  have hz : (List.range rows.length).map (fun _ => nI 0) = (List.replicate rows.length 0).map nI := by
    rw [List.map_replicate]
    exact List.eq_replicate_iff.mpr ⟨by simp, fun b hb => by obtain ⟨_, _, rfl⟩ := List.mem_map.mp hb; rfl⟩
  rw [hz]
  unfold S_deal_by_rings_2 deal_by_rings_E4
  simp only [envE, so_seq, so_if, so_ret, so_retN, so_exp, so_nil, so_nx, so_rt, so_asg, so_asgG, so_par2, so_par3, ok_gNm, ok_gMore, ok_gNone, so_asgT, so_sub, so_for, ok_TB, ok_Tru, ok_notT, ok_andT, ok_orT, ok_andV, ok_orV, ok_notV, ok_iteE, ok_frz, ok_new, ok_mfArg, ok_mfBin, ok_lc, ok_M, ok_M0, ok_moNone, ok_moSome, ok_Sl,
  ok_bin, ok_un, ok_arg, ok_cons, ok_nil, ok_call, ok_var, ok_C, ok_ok, ok_stuck, ok_noX, bOf_bool, low_v, iOf_int, addD_int, subD_int, negD_int, ltD_int, leD_int, gtD_int, geD_int, fInt_int, isD_bool, isNotD_bool, tru_bool, List.map_cons, List.map_nil, List.length_cons, List.length_nil, List.replicate_succ, List.replicate_zero, List.cons_append, List.nil_append,
  List.append_nil, List.getElem?_cons_zero, List.getElem?_cons_succ, List.set_cons_zero, List.set_cons_succ, Option.some.injEq, exists_eq_left', exists_eq_left, true_and, and_true, true_implies, false_implies, implies_true, Bool.false_eq_true, reduceCtorEq, false_and, and_false, D.v.injEq, PyData.int.injEq, D.ref.injEq, p1i_int, p2_two, p3_three, decide_true, Bool.not_true, Bool.not_false, decide_eq_true_eq, decide_eq_false_iff_not, ok_seq]
  have hr := rounds_ok (st := st ++ [O.lst ((List.replicate rows.length 0).map nI)]) H hn
  refine hr.mono ?_
  rintro _ _ ⟨rfl, out, rfl, A⟩
  show (seqW (.v (.tuple (out.map rdD))) _).Ok _
  simp only [envE, so_seq, so_if, so_ret, so_retN, so_exp, so_nil, so_nx, so_rt, so_asg, so_asgG, so_par2, so_par3, ok_gNm, ok_gMore, ok_gNone, so_asgT, so_sub, so_for, ok_TB, ok_Tru, ok_notT, ok_andT, ok_orT, ok_andV, ok_orV, ok_notV, ok_iteE, ok_frz, ok_new, ok_mfArg, ok_mfBin, ok_lc, ok_M, ok_M0, ok_moNone, ok_moSome, ok_Sl,
  ok_bin, ok_un, ok_arg, ok_cons, ok_nil, ok_call, ok_var, ok_C, ok_ok, ok_stuck, ok_noX, bOf_bool, low_v, iOf_int, addD_int, subD_int, negD_int, ltD_int, leD_int, gtD_int, geD_int, fInt_int, isD_bool, isNotD_bool, tru_bool, List.map_cons, List.map_nil, List.length_cons, List.length_nil, List.replicate_succ, List.replicate_zero, List.cons_append, List.nil_append,
  List.append_nil, List.getElem?_cons_zero, List.getElem?_cons_succ, List.set_cons_zero, List.set_cons_succ, Option.some.injEq, exists_eq_left', exists_eq_left, true_and, and_true, true_implies, false_implies, implies_true, Bool.false_eq_true, reduceCtorEq, false_and, and_false, D.v.injEq, PyData.int.injEq, D.ref.injEq, p1i_int, p2_two, p3_three, decide_true, Bool.not_true, Bool.not_false, decide_eq_true_eq, decide_eq_false_iff_not, seqW_tup, List.map_map]
  have hlt : ∀ {rs}, rs ∈ out → ∀ {l}, l ∈ rs → ∀ x ∈ l, x < rows.length := fun {rs} h1 {l} h2 x hx => List.mem_range.mp ((A.mem rs h1 l h2).2.2 x hx)
  refine forL_inv (fun a e t => t = st ++ [O.lst ((wr (List.replicate rows.length 0) (allP (out.take a))).map nI)] ∧ ∃ x3 x4 x5 x6, e = [some (.v (hallD rows)), some (.ref st.length), none, x3, x4, x5, x6]) _ _ _ 0 ?_ ?_ ⟨rfl, _, _, _, _, rfl⟩
  · rintro a dd e t hd ⟨rfl, x3, x4, x5, x6, rfl⟩
    rw [Nat.zero_add] at *
    rw [List.getElem?_map] at hd
    obtain ⟨rs, hrs, rfl⟩ := Option.map_eq_some_iff.mp hd
    have hrs' := List.mem_of_getElem? hrs
    refine ⟨trivial, ?_⟩
    rw [take_out hrs]
    generalize hD : wr (List.replicate rows.length 0) (allP (out.take a)) = D0
    have hDl : D0.length = rows.length := by rw [← hD, wr_len, List.length_replicate]
    unfold deal_by_rings_G4 deal_by_rings_B1 deal_by_rings_E3
    show (gNm 3 (.one (.v (.tuple (rs.map tNs)))) _ _).Ok _
    simp only [envE, so_seq, so_if, so_ret, so_retN, so_exp, so_nil, so_nx, so_rt, so_asg, so_asgG, so_par2, so_par3, ok_gNm, ok_gMore, ok_gNone, so_asgT, so_sub, so_for, ok_TB, ok_Tru, ok_notT, ok_andT, ok_orT, ok_andV, ok_orV, ok_notV, ok_iteE, ok_frz, ok_new, ok_mfArg, ok_mfBin, ok_lc, ok_M, ok_M0, ok_moNone, ok_moSome, ok_Sl,
  ok_bin, ok_un, ok_arg, ok_cons, ok_nil, ok_call, ok_var, ok_C, ok_ok, ok_stuck, ok_noX, bOf_bool, low_v, iOf_int, addD_int, subD_int, negD_int, ltD_int, leD_int, gtD_int, geD_int, fInt_int, isD_bool, isNotD_bool, tru_bool, List.map_cons, List.map_nil, List.length_cons, List.length_nil, List.replicate_succ, List.replicate_zero, List.cons_append, List.nil_append,
  List.append_nil, List.getElem?_cons_zero, List.getElem?_cons_succ, List.set_cons_zero, List.set_cons_succ, Option.some.injEq, exists_eq_left', exists_eq_left, true_and, and_true, true_implies, false_implies, implies_true, Bool.false_eq_true, reduceCtorEq, false_and, and_false, D.v.injEq, PyData.int.injEq, D.ref.injEq, p1i_int, p2_two, p3_three, decide_true, Bool.not_true, Bool.not_false, decide_eq_true_eq, decide_eq_false_iff_not, ok_seq, seqW_tup, List.map_map]
    refine forL_inv (fun b e t => t = st ++ [O.lst ((wr D0 (rsP (rs.take b))).map nI)] ∧ ∃ x4 x5 x6, e = [some (.v (hallD rows)), some (.ref st.length), none, some (.v (.tuple (rs.map tNs))), x4, x5, x6]) _ _ _ 0 ?_ ?_ ⟨rfl, _, _, _, rfl⟩
    · rintro b dd e t hd ⟨rfl, x4, x5, x6, rfl⟩
      rw [Nat.zero_add] at *
      rw [List.getElem?_map] at hd
      obtain ⟨l, hl, rfl⟩ := Option.map_eq_some_iff.mp hd
      have hl' := List.mem_of_getElem? hl
      refine ⟨trivial, ?_⟩
      rw [take_rs hl]
      generalize hD2 : wr D0 (rsP (rs.take b)) = D2
      have hD2l : D2.length = rows.length := by rw [← hD2, wr_len, hDl]
      have hll : l.length ≤ rows.length := by
        have := sub_len (A.mem rs hrs' l hl').2.1 (m := List.range rows.length) fun x hx => List.mem_range.mpr (hlt hrs' hl' x hx)
        rwa [List.length_range] at this
      unfold deal_by_rings_G3 deal_by_rings_B2 deal_by_rings_E2
      show (gNm 4 (.one (.v (tNs l))) _ _).Ok _
      have a1 : ∀ s, slD (.v (tNs l)) (some (1 : Int)) none s = .ok (.v (tNs l.tail)) s := fun s => by
        rw [slice_tup, show (some (1 : Int)) = some ((1 : Nat) : Int) from rfl, cut_drop, ← List.map_drop, List.drop_one]
      have a2 : ∀ s, slD (.v (tNs l)) none (some (1 : Int)) s = .ok (.v (tNs (l.take 1))) s := fun s => by
        rw [slice_tup, show (some (1 : Int)) = some ((1 : Nat) : Int) from rfl, cut_take, ← List.map_take]
      have a3 : ∀ s, addD (.v (tNs l.tail)) (.v (tNs (l.take 1))) s = .ok (.v (tNs (l.tail ++ l.take 1))) s := fun s => by
        show (if (l.tail.map nI).length + ((l.take 1).map nI).length ≤ lim then Out.ok (D.v (.tuple (l.tail.map nI ++ (l.take 1).map nI))) s else .stuck) = _
        rw [if_pos (by rw [List.length_map, List.length_map, List.length_tail, List.length_take]; show _ ≤ 1000000; omega), ← List.map_append]
      simp only [ok_zip, envE, so_seq, so_if, so_ret, so_retN, so_exp, so_nil, so_nx, so_rt, so_asg, so_asgG, so_par2, so_par3, ok_gNm, ok_gMore, ok_gNone, so_asgT, so_sub, so_for, ok_TB, ok_Tru, ok_notT, ok_andT, ok_orT, ok_andV, ok_orV, ok_notV, ok_iteE, ok_frz, ok_new, ok_mfArg, ok_mfBin, ok_lc, ok_M, ok_M0, ok_moNone, ok_moSome, ok_Sl,
  ok_bin, ok_un, ok_arg, ok_cons, ok_nil, ok_call, ok_var, ok_C, ok_ok, ok_stuck, ok_noX, bOf_bool, low_v, iOf_int, addD_int, subD_int, negD_int, ltD_int, leD_int, gtD_int, geD_int, fInt_int, isD_bool, isNotD_bool, tru_bool, List.map_cons, List.map_nil, List.length_cons, List.length_nil, List.replicate_succ, List.replicate_zero, List.cons_append, List.nil_append,
  List.append_nil, List.getElem?_cons_zero, List.getElem?_cons_succ, List.set_cons_zero, List.set_cons_succ, Option.some.injEq, exists_eq_left', exists_eq_left, true_and, and_true, true_implies, false_implies, implies_true, Bool.false_eq_true, reduceCtorEq, false_and, and_false, D.v.injEq, PyData.int.injEq, D.ref.injEq, p1i_int, p2_two, p3_three, decide_true, Bool.not_true, Bool.not_false, decide_eq_true_eq, decide_eq_false_iff_not, a1, a2, a3, zip_tup, zip_nats']
      refine forL_inv (fun c e t => t = st ++ [O.lst ((wr D2 ((rp l).take c)).map nI)] ∧ ∃ x5 x6, e = [some (.v (hallD rows)), some (.ref st.length), none, some (.v (.tuple (rs.map tNs))), some (.v (tNs l)), x5, x6]) _ _ _ 0 ?_ ?_ ⟨rfl, _, _, rfl⟩
      · rintro c dd e t hd ⟨rfl, x5, x6, rfl⟩
        rw [Nat.zero_add] at *
        rw [List.getElem?_map] at hd
        obtain ⟨⟨x, y⟩, hq, rfl⟩ := Option.map_eq_some_iff.mp hd
        have hc : c < l.length := by
          have := (List.getElem?_eq_some_iff.mp hq).1
          rwa [show (l.zip (l.tail ++ l.take 1)).length = l.length from rp_len] at this
        refine ⟨trivial, ?_⟩
        rw [take_rp hc hq]
        unfold deal_by_rings_G2 deal_by_rings_B3
        have hx := hlt hrs' hl' x (rp_in (List.mem_of_getElem? hq)).1
        show ((gTp 2 (gMore (gNm 5) (gMore (gNm 6) gNone))) (.many [.v (nI x), .v (nI y)]) _ _).Ok _
        have hg : ∀ env s, (gTp 2 (gMore (gNm 5) (gMore (gNm 6) gNone))) (.many [.v (nI x), .v (nI y)]) env s = .ok ((env.set 5 (some (.v (nI x)))).set 6 (some (.v (nI y)))) s := fun env s => rfl
        rw [hg, ok_ok]
        simp only [envE, so_seq, so_if, so_ret, so_retN, so_exp, so_nil, so_nx, so_rt, so_asg, so_asgG, so_par2, so_par3, ok_gNm, ok_gMore, ok_gNone, so_asgT, so_sub, so_for, ok_TB, ok_Tru, ok_notT, ok_andT, ok_orT, ok_andV, ok_orV, ok_notV, ok_iteE, ok_frz, ok_new, ok_mfArg, ok_mfBin, ok_lc, ok_M, ok_M0, ok_moNone, ok_moSome, ok_Sl,
  ok_bin, ok_un, ok_arg, ok_cons, ok_nil, ok_call, ok_var, ok_C, ok_ok, ok_stuck, ok_noX, bOf_bool, low_v, iOf_int, addD_int, subD_int, negD_int, ltD_int, leD_int, gtD_int, geD_int, fInt_int, isD_bool, isNotD_bool, tru_bool, List.map_cons, List.map_nil, List.length_cons, List.length_nil, List.replicate_succ, List.replicate_zero, List.cons_append, List.nil_append,
  List.append_nil, List.getElem?_cons_zero, List.getElem?_cons_succ, List.set_cons_zero, List.set_cons_succ, Option.some.injEq, exists_eq_left', exists_eq_left, true_and, and_true, true_implies, false_implies, implies_true, Bool.false_eq_true, reduceCtorEq, false_and, and_false, D.v.injEq, PyData.int.injEq, D.ref.injEq, p1i_int, p2_two, p3_three, decide_true, Bool.not_true, Bool.not_false, decide_eq_true_eq, decide_eq_false_iff_not]
        rw [set_ref end_at (by rw [List.length_map, wr_len, hD2l]; exact hx), ok_ok, end_set, List.map_set]
        exact ⟨rfl, _, _, rfl⟩
      · rintro e t ⟨rfl, x5, x6, rfl⟩
        refine ⟨trivial, ?_⟩
        rw [Nat.zero_add, List.length_map, List.take_of_length_le (by show (rp l).length ≤ _; exact Nat.le_refl _)]
        exact ⟨rfl, _, _, _, rfl⟩
    · rintro e t ⟨rfl, x4, x5, x6, rfl⟩
      refine ⟨trivial, ?_⟩
      rw [Nat.zero_add, List.length_map, List.take_of_length_le (Nat.le_refl _)]
      exact ⟨rfl, _, _, _, _, rfl⟩
  · rintro e t ⟨rfl, x3, x4, x5, x6, rfl⟩
    refine ⟨trivial, ?_⟩
    rw [Nat.zero_add, List.length_map, List.take_of_length_le (Nat.le_refl _)]
    unfold S_deal_by_rings_3
    simp only [envE, so_seq, so_if, so_ret, so_retN, so_exp, so_nil, so_nx, so_rt, so_asg, so_asgG, so_par2, so_par3, ok_gNm, ok_gMore, ok_gNone, so_asgT, so_sub, so_for, ok_TB, ok_Tru, ok_notT, ok_andT, ok_orT, ok_andV, ok_orV, ok_notV, ok_iteE, ok_frz, ok_new, ok_mfArg, ok_mfBin, ok_lc, ok_M, ok_M0, ok_moNone, ok_moSome, ok_Sl,
  ok_bin, ok_un, ok_arg, ok_cons, ok_nil, ok_call, ok_var, ok_C, ok_ok, ok_stuck, ok_noX, bOf_bool, low_v, iOf_int, addD_int, subD_int, negD_int, ltD_int, leD_int, gtD_int, geD_int, fInt_int, isD_bool, isNotD_bool, tru_bool, List.map_cons, List.map_nil, List.length_cons, List.length_nil, List.replicate_succ, List.replicate_zero, List.cons_append, List.nil_append,
  List.append_nil, List.getElem?_cons_zero, List.getElem?_cons_succ, List.set_cons_zero, List.set_cons_succ, Option.some.injEq, exists_eq_left', exists_eq_left, true_and, and_true, true_implies, false_implies, implies_true, Bool.false_eq_true, reduceCtorEq, false_and, and_false, D.v.injEq, PyData.int.injEq, D.ref.injEq, p1i_int, p2_two, p3_three, decide_true, Bool.not_true, Bool.not_false, decide_eq_true_eq, decide_eq_false_iff_not, tup_of end_at]
    refine ⟨end_take, _, rfl, by rw [wr_len, List.length_replicate], out, A, fun q hq => ?_⟩
    exact wr_at (allP_con A) _ _ (fun _ h => h) q hq (by rw [List.length_replicate]; exact (allP_lt A range_lt hq).1) (.inl hq)
def insN (F : List (Nat × Nat)) (a v : Nat) : List (Nat × Nat) := if a ∈ F.map (·.1) then F.map fun q => if q.1 = a then (q.1, v) else q else F ++ [(a, v)]
theorem insN_keys (nd : (F.map (·.1)).Nodup) : ((insN F a v).map (·.1)).Nodup ∧ ∀ z, z ∈ (insN F a v).map (·.1) ↔ z ∈ F.map (·.1) ∨ z = a := by
  unfold insN
  split
  · rename_i h
    have e : (F.map fun q => if q.1 = a then (q.1, v) else q).map (·.1) = F.map (·.1) := by
      rw [List.map_map]
      refine List.map_congr_left fun q _ => ?_
      show (if q.1 = a then (q.1, v) else q).1 = q.1
      split <;> rfl
    rw [e]
    exact ⟨nd, fun z => ⟨.inl, fun h2 => h2.elim id fun e => e ▸ h⟩⟩
  · rename_i h
    rw [List.map_append]
    refine ⟨List.nodup_append.mpr ⟨nd, List.pairwise_singleton _ _, fun x hx b hb e => h ?_⟩, fun z => ?_⟩
    · have : b = a := List.mem_singleton.mp hb
      rw [← this, ← e]; exact hx
    · rw [List.mem_append, List.map_singleton, List.mem_singleton]
theorem insN_mem (con : ∀ p ∈ P, ∀ q ∈ P, p.1 = q.1 → p = q) (hP : (a, v) ∈ P) : (a, v) ∈ insN F a v ∧ ∀ q ∈ F, q ∈ P → q ∈ insN F a v := by
  unfold insN
  split
  · rename_i h
    obtain ⟨q, hq, e⟩ := List.mem_map.mp h
    have e : q.1 = a := e
    refine ⟨List.mem_map.mpr ⟨q, hq, by rw [if_pos e, e]⟩, fun q hq hqP => List.mem_map.mpr ⟨q, hq, ?_⟩⟩
    split
    · rename_i h2
      rw [con q hqP (a, v) hP h2]
    · rfl
  · exact ⟨List.mem_append_right _ (.head _), fun q hq _ => List.mem_append_left _ hq⟩
theorem putD_ins (nd : (F.map (·.1)).Nodup) : putD (heldK F) (nI a) (.v (nI v)) = heldK (insN F a v) := by
  have hany : ((heldK F).any fun p => keq false p.1 (nI a)) = decide (a ∈ F.map (·.1)) := by
    clear nd
    unfold heldK
    rw [List.any_map]
    induction F with
    | nil => rfl
    | cons q r ih =>
      rw [List.any_cons, ih]
      show (keq false (nI q.1) (nI a) || _) = _
      rw [keq_nat, Bool.eq_iff_iff]
      by_cases e : q.1 = a
      · simp [e]
      · have e2 : ¬ a = q.1 := fun z => e z.symm
        simp [e, e2]
  unfold putD insN
  rw [hany]
  by_cases h : a ∈ F.map (·.1)
  · rw [if_pos (decide_eq_true h), if_pos h]
    unfold heldK
    rw [List.map_map, List.map_map]
    refine List.map_congr_left fun q _ => ?_
    show (if keq false (nI q.1) (nI a) = true then (nI q.1, D.v (nI v)) else (nI q.1, D.v (nI q.2))) = _
    rw [keq_nat]
    show _ = (nI (if q.1 = a then (q.1, v) else q).1, D.v (nI (if q.1 = a then (q.1, v) else q).2))
    by_cases e : q.1 = a
    · rw [if_pos (decide_eq_true e), if_pos e]
    · rw [if_neg (by rw [decide_eq_false e]; exact Bool.false_ne_true), if_neg e]
  · rw [if_neg (by rw [decide_eq_false h]; exact Bool.false_ne_true), if_neg h]
    unfold heldK
    rw [List.map_append]
    rfl
structure Wrt (n : Nat) (P : List (Nat × Nat)) (F : List (Nat × Nat)) (ps : List (Nat × Nat)) : Prop where
  nd : (F.map (·.1)).Nodup
  lt : ∀ z ∈ F.map (·.1), z < n
  has : ∀ q ∈ ps, q ∈ F
theorem Wrt.len {ps : List (Nat × Nat)} (W : Wrt n P F ps) : F.length ≤ n := by
  have := sub_len W.nd (m := List.range n) fun x hx => List.mem_range.mpr (W.lt x hx)
  rwa [List.length_map, List.length_range] at this
theorem Wrt.put {ps : List (Nat × Nat)} (con : ∀ p ∈ P, ∀ q ∈ P, p.1 = q.1 → p = q) (W : Wrt n P F ps) (hps : ∀ q ∈ ps, q ∈ P) (hP : (a, v) ∈ P) (ha : a < n) : Wrt n P (insN F a v) (ps ++ [(a, v)]) := by
  obtain ⟨h1, h2⟩ := insN_keys (a := a) (v := v) W.nd
  obtain ⟨h3, h4⟩ := insN_mem (F := F) con hP
  refine ⟨h1, fun z hz => ((h2 z).mp hz).elim (W.lt z) fun e => e ▸ ha, fun q hq => ?_⟩
  rcases List.mem_append.mp hq with z | z
  · exact h4 q (W.has q z) (hps q z)
  · rw [List.mem_singleton.mp z]; exact h3
theorem law_deal_ok (H : Hou rows) (hn : rows.length ≤ 50) : (f_law_deal [.v (hallD rows)] st).Ok fun r t => t = st ∧ ∃ d, r = .v (tNs d) ∧ DealOf rows d := by
  refine fnT_ok ?_
  unfold S_law_deal
  simp only [envE, so_seq, so_if, so_ret, so_retN, so_exp, so_nil, so_nx, so_rt, so_asg, so_asgG, so_par2, so_par3, ok_gNm, ok_gMore, ok_gNone, so_asgT, so_sub, so_for, ok_TB, ok_Tru, ok_notT, ok_andT, ok_orT, ok_andV, ok_orV, ok_notV, ok_iteE, ok_frz, ok_new, ok_mfArg, ok_mfBin, ok_lc, ok_M, ok_M0, ok_moNone, ok_moSome, ok_Sl,
  ok_bin, ok_un, ok_arg, ok_cons, ok_nil, ok_call, ok_var, ok_C, ok_ok, ok_stuck, ok_noX, bOf_bool, low_v, iOf_int, addD_int, subD_int, negD_int, ltD_int, leD_int, gtD_int, geD_int, fInt_int, isD_bool, isNotD_bool, tru_bool, List.map_cons, List.map_nil, List.length_cons, List.length_nil, List.replicate_succ, List.replicate_zero, List.cons_append, List.nil_append,
  List.append_nil, List.getElem?_cons_zero, List.getElem?_cons_succ, List.set_cons_zero, List.set_cons_succ, Option.some.injEq, exists_eq_left', exists_eq_left, true_and, and_true, true_implies, false_implies, implies_true, Bool.false_eq_true, reduceCtorEq, false_and, and_false, D.v.injEq, PyData.int.injEq, D.ref.injEq, p1i_int, p2_two, p3_three, decide_true, Bool.not_true, Bool.not_false, decide_eq_true_eq, decide_eq_false_iff_not, Da.ok_Dnew]
  unfold S_law_deal_2 law_deal_E3
  simp only [envE, so_seq, so_if, so_ret, so_retN, so_exp, so_nil, so_nx, so_rt, so_asg, so_asgG, so_par2, so_par3, ok_gNm, ok_gMore, ok_gNone, so_asgT, so_sub, so_for, ok_TB, ok_Tru, ok_notT, ok_andT, ok_orT, ok_andV, ok_orV, ok_notV, ok_iteE, ok_frz, ok_new, ok_mfArg, ok_mfBin, ok_lc, ok_M, ok_M0, ok_moNone, ok_moSome, ok_Sl,
  ok_bin, ok_un, ok_arg, ok_cons, ok_nil, ok_call, ok_var, ok_C, ok_ok, ok_stuck, ok_noX, bOf_bool, low_v, iOf_int, addD_int, subD_int, negD_int, ltD_int, leD_int, gtD_int, geD_int, fInt_int, isD_bool, isNotD_bool, tru_bool, List.map_cons, List.map_nil, List.length_cons, List.length_nil, List.replicate_succ, List.replicate_zero, List.cons_append, List.nil_append,
  List.append_nil, List.getElem?_cons_zero, List.getElem?_cons_succ, List.set_cons_zero, List.set_cons_succ, Option.some.injEq, exists_eq_left', exists_eq_left, true_and, and_true, true_implies, false_implies, implies_true, Bool.false_eq_true, reduceCtorEq, false_and, and_false, D.v.injEq, PyData.int.injEq, D.ref.injEq, p1i_int, p2_two, p3_three, decide_true, Bool.not_true, Bool.not_false, decide_eq_true_eq, decide_eq_false_iff_not, ok_seq]
  have hr := law_rounds_ok (st := st ++ [O.dct false []]) H hn
  refine hr.mono ?_
  rintro _ _ ⟨rfl, out, rfl, A⟩
  show (seqW (.v (.tuple (out.map rdD))) _).Ok _
  simp only [envE, so_seq, so_if, so_ret, so_retN, so_exp, so_nil, so_nx, so_rt, so_asg, so_asgG, so_par2, so_par3, ok_gNm, ok_gMore, ok_gNone, so_asgT, so_sub, so_for, ok_TB, ok_Tru, ok_notT, ok_andT, ok_orT, ok_andV, ok_orV, ok_notV, ok_iteE, ok_frz, ok_new, ok_mfArg, ok_mfBin, ok_lc, ok_M, ok_M0, ok_moNone, ok_moSome, ok_Sl,
  ok_bin, ok_un, ok_arg, ok_cons, ok_nil, ok_call, ok_var, ok_C, ok_ok, ok_stuck, ok_noX, bOf_bool, low_v, iOf_int, addD_int, subD_int, negD_int, ltD_int, leD_int, gtD_int, geD_int, fInt_int, isD_bool, isNotD_bool, tru_bool, List.map_cons, List.map_nil, List.length_cons, List.length_nil, List.replicate_succ, List.replicate_zero, List.cons_append, List.nil_append,
  List.append_nil, List.getElem?_cons_zero, List.getElem?_cons_succ, List.set_cons_zero, List.set_cons_succ, Option.some.injEq, exists_eq_left', exists_eq_left, true_and, and_true, true_implies, false_implies, implies_true, Bool.false_eq_true, reduceCtorEq, false_and, and_false, D.v.injEq, PyData.int.injEq, D.ref.injEq, p1i_int, p2_two, p3_three, decide_true, Bool.not_true, Bool.not_false, decide_eq_true_eq, decide_eq_false_iff_not, seqW_tup, List.map_map]
  have hlt : ∀ {rs}, rs ∈ out → ∀ {l}, l ∈ rs → ∀ x ∈ l, x < rows.length := fun {rs} h1 {l} h2 x hx => List.mem_range.mp ((A.mem rs h1 l h2).2.2 x hx)
  have con := allP_con A
  have inP : ∀ {rs}, rs ∈ out → ∀ {l}, l ∈ rs → ∀ q ∈ rp l, q ∈ allP out := fun {rs} h1 {l} h2 q hq => mem_allP.mpr ⟨rs, h1, l, h2, hq⟩
  refine forL_inv (fun a e t => ∃ F, Wrt rows.length (allP out) F (allP (out.take a)) ∧ t = st ++ [O.dct false (heldK F)] ∧ ∃ x2 x3 x4, e = [some (.v (hallD rows)), some (.ref st.length), x2, x3, x4, none]) _ _ _ 0 ?_ ?_ ⟨[], ⟨List.nodup_nil, (fun _ z => nomatch z), fun _ z => nomatch z⟩, rfl, _, _, _, rfl⟩
  · rintro a dd e t hd ⟨F, W, rfl, x2, x3, x4, rfl⟩
    rw [Nat.zero_add] at *
    rw [List.getElem?_map] at hd
    obtain ⟨rs, hrs, rfl⟩ := Option.map_eq_some_iff.mp hd
    have hrs' := List.mem_of_getElem? hrs
    refine ⟨trivial, ?_⟩
    have pa : ∀ q ∈ allP (out.take a), q ∈ allP out := fun q hq => by
      obtain ⟨rs, h1, h2⟩ := mem_allP.mp hq
      exact mem_allP.mpr ⟨rs, List.mem_of_mem_take h1, h2⟩
    have ea : allP (out.take (a + 1)) = allP (out.take a) ++ rsP rs := by
      unfold allP
      rw [List.take_add_one, hrs, List.flatMap_append]
      simp
    rw [ea]
    generalize allP (out.take a) = pa0 at W pa
    unfold law_deal_G3 law_deal_B1 law_deal_E2
    show (gNm 2 (.one (.v (.tuple (rs.map tNs)))) _ _).Ok _
    simp only [envE, so_seq, so_if, so_ret, so_retN, so_exp, so_nil, so_nx, so_rt, so_asg, so_asgG, so_par2, so_par3, ok_gNm, ok_gMore, ok_gNone, so_asgT, so_sub, so_for, ok_TB, ok_Tru, ok_notT, ok_andT, ok_orT, ok_andV, ok_orV, ok_notV, ok_iteE, ok_frz, ok_new, ok_mfArg, ok_mfBin, ok_lc, ok_M, ok_M0, ok_moNone, ok_moSome, ok_Sl,
  ok_bin, ok_un, ok_arg, ok_cons, ok_nil, ok_call, ok_var, ok_C, ok_ok, ok_stuck, ok_noX, bOf_bool, low_v, iOf_int, addD_int, subD_int, negD_int, ltD_int, leD_int, gtD_int, geD_int, fInt_int, isD_bool, isNotD_bool, tru_bool, List.map_cons, List.map_nil, List.length_cons, List.length_nil, List.replicate_succ, List.replicate_zero, List.cons_append, List.nil_append,
  List.append_nil, List.getElem?_cons_zero, List.getElem?_cons_succ, List.set_cons_zero, List.set_cons_succ, Option.some.injEq, exists_eq_left', exists_eq_left, true_and, and_true, true_implies, false_implies, implies_true, Bool.false_eq_true, reduceCtorEq, false_and, and_false, D.v.injEq, PyData.int.injEq, D.ref.injEq, p1i_int, p2_two, p3_three, decide_true, Bool.not_true, Bool.not_false, decide_eq_true_eq, decide_eq_false_iff_not, ok_seq, seqW_tup, List.map_map]
    refine forL_inv (fun b e t => ∃ F, Wrt rows.length (allP out) F (pa0 ++ rsP (rs.take b)) ∧ t = st ++ [O.dct false (heldK F)] ∧ ∃ x3 x4, e = [some (.v (hallD rows)), some (.ref st.length), some (.v (.tuple (rs.map tNs))), x3, x4, none]) _ _ _ 0 ?_ ?_ ⟨F, by rw [List.take_zero]; show Wrt _ _ _ (pa0 ++ []); rw [List.append_nil]; exact W, rfl, _, _, rfl⟩
    · rintro b dd e t hd ⟨F, W, rfl, x3, x4, rfl⟩
      rw [Nat.zero_add] at *
      rw [List.getElem?_map] at hd
      obtain ⟨l, hl, rfl⟩ := Option.map_eq_some_iff.mp hd
      have hl' := List.mem_of_getElem? hl
      refine ⟨trivial, ?_⟩
      have pb : ∀ q ∈ pa0 ++ rsP (rs.take b), q ∈ allP out := fun q hq => by
        rcases List.mem_append.mp hq with z | z
        · exact pa q z
        · obtain ⟨l2, h1, h2⟩ := List.mem_flatMap.mp z
          exact inP hrs' (List.mem_of_mem_take h1) q h2
      have eb : rsP (rs.take (b + 1)) = rsP (rs.take b) ++ rp l := by
        unfold rsP
        rw [List.take_add_one, hl, List.flatMap_append]
        simp
      rw [eb, ← List.append_assoc]
      generalize pa0 ++ rsP (rs.take b) = pb0 at W pb
      have hll : l.length ≤ rows.length := by
        have := sub_len (A.mem rs hrs' l hl').2.1 (m := List.range rows.length) fun x hx => List.mem_range.mpr (hlt hrs' hl' x hx)
        rwa [List.length_range] at this
      unfold law_deal_G2 law_deal_B2 law_deal_E1
      show (gNm 3 (.one (.v (tNs l))) _ _).Ok _
      simp only [envE, so_seq, so_if, so_ret, so_retN, so_exp, so_nil, so_nx, so_rt, so_asg, so_asgG, so_par2, so_par3, ok_gNm, ok_gMore, ok_gNone, so_asgT, so_sub, so_for, ok_TB, ok_Tru, ok_notT, ok_andT, ok_orT, ok_andV, ok_orV, ok_notV, ok_iteE, ok_frz, ok_new, ok_mfArg, ok_mfBin, ok_lc, ok_M, ok_M0, ok_moNone, ok_moSome, ok_Sl,
  ok_bin, ok_un, ok_arg, ok_cons, ok_nil, ok_call, ok_var, ok_C, ok_ok, ok_stuck, ok_noX, bOf_bool, low_v, iOf_int, addD_int, subD_int, negD_int, ltD_int, leD_int, gtD_int, geD_int, fInt_int, isD_bool, isNotD_bool, tru_bool, List.map_cons, List.map_nil, List.length_cons, List.length_nil, List.replicate_succ, List.replicate_zero, List.cons_append, List.nil_append,
  List.append_nil, List.getElem?_cons_zero, List.getElem?_cons_succ, List.set_cons_zero, List.set_cons_succ, Option.some.injEq, exists_eq_left', exists_eq_left, true_and, and_true, true_implies, false_implies, implies_true, Bool.false_eq_true, reduceCtorEq, false_and, and_false, D.v.injEq, PyData.int.injEq, D.ref.injEq, p1i_int, p2_two, p3_three, decide_true, Bool.not_true, Bool.not_false, decide_eq_true_eq, decide_eq_false_iff_not, ok_R1, len_tup]
      refine ⟨⟨by omega, by rw [List.length_map]; omega⟩, ?_⟩
      rw [List.length_map, Int.toNat_natCast]
      refine forL_inv (fun c e t => ∃ F, Wrt rows.length (allP out) F (pb0 ++ (rp l).take c) ∧ t = st ++ [O.dct false (heldK F)] ∧ ∃ x4, e = [some (.v (hallD rows)), some (.ref st.length), some (.v (.tuple (rs.map tNs))), some (.v (tNs l)), x4, none]) _ _ _ 0 ?_ ?_ ⟨F, by rw [List.take_zero, List.append_nil]; exact W, rfl, _, rfl⟩
      · rintro c dd e t hd ⟨F, W, rfl, x4, rfl⟩
        obtain ⟨hc, rfl⟩ := rngI_get hd
        rw [Nat.zero_add, Int.zero_add] at *
        obtain ⟨x, y, g1, g2, g3⟩ := rp_get hc
        refine ⟨trivial, ?_⟩
        unfold law_deal_G1 law_deal_B3
        have m1 : ∀ s, subsD (.v (tNs l)) (.v (nI c)) s = .ok (.v (nI x)) s := fun s => sub_tup (by rw [List.getElem?_map, g1]; rfl)
        have hmod : ∀ s, modD (.v (.int ((c : Int) + 1))) (.v (.int ((l.length : Nat) : Int))) s = .ok (.v (nI ((c + 1) % l.length))) s := fun s => by
          rw [modD_int (by omega)]
          congr 3
        have m2 : ∀ s, subsD (.v (tNs l)) (.v (nI ((c + 1) % l.length))) s = .ok (.v (nI y)) s := fun s => sub_tup (by rw [List.getElem?_map, g2]; rfl)
        show (gNm 4 (.one (.v (nI c))) _ _).Ok _
        simp only [envE, so_seq, so_if, so_ret, so_retN, so_exp, so_nil, so_nx, so_rt, so_asg, so_asgG, so_par2, so_par3, ok_gNm, ok_gMore, ok_gNone, so_asgT, so_sub, so_for, ok_TB, ok_Tru, ok_notT, ok_andT, ok_orT, ok_andV, ok_orV, ok_notV, ok_iteE, ok_frz, ok_new, ok_mfArg, ok_mfBin, ok_lc, ok_M, ok_M0, ok_moNone, ok_moSome, ok_Sl,
  ok_bin, ok_un, ok_arg, ok_cons, ok_nil, ok_call, ok_var, ok_C, ok_ok, ok_stuck, ok_noX, bOf_bool, low_v, iOf_int, addD_int, subD_int, negD_int, ltD_int, leD_int, gtD_int, geD_int, fInt_int, isD_bool, isNotD_bool, tru_bool, List.map_cons, List.map_nil, List.length_cons, List.length_nil, List.replicate_succ, List.replicate_zero, List.cons_append, List.nil_append,
  List.append_nil, List.getElem?_cons_zero, List.getElem?_cons_succ, List.set_cons_zero, List.set_cons_succ, Option.some.injEq, exists_eq_left', exists_eq_left, true_and, and_true, true_implies, false_implies, implies_true, Bool.false_eq_true, reduceCtorEq, false_and, and_false, D.v.injEq, PyData.int.injEq, D.ref.injEq, p1i_int, p2_two, p3_three, decide_true, Bool.not_true, Bool.not_false, decide_eq_true_eq, decide_eq_false_iff_not, len_tup, List.length_map, hmod, m1, m2]
        have hq := inP hrs' hl' _ (List.mem_of_getElem? g3)
        have hx := hlt hrs' hl' x (List.mem_of_getElem? g1)
        have hlen := W.len
        rw [set_dct end_at (by unfold heldK; rw [List.length_map]; omega), ok_ok, end_set, putD_ins W.nd]
        refine ⟨_, ?_, rfl, _, rfl⟩
        rw [List.take_add_one, g3, ← List.append_assoc]
        refine W.put con (fun q hq => ?_) hq hx
        rcases List.mem_append.mp hq with z | z
        · exact pb q z
        · exact inP hrs' hl' q (List.mem_of_mem_take z)
      · rintro e t ⟨F, W, rfl, x4, rfl⟩
        refine ⟨trivial, F, ?_, rfl, _, _, rfl⟩
        rw [Nat.zero_add] at W
        have hlr : (rngI 0 l.length).length = (rp l).length := by
          rw [rp_len]
          unfold rngI
          rw [List.length_map, List.length_range]
        rwa [hlr, List.take_of_length_le (Nat.le_refl _)] at W
    · rintro e t ⟨F, W, rfl, x3, x4, rfl⟩
      refine ⟨trivial, F, ?_, rfl, _, _, _, rfl⟩
      rwa [Nat.zero_add, List.length_map, List.take_of_length_le (Nat.le_refl _)] at W
  · rintro e t ⟨F, W, rfl, x2, x3, x4, rfl⟩
    refine ⟨trivial, ?_⟩
    rw [Nat.zero_add, List.length_map, List.take_of_length_le (Nat.le_refl _)] at W
    unfold S_law_deal_3 law_deal_E4 law_deal_T1
    simp only [envE, so_seq, so_if, so_ret, so_retN, so_exp, so_nil, so_nx, so_rt, so_asg, so_asgG, so_par2, so_par3, ok_gNm, ok_gMore, ok_gNone, so_asgT, so_sub, so_for, ok_TB, ok_Tru, ok_notT, ok_andT, ok_orT, ok_andV, ok_orV, ok_notV, ok_iteE, ok_frz, ok_new, ok_mfArg, ok_mfBin, ok_lc, ok_M, ok_M0, ok_moNone, ok_moSome, ok_Sl,
  ok_bin, ok_un, ok_arg, ok_cons, ok_nil, ok_call, ok_var, ok_C, ok_ok, ok_stuck, ok_noX, bOf_bool, low_v, iOf_int, addD_int, subD_int, negD_int, ltD_int, leD_int, gtD_int, geD_int, fInt_int, isD_bool, isNotD_bool, tru_bool, List.map_cons, List.map_nil, List.length_cons, List.length_nil, List.replicate_succ, List.replicate_zero, List.cons_append, List.nil_append,
  List.append_nil, List.getElem?_cons_zero, List.getElem?_cons_succ, List.set_cons_zero, List.set_cons_succ, Option.some.injEq, exists_eq_left', exists_eq_left, true_and, and_true, true_implies, false_implies, implies_true, Bool.false_eq_true, reduceCtorEq, false_and, and_false, D.v.injEq, PyData.int.injEq, D.ref.injEq, p1i_int, p2_two, p3_three, decide_true, Bool.not_true, Bool.not_false, decide_eq_true_eq, decide_eq_false_iff_not, ok_R1, hall0]
    refine ⟨⟨by omega, by omega⟩, ?_⟩
    rw [Int.toNat_natCast, show rngI 0 rows.length = (List.range rows.length).map (fun i : Nat => Itm.one (.v (.int (0 + (i : Int))))) from rfl, lcL_all _ (fun i => nI (lk F i))]
    rotate_left
    · intro i hi
      have hi := List.mem_range.mp hi
      unfold law_deal_G4 law_deal_M1
      have hkey : ∃ q ∈ F, q.1 = i := by
        obtain ⟨rs, h3, l, h4, h5⟩ := A.all H range_lt i (List.mem_range.mpr hi)
        obtain ⟨k, hk, e⟩ := List.mem_iff_getElem.mp h5
        obtain ⟨x, y, g1, g2, g3⟩ := rp_get hk
        have ex : x = i := by rw [List.getElem?_eq_getElem hk] at g1; exact (Option.some.inj g1).symm.trans e
        exact ⟨(x, y), W.has _ (mem_allP.mpr ⟨rs, h3, l, h4, List.mem_of_getElem? g3⟩), ex⟩
      obtain ⟨q, hq, eq⟩ := hkey
      have hg : getK false (heldK F) (nI i) = some (.v (nI (lk F i))) := by
        rw [← eq, lk_of W.nd hq]
        exact Aq.held_at W.nd hq
      show (gNm 5 (.one (.v (.int (0 + (i : Int))))) _ _).Ok _
      rw [Int.zero_add]
      have hs : ∀ (s : Sto), s = st ++ [O.dct false (heldK F)] → subsD (.ref st.length) (.v (nI i)) s = .ok (.v (nI (lk F i))) s := fun s e => by
        subst e
        exact sub_dct end_at hg
      simp only [envE, so_seq, so_if, so_ret, so_retN, so_exp, so_nil, so_nx, so_rt, so_asg, so_asgG, so_par2, so_par3, ok_gNm, ok_gMore, ok_gNone, so_asgT, so_sub, so_for, ok_TB, ok_Tru, ok_notT, ok_andT, ok_orT, ok_andV, ok_orV, ok_notV, ok_iteE, ok_frz, ok_new, ok_mfArg, ok_mfBin, ok_lc, ok_M, ok_M0, ok_moNone, ok_moSome, ok_Sl,
  ok_bin, ok_un, ok_arg, ok_cons, ok_nil, ok_call, ok_var, ok_C, ok_ok, ok_stuck, ok_noX, bOf_bool, low_v, iOf_int, addD_int, subD_int, negD_int, ltD_int, leD_int, gtD_int, geD_int, fInt_int, isD_bool, isNotD_bool, tru_bool, List.map_cons, List.map_nil, List.length_cons, List.length_nil, List.replicate_succ, List.replicate_zero, List.cons_append, List.nil_append,
  List.append_nil, List.getElem?_cons_zero, List.getElem?_cons_succ, List.set_cons_zero, List.set_cons_succ, Option.some.injEq, exists_eq_left', exists_eq_left, true_and, and_true, true_implies, false_implies, implies_true, Bool.false_eq_true, reduceCtorEq, false_and, and_false, D.v.injEq, PyData.int.injEq, D.ref.injEq, p1i_int, p2_two, p3_three, decide_true, Bool.not_true, Bool.not_false, decide_eq_true_eq, decide_eq_false_iff_not, wipeE, hs _ rfl]
    rw [ok_ok]
    simp only [envE, so_seq, so_if, so_ret, so_retN, so_exp, so_nil, so_nx, so_rt, so_asg, so_asgG, so_par2, so_par3, ok_gNm, ok_gMore, ok_gNone, so_asgT, so_sub, so_for, ok_TB, ok_Tru, ok_notT, ok_andT, ok_orT, ok_andV, ok_orV, ok_notV, ok_iteE, ok_frz, ok_new, ok_mfArg, ok_mfBin, ok_lc, ok_M, ok_M0, ok_moNone, ok_moSome, ok_Sl,
  ok_bin, ok_un, ok_arg, ok_cons, ok_nil, ok_call, ok_var, ok_C, ok_ok, ok_stuck, ok_noX, bOf_bool, low_v, iOf_int, addD_int, subD_int, negD_int, ltD_int, leD_int, gtD_int, geD_int, fInt_int, isD_bool, isNotD_bool, tru_bool, List.map_cons, List.map_nil, List.length_cons, List.length_nil, List.replicate_succ, List.replicate_zero, List.cons_append, List.nil_append,
  List.append_nil, List.getElem?_cons_zero, List.getElem?_cons_succ, List.set_cons_zero, List.set_cons_succ, Option.some.injEq, exists_eq_left', exists_eq_left, true_and, and_true, true_implies, false_implies, implies_true, Bool.false_eq_true, reduceCtorEq, false_and, and_false, D.v.injEq, PyData.int.injEq, D.ref.injEq, p1i_int, p2_two, p3_three, decide_true, Bool.not_true, Bool.not_false, decide_eq_true_eq, decide_eq_false_iff_not, tup_list]
    refine ⟨end_take, dOf rows.length F, by unfold dOf tNs; rw [List.map_map]; rfl, by unfold dOf; rw [List.length_map, List.length_range], out, A, fun q hq => ?_⟩
    rw [dOf_at (allP_lt A range_lt hq).1]
    exact lk_of W.nd (W.has q hq)
end
end Wk36
namespace Wk36
open PySem PySem.Spec PyProof.Rows L2 Fw Fw.Hl Fw.Ho Fw.Rg Fw.Da Fw.An
section
variable {rows rows' : List (List Nat)} {n i j h g k m o p a v : Nat} {d e w L l ring lot : List Nat} {st more : Sto} {x y : O}
theorem ints_ofI : ∀ l : List Int, intsOf (l.map .int) = some l
  | [] => rfl
  | x :: r => by
    rw [List.map_cons]
    show (intsOf (r.map .int)).map _ = _
    rw [ints_ofI r]
    rfl
theorem min_eq {l : List Int} (ne : 0 < l.length) : fIntsL lstMin [.v (.list (l.map .int))] st = .ok (.v (.int (lstMin l))) st := by
  show (match intsOf (l.map .int) with
    | some ns => if 0 < ns.length then Out.ok (D.v (.int (lstMin ns))) st else .stuck
    | none => .stuck) = _
  rw [ints_ofI]
  exact if_pos ne
theorem max_eq {l : List Int} (ne : 0 < l.length) : fIntsL lstMax [.v (.list (l.map .int))] st = .ok (.v (.int (lstMax l))) st := by
  show (match intsOf (l.map .int) with
    | some ns => if 0 < ns.length then Out.ok (D.v (.int (lstMax ns))) st else .stuck
    | none => .stuck) = _
  rw [ints_ofI]
  exact if_pos ne
theorem min_nn : ∀ {l : List Int}, 0 < l.length → (0 ≤ lstMin l ↔ ∀ y ∈ l, 0 ≤ y)
  | [x], _ => by simp [lstMin]
  | x :: y :: r, _ => by
    have ih := min_nn (l := y :: r) (by simp)
    rw [lstMin]
    · constructor
      · intro h z hz
        rcases List.mem_cons.mp hz with rfl | hz
        · omega
        · exact ih.mp (by omega) z hz
      · intro h
        have h1 := h x (.head _)
        have h2 := ih.mpr fun z hz => h z (.tail _ hz)
        omega
    · simp
theorem max_pos : ∀ {l : List Int}, 0 < l.length → (0 < lstMax l ↔ ∃ y ∈ l, 0 < y)
  | [x], _ => by simp [lstMax]
  | x :: y :: r, _ => by
    have ih := max_pos (l := y :: r) (by simp)
    rw [lstMax]
    · constructor
      · intro h
        by_cases z : 0 < x
        · exact ⟨x, .head _, z⟩
        · obtain ⟨w, hw, h2⟩ := ih.mp (by omega)
          exact ⟨w, .tail _ hw, h2⟩
      · rintro ⟨z, hz, h⟩
        rcases List.mem_cons.mp hz with rfl | hz
        · omega
        · have := ih.mpr ⟨z, hz, h⟩
          omega
    · simp
theorem at_sub (hi : i < d.length) : subsD (.v (tNs d)) (.v (nI i)) st = .ok (.v (nI (at' d i))) st := by
  refine sub_tup (k := i) ?_
  rw [List.getElem?_map, at_get hi]
  rfl
theorem index_rk (H : Hou rows) (hi : i < rows.length) (hh : h < rows.length) : fmIndex (.v (tNs (row rows i))) [.v (nI h)] st = .ok (.v (nI (rk rows i h))) st := index_tN ((H.mem hi).mpr hh)
theorem Hou.len' (H : Hou rows) (hi : i < rows.length) : (row rows i).length = rows.length := by
  have h1 := sub_len (H.nd hi) (m := List.range rows.length) fun x hx => List.mem_range.mpr ((H.mem hi).mp hx)
  have h2 := sub_len (List.nodup_range (n := rows.length)) (m := row rows i) fun x hx => (H.mem hi).mpr (List.mem_range.mp hx)
  rw [List.length_range] at h1 h2
  omega
theorem rep_hou (H : Hou rows) (hn : rows.length ≤ 50) : Rep (hallD rows) (2 * (50 * (50 + 1) + 1)) 3 := by
  have r1 : ∀ x ∈ rows.map tNs, Rep x 50 1 := fun x hx => by
    obtain ⟨l, hl, rfl⟩ := List.mem_map.mp hx
    obtain ⟨i, hi, rfl⟩ := List.getElem_of_mem hl
    have e : row rows i = rows[i] := by
      unfold row
      rw [List.getD_eq_getElem?_getD, List.getElem?_eq_getElem hi]
      rfl
    rw [← e]
    refine rep_tNs (fun k hk => ?_) ?_
    · exact Nat.lt_trans (Nat.lt_of_lt_of_le ((H.mem hi).mp hk) hn) (by decide)
    · rw [Hou.len' H hi]; exact hn
  have r2 := rep_tup r1 (w' := 50) (by rw [List.length_map]; exact hn)
  exact rep_tup (w' := 2) (fun x hx => by
    simp only [List.mem_cons, List.not_mem_nil, or_false] at hx
    rcases hx with rfl | rfl
    · exact rep_int (by omega)
    · exact r2) (Nat.le_refl _)
theorem rep_dl' (D0 : Dl n d) (hn : n ≤ 50) : Rep (tNs d) 50 1 := rep_tNs (fun k hk => Nat.lt_trans (Nat.lt_of_lt_of_le (D0.lt k hk) hn) (by decide)) (by rw [D0.len]; exact hn)
theorem deal_fix (H : Hou rows) (hn : rows.length ≤ 50) : ∃ d, DealOf rows d ∧ (∀ s, f_deal_by_rings [.v (hallD rows)] s = .ok (.v (tNs d)) s) ∧ ∀ s, f_law_deal [.v (hallD rows)] s = .ok (.v (tNs d)) s := by
  obtain ⟨r, t, e, rfl, d, rfl, A⟩ := (deal_ok (st := []) H hn).eq
  refine ⟨d, A, fun s => ?_, fun s => ?_⟩
  · obtain ⟨r, t, e, rfl, d', rfl, B⟩ := (deal_ok (st := s) H hn).eq
    rw [e, A.uniq H B]
  · obtain ⟨r, t, e, rfl, d', rfl, B⟩ := (law_deal_ok (st := s) H hn).eq
    rw [e, A.uniq H B]
theorem told_hou (H : Hou rows) (hi : i < rows.length) (hw : w.Perm (List.range rows.length)) : Hou (rows.set i w) := by
  have hl : (rows.set i w).length = rows.length := List.length_set ..
  have key : ∀ {a}, a < rows.length → row (rows.set i w) a = if i = a then w else row rows a := fun {a} ha => by
    unfold row
    rw [List.getD_eq_getElem?_getD, List.getD_eq_getElem?_getD]
    by_cases e : i = a
    · subst e
      rw [List.getElem?_set_self ha, if_pos rfl]
      rfl
    · rw [List.getElem?_set_ne e, if_neg e]
  refine ⟨by rw [hl]; exact H.pos, fun {a} ha => ?_, fun {a b} ha => ?_⟩
  · rw [hl] at ha
    rw [key ha]
    split
    · exact hw.nodup_iff.mpr List.nodup_range
    · exact H.nd ha
  · rw [hl] at ha ⊢
    rw [key ha]
    split
    · rw [hw.mem_iff, List.mem_range]
    · exact H.mem ha
theorem row_set_ne (h : i ≠ a) : row (rows.set i w) a = row rows a := by
  unfold row
  rw [List.getD_eq_getElem?_getD, List.getD_eq_getElem?_getD, List.getElem?_set_ne h]
theorem told_expr (hi : i < rows.length) (hn : rows.length ≤ 50) : PyData.tuple [nI rows.length, .tuple ((rows.take i).map tNs ++ [tNs w] ++ (rows.drop (i + 1)).map tNs)] = hallD (rows.set i w) := by
  have e : rows.set i w = rows.take i ++ w :: rows.drop (i + 1) := by rw [List.set_eq_take_append_cons_drop, if_pos hi]
  have hl : (rows.set i w).length = rows.length := List.length_set ..
  show _ = PyData.tuple [nI (rows.set i w).length, .tuple ((rows.set i w).map tNs)]
  rw [hl, e, List.map_append, List.map_cons, List.append_assoc]
  rfl
theorem told_eq (hi : i < rows.length) (hn : rows.length ≤ 50) : f_told [.v (hallD rows), .v (nI i), .v (tNs w)] st = .ok (.v (hallD (rows.set i w))) st := by
  refine Out.Ok.is (fnT_ok ?_)
  unfold S_told
  have s1 : ∀ s, slD (.v (rowsD rows)) none (some (i : Int)) s = .ok (.v (.tuple ((rows.take i).map tNs))) s := fun s => by
    show slD (.v (.tuple (rows.map tNs))) none (some (i : Int)) s = _
    rw [slice_tup, cut_take, ← List.map_take]
  have s2 : ∀ s, slD (.v (rowsD rows)) (some ((i : Int) + 1)) none s = .ok (.v (.tuple ((rows.drop (i + 1)).map tNs))) s := fun s => by
    show slD (.v (.tuple (rows.map tNs))) (some ((i : Int) + 1)) none s = _
    rw [slice_tup, show ((i : Int) + 1) = ((i + 1 : Nat) : Int) by omega, cut_drop, ← List.map_drop]
  have t1 : ∀ {z : PyData} {s}, fTup [.v z] s = .ok (.v (.tuple [z])) s := fun {_ _} => rfl
  have t2 : ∀ {z u : PyData} {s}, fTup [.v z, .v u] s = .ok (.v (.tuple [z, u])) s := fun {_ _ _} => rfl
  simp only [envE, so_seq, so_if, so_ret, so_retN, so_exp, so_nil, so_nx, so_rt, so_asg, so_asgG, so_par2, so_par3, ok_gNm, ok_gMore, ok_gNone, so_asgT, so_sub, so_for, ok_TB, ok_Tru, ok_notT, ok_andT, ok_orT, ok_andV, ok_orV, ok_notV, ok_iteE, ok_frz, ok_new, ok_mfArg, ok_mfBin, ok_lc, ok_M, ok_M0, ok_moNone, ok_moSome, ok_Sl,
  ok_bin, ok_un, ok_arg, ok_cons, ok_nil, ok_call, ok_var, ok_C, ok_ok, ok_stuck, ok_noX, bOf_bool, low_v, iOf_int, addD_int, subD_int, negD_int, ltD_int, leD_int, gtD_int, geD_int, fInt_int, isD_bool, isNotD_bool, tru_bool, List.map_cons, List.map_nil, List.length_cons, List.length_nil, List.replicate_succ, List.replicate_zero, List.cons_append, List.nil_append,
  List.append_nil, List.getElem?_cons_zero, List.getElem?_cons_succ, List.set_cons_zero, List.set_cons_succ, Option.some.injEq, exists_eq_left', exists_eq_left, true_and, and_true, true_implies, false_implies, implies_true, Bool.false_eq_true, reduceCtorEq, false_and, and_false, D.v.injEq, PyData.int.injEq, D.ref.injEq, p1i_int, p2_two, p3_three, decide_true, Bool.not_true, Bool.not_false, decide_eq_true_eq, decide_eq_false_iff_not, hall0, hall1, s1, s2, t1, t2]
  rw [add_tup2 (by simp; omega)]
  simp only [envE, so_seq, so_if, so_ret, so_retN, so_exp, so_nil, so_nx, so_rt, so_asg, so_asgG, so_par2, so_par3, ok_gNm, ok_gMore, ok_gNone, so_asgT, so_sub, so_for, ok_TB, ok_Tru, ok_notT, ok_andT, ok_orT, ok_andV, ok_orV, ok_notV, ok_iteE, ok_frz, ok_new, ok_mfArg, ok_mfBin, ok_lc, ok_M, ok_M0, ok_moNone, ok_moSome, ok_Sl,
  ok_bin, ok_un, ok_arg, ok_cons, ok_nil, ok_call, ok_var, ok_C, ok_ok, ok_stuck, ok_noX, bOf_bool, low_v, iOf_int, addD_int, subD_int, negD_int, ltD_int, leD_int, gtD_int, geD_int, fInt_int, isD_bool, isNotD_bool, tru_bool, List.map_cons, List.map_nil, List.length_cons, List.length_nil, List.replicate_succ, List.replicate_zero, List.cons_append, List.nil_append,
  List.append_nil, List.getElem?_cons_zero, List.getElem?_cons_succ, List.set_cons_zero, List.set_cons_succ, Option.some.injEq, exists_eq_left', exists_eq_left, true_and, and_true, true_implies, false_implies, implies_true, Bool.false_eq_true, reduceCtorEq, false_and, and_false, D.v.injEq, PyData.int.injEq, D.ref.injEq, p1i_int, p2_two, p3_three, decide_true, Bool.not_true, Bool.not_false, decide_eq_true_eq, decide_eq_false_iff_not]
  rw [add_tup2 (by simp; omega)]
  simp only [envE, so_seq, so_if, so_ret, so_retN, so_exp, so_nil, so_nx, so_rt, so_asg, so_asgG, so_par2, so_par3, ok_gNm, ok_gMore, ok_gNone, so_asgT, so_sub, so_for, ok_TB, ok_Tru, ok_notT, ok_andT, ok_orT, ok_andV, ok_orV, ok_notV, ok_iteE, ok_frz, ok_new, ok_mfArg, ok_mfBin, ok_lc, ok_M, ok_M0, ok_moNone, ok_moSome, ok_Sl,
  ok_bin, ok_un, ok_arg, ok_cons, ok_nil, ok_call, ok_var, ok_C, ok_ok, ok_stuck, ok_noX, bOf_bool, low_v, iOf_int, addD_int, subD_int, negD_int, ltD_int, leD_int, gtD_int, geD_int, fInt_int, isD_bool, isNotD_bool, tru_bool, List.map_cons, List.map_nil, List.length_cons, List.length_nil, List.replicate_succ, List.replicate_zero, List.cons_append, List.nil_append,
  List.append_nil, List.getElem?_cons_zero, List.getElem?_cons_succ, List.set_cons_zero, List.set_cons_succ, Option.some.injEq, exists_eq_left', exists_eq_left, true_and, and_true, true_implies, false_implies, implies_true, Bool.false_eq_true, reduceCtorEq, false_and, and_false, D.v.injEq, PyData.int.injEq, D.ref.injEq, p1i_int, p2_two, p3_three, decide_true, Bool.not_true, Bool.not_false, decide_eq_true_eq, decide_eq_false_iff_not, t2]
  rw [told_expr hi hn]
  exact ⟨rfl, List.take_length⟩
theorem same_deal (H : Hou rows) (H' : Hou rows') (hlen : rows'.length = rows.length) (A : DealOf rows d) (B : DealOf rows' e) (hL : ∀ i, i < rows.length → row rows' i = row rows i ∨ rk rows i (at' e i) ≤ rk rows i (at' d i)) : e = d := by
  obtain ⟨t, V⟩ := A.lv H
  obtain ⟨t', V'⟩ := B.lv H'
  rw [hlen] at V'
  have hs := lv_same V V' (fun i hi h hh h' hh' => rk_inj H hi hh hh') fun i hi => (hL i hi).imp (fun e h _ => by unfold rk; rw [e]) id
  refine List.ext_getElem (by rw [A.1, B.1, hlen]) fun i h1 h2 => ?_
  have := hs i (by rw [← A.1]; exact h2)
  rwa [at_elem h1, at_elem h2] at this
theorem turn_ok {s0 : Src} {x2 x6 x7 x8 x9 x10 x11 x12 x0 : Option D} (H : Hou rows) (hn : rows.length ≤ 6) (A : DealOf rows d) (ok : s0.ok) :
    (law_B2 [x0, some (.ref 1), x2, some (.v (hallD rows)), some (.v (nI rows.length)), some (.v (tNs d)), x6, x7, x8, x9, x10, x11, x12] (s0.sto [])).Ok
      (fun e2 s2 => ∃ s' : Src, s2 = s'.sto [] ∧ s'.ok ∧ ∃ x6 x7 x8 x9 x10, e2 = [x0, some (.ref 1), x2, some (.v (hallD rows)), some (.v (nI rows.length)), some (.v (tNs d)), x6, x7, x8, x9, x10, x11, x12])
      (fun d st => D.low 0 d = true ∧ d = .v (.bool true)) := by
  have hn50 : rows.length ≤ 50 := by omega
  have Dd := A.dl H
  unfold law_B2
  simp only [envE, so_seq, so_if, so_ret, so_retN, so_exp, so_nil, so_nx, so_rt, so_asg, so_asgG, so_par2, so_par3, ok_gNm, ok_gMore, ok_gNone, so_asgT, so_sub, so_for, ok_TB, ok_Tru, ok_notT, ok_andT, ok_orT, ok_andV, ok_orV, ok_notV, ok_iteE, ok_frz, ok_new, ok_mfArg, ok_mfBin, ok_lc, ok_M, ok_M0, ok_moNone, ok_moSome, ok_Sl,
  ok_bin, ok_un, ok_arg, ok_cons, ok_nil, ok_call, ok_var, ok_C, ok_ok, ok_stuck, ok_noX, bOf_bool, low_v, iOf_int, addD_int, subD_int, negD_int, ltD_int, leD_int, gtD_int, geD_int, fInt_int, isD_bool, isNotD_bool, tru_bool, List.map_cons, List.map_nil, List.length_cons, List.length_nil, List.replicate_succ, List.replicate_zero, List.cons_append, List.nil_append,
  List.append_nil, List.getElem?_cons_zero, List.getElem?_cons_succ, List.set_cons_zero, List.set_cons_succ, Option.some.injEq, exists_eq_left', exists_eq_left, true_and, and_true, true_implies, false_implies, implies_true, Bool.false_eq_true, reduceCtorEq, false_and, and_false, D.v.injEq, PyData.int.injEq, D.ref.injEq, p1i_int, p2_two, p3_three, decide_true, Bool.not_true, Bool.not_false, decide_eq_true_eq, decide_eq_false_iff_not]
  refine (pickA_ok s0 [] (rows.length : Int) (by omega) ok).mono ?_
  rintro _ _ ⟨r, s1, rfl, rfl, ok1, q0, q1, _⟩
  have q1 := q1 (by have := H.pos; omega)
  obtain ⟨i, rfl⟩ : ∃ m : Nat, r = (m : Int) := ⟨r.toNat, by omega⟩
  have hi : i < rows.length := by omega
  simp only [ok_Rg1, envE, so_seq, so_if, so_ret, so_retN, so_exp, so_nil, so_nx, so_rt, so_asg, so_asgG, so_par2, so_par3, ok_gNm, ok_gMore, ok_gNone, so_asgT, so_sub, so_for, ok_TB, ok_Tru, ok_notT, ok_andT, ok_orT, ok_andV, ok_orV, ok_notV, ok_iteE, ok_frz, ok_new, ok_mfArg, ok_mfBin, ok_lc, ok_M, ok_M0, ok_moNone, ok_moSome, ok_Sl,
  ok_bin, ok_un, ok_arg, ok_cons, ok_nil, ok_call, ok_var, ok_C, ok_ok, ok_stuck, ok_noX, bOf_bool, low_v, iOf_int, addD_int, subD_int, negD_int, ltD_int, leD_int, gtD_int, geD_int, fInt_int, isD_bool, isNotD_bool, tru_bool, List.map_cons, List.map_nil, List.length_cons, List.length_nil, List.replicate_succ, List.replicate_zero, List.cons_append, List.nil_append,
  List.append_nil, List.getElem?_cons_zero, List.getElem?_cons_succ, List.set_cons_zero, List.set_cons_succ, Option.some.injEq, exists_eq_left', exists_eq_left, true_and, and_true, true_implies, false_implies, implies_true, Bool.false_eq_true, reduceCtorEq, false_and, and_false, D.v.injEq, PyData.int.injEq, D.ref.injEq, p1i_int, p2_two, p3_three, decide_true, Bool.not_true, Bool.not_false, decide_eq_true_eq, decide_eq_false_iff_not]
  refine ⟨rg_ok hn50, ?_⟩
  rw [rg_nats]
  have hsh := shufA s1 [] (.v (.list ((List.range rows.length).map nI))) ((List.range rows.length).map nI) ok1 viewS_list (by rw [List.length_map, List.length_range]; omega)
  refine hsh.mono ?_
  rintro _ _ ⟨ys, s2, rfl, rfl, ok2, hp⟩
  obtain ⟨w, rfl, hw⟩ := unmap_nats hp
  have tl : ∀ (l : List Nat) t, fTuple [.v (.list (l.map nI))] t = .ok (.v (tNs l)) t := fun l t => rfl
  rw [tl, ok_ok]
  unfold law_B2_2
  have ft : ∀ t, f_told [.v (hallD rows), .v (nI i), .v (tNs w)] t = .ok (.v (hallD (rows.set i w))) t := fun t => told_eq hi hn50
  have H' := told_hou H hi hw
  have hl' : (rows.set i w).length = rows.length := List.length_set ..
  simp only [envE, so_seq, so_if, so_ret, so_retN, so_exp, so_nil, so_nx, so_rt, so_asg, so_asgG, so_par2, so_par3, ok_gNm, ok_gMore, ok_gNone, so_asgT, so_sub, so_for, ok_TB, ok_Tru, ok_notT, ok_andT, ok_orT, ok_andV, ok_orV, ok_notV, ok_iteE, ok_frz, ok_new, ok_mfArg, ok_mfBin, ok_lc, ok_M, ok_M0, ok_moNone, ok_moSome, ok_Sl,
  ok_bin, ok_un, ok_arg, ok_cons, ok_nil, ok_call, ok_var, ok_C, ok_ok, ok_stuck, ok_noX, bOf_bool, low_v, iOf_int, addD_int, subD_int, negD_int, ltD_int, leD_int, gtD_int, geD_int, fInt_int, isD_bool, isNotD_bool, tru_bool, List.map_cons, List.map_nil, List.length_cons, List.length_nil, List.replicate_succ, List.replicate_zero, List.cons_append, List.nil_append,
  List.append_nil, List.getElem?_cons_zero, List.getElem?_cons_succ, List.set_cons_zero, List.set_cons_succ, Option.some.injEq, exists_eq_left', exists_eq_left, true_and, and_true, true_implies, false_implies, implies_true, Bool.false_eq_true, reduceCtorEq, false_and, and_false, D.v.injEq, PyData.int.injEq, D.ref.injEq, p1i_int, p2_two, p3_three, decide_true, Bool.not_true, Bool.not_false, decide_eq_true_eq, decide_eq_false_iff_not]
  show (f_told [.v (hallD rows), .v (nI i), .v (tNs w)] _).Ok _
  rw [ft, ok_ok]
  unfold law_B2_3
  have s3 : ∀ s, slD (.v (rowsD rows)) none (some (i : Int)) s = .ok (.v (.tuple ((rows.take i).map tNs))) s := fun s => by
    show slD (.v (.tuple (rows.map tNs))) none (some (i : Int)) s = _
    rw [slice_tup, cut_take, ← List.map_take]
  have s4 : ∀ s, slD (.v (rowsD rows)) (some ((i : Int) + 1)) none s = .ok (.v (.tuple ((rows.drop (i + 1)).map tNs))) s := fun s => by
    show slD (.v (.tuple (rows.map tNs))) (some ((i : Int) + 1)) none s = _
    rw [slice_tup, show ((i : Int) + 1) = ((i + 1 : Nat) : Int) by omega, cut_drop, ← List.map_drop]
  have t1 : ∀ {z : PyData} {s}, fTup [.v z] s = .ok (.v (.tuple [z])) s := fun {_ _} => rfl
  have t2 : ∀ {z u : PyData} {s}, fTup [.v z, .v u] s = .ok (.v (.tuple [z, u])) s := fun {_ _ _} => rfl
  have ad1 : ∀ s, addD (.v (.tuple ((rows.take i).map tNs))) (.v (.tuple [tNs w])) s = .ok (.v (.tuple ((rows.take i).map tNs ++ [tNs w]))) s := fun s => add_tup2 (by simp; omega)
  have ad2 : ∀ s, addD (.v (.tuple ((rows.take i).map tNs ++ [tNs w]))) (.v (.tuple ((rows.drop (i + 1)).map tNs))) s = .ok (.v (.tuple ((rows.take i).map tNs ++ [tNs w] ++ (rows.drop (i + 1)).map tNs))) s := fun s => add_tup2 (by simp; omega)
  simp only [envE, so_seq, so_if, so_ret, so_retN, so_exp, so_nil, so_nx, so_rt, so_asg, so_asgG, so_par2, so_par3, ok_gNm, ok_gMore, ok_gNone, so_asgT, so_sub, so_for, ok_TB, ok_Tru, ok_notT, ok_andT, ok_orT, ok_andV, ok_orV, ok_notV, ok_iteE, ok_frz, ok_new, ok_mfArg, ok_mfBin, ok_lc, ok_M, ok_M0, ok_moNone, ok_moSome, ok_Sl,
  ok_bin, ok_un, ok_arg, ok_cons, ok_nil, ok_call, ok_var, ok_C, ok_ok, ok_stuck, ok_noX, bOf_bool, low_v, iOf_int, addD_int, subD_int, negD_int, ltD_int, leD_int, gtD_int, geD_int, fInt_int, isD_bool, isNotD_bool, tru_bool, List.map_cons, List.map_nil, List.length_cons, List.length_nil, List.replicate_succ, List.replicate_zero, List.cons_append, List.nil_append,
  List.append_nil, List.getElem?_cons_zero, List.getElem?_cons_succ, List.set_cons_zero, List.set_cons_succ, Option.some.injEq, exists_eq_left', exists_eq_left, true_and, and_true, true_implies, false_implies, implies_true, Bool.false_eq_true, reduceCtorEq, false_and, and_false, D.v.injEq, PyData.int.injEq, D.ref.injEq, p1i_int, p2_two, p3_three, decide_true, Bool.not_true, Bool.not_false, decide_eq_true_eq, decide_eq_false_iff_not, hall1, s3, s4, t1, t2, ad1, ad2, repr_of (rep_hou H' (by rw [hl']; exact hn50))]
  rw [told_expr hi hn50, repr_of (rep_hou H' (by rw [hl']; exact hn50)), ok_ok]
  simp only [envE, so_seq, so_if, so_ret, so_retN, so_exp, so_nil, so_nx, so_rt, so_asg, so_asgG, so_par2, so_par3, ok_gNm, ok_gMore, ok_gNone, so_asgT, so_sub, so_for, ok_TB, ok_Tru, ok_notT, ok_andT, ok_orT, ok_andV, ok_orV, ok_notV, ok_iteE, ok_frz, ok_new, ok_mfArg, ok_mfBin, ok_lc, ok_M, ok_M0, ok_moNone, ok_moSome, ok_Sl,
  ok_bin, ok_un, ok_arg, ok_cons, ok_nil, ok_call, ok_var, ok_C, ok_ok, ok_stuck, ok_noX, bOf_bool, low_v, iOf_int, addD_int, subD_int, negD_int, ltD_int, leD_int, gtD_int, geD_int, fInt_int, isD_bool, isNotD_bool, tru_bool, List.map_cons, List.map_nil, List.length_cons, List.length_nil, List.replicate_succ, List.replicate_zero, List.cons_append, List.nil_append,
  List.append_nil, List.getElem?_cons_zero, List.getElem?_cons_succ, List.set_cons_zero, List.set_cons_succ, Option.some.injEq, exists_eq_left', exists_eq_left, true_and, and_true, true_implies, false_implies, implies_true, Bool.false_eq_true, reduceCtorEq, false_and, and_false, D.v.injEq, PyData.int.injEq, D.ref.injEq, p1i_int, p2_two, p3_three, decide_true, Bool.not_true, Bool.not_false, decide_eq_true_eq, decide_eq_false_iff_not, neD_str]
  obtain ⟨e, B, g1, g2⟩ := deal_fix H' (by rw [hl']; exact hn50)
  have De := B.dl H'
  rw [hl'] at De
  unfold law_B2_4
  simp only [envE, so_seq, so_if, so_ret, so_retN, so_exp, so_nil, so_nx, so_rt, so_asg, so_asgG, so_par2, so_par3, ok_gNm, ok_gMore, ok_gNone, so_asgT, so_sub, so_for, ok_TB, ok_Tru, ok_notT, ok_andT, ok_orT, ok_andV, ok_orV, ok_notV, ok_iteE, ok_frz, ok_new, ok_mfArg, ok_mfBin, ok_lc, ok_M, ok_M0, ok_moNone, ok_moSome, ok_Sl,
  ok_bin, ok_un, ok_arg, ok_cons, ok_nil, ok_call, ok_var, ok_C, ok_ok, ok_stuck, ok_noX, bOf_bool, low_v, iOf_int, addD_int, subD_int, negD_int, ltD_int, leD_int, gtD_int, geD_int, fInt_int, isD_bool, isNotD_bool, tru_bool, List.map_cons, List.map_nil, List.length_cons, List.length_nil, List.replicate_succ, List.replicate_zero, List.cons_append, List.nil_append,
  List.append_nil, List.getElem?_cons_zero, List.getElem?_cons_succ, List.set_cons_zero, List.set_cons_succ, Option.some.injEq, exists_eq_left', exists_eq_left, true_and, and_true, true_implies, false_implies, implies_true, Bool.false_eq_true, reduceCtorEq, false_and, and_false, D.v.injEq, PyData.int.injEq, D.ref.injEq, p1i_int, p2_two, p3_three, decide_true, Bool.not_true, Bool.not_false, decide_eq_true_eq, decide_eq_false_iff_not, g1]
  unfold law_B2_5
  have hrow' : ∀ s, subsD (.v (rowsD rows)) (.v (nI i)) s = .ok (.v (tNs (row rows i))) s := fun s => hrow hi
  have a1 : ∀ s, subsD (.v (tNs e)) (.v (nI i)) s = .ok (.v (nI (at' e i))) s := fun s => at_sub (by rw [De.len]; exact hi)
  have a2 : ∀ s, subsD (.v (tNs d)) (.v (nI i)) s = .ok (.v (nI (at' d i))) s := fun s => at_sub (by rw [Dd.len]; exact hi)
  have i1 : ∀ s, fmIndex (.v (tNs (row rows i))) [.v (nI (at' e i))] s = .ok (.v (nI (rk rows i (at' e i)))) s := fun s => index_rk H hi (De.at_lt hi)
  have i2 : ∀ s, fmIndex (.v (tNs (row rows i))) [.v (nI (at' d i))] s = .ok (.v (nI (rk rows i (at' d i)))) s := fun s => index_rk H hi (Dd.at_lt hi)
  have hno : ¬ rk rows i (at' e i) < rk rows i (at' d i) := fun z => by
    have := same_deal H H' hl' A B fun j hj => by
      by_cases e1 : i = j
      · subst e1; exact .inr (Nat.le_of_lt z)
      · exact .inl (row_set_ne e1)
    rw [this] at z
    omega
  have hlt : ∀ s, ltD (.v (nI (rk rows i (at' e i)))) (.v (nI (rk rows i (at' d i)))) s = .ok (.v (.bool false)) s := fun s => by
    rw [ltD_int, decide_eq_false (by omega)]
  have hT : isT (.v (tNs (row rows i))) = true := rfl
  simp only [envE, so_seq, so_if, so_ret, so_retN, so_exp, so_nil, so_nx, so_rt, so_asg, so_asgG, so_par2, so_par3, ok_gNm, ok_gMore, ok_gNone, so_asgT, so_sub, so_for, ok_TB, ok_Tru, ok_notT, ok_andT, ok_orT, ok_andV, ok_orV, ok_notV, ok_iteE, ok_frz, ok_new, ok_mfArg, ok_mfBin, ok_lc, ok_M, ok_M0, ok_moNone, ok_moSome, ok_Sl,
  ok_bin, ok_un, ok_arg, ok_cons, ok_nil, ok_call, ok_var, ok_C, ok_ok, ok_stuck, ok_noX, bOf_bool, low_v, iOf_int, addD_int, subD_int, negD_int, ltD_int, leD_int, gtD_int, geD_int, fInt_int, isD_bool, isNotD_bool, tru_bool, List.map_cons, List.map_nil, List.length_cons, List.length_nil, List.replicate_succ, List.replicate_zero, List.cons_append, List.nil_append,
  List.append_nil, List.getElem?_cons_zero, List.getElem?_cons_succ, List.set_cons_zero, List.set_cons_succ, Option.some.injEq, exists_eq_left', exists_eq_left, true_and, and_true, true_implies, false_implies, implies_true, Bool.false_eq_true, reduceCtorEq, false_and, and_false, D.v.injEq, PyData.int.injEq, D.ref.injEq, p1i_int, p2_two, p3_three, decide_true, Bool.not_true, Bool.not_false, decide_eq_true_eq, decide_eq_false_iff_not, g2, repr_of (rep_dl' De hn50), neD_str, ok_Index, hall1, hrow', a1, a2, i1, i2, hlt, hT, Bool.or_true]
  exact ⟨s2, rfl, ok2, _, _, _, _, _, rfl⟩
theorem lot_ok {s0 : Src} {x2 x6 x7 x8 x9 x10 x11 x12 x0 : Option D} (H : Hou rows) (hn : rows.length ≤ 6) (A : DealOf rows d) (ok : s0.ok) :
    (law_B1_5 [x0, some (.ref 1), x2, some (.v (hallD rows)), some (.v (nI rows.length)), some (.v (tNs d)), x6, x7, x8, x9, x10, x11, x12] (s0.sto [])).Ok
      (fun e2 s2 => ∃ s' : Src, s2 = s'.sto [] ∧ s'.ok ∧ ∃ x3 x4 x5 x6 x7 x8 x9 x10 x11 x12, e2 = [x0, some (.ref 1), x2, x3, x4, x5, x6, x7, x8, x9, x10, x11, x12])
      (fun d st => D.low 0 d = true ∧ d = .v (.bool true)) := by
  have hn50 : rows.length ≤ 50 := by omega
  have Dd := A.dl H
  have tl : ∀ (l : List Nat) t, fTuple [.v (.list (l.map nI))] t = .ok (.v (tNs l)) t := fun l t => rfl
  have shuf : ∀ (s : Src), s.ok → (f_law_any_order [.ref 1, .v (.list ((List.range rows.length).map nI))] (s.sto [])).Ok fun d st => ∃ (l : List Nat) (s' : Src), d = .v (lNs l) ∧ st = s'.sto [] ∧ s'.ok ∧ l.Perm (List.range rows.length) := fun s ok => by
    have hsh := shufA s [] (.v (.list ((List.range rows.length).map nI))) ((List.range rows.length).map nI) ok viewS_list (by rw [List.length_map, List.length_range]; omega)
    refine hsh.mono ?_
    rintro _ _ ⟨ys, s', rfl, rfl, ok', hp⟩
    obtain ⟨zs, rfl, hp2⟩ := unmap_nats hp
    exact ⟨zs, s', rfl, rfl, ok', hp2⟩
  unfold law_B1_5
  simp only [envE, so_seq, so_if, so_ret, so_retN, so_exp, so_nil, so_nx, so_rt, so_asg, so_asgG, so_par2, so_par3, ok_gNm, ok_gMore, ok_gNone, so_asgT, so_sub, so_for, ok_TB, ok_Tru, ok_notT, ok_andT, ok_orT, ok_andV, ok_orV, ok_notV, ok_iteE, ok_frz, ok_new, ok_mfArg, ok_mfBin, ok_lc, ok_M, ok_M0, ok_moNone, ok_moSome, ok_Sl,
  ok_bin, ok_un, ok_arg, ok_cons, ok_nil, ok_call, ok_var, ok_C, ok_ok, ok_stuck, ok_noX, bOf_bool, low_v, iOf_int, addD_int, subD_int, negD_int, ltD_int, leD_int, gtD_int, geD_int, fInt_int, isD_bool, isNotD_bool, tru_bool, List.map_cons, List.map_nil, List.length_cons, List.length_nil, List.replicate_succ, List.replicate_zero, List.cons_append, List.nil_append,
  List.append_nil, List.getElem?_cons_zero, List.getElem?_cons_succ, List.set_cons_zero, List.set_cons_succ, Option.some.injEq, exists_eq_left', exists_eq_left, true_and, and_true, true_implies, false_implies, implies_true, Bool.false_eq_true, reduceCtorEq, false_and, and_false, D.v.injEq, PyData.int.injEq, D.ref.injEq, p1i_int, p2_two, p3_three, decide_true, Bool.not_true, Bool.not_false, decide_eq_true_eq, decide_eq_false_iff_not, ok_Rg1]
  refine ⟨rg_ok hn50, ?_⟩
  rw [rg_nats]
  have h1 := shuf s0 ok
  refine h1.mono ?_
  rintro _ _ ⟨order, s1, rfl, rfl, ok1, hperm⟩
  refine (pickA_ok s1 [] (rows.length : Int) (by omega) ok1).mono ?_
  rintro _ _ ⟨r, s2, rfl, rfl, ok2, q0, q1, _⟩
  obtain ⟨c, rfl⟩ : ∃ m : Nat, r = (m : Int) := ⟨r.toNat, by omega⟩
  have hsl : ∀ s, slD (.v (lNs order)) none (some (1 + (c : Int))) s = .ok (.v (lNs (order.take (1 + c)))) s := fun s => by
    rw [slice_list, show (1 + (c : Int)) = ((1 + c : Nat) : Int) by omega, cut_take, ← List.map_take]
  simp only [envE, so_seq, so_if, so_ret, so_retN, so_exp, so_nil, so_nx, so_rt, so_asg, so_asgG, so_par2, so_par3, ok_gNm, ok_gMore, ok_gNone, so_asgT, so_sub, so_for, ok_TB, ok_Tru, ok_notT, ok_andT, ok_orT, ok_andV, ok_orV, ok_notV, ok_iteE, ok_frz, ok_new, ok_mfArg, ok_mfBin, ok_lc, ok_M, ok_M0, ok_moNone, ok_moSome, ok_Sl,
  ok_bin, ok_un, ok_arg, ok_cons, ok_nil, ok_call, ok_var, ok_C, ok_ok, ok_stuck, ok_noX, bOf_bool, low_v, iOf_int, addD_int, subD_int, negD_int, ltD_int, leD_int, gtD_int, geD_int, fInt_int, isD_bool, isNotD_bool, tru_bool, List.map_cons, List.map_nil, List.length_cons, List.length_nil, List.replicate_succ, List.replicate_zero, List.cons_append, List.nil_append,
  List.append_nil, List.getElem?_cons_zero, List.getElem?_cons_succ, List.set_cons_zero, List.set_cons_succ, Option.some.injEq, exists_eq_left', exists_eq_left, true_and, and_true, true_implies, false_implies, implies_true, Bool.false_eq_true, reduceCtorEq, false_and, and_false, D.v.injEq, PyData.int.injEq, D.ref.injEq, p1i_int, p2_two, p3_three, decide_true, Bool.not_true, Bool.not_false, decide_eq_true_eq, decide_eq_false_iff_not, hsl]
  have hol : order.length = rows.length := by rw [hperm.length_eq, List.length_range]
  have hlot : ∀ a ∈ order.take (1 + c), a < rows.length := fun a ha => List.mem_range.mp (hperm.mem_iff.mp (List.mem_of_mem_take ha))
  have hlne : 0 < (order.take (1 + c)).length := by rw [List.length_take, hol]; have := H.pos; omega
  generalize order.take (1 + c) = lot at hlot hlne
  unfold law_B1_6 law_E2
  simp only [envE, so_seq, so_if, so_ret, so_retN, so_exp, so_nil, so_nx, so_rt, so_asg, so_asgG, so_par2, so_par3, ok_gNm, ok_gMore, ok_gNone, so_asgT, so_sub, so_for, ok_TB, ok_Tru, ok_notT, ok_andT, ok_orT, ok_andV, ok_orV, ok_notV, ok_iteE, ok_frz, ok_new, ok_mfArg, ok_mfBin, ok_lc, ok_M, ok_M0, ok_moNone, ok_moSome, ok_Sl,
  ok_bin, ok_un, ok_arg, ok_cons, ok_nil, ok_call, ok_var, ok_C, ok_ok, ok_stuck, ok_noX, bOf_bool, low_v, iOf_int, addD_int, subD_int, negD_int, ltD_int, leD_int, gtD_int, geD_int, fInt_int, isD_bool, isNotD_bool, tru_bool, List.map_cons, List.map_nil, List.length_cons, List.length_nil, List.replicate_succ, List.replicate_zero, List.cons_append, List.nil_append,
  List.append_nil, List.getElem?_cons_zero, List.getElem?_cons_succ, List.set_cons_zero, List.set_cons_succ, Option.some.injEq, exists_eq_left', exists_eq_left, true_and, and_true, true_implies, false_implies, implies_true, Bool.false_eq_true, reduceCtorEq, false_and, and_false, D.v.injEq, PyData.int.injEq, D.ref.injEq, p1i_int, p2_two, p3_three, decide_true, Bool.not_true, Bool.not_false, decide_eq_true_eq, decide_eq_false_iff_not, ok_seq, seqW_list, List.map_map]
  refine forL_inv (fun idx e2 s2 => ∃ s' rows', s2 = s'.sto [] ∧ s'.ok ∧ Hou rows' ∧ rows'.length = rows.length ∧ (∀ j, j < rows.length → ¬ j ∈ lot → row rows' j = row rows j) ∧ ∃ y7, e2 = [x0, some (.ref 1), x2, some (.v (hallD rows)), some (.v (nI rows.length)), some (.v (tNs d)), x6, y7, x8, some (.v (hallD rows')), x10, some (.v (lNs lot)), x12]) _ _ _ 0 ?_ ?_ ⟨s2, rows, rfl, ok2, H, rfl, (fun _ _ _ => rfl), _, rfl⟩
  · rintro idx dd e2 t hd ⟨s3, rows', rfl, ok3, H', hl', hkeep, y7, rfl⟩
    rw [List.getElem?_map] at hd
    obtain ⟨i, hi, rfl⟩ := Option.map_eq_some_iff.mp hd
    have him := List.mem_of_getElem? hi
    have hin := hlot i him
    refine ⟨trivial, ?_⟩
    unfold law_G2 law_B3
    show (gNm 7 (.one (.v (nI i))) _ _).Ok _
    simp only [envE, so_seq, so_if, so_ret, so_retN, so_exp, so_nil, so_nx, so_rt, so_asg, so_asgG, so_par2, so_par3, ok_gNm, ok_gMore, ok_gNone, so_asgT, so_sub, so_for, ok_TB, ok_Tru, ok_notT, ok_andT, ok_orT, ok_andV, ok_orV, ok_notV, ok_iteE, ok_frz, ok_new, ok_mfArg, ok_mfBin, ok_lc, ok_M, ok_M0, ok_moNone, ok_moSome, ok_Sl,
  ok_bin, ok_un, ok_arg, ok_cons, ok_nil, ok_call, ok_var, ok_C, ok_ok, ok_stuck, ok_noX, bOf_bool, low_v, iOf_int, addD_int, subD_int, negD_int, ltD_int, leD_int, gtD_int, geD_int, fInt_int, isD_bool, isNotD_bool, tru_bool, List.map_cons, List.map_nil, List.length_cons, List.length_nil, List.replicate_succ, List.replicate_zero, List.cons_append, List.nil_append,
  List.append_nil, List.getElem?_cons_zero, List.getElem?_cons_succ, List.set_cons_zero, List.set_cons_succ, Option.some.injEq, exists_eq_left', exists_eq_left, true_and, and_true, true_implies, false_implies, implies_true, Bool.false_eq_true, reduceCtorEq, false_and, and_false, D.v.injEq, PyData.int.injEq, D.ref.injEq, p1i_int, p2_two, p3_three, decide_true, Bool.not_true, Bool.not_false, decide_eq_true_eq, decide_eq_false_iff_not, ok_Rg1]
    refine ⟨rg_ok hn50, ?_⟩
    rw [rg_nats]
    have h2 := shuf s3 ok3
    refine h2.mono ?_
    rintro _ _ ⟨w, s4, rfl, rfl, ok4, hw⟩
    have ft : ∀ t, f_told [.v (hallD rows'), .v (nI i), .v (tNs w)] t = .ok (.v (hallD (rows'.set i w))) t := fun t => told_eq (by rw [hl']; exact hin) (by rw [hl']; exact hn50)
    rw [tl, ok_ok, ft, ok_ok]
    refine ⟨s4, rows'.set i w, rfl, ok4, told_hou H' (by rw [hl']; exact hin) (by rw [hl']; exact hw), by rw [List.length_set, hl'], fun j hj hno => ?_, _, rfl⟩
    have hne : i ≠ j := fun z => hno (by rw [← z]; exact him)
    rw [row_set_ne hne, hkeep j hj hno]
  · rintro e2 t ⟨s3, rows', rfl, ok3, H', hl', hkeep, y7, rfl⟩
    refine ⟨trivial, ?_⟩
    obtain ⟨e, B, g1, g2⟩ := deal_fix H' (by rw [hl']; exact hn50)
    have De := B.dl H'
    rw [hl'] at De
    unfold law_B1_7
    simp only [envE, so_seq, so_if, so_ret, so_retN, so_exp, so_nil, so_nx, so_rt, so_asg, so_asgG, so_par2, so_par3, ok_gNm, ok_gMore, ok_gNone, so_asgT, so_sub, so_for, ok_TB, ok_Tru, ok_notT, ok_andT, ok_orT, ok_andV, ok_orV, ok_notV, ok_iteE, ok_frz, ok_new, ok_mfArg, ok_mfBin, ok_lc, ok_M, ok_M0, ok_moNone, ok_moSome, ok_Sl,
  ok_bin, ok_un, ok_arg, ok_cons, ok_nil, ok_call, ok_var, ok_C, ok_ok, ok_stuck, ok_noX, bOf_bool, low_v, iOf_int, addD_int, subD_int, negD_int, ltD_int, leD_int, gtD_int, geD_int, fInt_int, isD_bool, isNotD_bool, tru_bool, List.map_cons, List.map_nil, List.length_cons, List.length_nil, List.replicate_succ, List.replicate_zero, List.cons_append, List.nil_append,
  List.append_nil, List.getElem?_cons_zero, List.getElem?_cons_succ, List.set_cons_zero, List.set_cons_succ, Option.some.injEq, exists_eq_left', exists_eq_left, true_and, and_true, true_implies, false_implies, implies_true, Bool.false_eq_true, reduceCtorEq, false_and, and_false, D.v.injEq, PyData.int.injEq, D.ref.injEq, p1i_int, p2_two, p3_three, decide_true, Bool.not_true, Bool.not_false, decide_eq_true_eq, decide_eq_false_iff_not, g1]
    unfold law_B1_8 law_E3 law_T1
    simp only [envE, so_seq, so_if, so_ret, so_retN, so_exp, so_nil, so_nx, so_rt, so_asg, so_asgG, so_par2, so_par3, ok_gNm, ok_gMore, ok_gNone, so_asgT, so_sub, so_for, ok_TB, ok_Tru, ok_notT, ok_andT, ok_orT, ok_andV, ok_orV, ok_notV, ok_iteE, ok_frz, ok_new, ok_mfArg, ok_mfBin, ok_lc, ok_M, ok_M0, ok_moNone, ok_moSome, ok_Sl,
  ok_bin, ok_un, ok_arg, ok_cons, ok_nil, ok_call, ok_var, ok_C, ok_ok, ok_stuck, ok_noX, bOf_bool, low_v, iOf_int, addD_int, subD_int, negD_int, ltD_int, leD_int, gtD_int, geD_int, fInt_int, isD_bool, isNotD_bool, tru_bool, List.map_cons, List.map_nil, List.length_cons, List.length_nil, List.replicate_succ, List.replicate_zero, List.cons_append, List.nil_append,
  List.append_nil, List.getElem?_cons_zero, List.getElem?_cons_succ, List.set_cons_zero, List.set_cons_succ, Option.some.injEq, exists_eq_left', exists_eq_left, true_and, and_true, true_implies, false_implies, implies_true, Bool.false_eq_true, reduceCtorEq, false_and, and_false, D.v.injEq, PyData.int.injEq, D.ref.injEq, p1i_int, p2_two, p3_three, decide_true, Bool.not_true, Bool.not_false, decide_eq_true_eq, decide_eq_false_iff_not, ok_seq, seqW_list, List.map_map]
    rw [lcL_all _ (fun i => PyData.int ((rk rows i (at' d i) : Int) - (rk rows i (at' e i) : Int)))]
    rotate_left
    · intro i hi
      have hi := hlot i hi
      have hrow' : ∀ s, subsD (.v (rowsD rows)) (.v (nI i)) s = .ok (.v (tNs (row rows i))) s := fun s => hrow hi
      have a1 : ∀ s, subsD (.v (tNs e)) (.v (nI i)) s = .ok (.v (nI (at' e i))) s := fun s => at_sub (by rw [De.len]; exact hi)
      have a2 : ∀ s, subsD (.v (tNs d)) (.v (nI i)) s = .ok (.v (nI (at' d i))) s := fun s => at_sub (by rw [Dd.len]; exact hi)
      have i1 : ∀ s, fmIndex (.v (tNs (row rows i))) [.v (nI (at' e i))] s = .ok (.v (nI (rk rows i (at' e i)))) s := fun s => index_rk H hi (De.at_lt hi)
      have i2 : ∀ s, fmIndex (.v (tNs (row rows i))) [.v (nI (at' d i))] s = .ok (.v (nI (rk rows i (at' d i)))) s := fun s => index_rk H hi (Dd.at_lt hi)
      have hT : isT (.v (tNs (row rows i))) = true := rfl
      unfold law_G3 law_M1
      show (gNm 7 (.one (.v (nI i))) _ _).Ok _
      simp only [envE, so_seq, so_if, so_ret, so_retN, so_exp, so_nil, so_nx, so_rt, so_asg, so_asgG, so_par2, so_par3, ok_gNm, ok_gMore, ok_gNone, so_asgT, so_sub, so_for, ok_TB, ok_Tru, ok_notT, ok_andT, ok_orT, ok_andV, ok_orV, ok_notV, ok_iteE, ok_frz, ok_new, ok_mfArg, ok_mfBin, ok_lc, ok_M, ok_M0, ok_moNone, ok_moSome, ok_Sl,
  ok_bin, ok_un, ok_arg, ok_cons, ok_nil, ok_call, ok_var, ok_C, ok_ok, ok_stuck, ok_noX, bOf_bool, low_v, iOf_int, addD_int, subD_int, negD_int, ltD_int, leD_int, gtD_int, geD_int, fInt_int, isD_bool, isNotD_bool, tru_bool, List.map_cons, List.map_nil, List.length_cons, List.length_nil, List.replicate_succ, List.replicate_zero, List.cons_append, List.nil_append,
  List.append_nil, List.getElem?_cons_zero, List.getElem?_cons_succ, List.set_cons_zero, List.set_cons_succ, Option.some.injEq, exists_eq_left', exists_eq_left, true_and, and_true, true_implies, false_implies, implies_true, Bool.false_eq_true, reduceCtorEq, false_and, and_false, D.v.injEq, PyData.int.injEq, D.ref.injEq, p1i_int, p2_two, p3_three, decide_true, Bool.not_true, Bool.not_false, decide_eq_true_eq, decide_eq_false_iff_not, wipeE, ok_Index, hall1, hrow', a1, a2, i1, i2, hT, Bool.or_true]
    rw [ok_ok]
    have hg : (lot.map fun i => PyData.int ((rk rows i (at' d i) : Int) - (rk rows i (at' e i) : Int))) = (lot.map fun i => (rk rows i (at' d i) : Int) - (rk rows i (at' e i) : Int)).map .int := by rw [List.map_map]; rfl
    rw [hg]
    generalize hG : (lot.map fun i => (rk rows i (at' d i) : Int) - (rk rows i (at' e i) : Int)) = G
    have hGl : 0 < G.length := by rw [← hG, List.length_map]; exact hlne
    have m1 : ∀ s, fIntsL lstMin [.v (.list (G.map .int))] s = .ok (.v (.int (lstMin G))) s := fun s => min_eq hGl
    have m2 : ∀ s, fIntsL lstMax [.v (.list (G.map .int))] s = .ok (.v (.int (lstMax G))) s := fun s => max_eq hGl
    have hno : 0 ≤ lstMin G → ¬ 0 < lstMax G := fun h1 h2 => by
      have q1 := (min_nn hGl).mp h1
      obtain ⟨y, hy, hy0⟩ := (max_pos hGl).mp h2
      have same := same_deal H H' hl' A B fun j hj => by
        by_cases z : j ∈ lot
        · refine .inr ?_
          have := q1 _ (hG ▸ List.mem_map.mpr ⟨j, z, rfl⟩)
          omega
        · exact .inl (hkeep j hj z)
      rw [← hG] at hy
      obtain ⟨j, _, rfl⟩ := List.mem_map.mp hy
      rw [same] at hy0
      omega
    unfold law_B1_9
    simp only [envE, so_seq, so_if, so_ret, so_retN, so_exp, so_nil, so_nx, so_rt, so_asg, so_asgG, so_par2, so_par3, ok_gNm, ok_gMore, ok_gNone, so_asgT, so_sub, so_for, ok_TB, ok_Tru, ok_notT, ok_andT, ok_orT, ok_andV, ok_orV, ok_notV, ok_iteE, ok_frz, ok_new, ok_mfArg, ok_mfBin, ok_lc, ok_M, ok_M0, ok_moNone, ok_moSome, ok_Sl,
  ok_bin, ok_un, ok_arg, ok_cons, ok_nil, ok_call, ok_var, ok_C, ok_ok, ok_stuck, ok_noX, bOf_bool, low_v, iOf_int, addD_int, subD_int, negD_int, ltD_int, leD_int, gtD_int, geD_int, fInt_int, isD_bool, isNotD_bool, tru_bool, List.map_cons, List.map_nil, List.length_cons, List.length_nil, List.replicate_succ, List.replicate_zero, List.cons_append, List.nil_append,
  List.append_nil, List.getElem?_cons_zero, List.getElem?_cons_succ, List.set_cons_zero, List.set_cons_succ, Option.some.injEq, exists_eq_left', exists_eq_left, true_and, and_true, true_implies, false_implies, implies_true, Bool.false_eq_true, reduceCtorEq, false_and, and_false, D.v.injEq, PyData.int.injEq, D.ref.injEq, p1i_int, p2_two, p3_three, decide_true, Bool.not_true, Bool.not_false, decide_eq_true_eq, decide_eq_false_iff_not, m1, m2]
    refine ⟨fun h1 => ⟨fun h2 => absurd h2 (hno h1), fun _ => ⟨s3, rfl, ok3, _, _, _, _, _, _, _, _, _, _, rfl⟩⟩, fun _ => ⟨s3, rfl, ok3, _, _, _, _, _, _, _, _, _, _, rfl⟩⟩
theorem law_ok (ns : List Int) (h : ns.length ≤ 63) : ∃ st, f_law [.scr ns] [] = .ok (.v (.bool true)) st := by
  have key : (f_law [.scr ns] []).Ok fun d st => d = .v (.bool true) := by
    refine fnT_ok ?_
    unfold S_law
    simp only [envE, so_seq, so_if, so_ret, so_retN, so_exp, so_nil, so_nx, so_rt, so_asg, so_asgG, so_par2, so_par3, ok_gNm, ok_gMore, ok_gNone, so_asgT, so_sub, so_for, ok_TB, ok_Tru, ok_notT, ok_andT, ok_orT, ok_andV, ok_orV, ok_notV, ok_iteE, ok_frz, ok_new, ok_mfArg, ok_mfBin, ok_lc, ok_M, ok_M0, ok_moNone, ok_moSome, ok_Sl,
  ok_bin, ok_un, ok_arg, ok_cons, ok_nil, ok_call, ok_var, ok_C, ok_ok, ok_stuck, ok_noX, bOf_bool, low_v, iOf_int, addD_int, subD_int, negD_int, ltD_int, leD_int, gtD_int, geD_int, fInt_int, isD_bool, isNotD_bool, tru_bool, List.map_cons, List.map_nil, List.length_cons, List.length_nil, List.replicate_succ, List.replicate_zero, List.cons_append, List.nil_append,
  List.append_nil, List.getElem?_cons_zero, List.getElem?_cons_succ, List.set_cons_zero, List.set_cons_succ, Option.some.injEq, exists_eq_left', exists_eq_left, true_and, and_true, true_implies, false_implies, implies_true, Bool.false_eq_true, reduceCtorEq, false_and, and_false, D.v.injEq, PyData.int.injEq, D.ref.injEq, p1i_int, p2_two, p3_three, decide_true, Bool.not_true, Bool.not_false, decide_eq_true_eq, decide_eq_false_iff_not]
    refine (opensA ns (by omega)).mono ?_
    rintro _ _ ⟨s, rfl, rfl, ok⟩
    unfold S_law_2 law_E4
    simp only [envE, so_seq, so_if, so_ret, so_retN, so_exp, so_nil, so_nx, so_rt, so_asg, so_asgG, so_par2, so_par3, ok_gNm, ok_gMore, ok_gNone, so_asgT, so_sub, so_for, ok_TB, ok_Tru, ok_notT, ok_andT, ok_orT, ok_andV, ok_orV, ok_notV, ok_iteE, ok_frz, ok_new, ok_mfArg, ok_mfBin, ok_lc, ok_M, ok_M0, ok_moNone, ok_moSome, ok_Sl,
  ok_bin, ok_un, ok_arg, ok_cons, ok_nil, ok_call, ok_var, ok_C, ok_ok, ok_stuck, ok_noX, bOf_bool, low_v, iOf_int, addD_int, subD_int, negD_int, ltD_int, leD_int, gtD_int, geD_int, fInt_int, isD_bool, isNotD_bool, tru_bool, List.map_cons, List.map_nil, List.length_cons, List.length_nil, List.replicate_succ, List.replicate_zero, List.cons_append, List.nil_append,
  List.append_nil, List.getElem?_cons_zero, List.getElem?_cons_succ, List.set_cons_zero, List.set_cons_succ, Option.some.injEq, exists_eq_left', exists_eq_left, true_and, and_true, true_implies, false_implies, implies_true, Bool.false_eq_true, reduceCtorEq, false_and, and_false, D.v.injEq, PyData.int.injEq, D.ref.injEq, p1i_int, p2_two, p3_three, decide_true, Bool.not_true, Bool.not_false, decide_eq_true_eq, decide_eq_false_iff_not, ok_R1]
    refine ⟨⟨by decide, by decide⟩, ?_⟩
    refine forL_inv (fun i e st => ∃ (s : Src), st = s.sto [] ∧ s.ok ∧ ∃ x2 x3 x4 x5 x6 x7 x8 x9 x10 x11 x12, e = [some (.scr ns), some (.ref 1), x2, x3, x4, x5, x6, x7, x8, x9, x10, x11, x12]) _ _ _ 0 ?_ ?_ ⟨s, rfl, ok, _, _, _, _, _, _, _, _, _, _, _, rfl⟩
    · rintro i d e st hd ⟨s, rfl, ok, x2, x3, x4, x5, x6, x7, x8, x9, x10, x11, x12, rfl⟩
      obtain ⟨hi, rfl⟩ := rngI_get hd
      refine ⟨trivial, ?_⟩
      rw [Int.zero_add]
      unfold law_G4 law_B1
      simp only [envE, so_seq, so_if, so_ret, so_retN, so_exp, so_nil, so_nx, so_rt, so_asg, so_asgG, so_par2, so_par3, ok_gNm, ok_gMore, ok_gNone, so_asgT, so_sub, so_for, ok_TB, ok_Tru, ok_notT, ok_andT, ok_orT, ok_andV, ok_orV, ok_notV, ok_iteE, ok_frz, ok_new, ok_mfArg, ok_mfBin, ok_lc, ok_M, ok_M0, ok_moNone, ok_moSome, ok_Sl,
  ok_bin, ok_un, ok_arg, ok_cons, ok_nil, ok_call, ok_var, ok_C, ok_ok, ok_stuck, ok_noX, bOf_bool, low_v, iOf_int, addD_int, subD_int, negD_int, ltD_int, leD_int, gtD_int, geD_int, fInt_int, isD_bool, isNotD_bool, tru_bool, List.map_cons, List.map_nil, List.length_cons, List.length_nil, List.replicate_succ, List.replicate_zero, List.cons_append, List.nil_append,
  List.append_nil, List.getElem?_cons_zero, List.getElem?_cons_succ, List.set_cons_zero, List.set_cons_succ, Option.some.injEq, exists_eq_left', exists_eq_left, true_and, and_true, true_implies, false_implies, implies_true, Bool.false_eq_true, reduceCtorEq, false_and, and_false, D.v.injEq, PyData.int.injEq, D.ref.injEq, p1i_int, p2_two, p3_three, decide_true, Bool.not_true, Bool.not_false, decide_eq_true_eq, decide_eq_false_iff_not]
      have hd := draw_ok (rest := []) (most := 6) (by decide) (by decide) ok
      refine hd.mono ?_
      rintro _ _ ⟨rows, s1, rfl, rfl, ok1, H, hn⟩
      have hn50 : rows.length ≤ 50 := by omega
      obtain ⟨d, A, g1, g2⟩ := deal_fix H hn50
      have Dd := A.dl H
      unfold law_B1_2
      simp only [envE, so_seq, so_if, so_ret, so_retN, so_exp, so_nil, so_nx, so_rt, so_asg, so_asgG, so_par2, so_par3, ok_gNm, ok_gMore, ok_gNone, so_asgT, so_sub, so_for, ok_TB, ok_Tru, ok_notT, ok_andT, ok_orT, ok_andV, ok_orV, ok_notV, ok_iteE, ok_frz, ok_new, ok_mfArg, ok_mfBin, ok_lc, ok_M, ok_M0, ok_moNone, ok_moSome, ok_Sl,
  ok_bin, ok_un, ok_arg, ok_cons, ok_nil, ok_call, ok_var, ok_C, ok_ok, ok_stuck, ok_noX, bOf_bool, low_v, iOf_int, addD_int, subD_int, negD_int, ltD_int, leD_int, gtD_int, geD_int, fInt_int, isD_bool, isNotD_bool, tru_bool, List.map_cons, List.map_nil, List.length_cons, List.length_nil, List.replicate_succ, List.replicate_zero, List.cons_append, List.nil_append,
  List.append_nil, List.getElem?_cons_zero, List.getElem?_cons_succ, List.set_cons_zero, List.set_cons_succ, Option.some.injEq, exists_eq_left', exists_eq_left, true_and, and_true, true_implies, false_implies, implies_true, Bool.false_eq_true, reduceCtorEq, false_and, and_false, D.v.injEq, PyData.int.injEq, D.ref.injEq, p1i_int, p2_two, p3_three, decide_true, Bool.not_true, Bool.not_false, decide_eq_true_eq, decide_eq_false_iff_not, hall0, g2]
      refine ⟨by decide, ?_⟩
      unfold law_B1_3
      simp only [envE, so_seq, so_if, so_ret, so_retN, so_exp, so_nil, so_nx, so_rt, so_asg, so_asgG, so_par2, so_par3, ok_gNm, ok_gMore, ok_gNone, so_asgT, so_sub, so_for, ok_TB, ok_Tru, ok_notT, ok_andT, ok_orT, ok_andV, ok_orV, ok_notV, ok_iteE, ok_frz, ok_new, ok_mfArg, ok_mfBin, ok_lc, ok_M, ok_M0, ok_moNone, ok_moSome, ok_Sl,
  ok_bin, ok_un, ok_arg, ok_cons, ok_nil, ok_call, ok_var, ok_C, ok_ok, ok_stuck, ok_noX, bOf_bool, low_v, iOf_int, addD_int, subD_int, negD_int, ltD_int, leD_int, gtD_int, geD_int, fInt_int, isD_bool, isNotD_bool, tru_bool, List.map_cons, List.map_nil, List.length_cons, List.length_nil, List.replicate_succ, List.replicate_zero, List.cons_append, List.nil_append,
  List.append_nil, List.getElem?_cons_zero, List.getElem?_cons_succ, List.set_cons_zero, List.set_cons_succ, Option.some.injEq, exists_eq_left', exists_eq_left, true_and, and_true, true_implies, false_implies, implies_true, Bool.false_eq_true, reduceCtorEq, false_and, and_false, D.v.injEq, PyData.int.injEq, D.ref.injEq, p1i_int, p2_two, p3_three, decide_true, Bool.not_true, Bool.not_false, decide_eq_true_eq, decide_eq_false_iff_not, g1, repr_of (rep_dl' Dd hn50), neD_str]
      unfold law_B1_4 law_E1
      simp only [envE, so_seq, so_if, so_ret, so_retN, so_exp, so_nil, so_nx, so_rt, so_asg, so_asgG, so_par2, so_par3, ok_gNm, ok_gMore, ok_gNone, so_asgT, so_sub, so_for, ok_TB, ok_Tru, ok_notT, ok_andT, ok_orT, ok_andV, ok_orV, ok_notV, ok_iteE, ok_frz, ok_new, ok_mfArg, ok_mfBin, ok_lc, ok_M, ok_M0, ok_moNone, ok_moSome, ok_Sl,
  ok_bin, ok_un, ok_arg, ok_cons, ok_nil, ok_call, ok_var, ok_C, ok_ok, ok_stuck, ok_noX, bOf_bool, low_v, iOf_int, addD_int, subD_int, negD_int, ltD_int, leD_int, gtD_int, geD_int, fInt_int, isD_bool, isNotD_bool, tru_bool, List.map_cons, List.map_nil, List.length_cons, List.length_nil, List.replicate_succ, List.replicate_zero, List.cons_append, List.nil_append,
  List.append_nil, List.getElem?_cons_zero, List.getElem?_cons_succ, List.set_cons_zero, List.set_cons_succ, Option.some.injEq, exists_eq_left', exists_eq_left, true_and, and_true, true_implies, false_implies, implies_true, Bool.false_eq_true, reduceCtorEq, false_and, and_false, D.v.injEq, PyData.int.injEq, D.ref.injEq, p1i_int, p2_two, p3_three, decide_true, Bool.not_true, Bool.not_false, decide_eq_true_eq, decide_eq_false_iff_not, ok_R1]
      refine ⟨⟨by decide, by decide⟩, ?_⟩
      refine forL_inv (fun _ e t => ∃ s' : Src, t = s'.sto [] ∧ s'.ok ∧ ∃ x6 x7 x8 x9 x10, e = [some (.scr ns), some (.ref 1), some (.v (.int (i : Int))), some (.v (hallD rows)), some (.v (nI rows.length)), some (.v (tNs d)), x6, x7, x8, x9, x10, x11, x12]) _ _ _ 0 ?_ ?_ ⟨s1, rfl, ok1, _, _, _, _, _, rfl⟩
      · rintro j dd e st hd ⟨s2, rfl, ok2, y6, y7, y8, y9, y10, rfl⟩
        obtain ⟨hj, rfl⟩ := rngI_get hd
        refine ⟨trivial, ?_⟩
        unfold law_G1
        simp only [envE, so_seq, so_if, so_ret, so_retN, so_exp, so_nil, so_nx, so_rt, so_asg, so_asgG, so_par2, so_par3, ok_gNm, ok_gMore, ok_gNone, so_asgT, so_sub, so_for, ok_TB, ok_Tru, ok_notT, ok_andT, ok_orT, ok_andV, ok_orV, ok_notV, ok_iteE, ok_frz, ok_new, ok_mfArg, ok_mfBin, ok_lc, ok_M, ok_M0, ok_moNone, ok_moSome, ok_Sl,
  ok_bin, ok_un, ok_arg, ok_cons, ok_nil, ok_call, ok_var, ok_C, ok_ok, ok_stuck, ok_noX, bOf_bool, low_v, iOf_int, addD_int, subD_int, negD_int, ltD_int, leD_int, gtD_int, geD_int, fInt_int, isD_bool, isNotD_bool, tru_bool, List.map_cons, List.map_nil, List.length_cons, List.length_nil, List.replicate_succ, List.replicate_zero, List.cons_append, List.nil_append,
  List.append_nil, List.getElem?_cons_zero, List.getElem?_cons_succ, List.set_cons_zero, List.set_cons_succ, Option.some.injEq, exists_eq_left', exists_eq_left, true_and, and_true, true_implies, false_implies, implies_true, Bool.false_eq_true, reduceCtorEq, false_and, and_false, D.v.injEq, PyData.int.injEq, D.ref.injEq, p1i_int, p2_two, p3_three, decide_true, Bool.not_true, Bool.not_false, decide_eq_true_eq, decide_eq_false_iff_not]
        have hk := turn_ok (s0 := s2) (x0 := some (.scr ns)) (x2 := some (.v (.int (i : Int)))) (x6 := some (.v (.int (0 + (j : Int))))) (x7 := y7) (x8 := y8) (x9 := y9) (x10 := y10) (x11 := x11) (x12 := x12) H hn A ok2
        exact hk
      · rintro e st ⟨s2, rfl, ok2, y6, y7, y8, y9, y10, rfl⟩
        refine ⟨trivial, ?_⟩
        have hk := lot_ok (s0 := s2) (x0 := some (.scr ns)) (x2 := some (.v (.int (i : Int)))) (x6 := y6) (x7 := y7) (x8 := y8) (x9 := y9) (x10 := y10) (x11 := x11) (x12 := x12) H hn A ok2
        refine hk.mono ?_ fun _ _ h => h
        rintro _ _ ⟨s3, rfl, ok3, z3, z4, z5, z6, z7, z8, z9, z10, z11, z12, rfl⟩
        exact ⟨s3, rfl, ok3, _, _, _, _, _, _, _, _, _, _, _, rfl⟩
    · rintro e st ⟨s, rfl, ok, x2, x3, x4, x5, x6, x7, x8, x9, x10, x11, x12, rfl⟩
      refine ⟨trivial, ?_⟩
      unfold S_law_3
      simp only [envE, so_seq, so_if, so_ret, so_retN, so_exp, so_nil, so_nx, so_rt, so_asg, so_asgG, so_par2, so_par3, ok_gNm, ok_gMore, ok_gNone, so_asgT, so_sub, so_for, ok_TB, ok_Tru, ok_notT, ok_andT, ok_orT, ok_andV, ok_orV, ok_notV, ok_iteE, ok_frz, ok_new, ok_mfArg, ok_mfBin, ok_lc, ok_M, ok_M0, ok_moNone, ok_moSome, ok_Sl,
  ok_bin, ok_un, ok_arg, ok_cons, ok_nil, ok_call, ok_var, ok_C, ok_ok, ok_stuck, ok_noX, bOf_bool, low_v, iOf_int, addD_int, subD_int, negD_int, ltD_int, leD_int, gtD_int, geD_int, fInt_int, isD_bool, isNotD_bool, tru_bool, List.map_cons, List.map_nil, List.length_cons, List.length_nil, List.replicate_succ, List.replicate_zero, List.cons_append, List.nil_append,
  List.append_nil, List.getElem?_cons_zero, List.getElem?_cons_succ, List.set_cons_zero, List.set_cons_succ, Option.some.injEq, exists_eq_left', exists_eq_left, true_and, and_true, true_implies, false_implies, implies_true, Bool.false_eq_true, reduceCtorEq, false_and, and_false, D.v.injEq, PyData.int.injEq, D.ref.injEq, p1i_int, p2_two, p3_three, decide_true, Bool.not_true, Bool.not_false, decide_eq_true_eq, decide_eq_false_iff_not]
  obtain ⟨d, st, e, rfl⟩ := key.eq
  exact ⟨st, e⟩
end
end Wk36
theorem PySem.Challenge.cw_pairsandprices_k36_whole_lists_told_holds : PySem.Challenge.rw_pairsandprices_k36_whole_lists_told.Holds := by
  exact Wk36.holds Wk36.law_ok
