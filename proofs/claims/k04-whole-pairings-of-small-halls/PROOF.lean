import PyProof.Rows.All
import Wide.All
import OpenK.AllK
import Wide.FinOn
import HandS.ForMost
import HandS.Flow
import KE.KDictKeyed
import HandS.TupAny
import HandS.Style
import HandS.Deep
import KE.KTupSum
import HandS.SortInts
import PyProof.ReprReads
import PyProof.Rows.NestShow
import PyProof.CallFns
import KE.KIndexOf
import HandS.Strs
import HandS.Zip
import KE.GoesEnum
import HandS.Defaults
import HandS.Words
import HandS.HeadEnd
import HandS.Head0
import HandS.Head1
import HandS.Head2
import HandS.HeadHook1
import HandS.HeadHook2
import HandS.Conv
import HandS.IsInst
import HandS.TupSets
import PyProof.ReprBulk
import PyProof.EqKinds
import HandS.DictComp
import HandS.Small
import HandS.Star
import HandS.ListItems
import KE.KDictList
import KE.KDictPairs
import HandS.WordsDict
import KE.GoesZip
import KE.GoesMore
import HandS.TupLe
import PyProof.DictUpdate
import KE.SortData
import HandS.SetFor
import KE.KDictWalk
import PyProof.SumAny
import KE.DataMinMax
import KE.LtData
import PyProof.NeKinds
import PyProof.NeData
import PyProof.P3Eq
import KE.KUnpack
import KE.KDictSum
import KE.KDictCopyH
import PySem.Challenge.RW_pairsandprices_k04_whole_pairings_of_sma
set_option Elab.async false
set_option linter.all false
set_option maxRecDepth 100000
set_option maxHeartbeats 0
namespace Fw
open PySem PySem.Spec PyProof.Rows L2
inductive D where
  | v (d : PyData)
  | ref (n : Nat)
  | scr (ns : List Int)
inductive O where
  | dead
  | lst (ds : List PyData)
  | dct (t : Bool) (kvs : List (PyData × D))
  | lck (t : Bool) (kvs : List (PyData × D))
  | tpl (ds : List D)
  | tab (kvs : List (PyData × D))
abbrev Sto := List O
abbrev Ev := List (Option D)
def D.low (n : Nat) : D → Bool
  | .ref m => decide (m < n)
  | _ => true
def O.low (n : Nat) : O → Bool
  | .dct _ kvs => kvs.all fun p => p.2.low n
  | .lck _ kvs => kvs.all fun p => p.2.low n
  | .tpl ds => ds.all fun d => d.low n
  | .tab kvs => kvs.all fun p => p.2.low n
  | _ => true
structure Exn where
  cls : Str
  fs : List (Str × PyData)
inductive Out (α : Type) where
  | ok (a : α) (st : Sto)
  | exn (e : Exn) (st : Sto)
  | stuck
def Out.bind {α β : Type} (x : Out α) (f : α → Sto → Out β) : Out β :=
  match x with
  | .ok a st => f a st
  | .exn e st => .exn e st
  | .stuck => .stuck
def Out.post {α : Type} (x : Out α) (P : α → Sto → Prop) (E : Exn → Sto → Prop) : Prop :=
  match x with
  | .ok a st => P a st
  | .exn e st => E e st
  | .stuck => False
theorem Out.post_bind {α β : Type} {x : Out α} {f : α → Sto → Out β} {P : β → Sto → Prop} {E : Exn → Sto → Prop}
    (h : (x.bind f).post P E) : x.post (fun a st => (f a st).post P E) E := by
  cases x <;> exact h
theorem Out.post_mono {α : Type} {x : Out α} {P P' : α → Sto → Prop} {E E' : Exn → Sto → Prop}
    (h : x.post P E) (hp : ∀ a st, P a st → P' a st) (he : ∀ e st, E e st → E' e st) : x.post P' E' := by
  cases x
  · exact hp _ _ h
  · exact he _ _ h
  · exact h
@[simp] theorem bind_ok {α β : Type} (a : α) (st : Sto) (f : α → Sto → Out β) : (Out.ok a st).bind f = f a st := rfl
@[simp] theorem bind_exn {α β : Type} (e : Exn) (st : Sto) (f : α → Sto → Out β) : (Out.exn e st : Out α).bind f = .exn e st := rfl
@[simp] theorem bind_stuck {α β : Type} (f : α → Sto → Out β) : (Out.stuck : Out α).bind f = .stuck := rfl
structure Gh where
  ad : List Addr
  hid : List Addr
def Gh.psh (ι : Gh) (p : Addr) : Gh := ⟨ι.ad ++ [p], ι.hid⟩
def Gh.tk (ι : Gh) (k : Nat) : Gh := ⟨ι.ad.take k, ι.hid⟩
def Frz (ι : Gh) (st : Sto) (a : Addr) : Prop := a ∉ ι.hid ∧ ∀ (n : Nat) (o : O), st[n]? = some o → ι.ad[n]? = some a → o = O.dead
def kD : Key → PyData
  | .inl i => .int i
  | .inr x => .str x
mutual
inductive Rp (F : Addr → Prop) (H : Hp) : V → PyData → Prop
  | non : Rp F H .non .none
  | bl (b : Bool) : Rp F H (.bl b) (.bool b)
  | int (i : Int) : Rp F H (.int i) (.int i)
  | str (x : Str) : Rp F H (.str x) (.str x)
  | lst {a : Addr} {xs : List V} {ds : List PyData} : H a = some (.lst xs) → F a → RpA F H xs ds → Rp F H (.ref a) (.list ds)
  | tup {a : Addr} {xs : List V} {ds : List PyData} {o : Obj} : H a = some (.frz o (.tup xs)) → o.dict = Option.none → F a → RpA F H xs ds → Rp F H (.ref a) (.tuple ds)
  | dcK {a : Addr} {xs : List (Key × V)} {ds : List (PyData × PyData)} : Rd H a (.dK xs) → F a → RpK F H xs ds → Rp F H (.ref a) (.dict ds)
  | dcT {a : Addr} {xs : List (List Key × V)} {ds : List (PyData × PyData)} : Rd H a (.dT xs) → F a → RpT F H xs ds → ds ≠ [] → Rp F H (.ref a) (.dict ds)
inductive RpA (F : Addr → Prop) (H : Hp) : List V → List PyData → Prop
  | nil : RpA F H [] []
  | cons {x : V} {xs : List V} {d : PyData} {ds : List PyData} : Rp F H x d → RpA F H xs ds → RpA F H (x :: xs) (d :: ds)
inductive RpK (F : Addr → Prop) (H : Hp) : List (Key × V) → List (PyData × PyData) → Prop
  | nil : RpK F H [] []
  | cons {k : Key} {x : V} {xs : List (Key × V)} {d : PyData} {ds : List (PyData × PyData)} : Rp F H x d → RpK F H xs ds → RpK F H ((k, x) :: xs) ((kD k, d) :: ds)
inductive RpT (F : Addr → Prop) (H : Hp) : List (List Key × V) → List (PyData × PyData) → Prop
  | nil : RpT F H [] []
  | cons {k : List Key} {x : V} {xs : List (List Key × V)} {d : PyData} {ds : List (PyData × PyData)} : Rp F H x d → RpT F H xs ds → RpT F H ((k, x) :: xs) ((.tuple (k.map kD), d) :: ds)
end
def Kp (u : HO) (x : Option HO) : Prop :=
  x = some u ∨ ((∃ kvs, u = .dK kvs) ∨ (∃ kvs, u = .dT kvs)) ∧ ∃ o, x = some (.frz o u)
structure Ext (ι : Gh) (st : Sto) (H : Hp) (ι' : Gh) (st' : Sto) (H' : Hp) : Prop where
  keep : ∀ q u, H q = some u → Frz ι st q → Frz ι' st' q ∧ H' q = some u
  pre : ∀ (n : Nat) (a : Addr), ι.ad[n]? = some a → ι'.ad[n]? = some a
  hid : ι'.hid = ι.hid
  keepZ : ∀ a, a ∈ ι.hid → H' a = H a
  lk : ∀ {n : Nat} {t : Bool} {kvs : List (PyData × D)} {a : Addr}, st[n]? = some (.lck t kvs) → ι.ad[n]? = some a → st'[n]? = some (.lck t kvs) ∧ H' a = H a
theorem Ext.refl {ι : Gh} {st : Sto} {H : Hp} : Ext ι st H ι st H := ⟨fun _ _ e f => ⟨f, e⟩, fun _ _ e => e, rfl, fun _ _ => rfl, fun h _ => ⟨h, rfl⟩⟩
theorem Ext.trans {ι ι1 ι2 : Gh} {st st1 st2 : Sto} {H H1 H2 : Hp} (a : Ext ι st H ι1 st1 H1) (b : Ext ι1 st1 H1 ι2 st2 H2) : Ext ι st H ι2 st2 H2 :=
  ⟨fun q u e f => let ⟨f1, k1⟩ := a.keep q u e f; b.keep q u k1 f1, fun n x e => b.pre n x (a.pre n x e), b.hid.trans a.hid, fun q h => (b.keepZ q (by rw [a.hid]; exact h)).trans (a.keepZ q h), fun h hi => let ⟨h1, e1⟩ := a.lk h hi; let ⟨h2, e2⟩ := b.lk h1 (a.pre _ _ hi); ⟨h2, e2.trans e1⟩⟩
theorem Kp.lst {xs : List V} {x : Option HO} (h : Kp (.lst xs) x) : x = some (.lst xs) := by
  rcases h with h | ⟨z | z, _⟩
  · exact h
  all_goals (obtain ⟨_, z⟩ := z; cases z)
theorem Kp.tup {xs : List V} {o : Obj} {x : Option HO} (h : Kp (.frz o (.tup xs)) x) : x = some (.frz o (.tup xs)) := by
  rcases h with h | ⟨z | z, _⟩
  · exact h
  all_goals (obtain ⟨_, z⟩ := z; cases z)
theorem rd_mv {F F' : Addr → Prop} {H H' : Hp} (hk : ∀ q u, H q = some u → F q → F' q ∧ Kp u (H' q)) {a : Addr} {u : HO} (hu : (∃ kvs, u = .dK kvs) ∨ (∃ kvs, u = .dT kvs)) (r : Rd H a u) (f : F a) : F' a ∧ Rd H' a u := by
  rcases r with r | ⟨o, r⟩
  · obtain ⟨f', k⟩ := hk _ _ r f
    rcases k with k | ⟨_, o, k⟩
    · exact ⟨f', .inl k⟩
    · exact ⟨f', .inr ⟨o, k⟩⟩
  · obtain ⟨f', k⟩ := hk _ _ r f
    rcases k with k | ⟨z, _⟩
    · exact ⟨f', .inr ⟨o, k⟩⟩
    · rcases z with ⟨_, z⟩ | ⟨_, z⟩ <;> cases z
section
variable {F F' : Addr → Prop} {H H' : Hp}
mutual
theorem Rp.mv (hk : ∀ q u, H q = some u → F q → F' q ∧ Kp u (H' q)) : ∀ {v : V} {d : PyData}, Rp F H v d → Rp F' H' v d
  | _, _, .non => .non
  | _, _, .bl b => .bl b
  | _, _, .int i => .int i
  | _, _, .str z => .str z
  | _, _, .lst e f r => .lst (hk _ _ e f).2.lst (hk _ _ e f).1 (RpA.mv hk r)
  | _, _, .tup e z f r => .tup (hk _ _ e f).2.tup z (hk _ _ e f).1 (RpA.mv hk r)
  | _, _, .dcK e f r => .dcK (rd_mv hk (.inl ⟨_, rfl⟩) e f).2 (rd_mv hk (.inl ⟨_, rfl⟩) e f).1 (RpK.mv hk r)
  | _, _, .dcT e f r z => .dcT (rd_mv hk (.inr ⟨_, rfl⟩) e f).2 (rd_mv hk (.inr ⟨_, rfl⟩) e f).1 (RpT.mv hk r) z
theorem RpA.mv (hk : ∀ q u, H q = some u → F q → F' q ∧ Kp u (H' q)) : ∀ {v : List V} {d : List PyData}, RpA F H v d → RpA F' H' v d
  | _, _, .nil => .nil
  | _, _, .cons h r => .cons (Rp.mv hk h) (RpA.mv hk r)
theorem RpK.mv (hk : ∀ q u, H q = some u → F q → F' q ∧ Kp u (H' q)) : ∀ {v : List (Key × V)} {d : List (PyData × PyData)}, RpK F H v d → RpK F' H' v d
  | _, _, .nil => .nil
  | _, _, .cons h r => .cons (Rp.mv hk h) (RpK.mv hk r)
theorem RpT.mv (hk : ∀ q u, H q = some u → F q → F' q ∧ Kp u (H' q)) : ∀ {v : List (List Key × V)} {d : List (PyData × PyData)}, RpT F H v d → RpT F' H' v d
  | _, _, .nil => .nil
  | _, _, .cons h r => .cons (Rp.mv hk h) (RpT.mv hk r)
end
end
section
variable {ι ι' : Gh} {st st' : Sto} {H H' : Hp}
theorem Rp.ext (x : Ext ι st H ι' st' H') {v : V} {d : PyData} (h : Rp (Frz ι st) H v d) : Rp (Frz ι' st') H' v d := Rp.mv (fun q u e f => let ⟨a, b⟩ := x.keep q u e f; ⟨a, .inl b⟩) h
theorem RpA.ext (x : Ext ι st H ι' st' H') {v : List V} {d : List PyData} (h : RpA (Frz ι st) H v d) : RpA (Frz ι' st') H' v d := RpA.mv (fun q u e f => let ⟨a, b⟩ := x.keep q u e f; ⟨a, .inl b⟩) h
theorem RpK.ext (x : Ext ι st H ι' st' H') {v : List (Key × V)} {d : List (PyData × PyData)} (h : RpK (Frz ι st) H v d) : RpK (Frz ι' st') H' v d := RpK.mv (fun q u e f => let ⟨a, b⟩ := x.keep q u e f; ⟨a, .inl b⟩) h
theorem RpT.ext (x : Ext ι st H ι' st' H') {v : List (List Key × V)} {d : List (PyData × PyData)} (h : RpT (Frz ι st) H v d) : RpT (Frz ι' st') H' v d := RpT.mv (fun q u e f => let ⟨a, b⟩ := x.keep q u e f; ⟨a, .inl b⟩) h
end
theorem RpA.length {F : Addr → Prop} {H : Hp} : ∀ {xs : List V} {ds : List PyData}, RpA F H xs ds → xs.length = ds.length
  | _, _, .nil => rfl
  | _, _, .cons _ r => by rw [List.length_cons, List.length_cons, RpA.length r]
theorem RpA.get {F : Addr → Prop} {H : Hp} : ∀ {xs : List V} {ds : List PyData} {i : Nat} {d : PyData}, RpA F H xs ds → ds[i]? = some d → ∃ x, xs[i]? = some x ∧ Rp F H x d
  | _, _, _, _, .nil, e => by simp at e
  | _, _, 0, _, .cons r _, e => by simp at e; subst e; exact ⟨_, rfl, r⟩
  | _, _, i + 1, d, .cons _ r, e => by
    obtain ⟨x, h1, h2⟩ := RpA.get (i := i) (d := d) r (by simpa using e)
    exact ⟨x, by simpa using h1, h2⟩
theorem RpA.append {F : Addr → Prop} {H : Hp} : ∀ {xs ys : List V} {ds es : List PyData}, RpA F H xs ds → RpA F H ys es → RpA F H (xs ++ ys) (ds ++ es)
  | _, _, _, _, .nil, s => s
  | _, _, _, _, .cons r t, s => .cons r (RpA.append t s)
theorem RpA.take {F : Addr → Prop} {H : Hp} : ∀ {xs : List V} {ds : List PyData} (n : Nat), RpA F H xs ds → RpA F H (xs.take n) (ds.take n)
  | _, _, 0, _ => .nil
  | _, _, _ + 1, .nil => .nil
  | _, _, n + 1, .cons r t => .cons r (RpA.take n t)
theorem RpA.drop {F : Addr → Prop} {H : Hp} : ∀ {xs : List V} {ds : List PyData} (n : Nat), RpA F H xs ds → RpA F H (xs.drop n) (ds.drop n)
  | _, _, 0, r => r
  | _, _, _ + 1, .nil => .nil
  | _, _, n + 1, .cons _ t => RpA.drop n t
theorem RpA.set {F : Addr → Prop} {H : Hp} {x : V} {d : PyData} (r : Rp F H x d) : ∀ {xs : List V} {ds : List PyData} (i : Nat), RpA F H xs ds → RpA F H (xs.set i x) (ds.set i d)
  | _, _, _, .nil => .nil
  | _, _, 0, .cons _ t => .cons r t
  | _, _, i + 1, .cons q t => .cons q (RpA.set r i t)
theorem RpA.erase {F : Addr → Prop} {H : Hp} : ∀ {xs : List V} {ds : List PyData} (i : Nat), RpA F H xs ds → RpA F H (xs.eraseIdx i) (ds.eraseIdx i)
  | _, _, _, .nil => .nil
  | _, _, 0, .cons _ t => t
  | _, _, i + 1, .cons q t => .cons q (RpA.erase i t)
theorem RpA.reverse {F : Addr → Prop} {H : Hp} : ∀ {xs : List V} {ds : List PyData}, RpA F H xs ds → RpA F H xs.reverse ds.reverse
  | _, _, .nil => .nil
  | _, _, .cons r t => by
    rw [List.reverse_cons, List.reverse_cons]
    exact (RpA.reverse t).append (.cons r .nil)
theorem RpA.dropLast {F : Addr → Prop} {H : Hp} {xs : List V} {ds : List PyData} (r : RpA F H xs ds) : RpA F H xs.dropLast ds.dropLast := by
  rw [List.dropLast_eq_take, List.dropLast_eq_take, r.length]
  exact r.take _
theorem RpA.rep {F : Addr → Prop} {H : Hp} {xs : List V} {ds : List PyData} (r : RpA F H xs ds) : ∀ k : Nat, RpA F H (List.replicate k xs).flatten (List.replicate k ds).flatten
  | 0 => .nil
  | k + 1 => by
    rw [List.replicate_succ, List.replicate_succ, List.flatten_cons, List.flatten_cons]
    exact r.append (RpA.rep r k)
def KL (K : PySem.W.Frag) (a : Addr) (xs : List V) : Prop :=
  ∃ (o : Obj) (its : Array Value) (n : Nat), K.lookup a = some o ∧ o.cls = .type "list" ∧ o.dict = none ∧ o.data = .seq its n ∧ its.size ≤ sizeLine ∧ Vals xs its.toList
def RD (K : PySem.W.Frag) (ι : Gh) (st : Sto) (H : Hp) (x : V) : D → Prop
  | .v d => Rp (Frz ι st) H x d
  | .ref n => ∃ a, ι.ad[n]? = some a ∧ x = .ref a
  | .scr ns => ∃ a, x = .ref a ∧ (KL K a (ns.map V.int) ∨ ∃ o, H a = some (.frz o (.lst (ns.map V.int))) ∧ Frz ι st a)
section
variable {K : PySem.W.Frag} {ι ι' : Gh} {st st' : Sto} {H H' : Hp}
theorem RD.ext (e : Ext ι st H ι' st' H') {x : V} : ∀ {d : D}, RD K ι st H x d → RD K ι' st' H' x d
  | .v d, h => Rp.ext e h
  | .ref n, ⟨a, h1, h2⟩ => ⟨a, e.pre n a h1, h2⟩
  | .scr ns, ⟨a, h1, h2⟩ => by
    refine ⟨a, h1, ?_⟩
    rcases h2 with h2 | ⟨o, h2, f⟩
    · exact .inl h2
    · obtain ⟨f', k⟩ := e.keep _ _ h2 f
      exact .inr ⟨o, k, f'⟩
theorem RD.scr {x : V} {ns : List Int} (h : RD K ι st H x (.scr ns)) : ∃ a, x = .ref a ∧ SqL K H a (ns.map V.int) := by
  obtain ⟨a, h1, h2⟩ := h
  refine ⟨a, h1, ?_⟩
  rcases h2 with h2 | ⟨o, h2, _⟩
  · exact .inr h2
  · exact .inl (.inr ⟨o, h2⟩)
end
def RK (K : PySem.W.Frag) (ι : Gh) (st : Sto) (H : Hp) : List (PyData × D) → List (Key × V) → Prop := Paired fun p q => p.1 = kD q.1 ∧ RD K ι st H q.2 p.2
def RT (K : PySem.W.Frag) (ι : Gh) (st : Sto) (H : Hp) : List (PyData × D) → List (List Key × V) → Prop := Paired fun p q => p.1 = .tuple (q.1.map kD) ∧ RD K ι st H q.2 p.2
def RDA (K : PySem.W.Frag) (ι : Gh) (st : Sto) (H : Hp) : List D → List V → Prop := Paired fun d x => RD K ι st H x d
mutual
def keyN : PyData → Option NestedKey
  | .none => some .none
  | .int i => some (.num i)
  | .tuple ds => (keyNA ds).map .tup
  | _ => Option.none
def keyNA : List PyData → Option (List NestedKey)
  | [] => some []
  | d :: ds => match keyN d, keyNA ds with
    | some k, some ks => some (k :: ks)
    | _, _ => Option.none
end
def keyP (d : PyData) : Option NestedKey := match d with
  | .tuple ds => match keyN (.tuple ds) with
    | some k => if k.depth ≤ 8 then some k else Option.none
    | Option.none => Option.none
  | _ => Option.none
def TabO (a : Addr) (xs : List (NestedKey × Addr × V)) : HO := .ext fun h => ∃ (w : World) (ys : List (NestedKey × Addr × Value)), Paired (fun p q => p.1 = q.1 ∧ p.2.1 = q.2.1 ∧ RelV p.2.2 q.2.2) xs ys ∧
  ∃ o es ep, h.get? a = some o ∧ o.ExactDict ∧ o.data = .dict es ep ∧ es.toList = ys.map fun x => (⟨x.1.hash w, .ref x.2.1, x.2.2⟩ : DictEntry)
def RTab (K : PySem.W.Frag) (ι : Gh) (st : Sto) (H : Hp) : List (PyData × D) → List (NestedKey × Addr × V) → Prop := Paired fun p q => keyP p.1 = some q.1 ∧ Rp (Frz ι st) H (.ref q.2.1) p.1 ∧ RD K ι st H q.2.2 p.2
def RO (K : PySem.W.Frag) (ι : Gh) (st : Sto) (H : Hp) (a : Addr) : O → Prop
  | .dead => True
  | .lst ds => ∃ xs, H a = some (.lst xs) ∧ RpA (Frz ι st) H xs ds
  | .dct false kvs => ∃ xs, H a = some (.dK xs) ∧ RK K ι st H kvs xs
  | .dct true kvs => ∃ xs, H a = some (.dT xs) ∧ RT K ι st H kvs xs
  | .lck false kvs => ∃ xs o, H a = some (.frz o (.dK xs)) ∧ RK K ι st H kvs xs
  | .lck true kvs => ∃ xs o, H a = some (.frz o (TabO a xs)) ∧ (a == sysModules) = false ∧ (xs.map (·.1)).Nodup ∧ xs.length ≤ sizeLine ∧ RTab K ι st H kvs xs
  | .tpl ds => ∃ xs o, H a = some (.frz o (.tup xs)) ∧ RDA K ι st H ds xs
  | .tab kvs => ∃ xs, H a = some (TabO a xs) ∧ (a == sysModules) = false ∧ (xs.map (·.1)).Nodup ∧ xs.length ≤ sizeLine ∧ RTab K ι st H kvs xs
def szOk : HO → Prop
  | .lst xs => xs.length ≤ sizeLine
  | .tup xs => xs.length ≤ sizeLine
  | .dK xs => xs.length ≤ sizeLine
  | .dT xs => xs.length ≤ sizeLine
  | .frz _ u => szOk u
  | _ => True
def HF (H : Hp) : Prop := ∀ a u, H a = some u → szOk u
def HdO : HO → Prop
  | .lst _ => True
  | .dK _ => True
  | .dT _ => True
  | _ => False
structure SRel (K : PySem.W.Frag) (ι : Gh) (st : Sto) (H : Hp) : Prop where
  len : ι.ad.length = st.length
  obj : ∀ (n : Nat) (o : O) (a : Addr), st[n]? = some o → ι.ad[n]? = some a → RO K ι st H a o
  inj : ∀ (m n : Nat) (a : Addr) (o u : O), ι.ad[m]? = some a → ι.ad[n]? = some a → st[m]? = some o → st[n]? = some u → o ≠ O.dead → u ≠ O.dead → m = n
  low : ∀ (n : Nat) (o : O), st[n]? = some o → o.low n = true
  hid : ∀ a, a ∈ ι.hid → (∃ u, H a = some u ∧ HdO u) ∧ ∀ (n : Nat) (o : O), st[n]? = some o → ι.ad[n]? = some a → o = O.dead
  hf : HF H
def EvR (K : PySem.W.Frag) (ι : Gh) (st : Sto) (H : Hp) (σ : L2.St) (env : Ev) : Prop :=
  σ.length = env.length ∧ ∀ (i : Nat) (d : D), env[i]? = some (some d) → ∃ x, σ[i]? = some (some x) ∧ RD K ι st H x d
section
variable {K : PySem.W.Frag} {ι ι' : Gh} {st st' : Sto} {H H' : Hp}
theorem EvR.ext (e : Ext ι st H ι' st' H') {σ : L2.St} {env : Ev} (h : EvR K ι st H σ env) : EvR K ι' st' H' σ env :=
  ⟨h.1, fun i d q => let ⟨x, h1, h2⟩ := h.2 i d q; ⟨x, h1, h2.ext e⟩⟩
theorem EvR.set {σ : L2.St} {env : Ev} (h : EvR K ι st H σ env) {x : V} {d : D} (r : RD K ι st H x d) (i : Nat) : EvR K ι st H (σ.set i (some x)) (env.set i (some d)) := by
  refine ⟨by rw [List.length_set, List.length_set]; exact h.1, fun j d' q => ?_⟩
  by_cases hj : i = j
  · subst hj
    by_cases hl : i < env.length
    · rw [List.getElem?_set_self hl] at q
      cases q
      exact ⟨x, by rw [List.getElem?_set_self (by rw [h.1]; exact hl)], r⟩
    · rw [List.getElem?_eq_none (by rw [List.length_set]; omega)] at q
      cases q
  · rw [List.getElem?_set_ne hj] at q
    obtain ⟨y, h1, h2⟩ := h.2 j d' q
    exact ⟨y, by rw [List.getElem?_set_ne hj]; exact h1, h2⟩
theorem EvR.none {σ : L2.St} {env : Ev} (h : EvR K ι st H σ env) (i : Nat) : EvR K ι st H (σ.set i Option.none) (env.set i Option.none) := by
  refine ⟨by rw [List.length_set, List.length_set]; exact h.1, fun j d' q => ?_⟩
  by_cases hj : i = j
  · subst hj
    by_cases hl : i < env.length
    · rw [List.getElem?_set_self hl] at q
      cases q
    · rw [List.getElem?_eq_none (by rw [List.length_set]; omega)] at q
      cases q
  · rw [List.getElem?_set_ne hj] at q
    obtain ⟨y, h1, h2⟩ := h.2 j d' q
    exact ⟨y, by rw [List.getElem?_set_ne hj]; exact h1, h2⟩
end
def wipeE (env : Ev) : List Nat → Ev
  | [] => env
  | v :: vs => (wipeE env vs).set v none
theorem EvR.wipe {K : PySem.W.Frag} {ι : Gh} {st : Sto} {H : Hp} {σ : L2.St} {env : Ev} (h : EvR K ι st H σ env) : ∀ vs : List Nat, EvR K ι st H (L2.wipe σ vs) (wipeE env vs)
  | [] => h
  | v :: vs => (EvR.wipe h vs).none v
abbrev XW := Exn → Gh → Sto → Hp → Prop
abbrev WF : XW := fun _ _ _ _ => False
abbrev ME := Ev → Sto → Out D
abbrev MT := Ev → Sto → Out Bool
abbrev MA := Ev → Sto → Out (List D)
def RDs (K : PySem.W.Frag) (ι : Gh) (st : Sto) (H : Hp) : List V → List D → Prop := Paired fun x d => RD K ι st H x d
theorem RDs.ext {K : PySem.W.Frag} {ι ι' : Gh} {st st' : Sto} {H H' : Hp} (e : Ext ι st H ι' st' H') : ∀ {xs : List V} {ds : List D}, RDs K ι st H xs ds → RDs K ι' st' H' xs ds
  | _, _, .nil => .nil
  | _, _, .cons h r => .cons (RD.ext e h) (RDs.ext e r)
def PO1 (K : PySem.W.Frag) (ι : Gh) (st : Sto) (H : Hp) (Q : VK) (d : D) (st' : Sto) : Prop := ∀ ι' H' x, SRel K ι' st' H' → Ext ι st H ι' st' H' → RD K ι' st' H' x d → Q x H'
def PB1 (K : PySem.W.Frag) (ι : Gh) (st : Sto) (H : Hp) (Q : Bool → Hp → Prop) (b : Bool) (st' : Sto) : Prop := ∀ ι' H', SRel K ι' st' H' → Ext ι st H ι' st' H' → Q b H'
def PA1 (K : PySem.W.Frag) (ι : Gh) (st : Sto) (H : Hp) (Q : List V → Hp → Prop) (ds : List D) (st' : Sto) : Prop := ∀ ι' H' xs, SRel K ι' st' H' → Ext ι st H ι' st' H' → RDs K ι' st' H' xs ds → Q xs H'
def PX1 (K : PySem.W.Frag) (W : XW) (ι : Gh) (st : Sto) (H : Hp) (e : Exn) (st' : Sto) : Prop := ∀ ι' H', SRel K ι' st' H' → Ext ι st H ι' st' H' → W e ι' st' H'
def TEo (K : PySem.W.Frag) (W : XW) (m : ME) : TE := fun σ H Q => ∃ ι env st, SRel K ι st H ∧ EvR K ι st H σ env ∧ (m env st).post (PO1 K ι st H Q) (PX1 K W ι st H)
def TTo (K : PySem.W.Frag) (W : XW) (m : MT) : TT := fun σ H Q => ∃ ι env st, SRel K ι st H ∧ EvR K ι st H σ env ∧ (m env st).post (PB1 K ι st H Q) (PX1 K W ι st H)
def TAo (K : PySem.W.Frag) (W : XW) (m : MA) : TA := fun σ H Q => ∃ ι env st, SRel K ι st H ∧ EvR K ι st H σ env ∧ (m env st).post (PA1 K ι st H Q) (PX1 K W ι st H)
section
variable {X : Cx} {pins : List (Addr × Obj)} {σ : L2.St} {H : Hp} {s : Shared}
theorem sz_of {P : Program} {w : World} {h : Heap} {a : Addr} {u : HO} (k : ObjOk P w H h a u) : szOk u := by
  induction u with
  | lst xs => exact k.1
  | tup xs => exact k.1
  | dK xs => exact k.1
  | dT xs => exact k.1
  | frz o u ih => exact ih k.2
  | _ => trivial
theorem hf_of (I : Inv X pins σ H s) : HF H := fun a u e => sz_of (I.hok a u e)
variable {K : PySem.W.Frag} {W : XW} {e : Expr} {es : List Expr}
theorem pe_wrap {t : TE} {m : ME} (h : PE X e t) (hi : ∀ σ H Q, TEo K W m σ H Q → t σ H (fun v H' => HF H' → Q v H')) : PE X e (TEo K W m) :=
  ⟨fun pins s σ H Q I q => thn (h.run pins s σ H _ I (hi σ H Q q)) fun _ _ ⟨v, H', I', r, q'⟩ => ⟨v, H', I', r, q' (hf_of I')⟩⟩
theorem pt_wrap {t : TT} {m : MT} (h : PT X e t) (hi : ∀ σ H Q, TTo K W m σ H Q → t σ H (fun v H' => HF H' → Q v H')) : PT X e (TTo K W m) :=
  ⟨fun pins s σ H Q I q => thn (h.run pins s σ H _ I (hi σ H Q q)) fun _ _ ⟨H', I', q'⟩ => ⟨H', I', q' (hf_of I')⟩⟩
theorem pw_wrap {t : TT} {m : MT} (h : PW X e t) (hi : ∀ σ H Q, TTo K W m σ H Q → t σ H (fun v H' => HF H' → Q v H')) : PW X e (TTo K W m) :=
  ⟨fun wh pins s σ H Q I q => thn (h.run wh pins s σ H _ I (hi σ H Q q)) fun _ _ ⟨H', I', q'⟩ => ⟨H', I', q' (hf_of I')⟩⟩
theorem pa_wrap {t : TA} {m : MA} (h : PA X es t) (hi : ∀ σ H Q, TAo K W m σ H Q → t σ H (fun v H' => HF H' → Q v H')) : PA X es (TAo K W m) :=
  ⟨fun pos pins s σ H Q I q => thn (h.run pos pins s σ H _ I (hi σ H Q q)) fun _ _ ⟨v, H', I', r, q'⟩ => ⟨v, H', I', r, q' (hf_of I')⟩⟩
end
end Fw
namespace Fw
open PySem PySem.Spec PyProof.Rows L2
section
variable {K : PySem.W.Frag} {ι ι' : Gh} {st st' : Sto} {H H' : Hp}
theorem PO1.ext {Q : VK} {d : D} {s2 : Sto} (h : PO1 K ι st H Q d s2) (e : Ext ι st H ι' st' H') : PO1 K ι' st' H' Q d s2 :=
  fun ι2 H2 x R E r => h ι2 H2 x R (e.trans E) r
theorem PB1.ext {Q : Bool → Hp → Prop} {b : Bool} {s2 : Sto} (h : PB1 K ι st H Q b s2) (e : Ext ι st H ι' st' H') : PB1 K ι' st' H' Q b s2 :=
  fun ι2 H2 R E => h ι2 H2 R (e.trans E)
theorem PA1.ext {Q : List V → Hp → Prop} {d : List D} {s2 : Sto} (h : PA1 K ι st H Q d s2) (e : Ext ι st H ι' st' H') : PA1 K ι' st' H' Q d s2 :=
  fun ι2 H2 x R E r => h ι2 H2 x R (e.trans E) r
theorem PX1.ext {W : XW} {x : Exn} {s2 : Sto} (h : PX1 K W ι st H x s2) (e : Ext ι st H ι' st' H') : PX1 K W ι' st' H' x s2 :=
  fun ι2 H2 R E => h ι2 H2 R (e.trans E)
theorem SRel.live (R : SRel K ι st H) {n : Nat} {o : O} {a : Addr} (h : st[n]? = some o) (hi : ι.ad[n]? = some a) (hl : o ≠ O.dead) : ∃ u, H a = some u ∧ ∀ xs, u ≠ .tup xs := by
  have q := R.obj n o a h hi
  cases o with
  | dead => exact absurd rfl hl
  | lst ds => obtain ⟨xs, e, _⟩ := q; exact ⟨_, e, fun _ z => nomatch z⟩
  | dct t kvs =>
    cases t with
    | false => obtain ⟨xs, e, _⟩ := q; exact ⟨_, e, fun _ z => nomatch z⟩
    | true => obtain ⟨xs, e, _⟩ := q; exact ⟨_, e, fun _ z => nomatch z⟩
  | lck t kvs =>
    cases t with
    | false => obtain ⟨xs, o, e, _⟩ := q; exact ⟨_, e, fun _ z => nomatch z⟩
    | true => obtain ⟨xs, o, e, _⟩ := q; exact ⟨_, e, fun _ z => nomatch z⟩
  | tpl ds => obtain ⟨xs, o, e, _⟩ := q; exact ⟨_, e, fun _ z => nomatch z⟩
  | tab kvs => obtain ⟨xs, e, _⟩ := q; exact ⟨_, e, fun _ z => nomatch (show HO.ext _ = HO.tup _ from z)⟩
theorem SRel.hid_new (R : SRel K ι st H) {p : Addr} (hp : H p = none) : p ∉ ι.hid := fun z => by
  obtain ⟨⟨_, e, _⟩, _⟩ := R.hid p z
  rw [hp] at e
  cases e
theorem SRel.frz_new (R : SRel K ι st H) {p : Addr} (hp : H p = none) : Frz ι st p := ⟨R.hid_new hp, fun n o h hi => by
  by_cases hd : o = O.dead
  · exact hd
  · obtain ⟨u, e, _⟩ := R.live h hi hd
    rw [hp] at e; cases e⟩
theorem RK.ext (e : Ext ι st H ι' st' H') : ∀ {kvs : List (PyData × D)} {xs : List (Key × V)}, RK K ι st H kvs xs → RK K ι' st' H' kvs xs
  | _, _, .nil => .nil
  | _, _, .cons h r => .cons ⟨h.1, h.2.ext e⟩ (RK.ext e r)
theorem RT.ext (e : Ext ι st H ι' st' H') : ∀ {kvs : List (PyData × D)} {xs : List (List Key × V)}, RT K ι st H kvs xs → RT K ι' st' H' kvs xs
  | _, _, .nil => .nil
  | _, _, .cons h r => .cons ⟨h.1, h.2.ext e⟩ (RT.ext e r)
theorem RTab.ext (e : Ext ι st H ι' st' H') : ∀ {kvs : List (PyData × D)} {xs : List (NestedKey × Addr × V)}, RTab K ι st H kvs xs → RTab K ι' st' H' kvs xs
  | _, _, .nil => .nil
  | _, _, .cons h r => .cons ⟨h.1, h.2.1.ext e, h.2.2.ext e⟩ (RTab.ext e r)
theorem RDA.ext (e : Ext ι st H ι' st' H') : ∀ {ds : List D} {xs : List V}, RDA K ι st H ds xs → RDA K ι' st' H' ds xs
  | _, _, .nil => .nil
  | _, _, .cons h r => .cons (h.ext e) (RDA.ext e r)
theorem RO.ext (e : Ext ι st H ι' st' H') {a : Addr} (h : ∀ u, H a = some u → H' a = some u) : ∀ {o : O}, RO K ι st H a o → RO K ι' st' H' a o
  | .dead, _ => trivial
  | .lst _, ⟨xs, q, r⟩ => ⟨xs, h _ q, r.ext e⟩
  | .dct false _, ⟨xs, q, r⟩ => ⟨xs, h _ q, RK.ext e r⟩
  | .dct true _, ⟨xs, q, r⟩ => ⟨xs, h _ q, RT.ext e r⟩
  | .lck false _, ⟨xs, o, q, r⟩ => ⟨xs, o, h _ q, RK.ext e r⟩
  | .lck true _, ⟨xs, o, q, r⟩ => ⟨xs, o, h _ q, r.1, r.2.1, r.2.2.1, RTab.ext e r.2.2.2⟩
  | .tpl _, ⟨xs, o, q, r⟩ => ⟨xs, o, h _ q, RDA.ext e r⟩
  | .tab _, ⟨xs, q, r⟩ => ⟨xs, h _ q, r.1, r.2.1, r.2.2.1, RTab.ext e r.2.2.2⟩
theorem Ext.fresh (R : SRel K ι st H) {p : Addr} {u : HO} (hp : H p = none) : Ext ι st H ι st (upd H p u) :=
  ⟨fun q o e f => ⟨f, by rw [upd_ne (ne_of_none e hp)]; exact e⟩, fun _ _ e => e, rfl, fun q hq => upd_ne fun z => R.hid_new hp (z ▸ hq), fun h hi => ⟨h, upd_ne (let ⟨_, e, _⟩ := R.live h hi (fun z => nomatch z); ne_of_none e hp)⟩⟩
theorem SRel.fresh (R : SRel K ι st H) {p : Addr} {u : HO} (hp : H p = none) (hf : HF (upd H p u)) : SRel K ι st (upd H p u) :=
  ⟨R.len, fun n o a h hi => (R.obj n o a h hi).ext (Ext.fresh R hp) fun v e => by rw [upd_ne (ne_of_none e hp)]; exact e, R.inj, R.low, fun a h => ⟨let ⟨xs, e, d⟩ := (R.hid a h).1; ⟨xs, by rw [upd_ne (ne_of_none e hp)]; exact e, d⟩, (R.hid a h).2⟩, hf⟩
theorem frz_push {p q : Addr} {o : O} (R : ι.ad.length = st.length) (f : Frz ι st q) (hq : q ≠ p) : Frz (ι.psh p) (st ++ [o]) q := ⟨f.1, fun n u h hi => by
  replace hi : (ι.ad ++ [p])[n]? = some q := hi
  by_cases hn : n < st.length
  · rw [List.getElem?_append_left hn] at h
    rw [List.getElem?_append_left (by rw [R]; exact hn)] at hi
    exact f.2 n u h hi
  · by_cases hn2 : n = st.length
    · subst hn2
      rw [← R, List.getElem?_append_right (Nat.le_refl _), Nat.sub_self] at hi
      exact absurd (Option.some.inj hi).symm hq
    · rw [List.getElem?_eq_none (by rw [List.length_append, List.length_singleton]; omega)] at h
      cases h⟩
theorem Ext.push {p : Addr} {u : HO} {o : O} (R : SRel K ι st H) (hp : H p = none) : Ext ι st H (ι.psh p) (st ++ [o]) (upd H p u) := by
  refine ⟨fun q v e f => ?_, fun n a e => ?_, rfl, fun q hq => upd_ne fun z => ?_, fun h hi => ⟨by rw [List.getElem?_append_left (List.getElem?_eq_some_iff.mp h).1]; exact h, upd_ne (let ⟨_, e, _⟩ := R.live h hi (fun z => nomatch z); ne_of_none e hp)⟩⟩
  · have nq := ne_of_none e hp
    exact ⟨frz_push R.len f nq, by rw [upd_ne nq]; exact e⟩
  · show (ι.ad ++ [p])[n]? = some a
    rw [List.getElem?_append_left (List.getElem?_eq_some_iff.mp e).1]
    exact e
  · obtain ⟨⟨_, e, _⟩, _⟩ := R.hid q hq
    rw [z, hp] at e
    cases e
theorem SRel.push (R : SRel K ι st H) {p : Addr} {u : HO} {o : O} (hp : H p = none) (hf : HF (upd H p u)) (ho : RO K (ι.psh p) (st ++ [o]) (upd H p u) p o) (hw : o.low st.length = true) : SRel K (ι.psh p) (st ++ [o]) (upd H p u) := by
  have old : ∀ {n : Nat} {v : O} {a : Addr}, (st ++ [o])[n]? = some v → (ι.ad ++ [p])[n]? = some a → (n < st.length ∧ st[n]? = some v ∧ ι.ad[n]? = some a) ∨ (n = st.length ∧ v = o ∧ a = p) := by
    intro n v a h hi
    by_cases hn : n < st.length
    · rw [List.getElem?_append_left hn] at h
      rw [List.getElem?_append_left (by rw [R.len]; exact hn)] at hi
      exact .inl ⟨hn, h, hi⟩
    · by_cases hn2 : n = st.length
      · subst hn2
        rw [List.getElem?_append_right (Nat.le_refl _), Nat.sub_self] at h
        rw [← R.len, List.getElem?_append_right (Nat.le_refl _), Nat.sub_self] at hi
        exact .inr ⟨rfl, (Option.some.inj h).symm, (Option.some.inj hi).symm⟩
      · rw [List.getElem?_eq_none (by rw [List.length_append, List.length_singleton]; omega)] at h
        cases h
  refine ⟨by show (ι.ad ++ [p]).length = _; rw [List.length_append, List.length_append, R.len]; rfl, fun n v a h hi => ?_, fun m n a v w hm hn h1 h2 l1 l2 => ?_, fun n v h => ?_, fun a ha => ⟨?_, fun n v h hi => ?_⟩, hf⟩
  · rcases old h hi with ⟨_, h1, h2⟩ | ⟨_, rfl, rfl⟩
    · exact (R.obj n v a h1 h2).ext (Ext.push R hp) fun z e => by rw [upd_ne (ne_of_none e hp)]; exact e
    · exact ho
  · rcases old h1 hm with ⟨_, a1, a2⟩ | ⟨e1, _, rfl⟩
    · rcases old h2 hn with ⟨_, b1, b2⟩ | ⟨_, _, rfl⟩
      · exact R.inj m n a v w a2 b2 a1 b1 l1 l2
      · exact absurd ((R.frz_new hp).2 m v a1 a2) l1
    · rcases old h2 hn with ⟨_, b1, b2⟩ | ⟨e2, _, _⟩
      · exact absurd ((R.frz_new hp).2 n w b1 b2) l2
      · rw [e1, e2]
  · by_cases hn : n < st.length
    · rw [List.getElem?_append_left hn] at h
      exact R.low n v h
    · by_cases hn2 : n = st.length
      · subst hn2
        rw [List.getElem?_append_right (Nat.le_refl _), Nat.sub_self] at h
        rw [← Option.some.inj h]
        exact hw
      · rw [List.getElem?_eq_none (by rw [List.length_append, List.length_singleton]; omega)] at h
        cases h
  · obtain ⟨xs, e, d⟩ := (R.hid a ha).1
    exact ⟨xs, by rw [upd_ne (ne_of_none e hp)]; exact e, d⟩
  · rcases old h hi with ⟨_, h1, h2⟩ | ⟨_, rfl, rfl⟩
    · exact (R.hid a ha).2 n v h1 h2
    · obtain ⟨xs, e, _⟩ := (R.hid a ha).1
      rw [hp] at e
      cases e
theorem frz_set {n : Nat} {o o' : O} {q : Addr} (h : st[n]? = some o) (hl : o ≠ O.dead) (f : Frz ι st q) : Frz ι (st.set n o') q := ⟨f.1, fun m u hm hi => by
  by_cases e : n = m
  · subst e
    exact absurd (f.2 n o h hi) hl
  · rw [List.getElem?_set_ne e] at hm
    exact f.2 m u hm hi⟩
theorem Ext.write (R : SRel K ι st H) {n : Nat} {o o' : O} {a : Addr} {u : HO} (h : st[n]? = some o) (hi : ι.ad[n]? = some a) (hl : o ≠ O.dead) (hk : ∀ t kvs, o ≠ .lck t kvs) : Ext ι st H ι (st.set n o') (upd H a u) := by
  refine ⟨fun q v e f => ⟨frz_set h hl f, ?_⟩, fun _ _ e => e, rfl, fun q hq => upd_ne fun z => ?_, fun {m t kvs b} hm hb => ?_⟩
  · have nq : q ≠ a := fun z => by subst z; exact hl (f.2 n o h hi)
    rw [upd_ne nq]
    exact e
  · subst z
    exact hl ((R.hid q hq).2 n o h hi)
  · have nm : n ≠ m := fun z => by subst z; rw [h] at hm; exact hk t kvs (Option.some.inj hm)
    exact ⟨by rw [List.getElem?_set_ne nm]; exact hm, upd_ne fun z => by subst z; exact nm (R.inj n m b o _ hi hb h hm hl (fun z => nomatch z))⟩
theorem SRel.write (R : SRel K ι st H) {n : Nat} {o o' : O} {a : Addr} {u : HO} (h : st[n]? = some o) (hi : ι.ad[n]? = some a) (hl : o ≠ O.dead) (hk : ∀ t kvs, o ≠ .lck t kvs) (hf : HF (upd H a u)) (ho : RO K ι (st.set n o') (upd H a u) a o') (hw : o'.low n = true) : SRel K ι (st.set n o') (upd H a u) := by
  refine ⟨by rw [List.length_set]; exact R.len, fun m v b hm hb => ?_, fun i j b v w hib hjb h1 h2 l1 l2 => ?_, fun m v hm => ?_, fun b hb => ⟨?_, fun m v hm hi' => ?_⟩, hf⟩
  · by_cases e : n = m
    · subst e
      rw [List.getElem?_set_self (List.getElem?_eq_some_iff.mp h).1] at hm
      cases hm
      rw [hi] at hb; cases hb
      exact ho
    · rw [List.getElem?_set_ne e] at hm
      by_cases ed : v = O.dead
      · subst ed; trivial
      · refine (R.obj m v b hm hb).ext (Ext.write R h hi hl hk) fun z q => ?_
        have nb : b ≠ a := fun z => by subst z; exact e (R.inj n m b o v hi hb h hm hl ed)
        rw [upd_ne nb]
        exact q
  · have live : ∀ {i : Nat} {v : O}, (st.set n o')[i]? = some v → v ≠ O.dead → ∃ v', st[i]? = some v' ∧ v' ≠ O.dead := fun {i v} q l => by
      by_cases e : n = i
      · subst e; exact ⟨o, h, hl⟩
      · rw [List.getElem?_set_ne e] at q
        exact ⟨v, q, l⟩
    obtain ⟨v', a1, a2⟩ := live h1 l1
    obtain ⟨w', b1, b2⟩ := live h2 l2
    exact R.inj i j b v' w' hib hjb a1 b1 a2 b2
  · by_cases e : n = m
    · subst e
      rw [List.getElem?_set_self (List.getElem?_eq_some_iff.mp h).1] at hm
      rw [← Option.some.inj hm]
      exact hw
    · rw [List.getElem?_set_ne e] at hm
      exact R.low m v hm
  · obtain ⟨xs, e, d⟩ := (R.hid b hb).1
    have nb : b ≠ a := fun z => by subst z; exact hl ((R.hid b hb).2 n o h hi)
    exact ⟨xs, by rw [upd_ne nb]; exact e, d⟩
  · by_cases e : n = m
    · subst e
      exact absurd ((R.hid b hb).2 n o h hi') hl
    · rw [List.getElem?_set_ne e] at hm
      exact (R.hid b hb).2 m v hm hi'
theorem frz_take {q : Addr} {k : Nat} (f : Frz ι st q) : Frz (ι.tk k) (st.take k) q := ⟨f.1, fun n o h hi => by
  replace hi : (ι.ad.take k)[n]? = some q := hi
  rw [List.getElem?_take] at h hi
  split at h
  · rename_i hn
    rw [if_pos hn] at hi
    exact f.2 n o h hi
  · cases h⟩
theorem frz_takeK {k : Nat} : ∀ q u, H q = some u → Frz ι st q → Frz (ι.tk k) (st.take k) q ∧ Kp u (H q) := fun _ _ e f => ⟨frz_take f, .inl e⟩
theorem D.low_mono {k n : Nat} (h : n ≤ k) : ∀ {d : D}, d.low n = true → d.low k = true
  | .v _, _ => rfl
  | .ref m, q => decide_eq_true (Nat.lt_of_lt_of_le (of_decide_eq_true q) h)
  | .scr _, _ => rfl
theorem RD.take {k : Nat} {x : V} : ∀ {d : D}, d.low k = true → RD K ι st H x d → RD K (ι.tk k) (st.take k) H x d
  | .v d, _, h => Rp.mv frz_takeK h
  | .ref n, hl, ⟨a, h1, h2⟩ => ⟨a, by show (ι.ad.take k)[n]? = _; rw [List.getElem?_take, if_pos (of_decide_eq_true hl)]; exact h1, h2⟩
  | .scr ns, _, ⟨a, h1, h2⟩ => ⟨a, h1, h2.imp id fun ⟨o, q, f⟩ => ⟨o, q, frz_take f⟩⟩
theorem RK.take {k : Nat} : ∀ {kvs : List (PyData × D)} {xs : List (Key × V)}, kvs.all (fun p => p.2.low k) = true → RK K ι st H kvs xs → RK K (ι.tk k) (st.take k) H kvs xs
  | _, _, _, .nil => .nil
  | _, _, hl, .cons h r => by
    rw [List.all_cons, Bool.and_eq_true] at hl
    exact .cons ⟨h.1, h.2.take hl.1⟩ (RK.take hl.2 r)
theorem RT.take {k : Nat} : ∀ {kvs : List (PyData × D)} {xs : List (List Key × V)}, kvs.all (fun p => p.2.low k) = true → RT K ι st H kvs xs → RT K (ι.tk k) (st.take k) H kvs xs
  | _, _, _, .nil => .nil
  | _, _, hl, .cons h r => by
    rw [List.all_cons, Bool.and_eq_true] at hl
    exact .cons ⟨h.1, h.2.take hl.1⟩ (RT.take hl.2 r)
theorem RDA.take {k : Nat} : ∀ {ds : List D} {xs : List V}, ds.all (fun d => d.low k) = true → RDA K ι st H ds xs → RDA K (ι.tk k) (st.take k) H ds xs
  | _, _, _, .nil => .nil
  | _, _, hl, .cons h r => by
    rw [List.all_cons, Bool.and_eq_true] at hl
    exact .cons (h.take hl.1) (RDA.take hl.2 r)
theorem RTab.take {k : Nat} : ∀ {kvs : List (PyData × D)} {xs : List (NestedKey × Addr × V)}, kvs.all (fun p => p.2.low k) = true → RTab K ι st H kvs xs → RTab K (ι.tk k) (st.take k) H kvs xs
  | _, _, _, .nil => .nil
  | _, _, hl, .cons h r => by
    rw [List.all_cons, Bool.and_eq_true] at hl
    exact .cons ⟨h.1, Rp.mv frz_takeK h.2.1, h.2.2.take hl.1⟩ (RTab.take hl.2 r)
theorem SRel.take (R : SRel K ι st H) (k : Nat) : SRel K (ι.tk k) (st.take k) H := by
  refine ⟨by show (ι.ad.take k).length = _; rw [List.length_take, List.length_take, R.len], fun n o a h hi => ?_, fun i j b v w hib hjb h1 h2 l1 l2 => ?_, fun n v h => ?_, fun b hb => ⟨(R.hid b hb).1, fun n v h hi => ?_⟩, R.hf⟩
  · replace hi : (ι.ad.take k)[n]? = some a := hi
    rw [List.getElem?_take] at h hi
    split at h
    · rename_i hn
      rw [if_pos hn] at hi
      have q := R.obj n o a h hi
      have lw := R.low n o h
      cases o with
      | dead => trivial
      | lst ds =>
        obtain ⟨xs, e, r⟩ := q
        exact ⟨xs, e, RpA.mv frz_takeK r⟩
      | dct t kvs =>
        have lw' : kvs.all (fun p => p.2.low k) = true := List.all_eq_true.mpr fun p hp => D.low_mono (Nat.le_of_lt hn) (List.all_eq_true.mp lw p hp)
        cases t with
        | false => obtain ⟨xs, e, r⟩ := q; exact ⟨xs, e, r.take lw'⟩
        | true => obtain ⟨xs, e, r⟩ := q; exact ⟨xs, e, r.take lw'⟩
      | lck t kvs =>
        have lw' : kvs.all (fun p => p.2.low k) = true := List.all_eq_true.mpr fun p hp => D.low_mono (Nat.le_of_lt hn) (List.all_eq_true.mp lw p hp)
        cases t with
        | false => obtain ⟨xs, o, e, r⟩ := q; exact ⟨xs, o, e, r.take lw'⟩
        | true => obtain ⟨xs, o, e, r⟩ := q; exact ⟨xs, o, e, r.1, r.2.1, r.2.2.1, RTab.take lw' r.2.2.2⟩
      | tpl ds =>
        have lw' : ds.all (fun d => d.low k) = true := List.all_eq_true.mpr fun p hp => D.low_mono (Nat.le_of_lt hn) (List.all_eq_true.mp lw p hp)
        obtain ⟨xs, o, e, r⟩ := q; exact ⟨xs, o, e, RDA.take lw' r⟩
      | tab kvs =>
        have lw' : kvs.all (fun p => p.2.low k) = true := List.all_eq_true.mpr fun p hp => D.low_mono (Nat.le_of_lt hn) (List.all_eq_true.mp lw p hp)
        obtain ⟨xs, e, r⟩ := q; exact ⟨xs, e, r.1, r.2.1, r.2.2.1, RTab.take lw' r.2.2.2⟩
    · cases h
  · replace hib : (ι.ad.take k)[i]? = some b := hib
    replace hjb : (ι.ad.take k)[j]? = some b := hjb
    rw [List.getElem?_take] at hib hjb h1 h2
    split at h1
    · split at h2
      · rename_i a1 a2
        rw [if_pos a1] at hib
        rw [if_pos a2] at hjb
        exact R.inj i j b v w hib hjb h1 h2 l1 l2
      · cases h2
    · cases h1
  · rw [List.getElem?_take] at h
    split at h
    · exact R.low n v h
    · cases h
  · replace hi : (ι.ad.take k)[n]? = some b := hi
    rw [List.getElem?_take] at h hi
    split at h
    · rename_i hn
      rw [if_pos hn] at hi
      exact (R.hid b hb).2 n v h hi
    · cases h
end
end Fw
namespace Fw
open PySem PySem.Spec PyProof.Rows L2
section
variable {K : PySem.W.Frag} {W : XW} {ι : Gh} {st : Sto} {H : Hp} {Q : VK}
theorem PO1.same (h : PO1 K ι st H Q d st) (R : SRel K ι st H) {x : V} (r : RD K ι st H x d) : Q x H := h ι H x R Ext.refl r
theorem PO1.newTup {xs : List V} {ds : List PyData} (h : PO1 K ι st H Q (.v (.tuple ds)) st) (R : SRel K ι st H) (r : RpA (Frz ι st) H xs ds) {p : Addr} (hp : H p = none) {o : Obj} (ho : o.dict = none) (hf : HF (upd H p (.frz o (.tup xs)))) : Q (.ref p) (upd H p (.frz o (.tup xs))) :=
  h ι _ _ (R.fresh hp hf) (Ext.fresh R hp) (.tup upd_same ho (R.frz_new hp) (r.ext (Ext.fresh R hp)))
def KTup (H : Hp) (a : Addr) (xs : List V) : Prop := ∃ o, H a = some (.frz o (.tup xs)) ∧ o.dict = none
theorem KTup.sq {K : PySem.W.Frag} {H : Hp} {a : Addr} {xs : List V} (h : KTup H a xs) : SqT K H a xs := let ⟨o, h, _⟩ := h; .inl (.inr ⟨o, h⟩)
def NewT (H : Hp) (xs : List V) (Q : VK) : Prop := ∀ p o, H p = none → o.dict = none → Q (.ref p) (upd H p (.frz o (.tup xs)))
theorem NewT.laid {X : Cx} {pins : List (Addr × Obj)} {σ : L2.St} {H : Hp} {s : Shared} {Q : VK} {xs : List V} {its : List Value} {t' : Nat} (I : Inv X pins σ H s) (hv : Vals xs its) (hz : xs.length ≤ sizeLine) (q : NewT H xs Q) :
    EP X pins σ Q (.ref s.heap.objs.size) { s with heap := s.heap.push { cls := .type "tuple", data := .seq its.toArray }, toks := t' } := by
  have hf : H s.heap.objs.size = none := I.hok.fresh (Nat.le_refl _)
  refine ⟨.ref s.heap.objs.size, upd H s.heap.objs.size (.frz { cls := .type "tuple", data := .seq its.toArray } (.tup xs)), I.laid (t' := t') (fun b u e => Heap.get?_push_of_some _ e) (Nat.le_refl _) ?_, rfl, q _ _ hf rfl⟩
  exact ⟨Heap.get?_push_size _ rfl, hz, its, hv, IsTup.new _ _⟩
theorem pe_tupN {X : Cx} {es : List Expr} {t : TA} {x1} {pos : Pos} (h : PA X es t) : PE X (.Tuple es x1 pos) (fun σ H Q => t σ H fun xs H1 => xs.length ≤ sizeLine ∧ NewT H1 xs Q) :=
  ⟨fun pins s σ H Q I hq => wpAny_Tuple_spliced (thn (h.run pos pins s σ H _ I hq) fun us s1 ⟨xs, H1, I1, r, z, q⟩ => ⟨by rw [← r.length]; exact z, q.laid (t' := s1.toks) I1 r z⟩)⟩
theorem PO1.newLst {xs : List V} {ds : List PyData} (h : PO1 K ι st H Q (.v (.list ds)) st) (R : SRel K ι st H) (r : RpA (Frz ι st) H xs ds) {p : Addr} (hp : H p = none) (hf : HF (upd H p (.lst xs))) : Q (.ref p) (upd H p (.lst xs)) :=
  h ι _ _ (R.fresh hp hf) (Ext.fresh R hp) (.lst upd_same (R.frz_new hp) (r.ext (Ext.fresh R hp)))
end
def viewL (st : Sto) : D → Option (List PyData)
  | .v (.list xs) => some xs
  | .ref n => match st[n]? with
    | some (.lst xs) => some xs
    | _ => none
  | _ => none
def viewS (st : Sto) : D → Option (List PyData)
  | .v (.tuple xs) => some xs
  | d => viewL st d
def viewP (st : Sto) : D → Option PyData
  | .v d => some d
  | d => (viewL st d).map .list
theorem viewL_at {K : PySem.W.Frag} {ι : Gh} {st : Sto} {H : Hp} (R : SRel K ι st H) {x : V} {d : D} {ds : List PyData} (e : viewL st d = some ds) (r : RD K ι st H x d) : ∃ a xs, x = .ref a ∧ H a = some (.lst xs) ∧ RpA (Frz ι st) H xs ds := by
  cases d with
  | v z =>
    cases z with
    | list zs =>
      have e' : zs = ds := Option.some.inj e
      subst e'
      have r' : Rp (Frz ι st) H x (.list zs) := r
      cases r' with
      | lst h _ t => exact ⟨_, _, rfl, h, t⟩
    | _ => cases e
  | scr ns => cases e
  | ref n =>
    obtain ⟨a, h1, h2⟩ := r
    cases q : st[n]? with
    | none =>
      simp only [viewL, q] at e
      cases e
    | some o =>
      simp only [viewL, q] at e
      cases o with
      | lst zs =>
        have e' : zs = ds := Option.some.inj e
        subst e'
        obtain ⟨xs, e1, r⟩ := R.obj n _ a q h1
        exact ⟨a, xs, h2, e1, r⟩
      | dead => cases e
      | dct _ _ => cases e
      | lck _ _ => cases e
      | tpl _ => cases e
      | tab _ => cases e
theorem viewS_at {K : PySem.W.Frag} {ι : Gh} {st : Sto} {H : Hp} (R : SRel K ι st H) {x : V} {d : D} {ds : List PyData} (e : viewS st d = some ds) (r : RD K ι st H x d) :
    ∃ a xs, x = .ref a ∧ (H a = some (.lst xs) ∨ KTup H a xs) ∧ RpA (Frz ι st) H xs ds := by
  have other : viewL st d = some ds → ∃ a xs, x = .ref a ∧ (H a = some (.lst xs) ∨ KTup H a xs) ∧ RpA (Frz ι st) H xs ds := fun q =>
    let ⟨a, xs, h1, h2, h3⟩ := viewL_at R q r
    ⟨a, xs, h1, .inl h2, h3⟩
  cases d with
  | v z =>
    cases z with
    | tuple zs =>
      have e' : zs = ds := Option.some.inj e
      subst e'
      have r' : Rp (Frz ι st) H x (.tuple zs) := r
      cases r' with
      | tup h z _ t => exact ⟨_, _, rfl, .inr ⟨_, h, z⟩, t⟩
    | list _ => exact other e
    | _ => cases e
  | ref n => exact other e
  | scr ns => exact other e
theorem viewS_atF {K : PySem.W.Frag} {ι : Gh} {st : Sto} {H : Hp} (R : SRel K ι st H) {x : V} {d : D} {ds : List PyData} (e : viewS st d = some ds) (r : RD K ι st H x d) :
    ∃ a xs, x = .ref a ∧ (H a = some (.lst xs) ∨ KTup H a xs ∧ Frz ι st a) ∧ RpA (Frz ι st) H xs ds := by
  have other : viewL st d = some ds → ∃ a xs, x = .ref a ∧ (H a = some (.lst xs) ∨ KTup H a xs ∧ Frz ι st a) ∧ RpA (Frz ι st) H xs ds := fun q =>
    let ⟨a, xs, h1, h2, h3⟩ := viewL_at R q r
    ⟨a, xs, h1, .inl h2, h3⟩
  cases d with
  | v z =>
    cases z with
    | tuple zs =>
      have e' : zs = ds := Option.some.inj e
      subst e'
      have r' : Rp (Frz ι st) H x (.tuple zs) := r
      cases r' with
      | tup h z f t => exact ⟨_, _, rfl, .inr ⟨⟨_, h, z⟩, f⟩, t⟩
    | list _ => exact other e
    | _ => cases e
  | ref n => exact other e
  | scr ns => exact other e
mutual
theorem Rp.dp {K : PySem.W.Frag} {F : Addr → Prop} {H : Hp} : ∀ {x : V} {d : PyData}, Rp F H x d → d.hasDict = false → Dp K H x d
  | _, _, .non, _ => .non
  | _, _, .bl b, _ => .bl b
  | _, _, .int i, _ => .int i
  | _, _, .str z, _ => .str z
  | _, _, .lst h _ r, q => .lst (.of h) (RpA.dp r (by simpa [PyData.hasDict] using q))
  | _, _, .tup h _ _ r, q => .tup (.inl (.inr ⟨_, h⟩)) (RpA.dp r (by simpa [PyData.hasDict] using q))
  | _, _, .dcK _ _ _, q => by simp [PyData.hasDict] at q
  | _, _, .dcT _ _ _ _, q => by simp [PyData.hasDict] at q
theorem RpA.dp {K : PySem.W.Frag} {F : Addr → Prop} {H : Hp} : ∀ {xs : List V} {ds : List PyData}, RpA F H xs ds → PyData.hasDictAll ds = false → DpAll K H xs ds
  | _, _, .nil, _ => .nil
  | _, _, .cons h r, q => by
    have q' := q
    simp only [PyData.hasDictAll, Bool.or_eq_false_iff] at q'
    exact .cons (Rp.dp h q'.1) (RpA.dp r q'.2)
end
theorem viewP_at {K : PySem.W.Frag} {ι : Gh} {st : Sto} {H : Hp} (R : SRel K ι st H) {x : V} {d : D} {z : PyData} (e : viewP st d = some z) (r : RD K ι st H x d) (hn : z.hasDict = false) : Dp K H x z := by
  have other : (viewL st d).map PyData.list = some z → Dp K H x z := fun q => by
    obtain ⟨ds, q1, rfl⟩ := Option.map_eq_some_iff.mp q
    obtain ⟨a, xs, rfl, h2, h3⟩ := viewL_at R q1 r
    exact .lst (.of h2) (h3.dp (by simpa [PyData.hasDict] using hn))
  cases d with
  | v d =>
    cases e
    exact Rp.dp r hn
  | ref n => exact other e
  | scr ns => exact other e
def mVar (i : Nat) : ME := fun env st => match env[i]? with
  | some (some d) => .ok d st
  | _ => .stuck
def mC (d : PyData) : ME := fun _ st => .ok (.v d) st
abbrev F1 := D → Sto → Out D
abbrev F2 := D → D → Sto → Out D
abbrev FA := List D → Sto → Out D
def mUn (f : F1) (ma : ME) : ME := fun env st => (ma env st).bind fun a s1 => f a s1
def mBin (f : F2) (ma mb : ME) : ME := fun env st => (ma env st).bind fun a s1 => (mb env s1).bind fun b s2 => f a b s2
def mArg (f : FA) (ma : MA) : ME := fun env st => (ma env st).bind fun ds s1 => f ds s1
def mNil : MA := fun _ st => .ok [] st
def mCons (ma : ME) (mr : MA) : MA := fun env st => (ma env st).bind fun a s1 => (mr env s1).bind fun ds s2 => .ok (a :: ds) s2
def Op2 (K : PySem.W.Frag) (W : XW) (r : R2) (f : F2) : Prop := ∀ (ι : Gh) (st : Sto) (H : Hp) (x y : V) (a b : D) (Q : VK), SRel K ι st H → RD K ι st H x a → RD K ι st H y b →
  (f a b st).post (PO1 K ι st H Q) (PX1 K W ι st H) → r x y H (fun v H' => HF H' → Q v H')
def OpA (K : PySem.W.Frag) (W : XW) (r : List V → Hp → VK → Prop) (f : FA) : Prop := ∀ (ι : Gh) (st : Sto) (H : Hp) (xs : List V) (ds : List D) (Q : VK), SRel K ι st H → RDs K ι st H xs ds →
  (f ds st).post (PO1 K ι st H Q) (PX1 K W ι st H) → r xs H (fun v H' => HF H' → Q v H')
section
variable {K : PySem.W.Frag} {W : XW} {σ : L2.St} {H : Hp} {Q : VK} {ma mb : ME}
theorem te_bin {r : R2} {f : F2} (hf : Op2 K W r f) (h : TEo K W (mBin f ma mb) σ H Q) : tOp r (TEo K W ma) (TEo K W mb) σ H (fun v H' => HF H' → Q v H') := by
  obtain ⟨ι, env, st, R, EV, p⟩ := h
  refine ⟨ι, env, st, R, EV, Out.post_mono (Out.post_bind p) (fun a s1 q ι1 H1 x R1 E1 ra => ?_) fun _ _ q => q⟩
  refine ⟨ι1, env, s1, R1, EV.ext E1, Out.post_mono (Out.post_bind q) (fun b s2 q2 ι2 H2 y R2 E2 rb => ?_) fun _ _ z => z.ext E1⟩
  exact hf ι2 s2 H2 x y a b Q R2 (ra.ext E2) rb (Out.post_mono q2 (fun _ _ z => (z.ext E1).ext E2) fun _ _ z => (z.ext E1).ext E2)
theorem te_arg {r : List V → Hp → VK → Prop} {f : FA} {m : MA} (hf : OpA K W r f) (h : TEo K W (mArg f m) σ H Q) : TAo K W m σ H fun xs H1 => r xs H1 (fun v H' => HF H' → Q v H') := by
  obtain ⟨ι, env, st, R, EV, p⟩ := h
  refine ⟨ι, env, st, R, EV, Out.post_mono (Out.post_bind p) (fun a s1 q ι1 H1 x R1 E1 ra => ?_) fun _ _ q => q⟩
  exact hf ι1 s1 H1 x a Q R1 ra (Out.post_mono q (fun _ _ z => z.ext E1) fun _ _ z => z.ext E1)
end
section
variable {X : Cx} {W : XW} {a b e : Expr} {es : List Expr} {ma mb : ME} {pos : Pos}
theorem x_var (i : Nat) {x : Str} (h : PE X (.Name x pos) (tVar i)) : PE X (.Name x pos) (TEo X.K W (mVar i)) := pe_wrap h fun σ H Q q => by
  obtain ⟨ι, env, st, R, EV, p⟩ := q
  unfold mVar at p
  cases e : env[i]? with
  | none => rw [e] at p; exact p.elim
  | some o =>
    rw [e] at p
    cases o with
    | none => exact p.elim
    | some d =>
      obtain ⟨x, h1, h2⟩ := EV.2 i d e
      exact ⟨x, h1, fun _ => p ι H x R Ext.refl h2⟩
theorem x_const {v : V} {d : PyData} (h : PE X e (tC v)) (r : ∀ F H, Rp F H v d) : PE X e (TEo X.K W (mC d)) := pe_wrap h fun σ H Q q => by
  obtain ⟨ι, env, st, R, EV, p⟩ := q
  exact fun _ => p ι H v R Ext.refl (r _ _)
theorem x_int {i : Int} {j} : PE X (.Constant (.int i) j pos) (TEo X.K W (mC (.int i))) := x_const pe_int fun _ _ => .int i
theorem x_bl {i : Bool} {j} : PE X (.Constant (.bool i) j pos) (TEo X.K W (mC (.bool i))) := x_const pe_bl fun _ _ => .bl i
theorem x_non {j} : PE X (.Constant .none j pos) (TEo X.K W (mC .none)) := x_const pe_non fun _ _ => .non
theorem x_str {z : Str} {j} : PE X (.Constant (.str z) j pos) (TEo X.K W (mC (.str z))) := x_const pe_str fun _ _ => .str z
theorem x_op {op : Operator} {r : R2} {f : F2} (ho : OpR X (binaryOp op) r) (hf : Op2 X.K W r f) (ha : PE X a (TEo X.K W ma)) (hb : PE X b (TEo X.K W mb)) : PE X (.BinOp a op b pos) (TEo X.K W (mBin f ma mb)) :=
  pe_wrap (pe_op ho ha hb) fun σ H Q q => te_bin hf q
theorem xa_nil : PA X [] (TAo X.K W mNil) := pa_wrap pa_nil fun σ H Q q => by
  obtain ⟨ι, env, st, R, EV, p⟩ := q
  exact fun _ => p ι H [] R Ext.refl .nil
theorem xa_cons {mr : MA} (ha : PE X e (TEo X.K W ma)) (hr : PA X es (TAo X.K W mr)) (hs : starEach (e :: es) X.env = (false, eval e X.env) :: starEach es X.env := by rfl) : PA X (e :: es) (TAo X.K W (mCons ma mr)) :=
  pa_wrap (pa_cons ha hr hs) fun σ H Q q => by
    obtain ⟨ι, env, st, R, EV, p⟩ := q
    refine ⟨ι, env, st, R, EV, Out.post_mono (Out.post_bind p) (fun a s1 q ι1 H1 x R1 E1 ra => ?_) fun _ _ q => q⟩
    refine ⟨ι1, env, s1, R1, EV.ext E1, Out.post_mono (Out.post_bind q) (fun b s2 q2 ι2 H2 y R2 E2 rb => ?_) fun _ _ z => z.ext E1⟩
    exact fun _ => q2 ι2 H2 (x :: y) R2 (E1.trans E2) (.cons (ra.ext E2) rb)
theorem x_callB {id : String} {x : Str} {p : Pos} {r : List V → Hp → VK → Prop} {f : FA} {m : MA} (hc : CallR X (.builtin id) r) (hf : OpA X.K W r f) (hg : Gl X x) (hm : X.mg x = none) (hv : bootBuiltins x = some (.builtin id)) (ha : PA X (e :: es) (TAo X.K W m)) (hn : x ≠ "__name__" := by decide) (hdb : (x == ("__debug__" : Str)) = false := by decide)
    (he : starEach (e :: es) X.env = (false, eval e X.env) :: starEach es X.env := by rfl) (hpl : (backTo pos (starEach es X.env)).any (·.1) = false := by rfl) : PE X (.Call (.Name x p) (e :: es) [] pos) (TEo X.K W (mArg f m)) :=
  pe_wrap (pe_callB hc hg hm hv ha hn hdb he hpl) fun σ H Q q => te_arg hf q
theorem x_callT {T : String} {x : Str} {p : Pos} {r : List V → Hp → VK → Prop} {f : FA} {m : MA} (hc : CallR X (.type T) r) (hf : OpA X.K W r f) (hg : Gl X x) (hm : X.mg x = none) (hv : bootBuiltins x = some (.type T)) (ha : PA X (e :: es) (TAo X.K W m)) (hn : x ≠ "__name__" := by decide) (hdb : (x == ("__debug__" : Str)) = false := by decide)
    (he : starEach (e :: es) X.env = (false, eval e X.env) :: starEach es X.env := by rfl) (hpl : (backTo pos (starEach es X.env)).any (·.1) = false := by rfl) : PE X (.Call (.Name x p) (e :: es) [] pos) (TEo X.K W (mArg f m)) :=
  pe_wrap (pe_callTy hc hg hm hv ha hn hdb he hpl) fun σ H Q q => te_arg hf q
def valsOf : List D → Option (List PyData)
  | [] => some []
  | .v d :: r => (valsOf r).map (d :: ·)
  | _ :: _ => none
def fTup : FA := fun ds st => match valsOf ds with
  | some zs => if zs.length ≤ 1000 then .ok (.v (.tuple zs)) st else .stuck
  | none => .stuck
theorem lim1000 {n : Nat} (h : n ≤ 1000) : n ≤ sizeLine := Nat.le_of_lt (small1000 h)
theorem valsOf_at {K : PySem.W.Frag} {ι : Gh} {st : Sto} {H : Hp} : ∀ {ds : List D} {zs : List PyData} {xs : List V}, valsOf ds = some zs → RDs K ι st H xs ds → RpA (Frz ι st) H xs zs
  | [], _, _, e, .nil => by cases e; exact .nil
  | .v d :: r, _, _, e, .cons h t => by
    obtain ⟨ws, e1, rfl⟩ := Option.map_eq_some_iff.mp (show (valsOf r).map (d :: ·) = _ from e)
    exact .cons h (valsOf_at e1 t)
theorem xs_len {F : Addr → Prop} {H : Hp} {xs : List V} {ds : List PyData} (r : RpA F H xs ds) {n : Nat} (h : ds.length ≤ n) : xs.length ≤ n := by
  rw [r.length]
  exact h
theorem opTup {K : PySem.W.Frag} {W : XW} : OpA K W (fun xs H Q => xs.length ≤ sizeLine ∧ NewT H xs Q) fTup := by
  intro ι st H xs ds Q R r p
  unfold fTup at p
  cases e : valsOf ds with
  | none => rw [e] at p; exact p.elim
  | some zs =>
    rw [e] at p
    have p : (if zs.length ≤ 1000 then Out.ok (D.v (.tuple zs)) st else .stuck).post (PO1 K ι st H Q) (PX1 K W ι st H) := p
    split at p
    · rename_i hl
      have ra := valsOf_at e r
      exact ⟨lim1000 (xs_len ra hl), fun q o hq ho hf => PO1.newTup p R ra hq ho hf⟩
    · exact p.elim
theorem x_tup {k : Nat} {m : MA} (h : PA X es (TAo X.K W m)) : PE X (.Tuple es k pos) (TEo X.K W (mArg fTup m)) := pe_wrap (pe_tupN h) fun σ H Q q => te_arg opTup q
theorem RDs.length {K : PySem.W.Frag} {ι : Gh} {st : Sto} {H : Hp} {xs : List V} {ds : List D} (h : RDs K ι st H xs ds) : xs.length = ds.length := Paired.length h
end
end Fw
namespace Fw
open PySem PySem.Spec PyProof.Rows L2
def iOf : D → Option Int
  | .v (.int i) => some i
  | _ => none
def bOf : D → Option Bool
  | .v (.bool b) => some b
  | _ => none
def sOf : D → Option Str
  | .v (.str z) => some z
  | _ => none
def tOf : D → Option (List PyData)
  | .v (.tuple xs) => some xs
  | _ => none
def lim : Nat := 1000000
theorem lim_ok {n : Nat} (h : n ≤ lim) : n ≤ sizeLine := Nat.le_trans h (by decide)
section
variable {K : PySem.W.Frag} {W : XW} {ι : Gh} {st : Sto} {H : Hp} {x : V} {d : D}
theorem iOf_at {i : Int} (e : iOf d = some i) (r : RD K ι st H x d) : x = .int i := by
  cases d with
  | v z =>
    cases z with
    | int j =>
      have e' : j = i := Option.some.inj e
      subst e'
      have r' : Rp (Frz ι st) H x (.int j) := r
      cases r'
      rfl
    | _ => cases e
  | _ => cases e
theorem bOf_at {i : Bool} (e : bOf d = some i) (r : RD K ι st H x d) : x = .bl i := by
  cases d with
  | v z =>
    cases z with
    | bool j =>
      have e' : j = i := Option.some.inj e
      subst e'
      have r' : Rp (Frz ι st) H x (.bool j) := r
      cases r'
      rfl
    | _ => cases e
  | _ => cases e
theorem sOf_at {i : Str} (e : sOf d = some i) (r : RD K ι st H x d) : x = .str i := by
  cases d with
  | v z =>
    cases z with
    | str j =>
      have e' : j = i := Option.some.inj e
      subst e'
      have r' : Rp (Frz ι st) H x (.str j) := r
      cases r'
      rfl
    | _ => cases e
  | _ => cases e
theorem tOf_at {ds : List PyData} (e : tOf d = some ds) (r : RD K ι st H x d) : ∃ a xs, x = .ref a ∧ KTup H a xs ∧ RpA (Frz ι st) H xs ds := by
  cases d with
  | v z =>
    cases z with
    | tuple zs =>
      have e' : zs = ds := Option.some.inj e
      subst e'
      have r' : Rp (Frz ι st) H x (.tuple zs) := r
      cases r' with
      | tup h z _ t => exact ⟨_, _, rfl, ⟨_, h, z⟩, t⟩
    | _ => cases e
  | _ => cases e
theorem tOf_eq {ds : List PyData} (e : tOf d = some ds) : d = .v (.tuple ds) := by
  cases d with
  | v z =>
    cases z with
    | tuple zs =>
      have e' : zs = ds := Option.some.inj e
      subst e'
      rfl
    | _ => cases e
  | _ => cases e
end
def addD : F2 := fun a b st =>
  match iOf a, iOf b with
  | some i, some j => .ok (.v (.int (i + j))) st
  | _, _ => match tOf a, tOf b with
    | some xs, some ys => if xs.length + ys.length ≤ lim then .ok (.v (.tuple (xs ++ ys))) st else .stuck
    | _, _ => match viewL st a, viewL st b with
      | some xs, some ys => if xs.length + ys.length ≤ lim then .ok (.v (.list (xs ++ ys))) st else .stuck
      | _, _ => match sOf a, sOf b with
        | some y, some z => if y.length + z.length ≤ lim then .ok (.v (.str (y ++ z))) st else .stuck
        | _, _ => .stuck
def rStrAdd : R2 := fun x y H Q => ∃ i j, x = .str i ∧ y = .str j ∧ i.length + j.length ≤ sizeLine ∧ Q (.str (i ++ j)) H
def rCatN (K : PySem.W.Frag) : R2 := fun x y H Q => ∃ a b xs ys, x = .ref a ∧ y = .ref b ∧ SqT K H a xs ∧ SqT K H b ys ∧ xs.length + ys.length ≤ sizeLine ∧
  (xs = [] → Q (.ref b) H) ∧ (xs ≠ [] → ys = [] → Q (.ref a) H) ∧ (xs ≠ [] → ys ≠ [] → NewT H (xs ++ ys) Q)
theorem op_catN {X : Cx} : OpR X (binaryOp .Add) (rCatN X.K) := by
  intro pins s σ H x y v u Q I rx ry h
  obtain ⟨a, b, xs, ys, rfl, rfl, ha, hb, hz, q0, q1, q2⟩ := h
  cases rx
  cases ry
  obtain ⟨its, r1, p1, _⟩ := I.tuple ha
  obtain ⟨its2, r2, p2, _⟩ := I.tuple hb
  by_cases hx : xs = []
  · subst hx
    cases r1
    exact cat_tup0 p1 p2 ⟨.ref b, H, I, rfl, q0 rfl⟩
  · refine HT.cat_tup p1 p2 (fun z => hx (r1.nil_iff.mp z)) (fun z => ⟨.ref a, H, I, rfl, q1 hx (r2.nil_iff.mp z)⟩) (fun z => ?_) ?_
    · exact (q2 hx fun w => z (r2.nil_iff.mpr w)).laid (t' := s.toks) I (r1.append r2) (by rw [List.length_append]; exact hz)
    · rw [← r1.length, ← r2.length]
      exact hz
def rAddU (K : PySem.W.Frag) : R2 := fun x y H Q => rI0 (fun i j => .int (i + j)) x y H Q ∨ rCatN K x y H Q ∨ rCat x y H Q ∨ rStrAdd x y H Q
theorem or_addU {X : Cx} : OpR X (binaryOp .Add) (rAddU X.K) := op_add.or (op_catN.or (op_cat.or op_add_str))
theorem op2_add {K : PySem.W.Frag} {W : XW} : Op2 K W (rAddU K) addD := by
  intro ι st H x y a b Q R ra rb p
  unfold addD at p
  split at p
  · rename_i i j e1 e2
    exact .inl ⟨i, j, iOf_at e1 ra, iOf_at e2 rb, fun _ => p.same R (.int _)⟩
  · split at p
    · rename_i xs ys e1 e2
      split at p
      · rename_i hl
        obtain ⟨a1, us, rfl, h1, r1⟩ := tOf_at e1 ra
        obtain ⟨b1, vs, rfl, h2, r2⟩ := tOf_at e2 rb
        have hz : us.length + vs.length ≤ sizeLine := by rw [r1.length, r2.length]; exact lim_ok hl
        refine .inr (.inl ⟨a1, b1, us, vs, rfl, rfl, h1.sq, h2.sq, hz, fun z => ?_, fun _ z => ?_, fun _ _ q o hq ho hf => ?_⟩)
        · subst z
          cases r1
          intro _
          rw [tOf_eq e2] at rb
          exact p.same R rb
        · subst z
          cases r2
          intro _
          rw [tOf_eq e1] at ra
          rw [List.append_nil] at p
          exact p.same R ra
        · exact p.newTup R (r1.append r2) hq ho hf
      · exact p.elim
    · split at p
      · rename_i xs ys e1 e2
        split at p
        · rename_i hl
          obtain ⟨a1, us, rfl, h1, r1⟩ := viewL_at R e1 ra
          obtain ⟨b1, vs, rfl, h2, r2⟩ := viewL_at R e2 rb
          have hz : us.length + vs.length ≤ sizeLine := by rw [r1.length, r2.length]; exact lim_ok hl
          exact .inr (.inr (.inl ⟨a1, b1, us, vs, rfl, rfl, h1, h2, hz, fun q hq hf => p.newLst R (r1.append r2) hq hf⟩))
        · exact p.elim
      · split at p
        · rename_i y1 z1 e1 e2
          split at p
          · rename_i hl
            exact .inr (.inr (.inr ⟨y1, z1, sOf_at e1 ra, sOf_at e2 rb, lim_ok hl, fun _ => p.same R (.str _)⟩))
          · exact p.elim
        · exact p.elim
def intD (C : Int → Int → Bool) (g : Int → Int → PyData) : F2 := fun a b st => match iOf a, iOf b with
  | some i, some j => if C i j then .ok (.v (g i j)) st else .stuck
  | _, _ => .stuck
theorem op2_int {K : PySem.W.Frag} {W : XW} {C : Int → Int → Bool} {C' : Int → Int → Prop} {g : Int → Int → PyData} {g' : Int → Int → V} (hc : ∀ i j, C i j = true → C' i j) (hg : ∀ F H i j, Rp F H (g' i j) (g i j)) : Op2 K W (rI C' g') (intD C g) := by
  intro ι st H x y a b Q R ra rb p
  unfold intD at p
  split at p
  · rename_i i j e1 e2
    split at p
    · rename_i h
      exact ⟨i, j, iOf_at e1 ra, iOf_at e2 rb, hc i j h, fun _ => p.same R (hg _ _ i j)⟩
    · exact p.elim
  · exact p.elim
def intD0 (g : Int → Int → PyData) : F2 := fun a b st => match iOf a, iOf b with
  | some i, some j => .ok (.v (g i j)) st
  | _, _ => .stuck
theorem op2_int0 {K : PySem.W.Frag} {W : XW} {g : Int → Int → PyData} {g' : Int → Int → V} (hg : ∀ F H i j, Rp F H (g' i j) (g i j)) : Op2 K W (rI0 g') (intD0 g) := by
  intro ι st H x y a b Q R ra rb p
  unfold intD0 at p
  split at p
  · rename_i i j e1 e2
    exact ⟨i, j, iOf_at e1 ra, iOf_at e2 rb, fun _ => p.same R (hg _ _ i j)⟩
  · exact p.elim
abbrev subD : F2 := intD0 fun i j => .int (i - j)
def cMul (i j : Int) : Bool := (decide (-(2 ^ 64) < i) && decide (i < 2 ^ 64)) || (decide (-(2 ^ 64) < j) && decide (j < 2 ^ 64))
theorem cMul_ok {i j : Int} (h : cMul i j = true) : CMul i j := by
  unfold cMul at h
  simp only [Bool.or_eq_true, Bool.and_eq_true, decide_eq_true_eq] at h
  exact h
def mulD : F2 := fun a b st => match iOf a, iOf b with
  | some i, some j => if cMul i j then .ok (.v (.int (i * j))) st else .stuck
  | _, _ => match viewL st a, iOf b with
    | some xs, some k => if -1000000 ≤ k ∧ k ≤ 1000000 ∧ xs.length * k.toNat ≤ lim then .ok (.v (.list (List.replicate k.toNat xs).flatten)) st else .stuck
    | _, _ => .stuck
theorem op2_mul {K : PySem.W.Frag} {W : XW} : Op2 K W (fun x y H Q => rI CMul (fun i j => .int (i * j)) x y H Q ∨ rRep x y H Q) mulD := by
  intro ι st H x y a b Q R ra rb p
  unfold mulD at p
  split at p
  · rename_i i j e1 e2
    split at p
    · rename_i h
      exact .inl ⟨i, j, iOf_at e1 ra, iOf_at e2 rb, cMul_ok h, fun _ => p.same R (.int _)⟩
    · exact p.elim
  · split at p
    · rename_i xs k e1 e2
      split at p
      · rename_i h
        obtain ⟨a1, us, rfl, h1, r1⟩ := viewL_at R e1 ra
        refine .inr ⟨a1, k, us, rfl, iOf_at e2 rb, h1, by omega, by omega, by rw [r1.length]; exact lim_ok h.2.2, fun q hq hf => p.newLst R (r1.rep _) hq hf⟩
      · exact p.elim
    · exact p.elim
def cDiv (i j : Int) : Bool := decide (j ≠ 0) && decide (j.natAbs < 1073741824)
theorem cDiv_ok {i j : Int} (h : cDiv i j = true) : CDivN i j := by
  unfold cDiv at h
  simp only [Bool.and_eq_true, decide_eq_true_eq] at h
  exact h
abbrev fdivD : F2 := intD cDiv fun i j => .int (i.fdiv j)
abbrev modD : F2 := intD (fun _ j => decide (j ≠ 0)) fun i j => .int (i.fmod j)
section
variable {X : Cx} {W : XW} {a b e : Expr} {ma mb : ME} {pos : Pos}
theorem x_add (ha : PE X a (TEo X.K W ma)) (hb : PE X b (TEo X.K W mb)) : PE X (.BinOp a .Add b pos) (TEo X.K W (mBin addD ma mb)) := x_op or_addU op2_add ha hb
theorem x_sub (ha : PE X a (TEo X.K W ma)) (hb : PE X b (TEo X.K W mb)) : PE X (.BinOp a .Sub b pos) (TEo X.K W (mBin subD ma mb)) := x_op op_sub (op2_int0 fun _ _ _ _ => .int _) ha hb
theorem x_mul (ha : PE X a (TEo X.K W ma)) (hb : PE X b (TEo X.K W mb)) : PE X (.BinOp a .Mult b pos) (TEo X.K W (mBin mulD ma mb)) := x_op (op_mul.or op_rep) op2_mul ha hb
theorem x_fdiv (ha : PE X a (TEo X.K W ma)) (hb : PE X b (TEo X.K W mb)) : PE X (.BinOp a .FloorDiv b pos) (TEo X.K W (mBin fdivD ma mb)) := x_op op_fdivN (op2_int (fun _ _ => cDiv_ok) fun _ _ _ _ => .int _) ha hb
theorem x_mod (ha : PE X a (TEo X.K W ma)) (hb : PE X b (TEo X.K W mb)) : PE X (.BinOp a .Mod b pos) (TEo X.K W (mBin modD ma mb)) := x_op op_modN (op2_int (fun _ _ h => of_decide_eq_true h) fun _ _ _ _ => .int _) ha hb
end
def negD : F1 := fun a st => match iOf a with
  | some i => .ok (.v (.int (-i))) st
  | none => .stuck
abbrev ltD : F2 := intD0 fun i j => .bool (decide (i < j))
abbrev leD : F2 := intD0 fun i j => .bool (decide (i ≤ j))
abbrev gtD : F2 := intD0 fun i j => .bool (decide (j < i))
abbrev geD : F2 := intD0 fun i j => .bool (decide (j ≤ i))
def eqT (st : Sto) (a b : D) : Option Bool := match viewP st a, viewP st b with
  | some x, some y => if SeqAt.shaped x && SeqAt.shaped y then some (PyData.eqv x y) else none
  | _, _ => none
def eqS (st : Sto) (a b : D) : Option Bool := match sOf a, sOf b with
  | some x, some y => some (decide (x = y))
  | _, _ => eqT st a b
def eqD : F2 := fun a b st => match eqS st a b with
  | some k => .ok (.v (.bool k)) st
  | none => .stuck
def neD : F2 := fun a b st => match eqS st a b with
  | some k => .ok (.v (.bool (!k))) st
  | none => .stuck
theorem noDict_of {z : PyData} (h : SeqAt.shaped z = true) : z.hasDict = false := PyData.hasDict_of_canLay _ (SeqAt.canLay_of_shaped h)
theorem eqT_at {K : PySem.W.Frag} {ι : Gh} {st : Sto} {H : Hp} (R : SRel K ι st H) {a b : D} {x y : V} {k : Bool} (e : eqT st a b = some k) (ra : RD K ι st H x a) (rb : RD K ι st H y b) :
    ∃ d e, Dp K H x d ∧ Dp K H y e ∧ SeqAt.shaped d = true ∧ SeqAt.shaped e = true ∧ PyData.eqv d e = k := by
  unfold eqT at e
  split at e
  · rename_i z w e1 e2
    split at e
    · rename_i h
      rw [Bool.and_eq_true] at h
      exact ⟨z, w, viewP_at R e1 ra (noDict_of h.1), viewP_at R e2 rb (noDict_of h.2), h.1, h.2, Option.some.inj e⟩
    · cases e
  · cases e
theorem eqS_at {K : PySem.W.Frag} {ι : Gh} {st : Sto} {H : Hp} (R : SRel K ι st H) {a b : D} {x y : V} {k : Bool} (e : eqS st a b = some k) (ra : RD K ι st H x a) (rb : RD K ι st H y b) :
    (scal x y = true ∧ decide (x = y) = k) ∨ ∃ d e, Dp K H x d ∧ Dp K H y e ∧ SeqAt.shaped d = true ∧ SeqAt.shaped e = true ∧ PyData.eqv d e = k := by
  unfold eqS at e
  split at e
  · rename_i z w e1 e2
    have q1 := sOf_at e1 ra
    have q2 := sOf_at e2 rb
    subst q1 q2
    refine .inl ⟨rfl, ?_⟩
    rw [dec_str, ← Option.some.inj e]
    by_cases h : z = w
    · subst h; simp
    · rw [decide_eq_false h]; exact beq_eq_false_iff_ne.mpr h
  · exact .inr (eqT_at R e ra rb)
def rEqU (K : PySem.W.Frag) : R2 := fun x y H Q => rEq x y H Q ∨ rEqD K x y H Q
def rNeU (K : PySem.W.Frag) : R2 := fun x y H Q => rNe x y H Q ∨ rNeD K x y H Q
theorem op2_eq {K : PySem.W.Frag} {W : XW} : Op2 K W (rEqU K) eqD := by
  intro ι st H x y a b Q R ra rb p
  unfold eqD at p
  split at p
  · rename_i k e
    rcases eqS_at R e ra rb with ⟨h1, h2⟩ | ⟨d, e', h1, h2, h3, h4, h5⟩
    · exact .inl ⟨h1, fun _ => by rw [h2]; exact p.same R (.bl _)⟩
    · exact .inr ⟨d, e', h1, h2, h3, h4, fun _ => by rw [h5]; exact p.same R (.bl _)⟩
  · exact p.elim
theorem op2_ne {K : PySem.W.Frag} {W : XW} : Op2 K W (rNeU K) neD := by
  intro ι st H x y a b Q R ra rb p
  unfold neD at p
  split at p
  · rename_i k e
    rcases eqS_at R e ra rb with ⟨h1, h2⟩ | ⟨d, e', h1, h2, h3, h4, h5⟩
    · exact .inl ⟨h1, fun _ => by rw [h2]; exact p.same R (.bl _)⟩
    · exact .inr ⟨d, e', h1, h2, h3, h4, fun _ => by rw [h5]; exact p.same R (.bl _)⟩
  · exact p.elim
def isS : D → D → Option Bool
  | .v (.bool a), .v (.bool b) => some (decide (a = b))
  | a, .v .none => some (match a with | .v .none => true | _ => false)
  | _, _ => none
def isD : F2 := fun a b st => match isS a b with
  | some k => .ok (.v (.bool k)) st
  | none => .stuck
def isNotD : F2 := fun a b st => match isS a b with
  | some k => .ok (.v (.bool (!k))) st
  | none => .stuck
def rIsU : R2 := fun x y H Q => rIsB x y H Q ∨ (y = .non ∧ Q (.bl (decide (x = .non))) H)
def rIsNotU : R2 := fun x y H Q => rNotB x y H Q ∨ (y = .non ∧ Q (.bl (!decide (x = .non))) H)
theorem isNone_at {K : PySem.W.Frag} {ι : Gh} {st : Sto} {H : Hp} {x : V} : ∀ {d : D}, RD K ι st H x d → decide (x = .non) = (match d with | .v .none => true | _ => false)
  | .v z, r => by
    have r' : Rp (Frz ι st) H x z := r
    cases r' <;> rfl
  | .ref n, ⟨a, _, h⟩ => by rw [h]; rfl
  | .scr ns, ⟨a, h, _⟩ => by rw [h]; rfl
theorem isS_at {K : PySem.W.Frag} {ι : Gh} {st : Sto} {H : Hp} {a b : D} {x y : V} {k : Bool} (e : isS a b = some k) (ra : RD K ι st H x a) (rb : RD K ι st H y b) :
    (∃ i j : Bool, x = .bl i ∧ y = .bl j ∧ decide (i = j) = k) ∨ (y = .non ∧ decide (x = .non) = k) := by
  unfold isS at e
  split at e
  · rename_i i j
    exact .inl ⟨i, j, bOf_at rfl ra, bOf_at rfl rb, Option.some.inj e⟩
  · have rb' : Rp (Frz ι st) H y .none := rb
    cases rb'
    exact .inr ⟨rfl, (isNone_at ra).trans (Option.some.inj e)⟩
  · cases e
theorem op2_is {K : PySem.W.Frag} {W : XW} : Op2 K W rIsU isD := by
  intro ι st H x y a b Q R ra rb p
  unfold isD at p
  split at p
  · rename_i k e
    rcases isS_at e ra rb with ⟨i, j, h1, h2, h3⟩ | ⟨h1, h2⟩
    · exact .inl ⟨i, j, h1, h2, fun _ => by rw [h3]; exact p.same R (.bl _)⟩
    · exact .inr ⟨h1, fun _ => by rw [h2]; exact p.same R (.bl _)⟩
  · exact p.elim
theorem op2_isNot {K : PySem.W.Frag} {W : XW} : Op2 K W rIsNotU isNotD := by
  intro ι st H x y a b Q R ra rb p
  unfold isNotD at p
  split at p
  · rename_i k e
    rcases isS_at e ra rb with ⟨i, j, h1, h2, h3⟩ | ⟨h1, h2⟩
    · exact .inl ⟨i, j, h1, h2, fun _ => by rw [h3]; exact p.same R (.bl _)⟩
    · exact .inr ⟨h1, fun _ => by rw [h2]; exact p.same R (.bl _)⟩
  · exact p.elim
def flatP : PyData → Bool
  | .list _ | .tuple _ | .dict _ => false
  | _ => true
def inS (st : Sto) (a b : D) : Option Bool := match a, viewS st b with
  | .v x, some ys => if flatP x && ys.all flatP then some (ys.any fun y => PyData.eqv y x)
      else match viewL st b with
        | some _ => if SeqAt.shaped x && SeqAt.shaped (.list ys) then some (ys.any fun y => PyData.eqv y x) else none
        | none => if SeqAt.shaped x && SeqAt.shaped (.tuple ys) then some (ys.any fun y => PyData.eqv y x) else none
  | _, _ => none
def inD : F2 := fun a b st => match inS st a b with
  | some k => .ok (.v (.bool k)) st
  | none => .stuck
def notInD : F2 := fun a b st => match inS st a b with
  | some k => .ok (.v (.bool (!k))) st
  | none => .stuck
theorem flat_of {F : Addr → Prop} {H : Hp} {x : V} {d : PyData} (r : Rp F H x d) (h : flatP d = true) : flatV x = true := by
  cases r <;> first | rfl | exact absurd h Bool.false_ne_true
theorem flatAll_of {F : Addr → Prop} {H : Hp} : ∀ {xs : List V} {ds : List PyData}, RpA F H xs ds → ds.all flatP = true → xs.all flatV = true
  | _, _, .nil, _ => rfl
  | _, _, .cons r t, h => by
    rw [List.all_cons, Bool.and_eq_true] at h
    rw [List.all_cons, flat_of r h.1, flatAll_of t h.2]
    rfl
theorem eqV_of {F : Addr → Prop} {H : Hp} {x y : V} {d e : PyData} (r : Rp F H x d) (q : Rp F H y e) (h : flatP d = true) (h' : flatP e = true) : eqV x y = PyData.eqv d e := by
  cases r <;> first
    | exact absurd h Bool.false_ne_true
    | (cases q <;> first
        | exact absurd h' Bool.false_ne_true
        | rfl
        | simp [eqV, PyData.eqv])
theorem inV_of {F : Addr → Prop} {H : Hp} {x : V} {d : PyData} (r : Rp F H x d) (h : flatP d = true) : ∀ {xs : List V} {ds : List PyData}, RpA F H xs ds → ds.all flatP = true → inV x xs = ds.any fun y => PyData.eqv y d
  | _, _, .nil, _ => rfl
  | _, _, .cons q t, h' => by
    rw [List.all_cons, Bool.and_eq_true] at h'
    have ih := inV_of r h t h'.2
    unfold inV at ih ⊢
    rw [List.any_cons, List.any_cons, ih, eqV_of q r h'.1 h]
theorem inS_at {K : PySem.W.Frag} {ι : Gh} {st : Sto} {H : Hp} (R : SRel K ι st H) {a b : D} {x y : V} {k : Bool} (e : inS st a b = some k) (ra : RD K ι st H x a) (rb : RD K ι st H y b) :
    (∃ p xs, y = .ref p ∧ (SqL K H p xs ∨ SqT K H p xs) ∧ flatV x = true ∧ xs.all flatV = true ∧ inV x xs = k) ∨
    (∃ d ds, Dp K H x d ∧ Dp K H y (.list ds) ∧ SeqAt.shaped d = true ∧ SeqAt.shaped (.list ds) = true ∧ (ds.any fun z => PyData.eqv z d) = k) ∨
    ∃ d ds, Dp K H x d ∧ Dp K H y (.tuple ds) ∧ SeqAt.shaped d = true ∧ SeqAt.shaped (.tuple ds) = true ∧ (ds.any fun z => PyData.eqv z d) = k := by
  unfold inS at e
  split at e
  · rename_i d ys e1
    obtain ⟨p, xs, rfl, h1, h2⟩ := viewS_at R e1 rb
    split at e
    · rename_i hf
      rw [Bool.and_eq_true] at hf
      exact .inl ⟨p, xs, rfl, h1.imp .of KTup.sq, flat_of ra hf.1, flatAll_of h2 hf.2, (inV_of ra hf.1 h2 hf.2).trans (Option.some.inj e)⟩
    · split at e
      · rename_i zs e2
        split at e
        · rename_i hs
          rw [Bool.and_eq_true] at hs
          refine .inr (.inl ⟨d, ys, viewP_at R rfl ra (noDict_of hs.1), ?_, hs.1, hs.2, Option.some.inj e⟩)
          obtain ⟨a2, us, e3, h3, h4⟩ := viewL_at R e2 rb
          cases e3
          have eq : ys = zs := by
            have : viewS st b = viewL st b := by
              cases b with
              | v w =>
                cases w with
                | tuple _ => cases e2
                | _ => rfl
              | _ => rfl
            rw [this, e2] at e1
            exact (Option.some.inj e1).symm
          subst eq
          exact .lst (.of h3) (h4.dp (by simpa [PyData.hasDict] using noDict_of hs.2))
        · cases e
      · rename_i e2
        split at e
        · rename_i hs
          rw [Bool.and_eq_true] at hs
          have eb : b = .v (.tuple ys) := by
            cases b with
            | v w =>
              cases w with
              | tuple zs => cases e1; rfl
              | _ => exact absurd (e2.symm.trans e1) (fun z => nomatch z)
            | _ => exact absurd (e2.symm.trans e1) (fun z => nomatch z)
          subst eb
          exact .inr (.inr ⟨d, ys, viewP_at R rfl ra (noDict_of hs.1), viewP_at R rfl rb (noDict_of hs.2), hs.1, hs.2, Option.some.inj e⟩)
        · cases e
  · cases e
def rInDT (K : PySem.W.Frag) : R2 := fun x y H Q => ∃ d ds, Dp K H x d ∧ Dp K H y (.tuple ds) ∧ SeqAt.shaped d = true ∧ SeqAt.shaped (.tuple ds) = true ∧ Q (.bl (ds.any fun z => PyData.eqv z d)) H
def rNotInDT (K : PySem.W.Frag) : R2 := fun x y H Q => ∃ d ds, Dp K H x d ∧ Dp K H y (.tuple ds) ∧ SeqAt.shaped d = true ∧ SeqAt.shaped (.tuple ds) = true ∧ Q (.bl (!(ds.any fun z => PyData.eqv z d))) H
theorem op_inDT {X : Cx} (hu : X.A.units + 65 < cLine) : OpR X (compareOp .In) (rInDT X.K) := by
  rintro pins s σ H x y v u Q I rx ry ⟨d, ds, hd, he, sd, se, q⟩
  obtain ⟨as, r1⟩ := Dp.reads I d x v hd rx
  obtain ⟨bs, r2⟩ := Dp.reads I (.tuple ds) y u he ry
  exact SeqAt.in_tuple_reads r2 r1 (SeqAt.canLay_of_shaped se) (SeqAt.canLay_of_shaped sd) (room_in_shaped sd hu) ⟨.bl _, H, I, rfl, q⟩
theorem op_notInDT {X : Cx} (hu : X.A.units + 65 < cLine) : OpR X (compareOp .NotIn) (rNotInDT X.K) := by
  rintro pins s σ H x y v u Q I rx ry ⟨d, ds, hd, he, sd, se, q⟩
  obtain ⟨as, r1⟩ := Dp.reads I d x v hd rx
  obtain ⟨bs, r2⟩ := Dp.reads I (.tuple ds) y u he ry
  exact SeqAt.notIn_tuple_reads r2 r1 (SeqAt.canLay_of_shaped se) (SeqAt.canLay_of_shaped sd) (room_in_shaped sd hu) ⟨.bl _, H, I, rfl, q⟩
def rInU (K : PySem.W.Frag) : R2 := fun x y H Q => rIn K false x y H Q ∨ rInD K x y H Q ∨ rInDT K x y H Q
def rNotInU (K : PySem.W.Frag) : R2 := fun x y H Q => rIn K true x y H Q ∨ rNotInD K x y H Q ∨ rNotInDT K x y H Q
theorem op2_in {K : PySem.W.Frag} {W : XW} : Op2 K W (rInU K) inD := by
  intro ι st H x y a b Q R ra rb p
  unfold inD at p
  split at p
  · rename_i k e
    rcases inS_at R e ra rb with ⟨q, xs, h1, h2, h3, h4, h5⟩ | ⟨d, ds, h1, h2, h3, h4, h5⟩ | ⟨d, ds, h1, h2, h3, h4, h5⟩
    · refine .inl ⟨q, xs, h1, h2, h3, h4, fun _ => ?_⟩
      rw [if_neg Bool.false_ne_true, h5]
      exact p.same R (.bl _)
    · exact .inr (.inl ⟨d, ds, h1, h2, h3, h4, fun _ => by rw [h5]; exact p.same R (.bl _)⟩)
    · exact .inr (.inr ⟨d, ds, h1, h2, h3, h4, fun _ => by rw [h5]; exact p.same R (.bl _)⟩)
  · exact p.elim
theorem op2_notIn {K : PySem.W.Frag} {W : XW} : Op2 K W (rNotInU K) notInD := by
  intro ι st H x y a b Q R ra rb p
  unfold notInD at p
  split at p
  · rename_i k e
    rcases inS_at R e ra rb with ⟨q, xs, h1, h2, h3, h4, h5⟩ | ⟨d, ds, h1, h2, h3, h4, h5⟩ | ⟨d, ds, h1, h2, h3, h4, h5⟩
    · refine .inl ⟨q, xs, h1, h2, h3, h4, fun _ => ?_⟩
      rw [if_pos rfl, h5]
      exact p.same R (.bl _)
    · exact .inr (.inl ⟨d, ds, h1, h2, h3, h4, fun _ => by rw [h5]; exact p.same R (.bl _)⟩)
    · exact .inr (.inr ⟨d, ds, h1, h2, h3, h4, fun _ => by rw [h5]; exact p.same R (.bl _)⟩)
  · exact p.elim
end Fw
namespace Fw
open PySem PySem.Spec PyProof.Rows L2
structure Gd (X : Cx) : Prop where
  calm : X.calm = true
  gu : X.A.guards = some []
  un : X.A.units + 150 < cLine
theorem pe_or {X : Cx} {e : Expr} {t u : TE} (h : PE X e t) (h' : PE X e u) : PE X e (fun σ H Q => t σ H Q ∨ u σ H Q) :=
  ⟨fun pins s σ H Q I q => q.elim (h.run pins s σ H Q I) (h'.run pins s σ H Q I)⟩
theorem te_or {K : PySem.W.Frag} {W : XW} {σ : L2.St} {H : Hp} {Q : VK} {ma mb : ME} {f g h : F2} (hc : ∀ a b st, h a b st = f a b st ∨ h a b st = g a b st) (q : TEo K W (mBin h ma mb) σ H Q) : TEo K W (mBin f ma mb) σ H Q ∨ TEo K W (mBin g ma mb) σ H Q := by
  obtain ⟨ι, env, st, R, EV, p⟩ := q
  have key : mBin h ma mb env st = mBin f ma mb env st ∨ mBin h ma mb env st = mBin g ma mb env st := by
    unfold mBin
    cases ma env st with
    | ok a s1 =>
      cases e : mb env s1 with
      | ok b s2 =>
        simp only [bind_ok, e]
        exact hc a b s2
      | exn _ _ => exact .inl (by simp only [bind_ok, e, bind_exn])
      | stuck => exact .inl (by simp only [bind_ok, e, bind_stuck])
    | exn _ _ => exact .inl rfl
    | stuck => exact .inl rfl
  rcases key with e | e <;> rw [e] at p
  · exact .inl ⟨ι, env, st, R, EV, p⟩
  · exact .inr ⟨ι, env, st, R, EV, p⟩
def key1 : PyData → Option Key
  | .int i => some (.inl i)
  | .str z => some (.inr z)
  | _ => none
def keysT : List PyData → Option (List Key)
  | [] => some []
  | d :: r => match key1 d, keysT r with
    | some k, some ks => some (k :: ks)
    | _, _ => none
def keyT : PyData → Option (List Key)
  | .tuple ds => keysT ds
  | _ => none
def keq (t : Bool) (a b : PyData) : Bool := if t then decide (keyT a = keyT b) else decide (key1 a = key1 b)
def getK (t : Bool) (kvs : List (PyData × D)) (k : PyData) : Option D := (kvs.find? fun p => keq t p.1 k).map (·.2)
def isTK : List (PyData × PyData) → Bool
  | (.tuple _, _) :: _ => true
  | _ => false
def viewK (st : Sto) : D → Option (Bool × List (PyData × D))
  | .v (.dict kvs) => some (isTK kvs, kvs.map fun p => (p.1, .v p.2))
  | .ref n => match st[n]? with
    | some (.dct t kvs) => some (t, kvs)
    | some (.lck false kvs) => some (false, kvs)
    | _ => none
  | _ => none
theorem key1_kD (k : Key) : key1 (kD k) = some k := by cases k <;> rfl
theorem keysT_kD : ∀ ks : List Key, keysT (ks.map kD) = some ks
  | [] => rfl
  | k :: r => by
    rw [List.map_cons]
    unfold keysT
    rw [key1_kD, keysT_kD r]
theorem kD_of {d : PyData} {k : Key} (h : key1 d = some k) : d = kD k := by
  cases d with
  | int i => cases h; rfl
  | str z => cases h; rfl
  | _ => cases h
theorem kV_of {F : Addr → Prop} {H : Hp} {x : V} {k : Key} (r : Rp F H x (kD k)) : x = kV k := by
  cases k <;> (cases r; rfl)
section
variable {K : PySem.W.Frag} {ι : Gh} {st : Sto} {H : Hp}
def ROpt (K : PySem.W.Frag) (ι : Gh) (st : Sto) (H : Hp) : Option D → Option V → Prop
  | some d, some x => RD K ι st H x d
  | none, none => True
  | _, _ => False
theorem RK.get {kd : PyData} {k : Key} (hk : key1 kd = some k) : ∀ {kvs : List (PyData × D)} {xs : List (Key × V)}, RK K ι st H kvs xs → ROpt K ι st H (getK false kvs kd) (valV xs k)
  | _, _, .nil => trivial
  | _, _, .cons (a := p) (b := q) h t => by
    have ih := RK.get hk t
    unfold getK at ih ⊢
    by_cases e : q.1 = k
    · rw [valV_pos e]
      have e2 : keq false p.1 kd = true := by
        unfold keq
        rw [if_neg Bool.false_ne_true, h.1, key1_kD, hk, e, decide_eq_true rfl]
      rw [List.find?_cons, e2]
      exact h.2
    · rw [valV_neg e]
      have e2 : keq false p.1 kd = false := by
        unfold keq
        rw [if_neg Bool.false_ne_true, h.1, key1_kD, hk]
        exact decide_eq_false fun z => e (Option.some.inj z)
      rw [List.find?_cons, e2]
      exact ih
theorem RT.get {kd : PyData} {k : List Key} (hk : keyT kd = some k) : ∀ {kvs : List (PyData × D)} {xs : List (List Key × V)}, RT K ι st H kvs xs → ROpt K ι st H (getK true kvs kd) (valV xs k)
  | _, _, .nil => trivial
  | _, _, .cons (a := p) (b := q) h t => by
    have ih := RT.get hk t
    unfold getK at ih ⊢
    have kt : keyT p.1 = some q.1 := by rw [h.1]; exact keysT_kD q.1
    by_cases e : q.1 = k
    · rw [valV_pos e]
      have e2 : keq true p.1 kd = true := by
        unfold keq
        rw [if_pos rfl, kt, hk, e, decide_eq_true rfl]
      rw [List.find?_cons, e2]
      exact h.2
    · rw [valV_neg e]
      have e2 : keq true p.1 kd = false := by
        unfold keq
        rw [if_pos rfl, kt, hk]
        exact decide_eq_false fun z => e (Option.some.inj z)
      rw [List.find?_cons, e2]
      exact ih
theorem RpK.rk : ∀ {xs : List (Key × V)} {ds : List (PyData × PyData)}, RpK (Frz ι st) H xs ds → RK K ι st H (ds.map fun p => (p.1, D.v p.2)) xs
  | _, _, .nil => .nil
  | _, _, .cons h r => .cons ⟨rfl, h⟩ (RpK.rk r)
theorem RpT.rt : ∀ {xs : List (List Key × V)} {ds : List (PyData × PyData)}, RpT (Frz ι st) H xs ds → RT K ι st H (ds.map fun p => (p.1, D.v p.2)) xs
  | _, _, .nil => .nil
  | _, _, .cons h r => .cons ⟨rfl, h⟩ (RpT.rt r)
theorem RpK.kind : ∀ {xs : List (Key × V)} {ds : List (PyData × PyData)}, RpK (Frz ι st) H xs ds → isTK ds = false
  | _, _, .nil => rfl
  | _, _, .cons (k := k) h r => by cases k <;> rfl
theorem RpT.kind : ∀ {xs : List (List Key × V)} {ds : List (PyData × PyData)}, RpT (Frz ι st) H xs ds → ds ≠ [] → isTK ds = true
  | _, _, .nil, h => absurd rfl h
  | _, _, .cons _ _, _ => rfl
theorem viewK_at (R : SRel K ι st H) {x : V} {d : D} {t : Bool} {kvs : List (PyData × D)} (e : viewK st d = some (t, kvs)) (r : RD K ι st H x d) :
    ∃ a, x = .ref a ∧ ((t = false ∧ ∃ xs, Rd H a (.dK xs) ∧ RK K ι st H kvs xs) ∨ (t = true ∧ ∃ xs, Rd H a (.dT xs) ∧ RT K ι st H kvs xs)) := by
  cases d with
  | v z =>
    cases z with
    | dict zs =>
      have e' := Option.some.inj e
      injection e' with e1 e2
      subst e1 e2
      have r' : Rp (Frz ι st) H x (.dict zs) := r
      cases r' with
      | dcK h _ q => exact ⟨_, rfl, .inl ⟨q.kind, _, h, q.rk⟩⟩
      | dcT h _ q z => exact ⟨_, rfl, .inr ⟨q.kind z, _, h, q.rt⟩⟩
    | _ => cases e
  | scr ns => cases e
  | ref n =>
    obtain ⟨a, h1, h2⟩ := r
    cases q : st[n]? with
    | none => simp only [viewK, q] at e; cases e
    | some o =>
      simp only [viewK, q] at e
      have ro := R.obj n o a q h1
      cases o with
      | dct t' kvs' =>
        have e' := Option.some.inj e
        injection e' with e1 e2
        subst e1 e2
        cases t' with
        | false => obtain ⟨xs, h3, h4⟩ := ro; exact ⟨a, h2, .inl ⟨rfl, xs, .inl h3, h4⟩⟩
        | true => obtain ⟨xs, h3, h4⟩ := ro; exact ⟨a, h2, .inr ⟨rfl, xs, .inl h3, h4⟩⟩
      | lck t' kvs' =>
        cases t' with
        | true => cases e
        | false =>
          have e' := Option.some.inj e
          injection e' with e1 e2
          subst e1 e2
          obtain ⟨xs, o, h3, h4⟩ := ro; exact ⟨a, h2, .inl ⟨rfl, xs, .inr ⟨o, h3⟩, h4⟩⟩
      | _ => cases e
end
def findS (st : Sto) (a b : D) : Option (Option D) := match viewK st a, b with
  | some (false, kvs), .v kd => match key1 kd with
    | some _ => some (getK false kvs kd)
    | none => none
  | _, _ => none
theorem findS_at {K : PySem.W.Frag} {ι : Gh} {st : Sto} {H : Hp} (R : SRel K ι st H) {a b : D} {x y : V} {o : Option D} (e : findS st a b = some o) (ra : RD K ι st H x a) (rb : RD K ι st H y b) :
    ∃ p r, x = .ref p ∧ DGet H p y r ∧ ROpt K ι st H o r := by
  unfold findS at e
  split at e
  · rename_i kvs kd e1
    split at e
    · rename_i k e2
      obtain ⟨p, rfl, ⟨_, xs, h1, h2⟩ | ⟨z, _⟩⟩ := viewK_at R e1 ra
      · have rb' : Rp (Frz ι st) H y kd := rb
        rw [kD_of e2] at rb'
        rw [← Option.some.inj e]
        exact ⟨p, valV xs k, rfl, .inl ⟨xs, k, h1, kV_of rb', rfl⟩, RK.get e2 h2⟩
      · cases z
    · cases e
  · cases e
def lookD : F2 := fun a b st => match findS st a b with
  | some (some d) => .ok d st
  | _ => .stuck
def rDGet : R2 := fun x y H Q => ∃ a v, x = .ref a ∧ DGet H a y (some v) ∧ Q v H
theorem op2_look {K : PySem.W.Frag} {W : XW} : Op2 K W rDGet lookD := by
  intro ι st H x y a b Q R ra rb p
  unfold lookD at p
  split at p
  · rename_i d e
    obtain ⟨q, r, h1, h2, h3⟩ := findS_at R e ra rb
    cases r with
    | none => exact h3.elim
    | some v => exact ⟨q, v, h1, h2, fun _ => p.same R h3⟩
  · exact p.elim
def ixD : F2 := fun a b st => match viewS st a, iOf b with
  | some xs, some i => match atI xs i with
    | some d => .ok (.v d) st
    | none => .stuck
  | _, _ => match sOf a, iOf b with
    | some z, some i => if z.length ≤ lim then match atI z.cps.toList i with
        | some c => .ok (.v (.str ⟨#[c]⟩)) st
        | none => .stuck
      else .stuck
    | _, _ => .stuck
theorem atI_rp {F : Addr → Prop} {H : Hp} {xs : List V} {ds : List PyData} (r : RpA F H xs ds) {i : Int} {d : PyData} (h : atI ds i = some d) : ∃ x, atI xs i = some x ∧ Rp F H x d := by
  unfold atI at h ⊢
  obtain ⟨j, h1, h2⟩ := Option.bind_eq_some_iff.mp h
  obtain ⟨x, h3, h4⟩ := r.get h2
  exact ⟨x, Option.bind_eq_some_iff.mpr ⟨j, by rw [r.length]; exact h1, h3⟩, h4⟩
theorem op2_ix {K : PySem.W.Frag} {W : XW} : Op2 K W (rIx K) ixD := by
  intro ι st H x y a b Q R ra rb p
  unfold ixD at p
  split at p
  · rename_i xs i e1 e2
    split at p
    · rename_i d e3
      obtain ⟨q, us, rfl, h1, h2⟩ := viewS_at R e1 ra
      obtain ⟨z, h3, h4⟩ := atI_rp h2 e3
      rcases h1 with h1 | h1
      · exact .inl ⟨q, us, i, z, rfl, iOf_at e2 rb, .of h1, h3, fun _ => p.same R h4⟩
      · exact .inr (.inl ⟨q, us, i, z, rfl, iOf_at e2 rb, h1.sq, h3, fun _ => p.same R h4⟩)
    · exact p.elim
  · split at p
    · rename_i z i e1 e2
      split at p
      · rename_i hl
        split at p
        · rename_i c e3
          exact .inr (.inr ⟨z, i, c, sOf_at e1 ra, iOf_at e2 rb, lim_ok hl, e3, fun _ => p.same R (.str _)⟩)
        · exact p.elim
      · exact p.elim
    · exact p.elim
def subsD : F2 := fun a b st => match viewK st a with
  | some _ => lookD a b st
  | none => ixD a b st
section
variable {X : Cx} {W : XW} {a b e : Expr} {ma mb : ME} {pos : Pos}
theorem x_sub' (g : Gd X) (ha : PE X a (TEo X.K W ma)) (hb : PE X b (TEo X.K W mb)) (hs : PlainIx b := by exact fun _ _ => rfl) : PE X (.Subscript a b pos) (TEo X.K W (mBin subsD ma mb)) := by
  have h1 := pe_dget (pos := pos) (by have := g.un; omega) ha hb hs
  have h2 := pe_ix (pos := pos) ix_seq ha hb hs
  refine pe_wrap (pe_or h1 h2) fun σ H Q q => ?_
  have q' := te_or (f := lookD) (g := ixD) (fun a b st => by
    unfold subsD
    cases viewK st a <;> simp) q
  exact q'.imp (fun z => te_bin op2_look z) fun z => te_bin op2_ix z
def dinD : F2 := fun a b st => match findS st b a with
  | some o => .ok (.v (.bool o.isSome)) st
  | none => .stuck
def dnotinD : F2 := fun a b st => match findS st b a with
  | some o => .ok (.v (.bool (!o.isSome))) st
  | none => .stuck
def rDIn : R2 := fun y x H Q => ∃ a o, x = .ref a ∧ DGet H a y o ∧ Q (.bl o.isSome) H
def rDNotIn : R2 := fun y x H Q => ∃ a o, x = .ref a ∧ DGet H a y o ∧ Q (.bl (!o.isSome)) H
theorem ROpt.isSome {K : PySem.W.Frag} {ι : Gh} {st : Sto} {H : Hp} : ∀ {o : Option D} {r : Option V}, ROpt K ι st H o r → r.isSome = o.isSome
  | some _, some _, _ => rfl
  | none, none, _ => rfl
  | some _, none, h => h.elim
  | none, some _, h => h.elim
theorem op2_din {K : PySem.W.Frag} : Op2 K W rDIn dinD := by
  intro ι st H x y a b Q R ra rb p
  unfold dinD at p
  split at p
  · rename_i o e
    obtain ⟨q, r, h1, h2, h3⟩ := findS_at R e rb ra
    exact ⟨q, r, h1, h2, fun _ => by rw [h3.isSome]; exact p.same R (.bl _)⟩
  · exact p.elim
theorem op2_dnotin {K : PySem.W.Frag} : Op2 K W rDNotIn dnotinD := by
  intro ι st H x y a b Q R ra rb p
  unfold dnotinD at p
  split at p
  · rename_i o e
    obtain ⟨q, r, h1, h2, h3⟩ := findS_at R e rb ra
    exact ⟨q, r, h1, h2, fun _ => by rw [h3.isSome]; exact p.same R (.bl _)⟩
  · exact p.elim
def inU : F2 := fun a b st => match viewK st b with
  | some _ => dinD a b st
  | none => inD a b st
def notInU : F2 := fun a b st => match viewK st b with
  | some _ => dnotinD a b st
  | none => notInD a b st
theorem pc_wrap {op : CmpOp} {t : TE} {m : ME} (h : PC X op a b t) (hi : ∀ σ H Q, TEo X.K W m σ H Q → t σ H (fun v H' => HF H' → Q v H')) : PC X op a b (TEo X.K W m) :=
  ⟨fun pins s σ H Q I q => thn (h.run pins s σ H _ I (hi σ H Q q)) fun _ _ h1 => thn h1 fun _ _ h2 => thn h2 fun _ _ ⟨v, H', I', r, q'⟩ => ⟨v, H', I', r, q' (hf_of I')⟩⟩
theorem pc_R {op : CmpOp} {r : R2} {ta tb : TE} (ho : OpR X (compareOp op) r) (ha : PE X a ta) (hb : PE X b tb) : PC X op a b (tOp r ta tb) :=
  ⟨fun pins s σ H Q I h => binT ha hb I h fun v u s2 x y H2 I2 rx ry q => ho pins s2 σ H2 x y v u Q I2 rx ry q⟩
theorem pc_or {op : CmpOp} {t u : TE} (h : PC X op a b t) (h' : PC X op a b u) : PC X op a b (fun σ H Q => t σ H Q ∨ u σ H Q) :=
  ⟨fun pins s σ H Q I q => q.elim (h.run pins s σ H Q I) (h'.run pins s σ H Q I)⟩
theorem c_op {op : CmpOp} {r : R2} {f : F2} (ho : OpR X (compareOp op) r) (hf : Op2 X.K W r f) (ha : PE X a (TEo X.K W ma)) (hb : PE X b (TEo X.K W mb)) : PC X op a b (TEo X.K W (mBin f ma mb)) :=
  pc_wrap (pc_R ho ha hb) fun σ H Q q => te_bin hf q
theorem c_in (g : Gd X) (ha : PE X a (TEo X.K W ma)) (hb : PE X b (TEo X.K W mb)) : PC X .In a b (TEo X.K W (mBin inU ma mb)) := by
  have un := g.un
  refine pc_wrap (pc_or (pc_din (X := X) (by omega) ha hb) (pc_R (op_in_seq.or ((op_inD (X := X) (by omega)).or (op_inDT (X := X) (by omega)))) ha hb)) fun σ H Q q => ?_
  have q' := te_or (f := dinD) (g := inD) (fun a b st => by
    unfold inU
    cases viewK st b <;> simp) q
  exact q'.imp (fun z => te_bin op2_din z) fun z => te_bin op2_in z
theorem c_notIn (g : Gd X) (ha : PE X a (TEo X.K W ma)) (hb : PE X b (TEo X.K W mb)) : PC X .NotIn a b (TEo X.K W (mBin notInU ma mb)) := by
  have un := g.un
  refine pc_wrap (pc_or (pc_dnotin (X := X) (by omega) ha hb) (pc_R (op_notIn_seq.or ((op_notInD (X := X) (by omega)).or (op_notInDT (X := X) (by omega)))) ha hb)) fun σ H Q q => ?_
  have q' := te_or (f := dnotinD) (g := notInD) (fun a b st => by
    unfold notInU
    cases viewK st b <;> simp) q
  exact q'.imp (fun z => te_bin op2_dnotin z) fun z => te_bin op2_notIn z
theorem c_lt (ha : PE X a (TEo X.K W ma)) (hb : PE X b (TEo X.K W mb)) : PC X .Lt a b (TEo X.K W (mBin ltD ma mb)) := c_op op_lt (op2_int0 fun _ _ _ _ => .bl _) ha hb
theorem c_gt (ha : PE X a (TEo X.K W ma)) (hb : PE X b (TEo X.K W mb)) : PC X .Gt a b (TEo X.K W (mBin gtD ma mb)) := c_op op_gt (op2_int0 fun _ _ _ _ => .bl _) ha hb
theorem c_ge (ha : PE X a (TEo X.K W ma)) (hb : PE X b (TEo X.K W mb)) : PC X .GtE a b (TEo X.K W (mBin geD ma mb)) := c_op op_ge (op2_int0 fun _ _ _ _ => .bl _) ha hb
theorem c_eq (g : Gd X) (ha : PE X a (TEo X.K W ma)) (hb : PE X b (TEo X.K W mb)) : PC X .Eq a b (TEo X.K W (mBin eqD ma mb)) := c_op (op_eq.or (op_eqD (by have := g.un; omega))) op2_eq ha hb
theorem c_ne (g : Gd X) (ha : PE X a (TEo X.K W ma)) (hb : PE X b (TEo X.K W mb)) : PC X .NotEq a b (TEo X.K W (mBin neD ma mb)) := c_op (op_ne.or (op_neD (by have := g.un; omega))) op2_ne ha hb
theorem c_is (ha : PE X a (TEo X.K W ma)) (hb : PE X b (TEo X.K W mb)) : PC X .Is a b (TEo X.K W (mBin isD ma mb)) := c_op (op_isBl.or op_isN) op2_is ha hb
theorem c_isNot (ha : PE X a (TEo X.K W ma)) (hb : PE X b (TEo X.K W mb)) : PC X .IsNot a b (TEo X.K W (mBin isNotD ma mb)) := c_op (op_notBl.or op_notN) op2_isNot ha hb
end
def fLen : FA := fun ds st => match ds with
  | [d] => match viewS st d with
    | some xs => .ok (.v (.int xs.length)) st
    | none => match sOf d with
      | some z => if z.length ≤ lim then .ok (.v (.int z.length)) st else .stuck
      | none => .stuck
  | _ => .stuck
theorem RDs.one {K : PySem.W.Frag} {ι : Gh} {st : Sto} {H : Hp} {xs : List V} {d : D} (r : RDs K ι st H xs [d]) : ∃ x, xs = [x] ∧ RD K ι st H x d := by
  cases r with
  | cons h t => cases t; exact ⟨_, rfl, h⟩
theorem RDs.two {K : PySem.W.Frag} {ι : Gh} {st : Sto} {H : Hp} {xs : List V} {d e : D} (r : RDs K ι st H xs [d, e]) : ∃ x y, xs = [x, y] ∧ RD K ι st H x d ∧ RD K ι st H y e := by
  cases r with
  | cons h t =>
    obtain ⟨y, rfl, r2⟩ := RDs.one t
    exact ⟨_, y, rfl, h, r2⟩
theorem opA_len {K : PySem.W.Frag} {W : XW} : OpA K W (fun xs H Q => ∃ x n, xs = [x] ∧ LenV K x H n ∧ Q (.int n) H) fLen := by
  intro ι st H xs ds Q R r p
  unfold fLen at p
  split at p
  · rename_i d
    obtain ⟨x, rfl, r1⟩ := r.one
    split at p
    · rename_i zs e
      obtain ⟨q, us, rfl, h1, h2⟩ := viewS_at R e r1
      refine ⟨_, zs.length, rfl, h1.imp (fun h => ⟨us, .of h, h2.length.symm⟩) (fun h => ⟨us, h.sq, h2.length.symm⟩), fun _ => p.same R (.int _)⟩
    · split at p
      · rename_i z e
        split at p
        · rename_i hl
          have e2 := sOf_at e r1
          subst e2
          exact ⟨_, z.length, rfl, ⟨lim_ok hl, rfl⟩, fun _ => p.same R (.int _)⟩
        · exact p.elim
      · exact p.elim
  · exact p.elim
def fAbs : FA := fun ds st => match ds with
  | [d] => match iOf d with
    | some i => .ok (.v (.int (if i < 0 then -i else i))) st
    | none => .stuck
  | _ => .stuck
theorem opA_abs {K : PySem.W.Frag} {W : XW} : OpA K W (fun xs H Q => ∃ i, xs = [.int i] ∧ Q (.int (if i < 0 then -i else i)) H) fAbs := by
  intro ι st H xs ds Q R r p
  unfold fAbs at p
  split at p
  · obtain ⟨x, rfl, r1⟩ := r.one
    split at p
    · rename_i i e
      have e2 := iOf_at e r1
      subst e2
      exact ⟨i, rfl, fun _ => p.same R (.int _)⟩
    · exact p.elim
  · exact p.elim
def fInt : FA := fun ds st => match ds with
  | [d] => match iOf d with
    | some i => .ok (.v (.int i)) st
    | none => match bOf d with
      | some k => .ok (.v (.int (if k then 1 else 0))) st
      | none => .stuck
  | _ => .stuck
theorem opA_int {K : PySem.W.Frag} {W : XW} : OpA K W (fun xs H Q => (∃ i, xs = [.int i] ∧ Q (.int i) H) ∨ ∃ k, xs = [.bl k] ∧ Q (.int (if k then 1 else 0)) H) fInt := by
  intro ι st H xs ds Q R r p
  unfold fInt at p
  split at p
  · obtain ⟨x, rfl, r1⟩ := r.one
    split at p
    · rename_i i e
      have e2 := iOf_at e r1
      subst e2
      exact .inl ⟨i, rfl, fun _ => p.same R (.int _)⟩
    · split at p
      · rename_i i e
        have e2 := bOf_at e r1
        subst e2
        exact .inr ⟨i, rfl, fun _ => p.same R (.int _)⟩
      · exact p.elim
  · exact p.elim
def f2I (g : Int → Int → Int) : FA := fun ds st => match ds with
  | [a, b] => match iOf a, iOf b with
    | some i, some j => .ok (.v (.int (g i j))) st
    | _, _ => .stuck
  | _ => .stuck
theorem opA_2I {K : PySem.W.Frag} {W : XW} {g : Int → Int → Int} : OpA K W (fun xs H Q => ∃ i j, xs = [.int i, .int j] ∧ Q (.int (g i j)) H) (f2I g) := by
  intro ι st H xs ds Q R r p
  unfold f2I at p
  split at p
  · obtain ⟨x, y, rfl, r1, r2⟩ := r.two
    split at p
    · rename_i i j e1 e2
      have q1 := iOf_at e1 r1
      have q2 := iOf_at e2 r2
      subst q1 q2
      exact ⟨i, j, rfl, fun _ => p.same R (.int _)⟩
    · exact p.elim
  · exact p.elim
def intMax (i j : Int) : Int := if j > i then j else i
def intsOf : List PyData → Option (List Int)
  | [] => some []
  | .int i :: r => (intsOf r).map (i :: ·)
  | _ :: _ => none
theorem intsOf_at {F : Addr → Prop} {H : Hp} : ∀ {ds : List PyData} {ns : List Int} {xs : List V}, intsOf ds = some ns → RpA F H xs ds → xs = ns.map V.int
  | [], ns, _, e, .nil => by cases e; rfl
  | d :: r, ns, _, e, .cons h t => by
    cases d with
    | int i =>
      obtain ⟨ms, e1, rfl⟩ := Option.map_eq_some_iff.mp (show (intsOf r).map (i :: ·) = some ns from e)
      cases h
      rw [intsOf_at e1 t]
      rfl
    | _ => cases e
end Fw
namespace Fw
open PySem PySem.Spec PyProof.Rows L2
def fSum : FA := fun ds st => match ds with
  | [d] => match viewS st d with
    | some xs => match intsOf xs with
      | some ns => .ok (.v (.int ns.sum)) st
      | none => .stuck
    | none => .stuck
  | _ => .stuck
def rSumT (K : PySem.W.Frag) : List V → Hp → VK → Prop := fun vs H Q => ∃ (a : Addr) (ns : List Int), vs = [V.ref a] ∧ SqT K H a (ns.map V.int) ∧ Q (.int ns.sum) H
theorem cr_sumT {X : Cx} (hc : X.calm = true) : CallR X (.builtin "sum") (rSumT X.K) := by
  intro pins s σ H vs us Q I r h
  obtain ⟨a, ns, rfl, hs, q⟩ := h
  obtain ⟨its, rv, hl, _⟩ := I.tuple hs
  rw [Vals.ref1 r]
  obtain ⟨o, e1, e2, n, e3⟩ := hl
  obtain ⟨xs, hx⟩ := rv.ints.allInts.items
  have hn : numsOf its.toArray.toList = ns := rv.ints.numsOf
  have ht : s.heap.IsTuple a its.toArray := ⟨o, e1, e2, n, e3⟩
  rw [hx] at ht hn
  rw [nums_intItems] at hn
  refine PySem.W.ktm_sumG (I.ok.hd hc) ht fun h' tk t' hk => ?_
  rw [preSum_eq, List.take_of_length_le (by simp), hn]
  exact ⟨.int _, H, I.kept hk, ⟨_, rfl⟩, q⟩
theorem opA_sum {K : PySem.W.Frag} {W : XW} : OpA K W (fun xs H Q => rSum K xs H Q ∨ rSumT K xs H Q) fSum := by
  intro ι st H xs ds Q R r p
  unfold fSum at p
  split at p
  · obtain ⟨x, rfl, r1⟩ := r.one
    split at p
    · rename_i zs e
      split at p
      · rename_i ns e2
        obtain ⟨q, us, rfl, h1, h2⟩ := viewS_at R e r1
        have h3 := intsOf_at e2 h2
        subst h3
        rcases h1 with h1 | h1
        · exact .inl ⟨q, ns, rfl, .of h1, fun _ => p.same R (.int _)⟩
        · exact .inr ⟨q, ns, rfl, h1.sq, fun _ => p.same R (.int _)⟩
      · exact p.elim
    · exact p.elim
  · exact p.elim
def fTuple : FA := fun ds st => match ds with
  | [d] => match viewS st d with
    | some xs => .ok (.v (.tuple xs)) st
    | none => .stuck
  | _ => .stuck
theorem call_tupleN {X : Cx} : CallR X (.type "tuple") (fun xs H Q => ∃ p ys, xs = [.ref p] ∧ ((SqL X.K H p ys ∧ NewT H ys Q) ∨ (SqT X.K H p ys ∧ Q (.ref p) H))) := by
  intro pins s σ H xs us Q I r h
  obtain ⟨p, ys, rfl, h⟩ := h
  obtain ⟨u, rfl, rx⟩ := vals1 r
  cases rx
  rcases h with ⟨hq, q⟩ | ⟨hq, q⟩
  · obtain ⟨its, rv, pl, hz⟩ := I.list hq
    have hlen := rv.length
    refine call_tuple_list pl.isList (fun h2 kp => ?_) (by rw [List.size_toArray]; omega)
    exact q.laid (t' := s.toks) (I.kept (t' := s.toks) kp) rv hz
  · obtain ⟨its, _, pl, _⟩ := I.tuple hq
    exact call_tuple_same pl ⟨.ref p, H, I, rfl, q⟩
theorem opA_tuple {K : PySem.W.Frag} {W : XW} : OpA K W (fun xs H Q => ∃ p ys, xs = [.ref p] ∧ ((SqL K H p ys ∧ NewT H ys Q) ∨ (SqT K H p ys ∧ Q (.ref p) H))) fTuple := by
  intro ι st H xs ds Q R r p
  unfold fTuple at p
  split at p
  · rename_i d
    obtain ⟨x, rfl, r1⟩ := r.one
    split at p
    · rename_i zs e
      obtain ⟨q, us, rfl, h1, h2⟩ := viewS_atF R e r1
      rcases h1 with h1 | ⟨⟨o, h1, h3⟩, hfz⟩
      · exact ⟨q, us, rfl, .inl ⟨.of h1, fun a o ha ho hf => p.newTup R h2 ha ho hf⟩⟩
      · exact ⟨q, us, rfl, .inr ⟨.inl (.inr ⟨o, h1⟩), fun _ => p.same R (.tup h1 h3 hfz h2)⟩⟩
    · exact p.elim
  · exact p.elim
def fRepr : FA := fun ds st => match ds with
  | [d] => match viewP st d with
    | some z => if z.showable && !z.hasDict && decide (z.depth ≤ 60) && decide (z.shown.length ≤ lim) then .ok (.v (.str z.shown)) st else .stuck
    | none => .stuck
  | _ => .stuck
def rRepr (K : PySem.W.Frag) : List V → Hp → VK → Prop := fun xs H Q => ∃ x z, xs = [x] ∧ Dp K H x z ∧ z.showable = true ∧ z.hasDict = false ∧ z.depth ≤ 60 ∧ z.shown.length ≤ sizeLine ∧ Q (.str z.shown) H
theorem call_reprN {X : Cx} (g : Gd X) : CallR X (.builtin "repr") (rRepr X.K) := by
  intro pins s σ H xs us Q I r h
  obtain ⟨x, z, rfl, hd, h1, h2, h3, h4, q⟩ := h
  obtain ⟨u, rfl, ru⟩ := vals1 r
  obtain ⟨as, rd⟩ := Dp.reads I z x u hd ru
  cases z with
  | none =>
    cases rd
    exact PySem.P.repr_of_none ⟨.str _, H, I.tok _, ⟨_, rfl⟩, by simpa only [PyData.shown] using q⟩
  | bool b =>
    cases rd
    exact PySem.P.repr_of_bool ⟨.str _, H, I.tok _, ⟨_, rfl⟩, by simpa only [PyData.shown] using q⟩
  | int i =>
    cases rd
    exact PySem.P.repr_of_int (by simpa [PyData.showable] using h1) ⟨.str _, H, I.tok _, ⟨_, rfl⟩, by simpa only [PyData.shown] using q⟩
  | str y =>
    cases rd
    exact PySem.P.repr_of_str ⟨.str _, H, I.tok _, ⟨_, rfl⟩, by simpa only [PyData.shown] using q⟩ (by simpa only [PyData.shown] using h4)
  | list zs =>
    cases rd with
    | list e1 e2 e3 e4 =>
      refine repr_of_reads' (Reads.list e1 e2 e3 e4) h1 (PyData.noDict_hsm h2) g.gu (by have := g.un; omega) (fun _ _ e => e) (fun h' u tk hk => ⟨.str _, H, I.kept hk, ⟨_, rfl⟩, q⟩) h4
  | tuple zs =>
    cases rd with
    | tuple e1 e2 e3 e4 =>
      refine repr_of_reads' (Reads.tuple e1 e2 e3 e4) h1 (PyData.noDict_hsm h2) g.gu (by have := g.un; omega) (fun _ _ e => e) (fun h' u tk hk => ⟨.str _, H, I.kept hk, ⟨_, rfl⟩, q⟩) h4
  | dict zs => simp [PyData.hasDict] at h2
theorem opA_repr {K : PySem.W.Frag} {W : XW} : OpA K W (rRepr K) fRepr := by
  intro ι st H xs ds Q R r p
  unfold fRepr at p
  split at p
  · obtain ⟨x, rfl, r1⟩ := r.one
    split at p
    · rename_i z e
      split at p
      · rename_i h
        simp only [Bool.and_eq_true, Bool.not_eq_true', decide_eq_true_eq] at h
        exact ⟨x, z, rfl, viewP_at R e r1 h.1.1.2, h.1.1.1, h.1.1.2, h.1.2, lim_ok h.2, fun _ => p.same R (.str _)⟩
      · exact p.elim
    · exact p.elim
  · exact p.elim
abbrev MF := Ev → Sto → Out (List PyData)
def PF1 (K : PySem.W.Frag) (ι : Gh) (st : Sto) (H : Hp) (Q : VK) (zs : List PyData) (st' : Sto) : Prop :=
  ∀ ι' H' xs p, SRel K ι' st' H' → Ext ι st H ι' st' H' → RpA (Frz ι' st') H' xs zs → H' p = none → HF (upd H' p (.lst xs)) → Q (.ref p) (upd H' p (.lst xs))
def TFo (K : PySem.W.Frag) (W : XW) (m : MF) : TE := fun σ H Q => ∃ ι env st, SRel K ι st H ∧ EvR K ι st H σ env ∧ (m env st).post (PF1 K ι st H Q) (PX1 K W ι st H)
def mFrz (m : MF) : ME := fun env st => (m env st).bind fun zs s1 => .ok (.v (.list zs)) s1
def mNew (m : MF) : ME := fun env st => (m env st).bind fun zs s1 => .ok (.ref s1.length) (s1 ++ [.lst zs])
section
variable {X : Cx} {W : XW} {e : Expr}
theorem pf_wrap {t : TE} {m : MF} (h : PE X e t) (hi : ∀ σ H Q, TFo X.K W m σ H Q → t σ H (fun v H' => HF H' → Q v H')) : PE X e (TFo X.K W m) :=
  ⟨fun pins s σ H Q I q => thn (h.run pins s σ H _ I (hi σ H Q q)) fun _ _ ⟨v, H', I', r, q'⟩ => ⟨v, H', I', r, q' (hf_of I')⟩⟩
theorem x_frz {m : MF} (h : PE X e (TFo X.K W m)) : PE X e (TEo X.K W (mFrz m)) := pe_wrap h fun σ H Q q => by
  obtain ⟨ι, env, st, R, EV, p⟩ := q
  refine ⟨ι, env, st, R, EV, Out.post_mono (Out.post_bind p) (fun zs s1 q ι1 H1 xs a R1 E1 ra ha hf _ => ?_) fun _ _ q => q⟩
  exact q ι1 _ _ (R1.fresh ha hf) (E1.trans (Ext.fresh R1 ha)) (.lst upd_same (R1.frz_new ha) (ra.ext (Ext.fresh R1 ha)))
theorem x_new {m : MF} (h : PE X e (TFo X.K W m)) : PE X e (TEo X.K W (mNew m)) := pe_wrap h fun σ H Q q => by
  obtain ⟨ι, env, st, R, EV, p⟩ := q
  refine ⟨ι, env, st, R, EV, Out.post_mono (Out.post_bind p) (fun zs s1 q ι1 H1 xs a R1 E1 ra ha hf _ => ?_) fun _ _ q => q⟩
  have E2 : Ext ι1 s1 H1 (ι1.psh a) (s1 ++ [.lst zs]) (upd H1 a (.lst xs)) := Ext.push R1 ha
  refine q (ι1.psh a) _ _ (R1.push ha hf ⟨xs, upd_same, ra.ext E2⟩ rfl) (E1.trans E2) ⟨a, ?_, rfl⟩
  show (ι1.ad ++ [a])[s1.length]? = _
  rw [← R1.len, List.getElem?_append_right (Nat.le_refl _), Nat.sub_self]
  rfl
end
abbrev GA := List D → Sto → Out (List PyData)
def mfArg (f : GA) (ma : MA) : MF := fun env st => (ma env st).bind fun ds s1 => f ds s1
def mfBin (f : D → D → Sto → Out (List PyData)) (ma mb : ME) : MF := fun env st => (ma env st).bind fun a s1 => (mb env s1).bind fun b s2 => f a b s2
def NewL (H : Hp) (xs : List V) (Q : VK) : Prop := ∀ p, H p = none → Q (.ref p) (upd H p (.lst xs))
theorem PF1.new {K : PySem.W.Frag} {ι : Gh} {st : Sto} {H : Hp} {Q : VK} {zs : List PyData} (h : PF1 K ι st H Q zs st) (R : SRel K ι st H) {xs : List V} (r : RpA (Frz ι st) H xs zs) : NewL H xs (fun v H' => HF H' → Q v H') :=
  fun p hp hf => h ι H xs p R Ext.refl r hp hf
theorem PF1.ext {K : PySem.W.Frag} {ι ι' : Gh} {st st' s2 : Sto} {H H' : Hp} {Q : VK} {zs : List PyData} (h : PF1 K ι st H Q zs s2) (e : Ext ι st H ι' st' H') : PF1 K ι' st' H' Q zs s2 :=
  fun ι2 H2 xs p R E r => h ι2 H2 xs p R (e.trans E) r
def OpFA (K : PySem.W.Frag) (W : XW) (r : List V → Hp → VK → Prop) (f : GA) : Prop := ∀ (ι : Gh) (st : Sto) (H : Hp) (xs : List V) (ds : List D) (Q : VK), SRel K ι st H → RDs K ι st H xs ds →
  (f ds st).post (PF1 K ι st H Q) (PX1 K W ι st H) → r xs H (fun v H' => HF H' → Q v H')
def OpF2 (K : PySem.W.Frag) (W : XW) (r : R2) (f : D → D → Sto → Out (List PyData)) : Prop := ∀ (ι : Gh) (st : Sto) (H : Hp) (x y : V) (a b : D) (Q : VK), SRel K ι st H → RD K ι st H x a → RD K ι st H y b →
  (f a b st).post (PF1 K ι st H Q) (PX1 K W ι st H) → r x y H (fun v H' => HF H' → Q v H')
section
variable {K : PySem.W.Frag} {W : XW} {σ : L2.St} {H : Hp} {Q : VK} {ma mb : ME}
theorem tf_arg {r : List V → Hp → VK → Prop} {f : GA} {m : MA} (hf : OpFA K W r f) (h : TFo K W (mfArg f m) σ H Q) : TAo K W m σ H fun xs H1 => r xs H1 (fun v H' => HF H' → Q v H') := by
  obtain ⟨ι, env, st, R, EV, p⟩ := h
  refine ⟨ι, env, st, R, EV, Out.post_mono (Out.post_bind p) (fun a s1 q ι1 H1 x R1 E1 ra => ?_) fun _ _ q => q⟩
  exact hf ι1 s1 H1 x a Q R1 ra (Out.post_mono q (fun _ _ z => z.ext E1) fun _ _ z => z.ext E1)
theorem tf_bin {r : R2} {f : D → D → Sto → Out (List PyData)} (hf : OpF2 K W r f) (h : TFo K W (mfBin f ma mb) σ H Q) : tOp r (TEo K W ma) (TEo K W mb) σ H (fun v H' => HF H' → Q v H') := by
  obtain ⟨ι, env, st, R, EV, p⟩ := h
  refine ⟨ι, env, st, R, EV, Out.post_mono (Out.post_bind p) (fun a s1 q ι1 H1 x R1 E1 ra => ?_) fun _ _ q => q⟩
  refine ⟨ι1, env, s1, R1, EV.ext E1, Out.post_mono (Out.post_bind q) (fun b s2 q2 ι2 H2 y R2 E2 rb => ?_) fun _ _ z => z.ext E1⟩
  exact hf ι2 s2 H2 x y a b Q R2 (ra.ext E2) rb (Out.post_mono q2 (fun _ _ z => (z.ext E1).ext E2) fun _ _ z => (z.ext E1).ext E2)
end
def gDisp : GA := fun ds st => match valsOf ds with
  | some zs => if zs.length ≤ 1000 then .ok zs st else .stuck
  | none => .stuck
theorem opF_disp {K : PySem.W.Frag} {W : XW} : OpFA K W (fun xs H Q => xs.length ≤ sizeLine ∧ NewL H xs Q) gDisp := by
  intro ι st H xs ds Q R r p
  unfold gDisp at p
  split at p
  · rename_i zs e
    split at p
    · rename_i hl
      have ra := valsOf_at e r
      exact ⟨lim1000 (xs_len ra hl), p.new R ra⟩
    · exact p.elim
  · exact p.elim
def gList : GA := fun ds st => match ds with
  | [d] => match viewS st d with
    | some xs => .ok xs st
    | none => .stuck
  | _ => .stuck
theorem opF_list {K : PySem.W.Frag} {W : XW} : OpFA K W (fun xs H Q => ∃ p ys, xs = [.ref p] ∧ (SqL K H p ys ∨ SqT K H p ys) ∧ ∀ l, H l = none → Q (.ref l) (upd H l (.lst ys))) gList := by
  intro ι st H xs ds Q R r p
  unfold gList at p
  split at p
  · obtain ⟨x, rfl, r1⟩ := r.one
    split at p
    · rename_i zs e
      obtain ⟨q, us, rfl, h1, h2⟩ := viewS_at R e r1
      exact ⟨q, us, rfl, h1.imp .of KTup.sq, p.new R h2⟩
    · exact p.elim
  · exact p.elim
def insI (a : Int) : List Int → List Int
  | [] => [a]
  | b :: r => if a ≤ b then a :: b :: r else b :: insI a r
def sortI : List Int → List Int
  | [] => []
  | a :: r => insI a (sortI r)
theorem sorted_uniq : ∀ {l m : List Int}, l.Perm m → l.Pairwise (· ≤ ·) → m.Pairwise (· ≤ ·) → l = m
  | [], m, h, _, _ => (h.symm.eq_nil).symm ▸ rfl
  | a :: r, [], h, _, _ => by cases h.eq_nil
  | a :: r, b :: t, h, h1, h2 => by
    have ha : a ∈ b :: t := h.mem_iff.mp List.mem_cons_self
    have hb : b ∈ a :: r := h.mem_iff.mpr List.mem_cons_self
    have e : a = b := by
      rcases List.mem_cons.mp ha with e | ha
      · exact e
      · rcases List.mem_cons.mp hb with e | hb
        · exact e.symm
        · have q1 := (List.pairwise_cons.mp h1).1 b hb
          have q2 := (List.pairwise_cons.mp h2).1 a ha
          omega
    subst e
    rw [sorted_uniq (List.Perm.cons_inv h) (List.pairwise_cons.mp h1).2 (List.pairwise_cons.mp h2).2]
theorem rpA_ints {F : Addr → Prop} {H : Hp} : ∀ ns : List Int, RpA F H (ns.map V.int) (ns.map PyData.int)
  | [] => .nil
  | n :: r => .cons (.int n) (rpA_ints r)
def gCat : D → D → Sto → Out (List PyData) := fun a b st => match viewL st a, viewL st b with
  | some xs, some ys => if xs.length + ys.length ≤ lim then .ok (xs ++ ys) st else .stuck
  | _, _ => .stuck
theorem opF_cat {K : PySem.W.Frag} {W : XW} : OpF2 K W rCat gCat := by
  intro ι st H x y a b Q R ra rb p
  unfold gCat at p
  split at p
  · rename_i xs ys e1 e2
    split at p
    · rename_i hl
      obtain ⟨a1, us, rfl, h1, r1⟩ := viewL_at R e1 ra
      obtain ⟨b1, vs, rfl, h2, r2⟩ := viewL_at R e2 rb
      have hz : us.length + vs.length ≤ sizeLine := by rw [r1.length, r2.length]; exact lim_ok hl
      exact ⟨a1, b1, us, vs, rfl, rfl, h1, h2, hz, p.new R (r1.append r2)⟩
    · exact p.elim
  · exact p.elim
def gRep : D → D → Sto → Out (List PyData) := fun a b st => match viewL st a, iOf b with
  | some xs, some k => if -1000000 ≤ k ∧ k ≤ 1000000 ∧ xs.length * k.toNat ≤ lim then .ok (List.replicate k.toNat xs).flatten st else .stuck
  | _, _ => .stuck
theorem opF_rep {K : PySem.W.Frag} {W : XW} : OpF2 K W rRep gRep := by
  intro ι st H x y a b Q R ra rb p
  unfold gRep at p
  split at p
  · rename_i xs k e1 e2
    split at p
    · rename_i h
      obtain ⟨a1, us, rfl, h1, r1⟩ := viewL_at R e1 ra
      exact ⟨a1, k, us, rfl, iOf_at e2 rb, h1, by omega, by omega, by rw [r1.length]; exact lim_ok h.2.2, p.new R (r1.rep _)⟩
    · exact p.elim
  · exact p.elim
section
variable {X : Cx} {W : XW} {a b e : Expr} {es : List Expr} {ma mb : ME} {m : MA} {pos p : Pos}
theorem xf_disp (h : PA X es (TAo X.K W m)) : PE X (.List es pos) (TFo X.K W (mfArg gDisp m)) := pf_wrap (pe_lst h) fun σ H Q q => tf_arg opF_disp q
theorem xf_list {x : Str} (hg : Gl X x) (hm : X.mg x = none) (hv : bootBuiltins x = some (.type "list")) (ha : PA X (e :: es) (TAo X.K W m)) (hn : x ≠ "__name__" := by decide) (hdb : (x == ("__debug__" : Str)) = false := by decide)
    (he : starEach (e :: es) X.env = (false, eval e X.env) :: starEach es X.env := by rfl) (hpl : (backTo pos (starEach es X.env)).any (·.1) = false := by rfl) : PE X (.Call (.Name x p) (e :: es) [] pos) (TFo X.K W (mfArg gList m)) :=
  pf_wrap (pe_callTy call_list_of hg hm hv ha hn hdb he hpl) fun σ H Q q => tf_arg opF_list q
theorem xf_cat (ha : PE X a (TEo X.K W ma)) (hb : PE X b (TEo X.K W mb)) : PE X (.BinOp a .Add b pos) (TFo X.K W (mfBin gCat ma mb)) := pf_wrap (pe_op op_cat ha hb) fun σ H Q q => tf_bin opF_cat q
theorem xf_rep (ha : PE X a (TEo X.K W ma)) (hb : PE X b (TEo X.K W mb)) : PE X (.BinOp a .Mult b pos) (TFo X.K W (mfBin gRep ma mb)) := pf_wrap (pe_op op_rep ha hb) fun σ H Q q => tf_bin opF_rep q
end
end Fw
namespace Fw
open PySem PySem.Spec PyProof.Rows L2
abbrev MO := Ev → Sto → Out (Option Int)
def PO2 (K : PySem.W.Frag) (ι : Gh) (st : Sto) (H : Hp) (Q : Option Int → Hp → Prop) (b : Option Int) (st' : Sto) : Prop := ∀ ι' H', SRel K ι' st' H' → Ext ι st H ι' st' H' → Q b H'
theorem PO2.ext {K : PySem.W.Frag} {ι ι' : Gh} {st st' s2 : Sto} {H H' : Hp} {Q : Option Int → Hp → Prop} {b : Option Int} (h : PO2 K ι st H Q b s2) (e : Ext ι st H ι' st' H') : PO2 K ι' st' H' Q b s2 :=
  fun ι2 H2 R E => h ι2 H2 R (e.trans E)
def TOo (K : PySem.W.Frag) (W : XW) (m : MO) : TO := fun σ H Q => ∃ ι env st, SRel K ι st H ∧ EvR K ι st H σ env ∧ (m env st).post (PO2 K ι st H Q) (PX1 K W ι st H)
def moNone : MO := fun _ st => .ok none st
def moSome (m : ME) : MO := fun env st => (m env st).bind fun d s1 => match iOf d with
  | some i => .ok (some i) s1
  | none => .stuck
section
variable {X : Cx} {W : XW} {e : Expr}
theorem po_wrap {o : Option Expr} {t : TO} {m : MO} (h : PO X o t) (hi : ∀ σ H Q, TOo X.K W m σ H Q → t σ H (fun v H' => HF H' → Q v H')) : PO X o (TOo X.K W m) :=
  ⟨fun pins s σ H Q I q => thn (h.run pins s σ H _ I (hi σ H Q q)) fun _ _ ⟨v, H', I', r, q'⟩ => ⟨v, H', I', r, q' (hf_of I')⟩⟩
theorem xo_none : PO X none (TOo X.K W moNone) := po_wrap po_none fun σ H Q q => by
  obtain ⟨ι, env, st, R, EV, p⟩ := q
  exact fun _ => p ι H R Ext.refl
theorem xo_some {m : ME} (h : PE X e (TEo X.K W m)) : PO X (some e) (TOo X.K W (moSome m)) := po_wrap (po_some h) fun σ H Q q => by
  obtain ⟨ι, env, st, R, EV, p⟩ := q
  refine ⟨ι, env, st, R, EV, Out.post_mono (Out.post_bind p) (fun d s1 q ι1 H1 x R1 E1 ra => ?_) fun _ _ q => q⟩
  split at q
  · rename_i i e
    exact ⟨i, iOf_at e ra, fun _ => q ι1 H1 R1 E1⟩
  · exact q.elim
end
def cutP {α : Type} (xs : List α) (lo hi : Option Int) : List α := (xs.drop (HT.sIx xs.length 0 lo)).take (HT.sIx xs.length xs.length hi - HT.sIx xs.length 0 lo)
theorem RpA.cut {F : Addr → Prop} {H : Hp} {xs : List V} {ds : List PyData} (r : RpA F H xs ds) (lo hi : Option Int) : RpA F H (cutV xs lo hi) (cutP ds lo hi) := by
  unfold cutV cutP
  rw [r.length]
  exact (r.drop _).take _
def slD (a : D) (lo hi : Option Int) : Sto → Out D := fun st => match viewL st a with
  | some xs => .ok (.v (.list (cutP xs lo hi))) st
  | none => match tOf a with
    | some xs => .ok (.v (.tuple (cutP xs lo hi))) st
    | none => match sOf a with
      | some z => if z.length ≤ lim then .ok (.v (.str (cutS z lo hi))) st else .stuck
      | none => .stuck
def mSl (m : ME) (lo hi : MO) : ME := fun env st => (m env st).bind fun a s1 => (lo env s1).bind fun l s2 => (hi env s2).bind fun h s3 => slD a l h s3
def mfSl (m : ME) (lo hi : MO) : MF := fun env st => (m env st).bind fun a s1 => (lo env s1).bind fun l s2 => (hi env s2).bind fun h s3 => match viewL s3 a with
  | some xs => .ok (cutP xs l h) s3
  | none => .stuck
section
variable {X : Cx} {W : XW} {e : Expr} {m : ME} {lo hi : Option Expr} {ml mh : MO} {pos p2 : Pos}
theorem xf_slice (he : PE X e (TEo X.K W m)) (hl : PO X lo (TOo X.K W ml)) (hu : PO X hi (TOo X.K W mh)) : PE X (.Subscript e (.Slice lo hi none p2) pos) (TFo X.K W (mfSl m ml mh)) := by
  refine pf_wrap (pe_slice sl_list he hl hu) fun σ H Q q => ?_
  obtain ⟨ι, env, st, R, EV, p⟩ := q
  refine ⟨ι, env, st, R, EV, Out.post_mono (Out.post_bind p) (fun a s1 q ι1 H1 x R1 E1 ra => ?_) fun _ _ q => q⟩
  refine ⟨ι1, env, s1, R1, EV.ext E1, Out.post_mono (Out.post_bind q) (fun l s2 q2 ι2 H2 R2 E2 => ?_) fun _ _ z => z.ext E1⟩
  refine ⟨ι2, env, s2, R2, (EV.ext E1).ext E2, Out.post_mono (Out.post_bind q2) (fun u s3 q3 ι3 H3 R3 E3 => ?_) fun _ _ z => (z.ext E1).ext E2⟩
  have ra3 := (ra.ext E2).ext E3
  split at q3
  · rename_i xs e1
    obtain ⟨b, us, rfl, h1, h2⟩ := viewL_at R3 e1 ra3
    exact ⟨b, us, rfl, .of h1, (((q3.ext E1).ext E2).ext E3).new R3 (h2.cut l u)⟩
  · exact q3.elim
def mfRev (m : ME) : MF := fun env st => (m env st).bind fun a s1 => match viewL s1 a with
  | some xs => .ok xs.reverse s1
  | none => .stuck
theorem xf_rev {k : Nat} {p1 p2 p3 : Pos} (he : PE X e (TEo X.K W m)) : PE X (.Subscript e (.Slice none none (some (.UnaryOp .USub (.Constant (.int 1) k p1) p2)) p3) pos) (TFo X.K W (mfRev m)) := by
  refine pf_wrap (pe_revL he) fun σ H Q q => ?_
  obtain ⟨ι, env, st, R, EV, p⟩ := q
  refine ⟨ι, env, st, R, EV, Out.post_mono (Out.post_bind p) (fun a s1 q ι1 H1 x R1 E1 ra => ?_) fun _ _ q => q⟩
  split at q
  · rename_i xs e1
    obtain ⟨b, us, rfl, h1, h2⟩ := viewL_at R1 e1 ra
    exact ⟨b, us, rfl, .of h1, (q.ext E1).new R1 h2.reverse⟩
  · exact q.elim
end
def frzO : O → Option PyData
  | .lst zs => some (.list zs)
  | .dct false kvs => (valsOf (kvs.map (·.2))).map fun vs => .dict ((kvs.map (·.1)).zip vs)
  | _ => none
def frz1 : F1 := fun d st => match d with
  | .ref n => match st[n]? with
    | some o => match frzO o with
      | some z => .ok (.v z) (st.set n .dead)
      | none => .stuck
    | none => .stuck
  | d => .ok d st
abbrev FM := D → List D → Sto → Out D
def isL (st : Sto) (d : D) : Bool := (viewL st d).isSome
def mM0 (f : FM) (mo : ME) : ME := fun env st => (mo env st).bind fun o s1 => if isL s1 o then f o [] s1 else .stuck
def mM (f : FM) (mo : ME) (ma : MA) : ME := fun env st => (mo env st).bind fun o s1 => if isL s1 o then (ma env s1).bind fun ds s2 => f o ds s2 else .stuck
def OpM (K : PySem.W.Frag) (W : XW) (r : V → List V → Hp → VK → Prop) (f : FM) : Prop := ∀ (ι : Gh) (st : Sto) (H : Hp) (x : V) (xs : List V) (o : D) (ds : List D) (Q : VK), SRel K ι st H → RD K ι st H x o → RDs K ι st H xs ds →
  (f o ds st).post (PO1 K ι st H Q) (PX1 K W ι st H) → r x xs H (fun v H' => HF H' → Q v H')
section
variable {X : Cx} {W : XW} {o e : Expr} {es : List Expr} {mo : ME} {ma : MA} {name : Str} {apos cpos : Pos} {id : String} {r : V → List V → Hp → VK → Prop} {f : FM}
theorem isL_ty {K : PySem.W.Frag} {ι : Gh} {st : Sto} {H : Hp} (R : SRel K ι st H) {d : D} {x : V} (h : isL st d = true) (r : RD K ι st H x d) : tyV K "list" x H := by
  obtain ⟨ds, e⟩ := Option.isSome_iff_exists.mp h
  obtain ⟨a, xs, rfl, h1, _⟩ := viewL_at R e r
  exact .inl ⟨rfl, xs, .of h1⟩
theorem x_m0 (pa : PlainAttrs "list") (slot : Slot "list" name id) (hty : typeOf (.builtin id) = pure (.type "method_descriptor")) (hm : MtR X id r) (hf : OpM X.K W r f) (ho : PE X o (TEo X.K W mo))
    (hbase : attributeBase o name X.env (eval o X.env) = eval o X.env := by rfl) (hline : (apos.endLine == cpos.line) = true := by rfl) : PE X (.Call (.Attribute o name apos) [] [] cpos) (TEo X.K W (mM0 f mo)) :=
  pe_wrap (pe_bm0 pa slot hty hm ho hbase hline) fun σ H Q q => by
    obtain ⟨ι, env, st, R, EV, p⟩ := q
    refine ⟨ι, env, st, R, EV, Out.post_mono (Out.post_bind p) (fun a s1 q ι1 H1 x R1 E1 ra => ?_) fun _ _ q => q⟩
    split at q
    · rename_i h
      exact ⟨isL_ty R1 h ra, hf ι1 s1 H1 x [] a [] Q R1 ra .nil (Out.post_mono q (fun _ _ z => z.ext E1) fun _ _ z => z.ext E1)⟩
    · exact q.elim
theorem x_m (pa : PlainAttrs "list") (slot : Slot "list" name id) (hty : typeOf (.builtin id) = pure (.type "method_descriptor")) (hm : MtR X id r) (hf : OpM X.K W r f) (ho : PE X o (TEo X.K W mo)) (ha : PA X (e :: es) (TAo X.K W ma))
    (hbase : attributeBase o name X.env (eval o X.env) = eval o X.env := by rfl)
    (hfew : ((backTo cpos (starEach (e :: es) X.env)).all (fun x => !x.1) && (backToKw cpos (keywordEach [] X.env)).all (fun x => x.1.isSome)
      && decide ((e :: es).length + ([] : List Keyword).length + (if ([] : List Keyword).isEmpty then 0 else 1) < 30)) = true := by rfl)
    (hline : (apos.endLine == cpos.line) = true := by rfl) (hs : starEach (e :: es) X.env = (false, eval e X.env) :: starEach es X.env := by rfl) (hplain : (backTo cpos (starEach es X.env)).any (·.1) = false := by rfl) :
    PE X (.Call (.Attribute o name apos) (e :: es) [] cpos) (TEo X.K W (mM f mo ma)) :=
  pe_wrap (pe_bm pa slot hty hm ho ha hbase hfew hline hs hplain) fun σ H Q q => by
    obtain ⟨ι, env, st, R, EV, p⟩ := q
    refine ⟨ι, env, st, R, EV, Out.post_mono (Out.post_bind p) (fun a s1 q ι1 H1 x R1 E1 ra => ?_) fun _ _ q => q⟩
    split at q
    · rename_i h
      refine ⟨isL_ty R1 h ra, ι1, env, s1, R1, EV.ext E1, Out.post_mono (Out.post_bind q) (fun ds s2 q2 ι2 H2 xs R2 E2 rb => ?_) fun _ _ z => z.ext E1⟩
      exact hf ι2 s2 H2 x xs a ds Q R2 (ra.ext E2) rb (Out.post_mono q2 (fun _ _ z => (z.ext E1).ext E2) fun _ _ z => (z.ext E1).ext E2)
    · exact q.elim
end
def lAt (st : Sto) : D → Option (Nat × List PyData)
  | .ref n => match st[n]? with
    | some (.lst zs) => some (n, zs)
    | _ => none
  | _ => none
theorem lAt_at {K : PySem.W.Frag} {ι : Gh} {st : Sto} {H : Hp} (R : SRel K ι st H) {x : V} {d : D} {n : Nat} {ds : List PyData} (e : lAt st d = some (n, ds)) (r : RD K ι st H x d) :
    ∃ a xs, x = .ref a ∧ H a = some (.lst xs) ∧ RpA (Frz ι st) H xs ds ∧ st[n]? = some (.lst ds) ∧ ι.ad[n]? = some a := by
  cases d with
  | ref k =>
    obtain ⟨a, h1, h2⟩ := r
    cases q : st[k]? with
    | none => simp only [lAt, q] at e; cases e
    | some o =>
      cases o with
      | lst zs =>
        simp only [lAt, q, Option.some.injEq, Prod.mk.injEq] at e
        obtain ⟨rfl, rfl⟩ := e
        obtain ⟨xs, e1, r⟩ := R.obj k _ a q h1
        exact ⟨a, xs, h2, e1, r, q, h1⟩
      | _ => simp only [lAt, q] at e; cases e
  | _ => cases e
theorem PO1.wrote {K : PySem.W.Frag} {ι : Gh} {st : Sto} {H : Hp} {Q : VK} {d : D} {n : Nat} {ds es : List PyData} {a : Addr} {ys : List V} {v : V} (p : PO1 K ι st H Q d (st.set n (.lst es))) (R : SRel K ι st H) (h1 : st[n]? = some (.lst ds)) (h2 : ι.ad[n]? = some a)
    (r : RpA (Frz ι st) H ys es) (hv : ∀ ι' st' H', Ext ι st H ι' st' H' → RD K ι' st' H' v d) (hf : HF (upd H a (.lst ys))) : Q v (upd H a (.lst ys)) := by
  have E : Ext ι st H ι (st.set n (.lst es)) (upd H a (.lst ys)) := Ext.write R h1 h2 (fun z => nomatch z) (fun _ _ z => nomatch z)
  exact p ι _ v (R.write h1 h2 (fun z => nomatch z) (fun _ _ z => nomatch z) hf ⟨ys, upd_same, r.ext E⟩ rfl) E (hv _ _ _ E)
def fmAppend : FM := fun o ds st => match lAt st o, ds with
  | some (n, zs), [.v d] => if zs.length < lim then .ok (.v .none) (st.set n (.lst (zs ++ [d]))) else .stuck
  | _, _ => .stuck
theorem opM_append {K : PySem.W.Frag} {W : XW} : OpM K W rAppend fmAppend := by
  intro ι st H x xs o ds Q R ro rd p
  unfold fmAppend at p
  split at p
  · rename_i n zs d e
    split at p
    · rename_i hl
      obtain ⟨a, us, rfl, h1, h2, h3, h4⟩ := lAt_at R e ro
      obtain ⟨y, rfl, ry⟩ := rd.one
      refine ⟨a, us, y, rfl, rfl, h1, by rw [h2.length]; exact Nat.lt_of_lt_of_le hl (lim_ok (Nat.le_refl _)), fun hf => ?_⟩
      exact p.wrote R h3 h4 (h2.append (.cons ry .nil)) (fun _ _ _ _ => .non) hf
    · exact p.elim
  · exact p.elim
def fmPop : FM := fun o ds st => match lAt st o, ds with
  | some (n, zs), [] => match zs[zs.length - 1]? with
    | some d => .ok (.v d) (st.set n (.lst zs.dropLast))
    | none => .stuck
  | _, _ => .stuck
theorem opM_pop {K : PySem.W.Frag} {W : XW} : OpM K W rPop fmPop := by
  intro ι st H x xs o ds Q R ro rd p
  unfold fmPop at p
  split at p
  · rename_i n zs e
    split at p
    · rename_i d ed
      obtain ⟨a, us, rfl, h1, h2, h3, h4⟩ := lAt_at R e ro
      cases rd
      obtain ⟨y, h5, h6⟩ := h2.get ed
      refine ⟨a, us, y, rfl, rfl, h1, by rw [h2.length]; exact h5, fun hf => ?_⟩
      exact p.wrote R h3 h4 h2.dropLast (fun _ _ _ E => h6.ext E) hf
    · exact p.elim
  · exact p.elim
def fmPopAt : FM := fun o ds st => match lAt st o, ds with
  | some (n, zs), [.v (.int i)] => if -1000000 ≤ i ∧ i ≤ 1000000 then match seqIndex? i zs.length with
      | some k => match zs[k]? with
        | some d => .ok (.v d) (st.set n (.lst (zs.eraseIdx k)))
        | none => .stuck
      | none => .stuck
    else .stuck
  | _, _ => .stuck
theorem opM_popAt {K : PySem.W.Frag} {W : XW} : OpM K W rPopAt fmPopAt := by
  intro ι st H x xs o ds Q R ro rd p
  unfold fmPopAt at p
  split at p
  · rename_i n zs i e
    split at p
    · rename_i hb
      split at p
      · rename_i k ek
        split at p
        · rename_i d ed
          obtain ⟨a, us, rfl, h1, h2, h3, h4⟩ := lAt_at R e ro
          obtain ⟨y, rfl, ry⟩ := rd.one
          have ey := iOf_at (d := .v (.int i)) rfl ry
          subst ey
          obtain ⟨y, h5, h6⟩ := h2.get ed
          refine ⟨a, us, i, k, y, rfl, rfl, h1, by omega, by omega, by rw [h2.length]; exact ek, h5, fun hf => ?_⟩
          exact p.wrote R h3 h4 (h2.erase k) (fun _ _ _ E => h6.ext E) hf
        · exact p.elim
      · exact p.elim
    · exact p.elim
  · exact p.elim
def idxP (y : PyData) : List PyData → Option Nat
  | [] => none
  | z :: r => if PyData.eqv z y then some 0 else (idxP y r).map (· + 1)
def fmIndex : FM := fun o ds st => match viewS st o, ds with
  | some zs, [.v d] => if flatP d && zs.all flatP then match idxP d zs with
      | some k => .ok (.v (.int (k : Nat))) st
      | none => .stuck
    else .stuck
  | _, _ => .stuck
theorem idxP_at {F : Addr → Prop} {H : Hp} {y : V} {d : PyData} (ry : Rp F H y d) (hd : flatP d = true) : ∀ {xs : List V} {ds : List PyData} {k : Nat}, RpA F H xs ds → ds.all flatP = true → idxP d ds = some k →
    ∃ z, xs[k]? = some z ∧ eqV z y = true ∧ ∀ (m : Nat) (z' : V), m < k → xs[m]? = some z' → eqV z' y = false
  | _, _, _, .nil, _, h => by cases h
  | _, _, k, .cons (x := x) (d := d') r t, hf, h => by
    rw [List.all_cons, Bool.and_eq_true] at hf
    unfold idxP at h
    split at h
    · rename_i e
      cases h
      exact ⟨x, rfl, by rw [eqV_of r ry hf.1 hd]; exact e, fun m _ hm => absurd hm (Nat.not_lt_zero _)⟩
    · rename_i e
      obtain ⟨j, h1, rfl⟩ := Option.map_eq_some_iff.mp h
      obtain ⟨z, h2, h3, h4⟩ := idxP_at ry hd t hf.2 h1
      refine ⟨z, by simpa using h2, h3, fun m z' hm hz => ?_⟩
      cases m with
      | zero =>
        have : x = z' := by simpa using hz
        subst this
        rw [eqV_of r ry hf.1 hd]
        simpa using e
      | succ m => exact h4 m z' (by omega) (by simpa using hz)
theorem viewS_L {st : Sto} {o : D} {zs ws : List PyData} (e : viewS st o = some zs) (ew : viewL st o = some ws) : zs = ws := by
  have : viewS st o = viewL st o := by
    cases o with
    | v w =>
      cases w with
      | tuple _ => cases ew
      | _ => rfl
    | _ => rfl
  rw [this, ew] at e
  exact (Option.some.inj e).symm
theorem opM_index {K : PySem.W.Frag} {W : XW} : OpM K W (rIndex K) (fun o ds st => if isL st o then fmIndex o ds st else .stuck) := by
  intro ι st H x xs o ds Q R ro rd p
  replace p : (if isL st o then fmIndex o ds st else .stuck).post (PO1 K ι st H Q) (PX1 K W ι st H) := p
  split at p
  · rename_i hL
    unfold fmIndex at p
    split at p
    · rename_i zs d e
      split at p
      · rename_i hf
        rw [Bool.and_eq_true] at hf
        split at p
        · rename_i k ek
          obtain ⟨ws, ew⟩ := Option.isSome_iff_exists.mp hL
          obtain ⟨a, us, rfl, h1, h2⟩ := viewL_at R ew ro
          have eq := viewS_L e ew
          subst eq
          obtain ⟨y, rfl, ry⟩ := rd.one
          obtain ⟨z, h3, h4, h5⟩ := idxP_at ry hf.1 h2 hf.2 ek
          exact ⟨a, us, y, k, z, rfl, rfl, .of h1, flat_of ry hf.1, flatAll_of h2 hf.2, h3, h4, h5, fun _ => p.same R (.int _)⟩
        · exact p.elim
      · exact p.elim
    · exact p.elim
  · exact p.elim
def rIndexT (H0 : Hp → Prop) (K : PySem.W.Frag) : V → List V → Hp → VK → Prop := fun x xs H Q => ∃ (a : Addr) (ys : List V) (y : V) (j : Nat) (z : V), x = V.ref a ∧ xs = [y] ∧ SqT K H a ys ∧ flatV y = true ∧ ys.all flatV = true ∧ ys[j]? = some z ∧ eqV z y = true ∧
  (∀ (m : Nat) (z' : V), m < j → ys[m]? = some z' → eqV z' y = false) ∧ Q (.int (j : Nat)) H
theorem mt_indexT {X : Cx} : MtR X "tuple.index" (rIndexT (fun _ => True) X.K) := by
  intro pins s σ H x xs v us Q I rx rxs h
  obtain ⟨a, ys, y, j, z, rfl, rfl, hl, fy, fys, hz, hzj, hno, q⟩ := h
  cases rx
  obtain ⟨uy, rfl, ry⟩ := vals1 rxs
  obtain ⟨its, rv, pl, hlen⟩ := I.tuple hl
  obtain ⟨⟨cls, dd, data, sls⟩, ho, hc, n, hdt⟩ := pl
  simp only at hc hdt
  subst hc hdt
  have hvl := rv.length
  obtain ⟨hjd, _⟩ := List.getElem?_eq_some_iff.mp hz
  have hj : j < its.toArray.size := by
    rw [List.size_toArray]
    omega
  have at_ : ∀ (m : Nat) (hm : m < its.toArray.size) (w : V), ys[m]? = some w → eqU y its.toArray[m] = eqV w y := fun m hm w hw => by
    obtain ⟨u, h1, h2⟩ := rv.get hw
    have e : its.toArray[m] = u := by
      have h3 := (List.getElem?_eq_some_iff.mp h1).2
      simpa using h3
    rw [e]
    exact eqU_of h2 (flat_at fys hw)
  refine call_meets PySem.F.slot_tuple_index ⟨_, ho, rfl⟩ PySem.F.entry_tuple_index (PySem.F.args_tuple_index_2 _ _)
    (TI.tuple_indexAt a its.toArray n dd sls uy (eqU y) j hj ?_ ?_) ⟨ho, fun w hw => mem_eqAt ry fy rv fys w (by simpa using hw), ⟨.int (j : Nat), H, I.tok _, ⟨_, rfl⟩, q⟩⟩
  · rw [at_ j hj z hz]
    exact hzj
  · intro m hm hmj
    have hmd : m < ys.length := by
      rw [List.size_toArray] at hm
      omega
    rw [at_ m hm _ (List.getElem?_eq_getElem hmd)]
    exact hno m _ hmj (List.getElem?_eq_getElem hmd)
def isT (d : D) : Bool := (tOf d).isSome
def mMT (f : FM) (mo : ME) (ma : MA) : ME := fun env st => (mo env st).bind fun o s1 => if isT o then (ma env s1).bind fun ds s2 => f o ds s2 else .stuck
theorem opM_indexT {K : PySem.W.Frag} {W : XW} : OpM K W (rIndexT (fun _ => True) K) (fun o ds st => if isT o then fmIndex o ds st else .stuck) := by
  intro ι st H x xs o ds Q R ro rd p
  replace p : (if isT o then fmIndex o ds st else .stuck).post (PO1 K ι st H Q) (PX1 K W ι st H) := p
  split at p
  · rename_i hL
    unfold fmIndex at p
    split at p
    · rename_i zs d e
      split at p
      · rename_i hf
        rw [Bool.and_eq_true] at hf
        split at p
        · rename_i k ek
          obtain ⟨ws, ew⟩ := Option.isSome_iff_exists.mp hL
          obtain ⟨a, us, rfl, h1, h2⟩ := tOf_at ew ro
          have eq : zs = ws := by
            rw [tOf_eq ew] at e
            exact (Option.some.inj e).symm
          subst eq
          obtain ⟨y, rfl, ry⟩ := rd.one
          obtain ⟨z, h3, h4, h5⟩ := idxP_at ry hf.1 h2 hf.2 ek
          exact ⟨a, us, y, k, z, rfl, rfl, h1.sq, flat_of ry hf.1, flatAll_of h2 hf.2, h3, h4, h5, fun _ => p.same R (.int _)⟩
        · exact p.elim
      · exact p.elim
    · exact p.elim
  · exact p.elim
section
variable {X : Cx} {W : XW} {o e : Expr} {es : List Expr} {mo : ME} {ma : MA} {to : TE} {t : TA} {name : Str} {apos cpos : Pos} {id : String} {r : V → List V → Hp → VK → Prop} {f : FM}
theorem pe_bmT (pa : PlainAttrs "tuple") (slot : Slot "tuple" name id) (hty : typeOf (.builtin id) = pure (.type "method_descriptor")) (hm : MtR X id r) (ho : PE X o to) (ha : PA X (e :: es) t)
    (hbase : attributeBase o name X.env (eval o X.env) = eval o X.env)
    (hfew : ((backTo cpos (starEach (e :: es) X.env)).all (fun x => !x.1) && (backToKw cpos (keywordEach [] X.env)).all (fun x => x.1.isSome)
      && decide ((e :: es).length + ([] : List Keyword).length + (if ([] : List Keyword).isEmpty then 0 else 1) < 30)) = true)
    (hline : (apos.endLine == cpos.line) = true) (hs : starEach (e :: es) X.env = (false, eval e X.env) :: starEach es X.env) (hplain : (backTo cpos (starEach es X.env)).any (·.1) = false) :
    PE X (.Call (.Attribute o name apos) (e :: es) [] cpos) (fun σ H Q => to σ H fun x H1 => (∃ a xs, x = .ref a ∧ KTup H1 a xs) ∧ t σ H1 fun xs H2 => r x xs H2 Q) := by
  refine ⟨fun pins s σ H Q I h => ?_⟩
  refine wpAny_Call_method_late hbase hfew hline rfl (thn (ho.run pins s σ H _ I h) fun v s1 hv => ?_)
  obtain ⟨x, H1, I1, r1, ⟨a, xs, rfl, o1, ha1, hd1⟩, q1⟩ := hv
  cases r1
  obtain ⟨hob, hto⟩ := I1.hok a _ ha1
  obtain ⟨_, _, _, ob2, hob2, hcl, _⟩ := hto
  rw [hob] at hob2
  cases hob2
  refine ⟨"tuple", id, pa, slot, hty, ⟨o1, hob, hcl⟩, fun b hb => ?_, ?_⟩
  · cases hb
    exact ⟨o1, hob, hd1⟩
  · have hA := ha.run cpos pins s1 σ H1 _ I1 q1
    rw [hs] at hA ⊢
    refine Calls.callWith_builtin ?_ (Calls.evalArgs_plain ?_)
    · show (false || (backTo cpos (starEach es X.env)).any (·.1)) = false
      rw [hplain]
      rfl
    · exact thn hA fun us s2 ⟨vs, H2, I2, r2, q2⟩ => hm pins s2 σ H2 (.ref a) vs (.ref a) us Q I2 rfl r2 q2
theorem x_mT (pa : PlainAttrs "tuple") (slot : Slot "tuple" name id) (hty : typeOf (.builtin id) = pure (.type "method_descriptor")) (hm : MtR X id r) (hf : OpM X.K W r f) (ho : PE X o (TEo X.K W mo)) (ha : PA X (e :: es) (TAo X.K W ma))
    (hbase : attributeBase o name X.env (eval o X.env) = eval o X.env := by rfl)
    (hfew : ((backTo cpos (starEach (e :: es) X.env)).all (fun x => !x.1) && (backToKw cpos (keywordEach [] X.env)).all (fun x => x.1.isSome)
      && decide ((e :: es).length + ([] : List Keyword).length + (if ([] : List Keyword).isEmpty then 0 else 1) < 30)) = true := by rfl)
    (hline : (apos.endLine == cpos.line) = true := by rfl) (hs : starEach (e :: es) X.env = (false, eval e X.env) :: starEach es X.env := by rfl) (hplain : (backTo cpos (starEach es X.env)).any (·.1) = false := by rfl) :
    PE X (.Call (.Attribute o name apos) (e :: es) [] cpos) (TEo X.K W (mMT f mo ma)) :=
  pe_wrap (pe_bmT pa slot hty hm ho ha hbase hfew hline hs hplain) fun σ H Q q => by
    obtain ⟨ι, env, st, R, EV, p⟩ := q
    refine ⟨ι, env, st, R, EV, Out.post_mono (Out.post_bind p) (fun a s1 q ι1 H1 x R1 E1 ra => ?_) fun _ _ q => q⟩
    split at q
    · rename_i h
      obtain ⟨ws, ew⟩ := Option.isSome_iff_exists.mp h
      obtain ⟨b, us, rfl, h1, h2⟩ := tOf_at ew ra
      refine ⟨⟨b, us, rfl, h1⟩, ι1, env, s1, R1, EV.ext E1, Out.post_mono (Out.post_bind q) (fun ds s2 q2 ι2 H2 xs R2 E2 rb => ?_) fun _ _ z => z.ext E1⟩
      exact hf ι2 s2 H2 _ xs a ds Q R2 (ra.ext E2) rb (Out.post_mono q2 (fun _ _ z => (z.ext E1).ext E2) fun _ _ z => (z.ext E1).ext E2)
    · exact q.elim
theorem fmIndex_L {o : D} {ds : List D} {st : Sto} (h : isT o = false) : (if isL st o then fmIndex o ds st else .stuck) = fmIndex o ds st := by
  by_cases hl : isL st o = true
  · rw [if_pos hl]
  · rw [if_neg hl]
    have e : viewS st o = none := by
      have e1 : viewL st o = none := by
        cases q : viewL st o with
        | none => rfl
        | some z =>
          unfold isL at hl
          rw [q] at hl
          exact absurd rfl hl
      cases o with
      | v w =>
        cases w with
        | tuple _ => cases h
        | _ => exact e1
      | _ => exact e1
    unfold fmIndex
    rw [e]
def mIndex (mo : ME) (ma : MA) : ME := fun env st => (mo env st).bind fun o s1 => if isL s1 o || isT o then (ma env s1).bind fun ds s2 => fmIndex o ds s2 else .stuck
theorem x_index (ho : PE X o (TEo X.K W mo)) (ha : PA X (e :: es) (TAo X.K W ma))
    (hbase : attributeBase o "index" X.env (eval o X.env) = eval o X.env := by rfl)
    (hfew : ((backTo cpos (starEach (e :: es) X.env)).all (fun x => !x.1) && (backToKw cpos (keywordEach [] X.env)).all (fun x => x.1.isSome)
      && decide ((e :: es).length + ([] : List Keyword).length + (if ([] : List Keyword).isEmpty then 0 else 1) < 30)) = true := by rfl)
    (hline : (apos.endLine == cpos.line) = true := by rfl) (hs : starEach (e :: es) X.env = (false, eval e X.env) :: starEach es X.env := by rfl) (hplain : (backTo cpos (starEach es X.env)).any (·.1) = false := by rfl) :
    PE X (.Call (.Attribute o "index" apos) (e :: es) [] cpos) (TEo X.K W (mIndex mo ma)) := by
  have hL := x_m (X := X) (W := W) PySem.F.plainAttrs_list PySem.F.slot_list_index PySem.F.type_list_index mt_index opM_index ho ha hbase hfew hline hs hplain
  have hT := x_mT (X := X) (W := W) PySem.F.plainAttrs_tuple PySem.F.slot_tuple_index PySem.F.type_tuple_index mt_indexT opM_indexT ho ha hbase hfew hline hs hplain
  refine pe_wrap (pe_or hL hT) fun σ H Q q => ?_
  obtain ⟨ι, env, st, R, EV, p⟩ := q
  have lift : ∀ {m : ME}, (m env st).post (PO1 X.K ι st H Q) (PX1 X.K W ι st H) → TEo X.K W m σ H (fun v H' => HF H' → Q v H') := fun z =>
    ⟨ι, env, st, R, EV, Out.post_mono z (fun _ _ w ι' H' x R' E' r _ => w ι' H' x R' E' r) fun _ _ w => w⟩
  have p2 := Out.post_bind p
  cases e1 : mo env st with
  | stuck => rw [e1] at p2; exact p2.elim
  | exn x s1 =>
    refine .inl (lift ?_)
    show (mM _ mo ma env st).post _ _
    unfold mM
    unfold mIndex at p
    rw [e1] at p ⊢
    exact p
  | ok o1 s1 =>
    unfold mIndex at p
    rw [e1, bind_ok] at p
    split at p
    · rename_i hc
      by_cases hl : isT o1 = true
      · refine .inr (lift ?_)
        show (mMT _ mo ma env st).post _ _
        unfold mMT
        rw [e1, bind_ok, if_pos hl]
        simp only [hl, if_true]
        exact p
      · have hf : isT o1 = false := by simpa using hl
        refine .inl (lift ?_)
        show (mM _ mo ma env st).post _ _
        unfold mM
        have h2 : isL s1 o1 = true := by simpa [hf] using hc
        rw [e1, bind_ok, if_pos h2]
        simp only [fmIndex_L hf]
        exact p
    · exact p.elim
end
end Fw
namespace Fw
open PySem PySem.Spec PyProof.Rows L2
def mTB (m : ME) : MT := fun env st => (m env st).bind fun d s1 => match bOf d with
  | some k => .ok k s1
  | none => .stuck
theorem emp_of {F : Addr → Prop} {H : Hp} {xs : List V} {ds : List PyData} (r : RpA F H xs ds) : xs.isEmpty = ds.isEmpty := by cases r <;> rfl
theorem RK.emp {K : PySem.W.Frag} {ι : Gh} {st : Sto} {H : Hp} {kvs : List (PyData × D)} {xs : List (Key × V)} (r : RK K ι st H kvs xs) : xs.isEmpty = kvs.isEmpty := by cases r <;> rfl
theorem RK.len {K : PySem.W.Frag} {ι : Gh} {st : Sto} {H : Hp} {kvs : List (PyData × D)} {xs : List (Key × V)} (r : RK K ι st H kvs xs) : xs.length = kvs.length := (Paired.length r).symm
def kAt (st : Sto) (d : D) : Option (List (PyData × D)) := match d with
  | .ref n => match st[n]? with
    | some (.dct false kvs) => some kvs
    | _ => none
  | _ => none
theorem kAt_at {K : PySem.W.Frag} {ι : Gh} {st : Sto} {H : Hp} (R : SRel K ι st H) {x : V} {d : D} {kvs : List (PyData × D)} (e : kAt st d = some kvs) (r : RD K ι st H x d) :
    ∃ n a xs, d = .ref n ∧ x = .ref a ∧ st[n]? = some (.dct false kvs) ∧ ι.ad[n]? = some a ∧ H a = some (.dK xs) ∧ RK K ι st H kvs xs := by
  cases d with
  | ref k =>
    obtain ⟨a, h1, h2⟩ := r
    cases q : st[k]? with
    | none => simp only [kAt, q] at e; cases e
    | some o =>
      cases o with
      | dct t zs =>
        cases t with
        | false =>
          simp only [kAt, q, Option.some.injEq] at e
          subst e
          obtain ⟨xs, e1, r⟩ := R.obj k _ a q h1
          exact ⟨k, a, xs, rfl, h2, q, h1, e1, r⟩
        | true => simp only [kAt, q] at e; cases e
      | _ => simp only [kAt, q] at e; cases e
  | _ => cases e
def truS' (st : Sto) (d : D) : Option Bool := match viewS st d with
  | some xs => some (!xs.isEmpty)
  | none => match d with
    | .v .none => some false
    | .v (.bool b) => some b
    | .v (.int i) => some (i != 0)
    | .v (.str z) => if z.length ≤ lim then some ((z.length : Int) != 0) else none
    | d => (kAt st d).map fun kvs => !kvs.isEmpty
def mTru' (m : ME) : MT := fun env st => (m env st).bind fun d s1 => match truS' s1 d with
  | some k => .ok k s1
  | none => .stuck
theorem truS_at {K : PySem.W.Frag} {ι : Gh} {st : Sto} {H : Hp} (R : SRel K ι st H) {d : D} {x : V} {k : Bool} (e : truS' st d = some k) (r : RD K ι st H x d) : TruV K x H k := by
  unfold truS' at e
  split at e
  · rename_i xs e1
    obtain ⟨a, us, rfl, h1, h2⟩ := viewS_at R e1 r
    rw [← Option.some.inj e, ← emp_of h2]
    rcases h1 with h1 | h1
    · exact .inl ⟨us, .of h1, rfl⟩
    · exact .inr (.inl ⟨us, h1.sq, rfl⟩)
  · split at e
    · have r' : Rp (Frz ι st) H x .none := r
      cases r'
      exact (Option.some.inj e).symm
    · rename_i b _
      have r' : Rp (Frz ι st) H x (.bool b) := r
      cases r'
      exact (Option.some.inj e).symm
    · rename_i i _
      have r' : Rp (Frz ι st) H x (.int i) := r
      cases r'
      exact (Option.some.inj e).symm
    · rename_i z _
      have r' : Rp (Frz ι st) H x (.str z) := r
      cases r'
      split at e
      · rename_i hl
        exact ⟨lim_ok hl, (Option.some.inj e).symm⟩
      · cases e
    · obtain ⟨kvs, e1, rfl⟩ := Option.map_eq_some_iff.mp e
      obtain ⟨n, a, xs, _, rfl, _, _, h1, h2⟩ := kAt_at R e1 r
      exact .inr (.inr ⟨xs, h1, by rw [h2.emp]⟩)
section
variable {X : Cx} {W : XW} {a b c e : Expr} {es rest : List Expr} {m ma mb mc : ME} {pos : Pos}
theorem tt_tb {σ : L2.St} {H : Hp} {Q : Bool → Hp → Prop} (q : TTo X.K W (mTB m) σ H Q) : TEo X.K W m σ H (fun x H1 => ∃ c, x = .bl c ∧ Q c H1) := by
  obtain ⟨ι, env, st, R, EV, p⟩ := q
  refine ⟨ι, env, st, R, EV, Out.post_mono (Out.post_bind p) (fun d s1 q ι1 H1 x R1 E1 ra => ?_) fun _ _ q => q⟩
  split at q
  · rename_i k e
    exact ⟨k, bOf_at e ra, q ι1 H1 R1 E1⟩
  · exact q.elim
theorem x_c {op : CmpOp} (h : PC X op a b (TEo X.K W m)) (h1 : behindInMarks op b = false := by first | exact nobehind _ (by decide) (by decide) | rfl) : PE X (.Compare a [op] [b] pos) (TEo X.K W m) := pe_cmp h h1
theorem t_c {op : CmpOp} (h : PC X op a b (TEo X.K W m)) (h1 : behindInMarks op b = false := by first | exact nobehind _ (by decide) (by decide) | rfl) : PT X (.Compare a [op] [b] pos) (TTo X.K W (mTB m)) :=
  ⟨fun pins s σ H Q I q => (pt_cmp h h1).run pins s σ H Q I (tt_tb q)⟩
theorem t_v (h : PE X e (TEo X.K W m)) (he : ∀ whole, isTrue e X.env whole = (do let v ← whole; standAt e.pos; holding [v] (truthy v)) := by intro _; rfl) : PT X e (TTo X.K W (mTru' m)) :=
  pt_wrap (pt_truth h he) fun σ H Q q => by
    obtain ⟨ι, env, st, R, EV, p⟩ := q
    refine ⟨ι, env, st, R, EV, Out.post_mono (Out.post_bind p) (fun d s1 q ι1 H1 x R1 E1 ra => ?_) fun _ _ q => q⟩
    split at q
    · rename_i k e
      exact ⟨k, truS_at R1 e ra, fun _ => q ι1 H1 R1 E1⟩
    · exact q.elim
def mNotT (m : MT) : MT := fun env st => (m env st).bind fun k s1 => .ok (!k) s1
def mAndT (m n : MT) : MT := fun env st => (m env st).bind fun k s1 => if k then n env s1 else .ok false s1
def mOrT (m n : MT) : MT := fun env st => (m env st).bind fun k s1 => if k then .ok true s1 else n env s1
variable {t u : MT}
theorem t_not (h : PT X a (TTo X.K W t)) : PT X (.UnaryOp .Not a pos) (TTo X.K W (mNotT t)) := pt_wrap (pt_not h) fun σ H Q q => by
  obtain ⟨ι, env, st, R, EV, p⟩ := q
  exact ⟨ι, env, st, R, EV, Out.post_mono (Out.post_bind p) (fun k s1 q ι1 H1 R1 E1 _ => q ι1 H1 R1 E1) fun _ _ q => q⟩
theorem t_and1 (h : PT X a (TTo X.K W t)) : PW X (.BoolOp .And [a] pos) (TTo X.K W t) := pw_and1 h
theorem t_or1 (h : PT X a (TTo X.K W t)) : PW X (.BoolOp .Or [a] pos) (TTo X.K W t) := pw_or1 h
theorem t_and (h : PT X a (TTo X.K W t)) (h2 : PW X (.BoolOp .And (b :: rest) pos) (TTo X.K W u)) : PW X (.BoolOp .And (a :: b :: rest) pos) (TTo X.K W (mAndT t u)) :=
  pw_wrap (pw_and h h2) fun σ H Q q => by
    obtain ⟨ι, env, st, R, EV, p⟩ := q
    refine ⟨ι, env, st, R, EV, Out.post_mono (Out.post_bind p) (fun k s1 q ι1 H1 R1 E1 => ?_) fun _ _ q => q⟩
    cases k with
    | true =>
      rw [if_pos rfl]
      exact ⟨ι1, env, s1, R1, EV.ext E1, Out.post_mono q (fun _ _ z ι' H' R' E' _ => z.ext E1 ι' H' R' E') fun _ _ z => z.ext E1⟩
    | false =>
      rw [if_neg Bool.false_ne_true]
      exact fun _ => q ι1 H1 R1 E1
theorem t_or (h : PT X a (TTo X.K W t)) (h2 : PW X (.BoolOp .Or (b :: rest) pos) (TTo X.K W u)) : PW X (.BoolOp .Or (a :: b :: rest) pos) (TTo X.K W (mOrT t u)) :=
  pw_wrap (pw_or h h2) fun σ H Q q => by
    obtain ⟨ι, env, st, R, EV, p⟩ := q
    refine ⟨ι, env, st, R, EV, Out.post_mono (Out.post_bind p) (fun k s1 q ι1 H1 R1 E1 => ?_) fun _ _ q => q⟩
    cases k with
    | false =>
      rw [if_neg Bool.false_ne_true]
      exact ⟨ι1, env, s1, R1, EV.ext E1, Out.post_mono q (fun _ _ z ι' H' R' E' _ => z.ext E1 ι' H' R' E') fun _ _ z => z.ext E1⟩
    | true =>
      rw [if_pos rfl]
      exact fun _ => q ι1 H1 R1 E1
def mAndV (ma mb : ME) : ME := fun env st => (ma env st).bind fun d s1 => match truS' s1 d with
  | some true => mb env s1
  | some false => .ok d s1
  | none => .stuck
def mOrV (ma mb : ME) : ME := fun env st => (ma env st).bind fun d s1 => match truS' s1 d with
  | some false => mb env s1
  | some true => .ok d s1
  | none => .stuck
def mNotV (ma : ME) : ME := fun env st => (ma env st).bind fun d s1 => match truS' s1 d with
  | some k => .ok (.v (.bool (!k))) s1
  | none => .stuck
theorem x_one {op} (h : PE X a (TEo X.K W m)) : PE X (.BoolOp op [a] pos) (TEo X.K W m) := pe_one h
theorem x_and (ha : PE X a (TEo X.K W ma)) (hb : PE X (.BoolOp .And (b :: rest) pos) (TEo X.K W mb)) : PE X (.BoolOp .And (a :: b :: rest) pos) (TEo X.K W (mAndV ma mb)) :=
  pe_wrap (pe_andT ha hb) fun σ H Q q => by
    obtain ⟨ι, env, st, R, EV, p⟩ := q
    refine ⟨ι, env, st, R, EV, Out.post_mono (Out.post_bind p) (fun d s1 q ι1 H1 x R1 E1 ra => ?_) fun _ _ q => q⟩
    split at q
    · rename_i e
      refine ⟨true, truS_at R1 e ra, ?_⟩
      rw [if_pos rfl]
      exact ⟨ι1, env, s1, R1, EV.ext E1, Out.post_mono q (fun _ _ z ι' H' x' R' E' r' _ => z.ext E1 ι' H' x' R' E' r') fun _ _ z => z.ext E1⟩
    · rename_i e
      refine ⟨false, truS_at R1 e ra, ?_⟩
      rw [if_neg Bool.false_ne_true]
      exact fun _ => q ι1 H1 x R1 E1 ra
    · exact q.elim
theorem x_or (ha : PE X a (TEo X.K W ma)) (hb : PE X (.BoolOp .Or (b :: rest) pos) (TEo X.K W mb)) : PE X (.BoolOp .Or (a :: b :: rest) pos) (TEo X.K W (mOrV ma mb)) :=
  pe_wrap (pe_orT ha hb) fun σ H Q q => by
    obtain ⟨ι, env, st, R, EV, p⟩ := q
    refine ⟨ι, env, st, R, EV, Out.post_mono (Out.post_bind p) (fun d s1 q ι1 H1 x R1 E1 ra => ?_) fun _ _ q => q⟩
    split at q
    · rename_i e
      refine ⟨false, truS_at R1 e ra, ?_⟩
      rw [if_neg Bool.false_ne_true]
      exact ⟨ι1, env, s1, R1, EV.ext E1, Out.post_mono q (fun _ _ z ι' H' x' R' E' r' _ => z.ext E1 ι' H' x' R' E' r') fun _ _ z => z.ext E1⟩
    · rename_i e
      refine ⟨true, truS_at R1 e ra, ?_⟩
      rw [if_pos rfl]
      exact fun _ => q ι1 H1 x R1 E1 ra
    · exact q.elim
theorem x_not (ha : PE X a (TEo X.K W ma)) : PE X (.UnaryOp .Not a pos) (TEo X.K W (mNotV ma)) :=
  pe_wrap (pe_notT ha) fun σ H Q q => by
    obtain ⟨ι, env, st, R, EV, p⟩ := q
    refine ⟨ι, env, st, R, EV, Out.post_mono (Out.post_bind p) (fun d s1 q ι1 H1 x R1 E1 ra => ?_) fun _ _ q => q⟩
    split at q
    · rename_i k e
      exact ⟨k, truS_at R1 e ra, fun _ => q ι1 H1 _ R1 E1 (.bl _)⟩
    · exact q.elim
def mIte (t : MT) (ma mb : ME) : ME := fun env st => (t env st).bind fun k s1 => if k then ma env s1 else mb env s1
theorem x_ite (hc : PT X c (TTo X.K W t)) (ha : PE X a (TEo X.K W ma)) (hb : PE X b (TEo X.K W mb)) : PE X (.IfExp c a b pos) (TEo X.K W (mIte t ma mb)) :=
  pe_wrap (pe_ifExp hc ha hb) fun σ H Q q => by
    obtain ⟨ι, env, st, R, EV, p⟩ := q
    refine ⟨ι, env, st, R, EV, Out.post_mono (Out.post_bind p) (fun k s1 q ι1 H1 R1 E1 => ?_) fun _ _ q => q⟩
    have q' : ∀ {mm : ME}, (mm env s1).post (PO1 X.K ι st H Q) (PX1 X.K W ι st H) → TEo X.K W mm σ H1 (fun v H' => HF H' → Q v H') := fun z =>
      ⟨ι1, env, s1, R1, EV.ext E1, Out.post_mono z (fun _ _ z ι' H' x' R' E' r' _ => z.ext E1 ι' H' x' R' E' r') fun _ _ z => z.ext E1⟩
    cases k with
    | true => exact iteT (q' q)
    | false => exact iteF (q' q)
end
end Fw
namespace Fw
open PySem PySem.Spec PyProof.Rows L2
inductive SO where
  | nx (env : Ev) (st : Sto)
  | rt (d : D) (st : Sto)
  | bk (env : Ev) (st : Sto)
  | ct (env : Ev) (st : Sto)
  | exn (e : Exn) (st : Sto)
  | stuck
abbrev MS := Ev → Sto → SO
def SO.post (K : PySem.W.Frag) (W : XW) (ι : Gh) (st : Sto) (H : Hp) (D : Ends) : SO → Prop
  | .nx env s1 => ∀ ι' H' σ', SRel K ι' s1 H' → Ext ι st H ι' s1 H' → EvR K ι' s1 H' σ' env → D.nx σ' H'
  | .rt d s1 => ∀ ι' H' x, SRel K ι' s1 H' → Ext ι st H ι' s1 H' → RD K ι' s1 H' x d → D.rt x H'
  | .bk env s1 => ∀ ι' H' σ', SRel K ι' s1 H' → Ext ι st H ι' s1 H' → EvR K ι' s1 H' σ' env → D.bk σ' H'
  | .ct env s1 => ∀ ι' H' σ', SRel K ι' s1 H' → Ext ι st H ι' s1 H' → EvR K ι' s1 H' σ' env → D.ct σ' H'
  | .exn e s1 => PX1 K W ι st H e s1
  | .stuck => False
def TSo (K : PySem.W.Frag) (W : XW) (m : MS) : TS := fun D σ H => ∃ ι env st, SRel K ι st H ∧ EvR K ι st H σ env ∧ (m env st).post K W ι st H D
def Out.thn {α : Type} (x : Out α) (f : α → Sto → SO) : SO := match x with
  | .ok a st => f a st
  | .exn e st => .exn e st
  | .stuck => .stuck
@[simp] theorem thn_ok {α : Type} (a : α) (st : Sto) (f : α → Sto → SO) : (Out.ok a st).thn f = f a st := rfl
def SO.seq (x : SO) (f : MS) : SO := match x with
  | .nx env st => f env st
  | o => o
section
variable {K : PySem.W.Frag} {W : XW} {ι ι' : Gh} {st st' : Sto} {H H' : Hp}
theorem SO.post_ext {D : Ends} (E : Ext ι st H ι' st' H') : ∀ {o : SO}, o.post K W ι st H D → o.post K W ι' st' H' D
  | .nx _ _, h => fun i1 h1 s1 R1 E1 r => h i1 h1 s1 R1 (E.trans E1) r
  | .rt _ _, h => fun i1 h1 s1 R1 E1 r => h i1 h1 s1 R1 (E.trans E1) r
  | .bk _ _, h => fun i1 h1 s1 R1 E1 r => h i1 h1 s1 R1 (E.trans E1) r
  | .ct _ _, h => fun i1 h1 s1 R1 E1 r => h i1 h1 s1 R1 (E.trans E1) r
  | .exn _ _, h => PX1.ext h E
  | .stuck, h => h
theorem SO.post_mono {D D' : Ends} (h1 : ∀ σ H, D.nx σ H → D'.nx σ H) (h2 : ∀ x H, D.rt x H → D'.rt x H) (h3 : ∀ σ H, D.bk σ H → D'.bk σ H) (h4 : ∀ σ H, D.ct σ H → D'.ct σ H) : ∀ {o : SO}, o.post K W ι st H D → o.post K W ι st H D'
  | .nx _ _, h => fun i1 g s1 R1 E1 r => h1 _ _ (h i1 g s1 R1 E1 r)
  | .rt _ _, h => fun i1 g s1 R1 E1 r => h2 _ _ (h i1 g s1 R1 E1 r)
  | .bk _ _, h => fun i1 g s1 R1 E1 r => h3 _ _ (h i1 g s1 R1 E1 r)
  | .ct _ _, h => fun i1 g s1 R1 E1 r => h4 _ _ (h i1 g s1 R1 E1 r)
  | .exn _ _, h => h
  | .stuck, h => h
theorem thn_post {α : Type} {x : Out α} {f : α → Sto → SO} {D : Ends} (h : (x.thn f).post K W ι st H D) : x.post (fun a s1 => (f a s1).post K W ι st H D) (PX1 K W ι st H) := by
  cases x <;> exact h
end
def hfE (D : Ends) : Ends := ⟨fun σ H => HF H → D.nx σ H, fun v H => HF H → D.rt v H, fun σ H => HF H → D.bk σ H, fun σ H => HF H → D.ct σ H⟩
theorem hf_SP {X : Cx} {pins : List (Addr × Obj)} {D : Ends} {f : Flow} {s' : Shared} (h : SP X pins (hfE D) f s') : SP X pins D f s' := by
  cases f with
  | next => obtain ⟨σ', H', I, q⟩ := h; exact ⟨σ', H', I, q (hf_of I)⟩
  | brk => obtain ⟨σ', H', I, q⟩ := h; exact ⟨σ', H', I, q (hf_of I)⟩
  | cont => obtain ⟨σ', H', I, q⟩ := h; exact ⟨σ', H', I, q (hf_of I)⟩
  | ret u => obtain ⟨v, σ', H', I, r, q⟩ := h; exact ⟨v, σ', H', I, r, q (hf_of I)⟩
theorem post_hf {K : PySem.W.Frag} {W : XW} {ι : Gh} {st : Sto} {H : Hp} {D : Ends} {o : SO} (h : o.post K W ι st H D) : o.post K W ι st H (hfE D) :=
  SO.post_mono (fun _ _ q _ => q) (fun _ _ q _ => q) (fun _ _ q _ => q) (fun _ _ q _ => q) h
section
variable {X : Cx} {W : XW} {s : Stmt} {ss rest : List Stmt} {e c : Expr} {m : ME} {t : MT} {a b : MS} {pos : Pos}
theorem ps_wrap {tt : TS} {m : MS} (h : PS X s tt) (hi : ∀ D σ H, TSo X.K W m D σ H → tt (hfE D) σ H) : PS X s (TSo X.K W m) :=
  ⟨fun pins s σ H D I q => thn (h.run pins s σ H _ I (hi D σ H q)) fun _ _ z => hf_SP z⟩
theorem pss_wrap {tt : TS} {m : MS} (h : PSs X ss tt) (hi : ∀ D σ H, TSo X.K W m D σ H → tt (hfE D) σ H) : PSs X ss (TSo X.K W m) :=
  ⟨fun pins s σ H D I q => thn (h.run pins s σ H _ I (hi D σ H q)) fun _ _ z => hf_SP z⟩
def sNil : MS := fun env st => .nx env st
def sSeq (a b : MS) : MS := fun env st => (a env st).seq b
theorem ss_nil : PSs X [] (TSo X.K W sNil) := pss_wrap pss_nil fun D σ H q => by
  obtain ⟨ι, env, st, R, EV, p⟩ := q
  exact fun _ => p ι H σ R Ext.refl EV
theorem ss_one (h : PS X s (TSo X.K W a)) : PSs X [s] (TSo X.K W a) := pss_one h
theorem ss_cons (h : PS X s (TSo X.K W a)) (h2 : PSs X rest (TSo X.K W b)) : PSs X (s :: rest) (TSo X.K W (sSeq a b)) := by
  refine ⟨fun pins sh σ H D I q => (pss_cons h h2).run pins sh σ H D I ?_⟩
  obtain ⟨ι, env, st, R, EV, p⟩ := q
  refine ⟨ι, env, st, R, EV, ?_⟩
  unfold sSeq at p
  cases e : a env st with
  | nx env1 s1 =>
    rw [e] at p
    exact fun ι1 H1 σ1 R1 E1 EV1 => ⟨ι1, env1, s1, R1, EV1, SO.post_ext E1 p⟩
  | rt d s1 => rw [e] at p; exact p
  | bk e1 s1 => rw [e] at p; exact p
  | ct e1 s1 => rw [e] at p; exact p
  | exn e1 s1 => rw [e] at p; exact p
  | stuck => rw [e] at p; exact p
def sRet (m : ME) : MS := fun env st => (m env st).thn fun d s1 => .rt d s1
def sRetN : MS := fun _ st => .rt (.v .none) st
def sExp (m : ME) : MS := fun env st => (m env st).thn fun _ s1 => .nx env s1
def sIf (t : MT) (a b : MS) : MS := fun env st => (t env st).thn fun k s1 => if k then a env s1 else b env s1
theorem s_ret (h : PE X e (TEo X.K W m)) : PS X (.Return (some e) pos) (TSo X.K W (sRet m)) := ps_wrap (ps_ret h) fun D σ H q => by
  obtain ⟨ι, env, st, R, EV, p⟩ := q
  exact ⟨ι, env, st, R, EV, Out.post_mono (thn_post p) (fun d s1 q ι1 H1 x R1 E1 ra _ => q ι1 H1 x R1 E1 ra) fun _ _ q => q⟩
theorem s_expr (h : PE X e (TEo X.K W m)) (hs : swapsWith e none pos.line X.env = pure false := by rfl) : PS X (.Expr e pos) (TSo X.K W (sExp m)) := ps_wrap (ps_expr h hs) fun D σ H q => by
  obtain ⟨ι, env, st, R, EV, p⟩ := q
  exact ⟨ι, env, st, R, EV, Out.post_mono (thn_post p) (fun d s1 q ι1 H1 x R1 E1 ra _ => q ι1 H1 σ R1 E1 (EV.ext E1)) fun _ _ q => q⟩
theorem s_if {p q : List Stmt} (hc : PT X c (TTo X.K W t)) (ha : PSs X p (TSo X.K W a)) (hb : PSs X q (TSo X.K W b)) : PS X (.If c p q pos) (TSo X.K W (sIf t a b)) := ps_wrap (ps_if hc ha hb) fun D σ H q => by
  obtain ⟨ι, env, st, R, EV, p⟩ := q
  refine ⟨ι, env, st, R, EV, Out.post_mono (thn_post p) (fun k s1 q ι1 H1 R1 E1 => ?_) fun _ _ q => q⟩
  cases k with
  | true => exact iteT ⟨ι1, env, s1, R1, EV.ext E1, post_hf (SO.post_ext E1 q)⟩
  | false => exact iteF ⟨ι1, env, s1, R1, EV.ext E1, post_hf (SO.post_ext E1 q)⟩
end
inductive Itm where
  | one (d : D)
  | many (ds : List D)
def RI (K : PySem.W.Frag) (ι : Gh) (st : Sto) (H : Hp) (x : V) : Itm → Prop
  | .one d => RD K ι st H x d
  | .many ds => ∃ a xs, x = .ref a ∧ Rd H a (.tup xs) ∧ Frz ι st a ∧ RDs K ι st H xs ds
theorem RI.ext {K : PySem.W.Frag} {ι ι' : Gh} {st st' : Sto} {H H' : Hp} (E : Ext ι st H ι' st' H') {x : V} : ∀ {d : Itm}, RI K ι st H x d → RI K ι' st' H' x d
  | .one _, h => RD.ext E h
  | .many _, ⟨a, xs, h1, h2, h3, h4⟩ => by
    rcases h2 with h2 | ⟨o, h2⟩
    · obtain ⟨f, k⟩ := E.keep _ _ h2 h3
      exact ⟨a, xs, h1, .inl k, f, RDs.ext E h4⟩
    · obtain ⟨f, k⟩ := E.keep _ _ h2 h3
      exact ⟨a, xs, h1, .inr ⟨o, k⟩, f, RDs.ext E h4⟩
abbrev MG := Itm → Ev → Sto → Out Ev
abbrev MGs := List D → Ev → Sto → Out Ev
def Wp (vs : Option (List Nat)) (σ σ' : L2.St) : Prop := match vs with
  | none => True
  | some vs => L2.wipe σ' vs = L2.wipe σ vs
theorem Wp.refl {vs : Option (List Nat)} {σ : L2.St} : Wp vs σ σ := by cases vs <;> trivial
theorem Wp.trans {vs : Option (List Nat)} {σ σ' σ2 : L2.St} (a : Wp vs σ σ') (b : Wp vs σ' σ2) : Wp vs σ σ2 := by
  cases vs with
  | none => trivial
  | some vs => exact Eq.trans b a
theorem wipe_set {i : Nat} {v : V} : ∀ {vs : List Nat} {σ : L2.St}, i ∈ vs → L2.wipe (σ.set i (some v)) vs = L2.wipe σ vs
  | j :: vs, σ, h => by
    unfold L2.wipe
    by_cases e : i ∈ vs
    · rw [wipe_set e]
    · have hj : i = j := by
        rcases List.mem_cons.mp h with h | h
        · exact h
        · exact absurd h e
      subst hj
      have key : ∀ (ws : List Nat), i ∉ ws → L2.wipe (σ.set i (some v)) ws = (L2.wipe σ ws).set i (some v) := by
        intro ws
        induction ws with
        | nil => intro _; rfl
        | cons k ws ih =>
          intro hk
          rw [List.mem_cons, not_or] at hk
          unfold L2.wipe
          rw [ih hk.2, List.set_comm _ _ hk.1]
      rw [key vs e, List.set_set]
theorem Wp.set {vs : Option (List Nat)} {i : Nat} (h : ∀ ws, vs = some ws → i ∈ ws) {σ : L2.St} {v : V} : Wp vs σ (σ.set i (some v)) := by
  cases vs with
  | none => trivial
  | some ws => exact wipe_set (h ws rfl)
def PG1 (K : PySem.W.Frag) (vs : Option (List Nat)) (σ : L2.St) (ι : Gh) (st : Sto) (H : Hp) (Q : L2.St → Hp → Prop) (env : Ev) (st' : Sto) : Prop := ∀ ι' H' σ', SRel K ι' st' H' → Ext ι st H ι' st' H' → EvR K ι' st' H' σ' env → Wp vs σ σ' → Q σ' H'
theorem PG1.ext {K : PySem.W.Frag} {vs : Option (List Nat)} {σ σ1 : L2.St} {ι ι' : Gh} {st st' s2 : Sto} {H H' : Hp} {Q : L2.St → Hp → Prop} {env : Ev} (h : PG1 K vs σ ι st H Q env s2) (e : Ext ι st H ι' st' H') (w : Wp vs σ σ1) : PG1 K vs σ1 ι' st' H' Q env s2 :=
  fun i g σ R E r z => h i g σ R (e.trans E) r (w.trans z)
def TGo (K : PySem.W.Frag) (W : XW) (m : MG) (vs : Option (List Nat) := none) : TG := fun x σ H Q => ∃ ι env st d, SRel K ι st H ∧ EvR K ι st H σ env ∧ RI K ι st H x d ∧ (m d env st).post (PG1 K vs σ ι st H Q) (PX1 K W ι st H)
def TGso (K : PySem.W.Frag) (W : XW) (m : MGs) (vs : Option (List Nat) := none) : TGs := fun xs σ H Q => ∃ ι env st ds, SRel K ι st H ∧ EvR K ι st H σ env ∧ RDs K ι st H xs ds ∧ (m ds env st).post (PG1 K vs σ ι st H Q) (PX1 K W ι st H)
def gNm (i : Nat) : MG := fun x env st => match x with
  | .one d => .ok (env.set i (some d)) st
  | .many _ => .stuck
def gNone : MGs := fun ds env st => match ds with
  | [] => .ok env st
  | _ => .stuck
def gMore (g : MG) (r : MGs) : MGs := fun ds env st => match ds with
  | d :: t => (g (.one d) env st).bind fun e1 s1 => r t e1 s1
  | _ => .stuck
def gTp (n : Nat) (gs : MGs) : MG := fun x env st => match x with
  | .many ds => if ds.length = n then gs ds env st else .stuck
  | .one d => match tOf d with
    | some zs => if zs.length = n then gs (zs.map .v) env st else .stuck
    | none => .stuck
section
variable {X : Cx} {W : XW} {tg e : Expr} {ts : List Expr} {g : MG} {gs : MGs} {pos : Pos} {vs : Option (List Nat)}
theorem pg_wrap {t : TG} (h : PG X tg t) (hi : ∀ x σ H Q, TGo X.K W g vs x σ H Q → t x σ H (fun σ' H' => HF H' → Q σ' H')) : PG X tg (TGo X.K W g vs) :=
  ⟨fun pins s σ H v u Q I r q => thn (h.run pins s σ H v u _ I r (hi v σ H Q q)) fun _ _ ⟨σ', H', I', q'⟩ => ⟨σ', H', I', q' (hf_of I')⟩⟩
theorem pgs_wrap {t : TGs} (h : PGs X ts t) (hi : ∀ x σ H Q, TGso X.K W gs vs x σ H Q → t x σ H (fun σ' H' => HF H' → Q σ' H')) : PGs X ts (TGso X.K W gs vs) :=
  ⟨fun pins s σ H v u Q I r q => thn (h.run pins s σ H v u _ I r (hi v σ H Q q)) fun _ _ ⟨σ', H', I', q'⟩ => ⟨σ', H', I', q' (hf_of I')⟩⟩
theorem g_name (i : Nat) {x : Str} (h : PG X (.Name x pos) (gName i)) (hv : ∀ ws, vs = some ws → i ∈ ws := by first | exact fun _ z => nomatch z | (intro ws z; cases z; decide)) : PG X (.Name x pos) (TGo X.K W (gNm i) vs) := pg_wrap h fun x σ H Q q => by
  obtain ⟨ι, env, st, d, R, EV, r, p⟩ := q
  cases d with
  | one d => exact fun _ => p ι H _ R Ext.refl (EV.set r i) (Wp.set hv)
  | many _ => exact p.elim
theorem gs_nil : PGs X [] (TGso X.K W gNone vs) := pgs_wrap pgs_nil fun xs σ H Q q => by
  obtain ⟨ι, env, st, ds, R, EV, r, p⟩ := q
  cases r with
  | nil => exact ⟨rfl, fun _ => p ι H σ R Ext.refl EV Wp.refl⟩
  | cons _ _ => exact p.elim
theorem gs_cons (h : PG X e (TGo X.K W g vs)) (h2 : PGs X ts (TGso X.K W gs vs)) (hs : (assignEach (e :: ts) X.env).map (·.2) = assign e X.env :: (assignEach ts X.env).map (·.2) := by rfl) : PGs X (e :: ts) (TGso X.K W (gMore g gs) vs) :=
  pgs_wrap (pgs_cons h h2 hs) fun xs σ H Q q => by
    obtain ⟨ι, env, st, ds, R, EV, r, p⟩ := q
    cases r with
    | nil => exact p.elim
    | cons h1 t =>
      rename_i _ d _ ds
      refine ⟨_, _, rfl, ι, env, st, .one d, R, EV, h1, Out.post_mono (Out.post_bind p) (fun e1 s1 q ι1 H1 σ1 R1 E1 EV1 w1 => ?_) fun _ _ q => q⟩
      exact ⟨ι1, e1, s1, ds, R1, EV1, RDs.ext E1 t, Out.post_mono q (fun _ _ z i g σ' R' E' r' w' _ => z.ext E1 w1 i g σ' R' E' r' w') fun _ _ z => z.ext E1⟩
theorem rds_vals {K : PySem.W.Frag} {ι : Gh} {st : Sto} {H : Hp} : ∀ {xs : List V} {zs : List PyData}, RpA (Frz ι st) H xs zs → RDs K ι st H xs (zs.map .v)
  | _, _, .nil => .nil
  | _, _, .cons h t => .cons h (rds_vals t)
theorem g_tup {k n : Nat} (hc : X.calm = true) (h : PGs X ts (TGso X.K W gs vs)) (hst : PG X (.Tuple ts k pos) (gTup X.K n (TGso X.K W gs vs))) : PG X (.Tuple ts k pos) (TGo X.K W (gTp n gs) vs) := pg_wrap hst fun x σ H Q q => by
  obtain ⟨ι, env, st, d, R, EV, r, p⟩ := q
  have up : ∀ {ds : List D} {xs : List V}, RDs X.K ι st H xs ds → (gs ds env st).post (PG1 X.K vs σ ι st H Q) (PX1 X.K W ι st H) → TGso X.K W gs vs xs σ H (fun σ' H' => HF H' → Q σ' H') := fun r q =>
    ⟨ι, env, st, _, R, EV, r, Out.post_mono q (fun _ _ z i g σ' R' E' r' w' _ => z i g σ' R' E' r' w') fun _ _ z => z⟩
  cases d with
  | many ds =>
    obtain ⟨a, xs, rfl, h1, h2, h3⟩ := r
    replace p : (if ds.length = n then gs ds env st else .stuck).post (PG1 X.K vs σ ι st H Q) (PX1 X.K W ι st H) := p
    split at p
    · rename_i hl
      exact ⟨a, xs, rfl, .inl h1, by rw [h3.length]; exact hl, up h3 p⟩
    · exact p.elim
  | one d =>
    unfold gTp at p
    simp only at p
    split at p
    · rename_i zs e
      split at p
      · rename_i hl
        obtain ⟨a, xs, rfl, h1, h2⟩ := tOf_at e r
        exact ⟨a, xs, rfl, h1.sq, by rw [h2.length]; exact hl, up (rds_vals h2) p⟩
      · exact p.elim
    · exact p.elim
end
theorem hf_upd {H : Hp} (h : HF H) {p : Addr} {u : HO} (hu : szOk u) : HF (upd H p u) := fun a v e => by
  by_cases ha : a = p
  · subst ha
    rw [upd_same] at e
    cases e
    exact hu
  · rw [upd_ne ha] at e
    exact h a v e
theorem hf_tup {H : Hp} (h : HF H) {p : Addr} {xs : List V} (hl : xs.length ≤ sizeLine) : HF (upd H p (.tup xs)) := hf_upd h hl
theorem hf_lst {H : Hp} (h : HF H) {p : Addr} {xs : List V} (hl : xs.length ≤ sizeLine) : HF (upd H p (.lst xs)) := hf_upd h hl
def sAsg (m : ME) (g : MG) : MS := fun env st => (m env st).thn fun d s1 => (g (.one d) env s1).thn fun e1 s2 => .nx e1 s2
def sAsgT (n : Nat) (m : MA) (gs : MGs) : MS := fun env st => (m env st).thn fun ds s1 => if ds.length = n ∧ n ≤ 1000 then (gs ds env s1).thn fun e1 s2 => .nx e1 s2 else .stuck
def sPar2 (i j : Nat) (m : MA) : MS := fun env st => (m env st).thn fun ds s1 => match ds with
  | [a, b] => .nx ((env.set i (some a)).set j (some b)) s1
  | _ => .stuck
def sPar3 (i j l : Nat) (m : MA) : MS := fun env st => (m env st).thn fun ds s1 => match ds with
  | [a, b, c] => .nx (((env.set i (some a)).set j (some b)).set l (some c)) s1
  | _ => .stuck
def putD (kvs : List (PyData × D)) (k : PyData) (d : D) : List (PyData × D) :=
  if (kvs.any fun p => keq false p.1 k) = true then kvs.map (fun p => if keq false p.1 k then (p.1, d) else p) else kvs ++ [(k, d)]
def setU (o i d : D) (st : Sto) : Out Unit := match lAt st o, i, d with
  | some (n, zs), .v (.int k), .v z => match ixN zs.length k with
    | some j => .ok () (st.set n (.lst (zs.set j z)))
    | none => .stuck
  | some _, _, _ => .stuck
  | none, .v kd, d => match o, kAt st o, key1 kd with
    | .ref n, some kvs, some _ => if kvs.length < lim ∧ d.low n = true then .ok () (st.set n (.dct false (putD kvs kd d))) else .stuck
    | _, _, _ => .stuck
  | none, _, _ => .stuck
def sSub (m mo mi : ME) : MS := fun env st => (m env st).thn fun d s1 => (mo env s1).thn fun o s2 => (mi env s2).thn fun i s3 => (setU o i d s3).thn fun _ s4 => .nx env s4
section
variable {K : PySem.W.Frag} {ι : Gh} {st : Sto} {H : Hp}
theorem keq_kD {kd : PyData} {k : Key} (hk : key1 kd = some k) (k' : Key) : keq false (kD k') kd = decide (k' = k) := by
  unfold keq
  rw [if_neg Bool.false_ne_true, key1_kD, hk]
  by_cases e : k' = k
  · subst e; simp
  · rw [decide_eq_false e, decide_eq_false fun z => e (Option.some.inj z)]
theorem RK.any {kd : PyData} {k : Key} (hk : key1 kd = some k) : ∀ {kvs : List (PyData × D)} {xs : List (Key × V)}, RK K ι st H kvs xs → (xs.any fun kv => decide (kv.1 = k)) = kvs.any fun p => keq false p.1 kd
  | _, _, .nil => rfl
  | _, _, .cons (a := p) (b := q) h t => by
    rw [List.any_cons, List.any_cons, RK.any hk t, h.1, keq_kD hk]
theorem RK.repl {kd : PyData} {k : Key} (hk : key1 kd = some k) {d : D} {y : V} (r : RD K ι st H y d) : ∀ {kvs : List (PyData × D)} {xs : List (Key × V)}, RK K ι st H kvs xs →
    RK K ι st H (kvs.map fun p => if keq false p.1 kd then (p.1, d) else p) (xs.map fun kv => if kv.1 = k then (kv.1, y) else kv)
  | _, _, .nil => .nil
  | _, _, .cons (a := p) (b := q) h t => by
    rw [List.map_cons, List.map_cons]
    refine .cons ?_ (RK.repl hk r t)
    rw [h.1, keq_kD hk]
    by_cases e : q.1 = k
    · rw [if_pos (decide_eq_true e), if_pos e]
      exact ⟨rfl, r⟩
    · rw [if_neg (by simpa using e), if_neg e]
      exact h
theorem RK.app : ∀ {kvs kvs2 : List (PyData × D)} {xs ys : List (Key × V)}, RK K ι st H kvs xs → RK K ι st H kvs2 ys → RK K ι st H (kvs ++ kvs2) (xs ++ ys)
  | _, _, _, _, .nil, s => s
  | _, _, _, _, .cons h t, s => .cons h (RK.app t s)
theorem RK.put {kd : PyData} {k : Key} (hk : key1 kd = some k) {d : D} {y : V} (r : RD K ι st H y d) {kvs : List (PyData × D)} {xs : List (Key × V)} (h : RK K ι st H kvs xs) : RK K ι st H (putD kvs kd d) (putK xs k y) := by
  unfold putD putK
  rw [RK.any hk h]
  split
  · exact RK.repl hk r h
  · exact h.app (.cons ⟨kD_of hk, r⟩ .nil)
theorem putD_low {n : Nat} {kvs : List (PyData × D)} {kd : PyData} {d : D} (h : (kvs.all fun p => p.2.low n) = true) (hd : d.low n = true) : ((putD kvs kd d).all fun p => p.2.low n) = true := by
  unfold putD
  split
  · rw [List.all_map]
    refine List.all_eq_true.mpr fun p hp => ?_
    show (if keq false p.1 kd = true then (p.1, d) else p).2.low n = true
    split
    · exact hd
    · exact List.all_eq_true.mp h p hp
  · rw [List.all_append, h]
    simp [hd]
end
section
variable {X : Cx} {W : XW} {tg e o i : Expr} {ts es : List Expr} {m mo mi : ME} {ma : MA} {g : MG} {gs : MGs} {pos pos' : Pos}
theorem s_asg (he : PE X e (TEo X.K W m)) (hg : PG X tg (TGo X.K W g)) (hs : swapsWithSole [tg] e pos.line X.env = pure false := by rfl) (hw : swappedStores [tg] e X.env = pure none := by rfl) (h1 : (assignEach [tg] X.env).map (·.2) = [assign tg X.env] := by rfl) : PS X (.Assign [tg] e pos) (TSo X.K W (sAsg m g)) :=
  ps_wrap (ps_asg he hg hs hw h1) fun D σ H q => by
    obtain ⟨ι, env, st, R, EV, p⟩ := q
    refine ⟨ι, env, st, R, EV, Out.post_mono (thn_post p) (fun d s1 q ι1 H1 x R1 E1 ra => ?_) fun _ _ q => q⟩
    exact ⟨ι1, env, s1, .one d, R1, EV.ext E1, ra, Out.post_mono (thn_post q) (fun e1 s2 q2 i2 h2 σ2 R2 E2 EV2 _ _ => q2 i2 h2 σ2 R2 (E1.trans E2) EV2) fun _ _ z => z.ext E1⟩
theorem s_asgT {n k k' : Nat} {p1 p2 : Pos} (ha : PA X es (TAo X.K W ma)) (hg : PG X (.Tuple ts k p1) (gTup X.K n (TGso X.K W gs))) (hs : swapsWithSole [.Tuple ts k p1] (.Tuple es k' p2) pos.line X.env = pure false := by rfl)
    (hw : swappedStores [.Tuple ts k p1] (.Tuple es k' p2) X.env = pure none := by rfl) : PS X (.Assign [.Tuple ts k p1] (.Tuple es k' p2) pos) (TSo X.K W (sAsgT n ma gs)) :=
  ps_wrap (ps_asg (pe_tup ha) hg hs hw) fun D σ H q => by
    obtain ⟨ι, env, st, R, EV, p⟩ := q
    refine ⟨ι, env, st, R, EV, Out.post_mono (thn_post p) (fun ds s1 q ι1 H1 xs R1 E1 ra => ?_) fun _ _ q => q⟩
    split at q
    · rename_i hl
      have hx : xs.length ≤ sizeLine := by rw [ra.length, hl.1]; exact lim1000 hl.2
      refine ⟨hx, fun a hn => ⟨a, xs, rfl, .of upd_same, by rw [ra.length]; exact hl.1, ?_⟩⟩
      have E2 : Ext ι1 s1 H1 ι1 s1 (upd H1 a (.tup xs)) := Ext.fresh R1 hn
      have E12 := E1.trans E2
      exact ⟨ι1, env, s1, ds, R1.fresh hn (hf_tup R1.hf hx), EV.ext E12, RDs.ext E2 ra, Out.post_mono (thn_post q) (fun e1 s2 q2 i2 h2 σ2 R2 E2 EV2 _ _ => q2 i2 h2 σ2 R2 (E12.trans E2) EV2) fun _ _ z => z.ext E12⟩
    · exact q.elim
theorem s_par3 {i j l : Nat} (ha : PA X es (TAo X.K W ma)) {stm : Stmt} (h : PS X stm (tPar3 i j l (TAo X.K W ma))) : PS X stm (TSo X.K W (sPar3 i j l ma)) := ps_wrap h fun D σ H q => by
  obtain ⟨ι, env, st, R, EV, p⟩ := q
  refine ⟨ι, env, st, R, EV, Out.post_mono (thn_post p) (fun ds s1 q ι1 H1 xs R1 E1 ra => ?_) fun _ _ q => q⟩
  split at q
  · cases ra with
    | cons r1 t =>
      obtain ⟨y, z, rfl, r2, r3⟩ := RDs.two t
      exact ⟨_, y, z, rfl, fun _ => q ι1 H1 _ R1 E1 ((((EV.ext E1).set r1 _).set r2 _).set r3 _)⟩
  · exact q.elim
theorem s_sub (gd : Gd X) (he : PE X e (TEo X.K W m)) (ho : PE X o (TEo X.K W mo)) (hi : PE X i (TEo X.K W mi)) (hsL : PG X (.Subscript o i pos') (gSub (TEo X.K W mo) (TEo X.K W mi) rSetL)) (hs1 : swapsWithSole [.Subscript o i pos'] e pos.line X.env = pure false := by rfl)
    (hw : swappedStores [.Subscript o i pos'] e X.env = pure none := by rfl) (hs : swapsWith e (some (.Subscript o i pos')) pos.line X.env = pure false := by rfl) : PS X (.Assign [.Subscript o i pos'] e pos) (TSo X.K W (sSub m mo mi)) := by
  have h1 := ps_asg (pos := pos) he hsL hs1 hw
  have h2 := ps_dput (pos := pos) (pos' := pos') (by have := gd.un; omega) ho hi he hs
  have h : PS X (.Assign [.Subscript o i pos'] e pos) (fun D σ H => tAsg (TEo X.K W m) (gSub (TEo X.K W mo) (TEo X.K W mi) rSetL) D σ H ∨ sDPut (TEo X.K W mo) (TEo X.K W mi) (TEo X.K W m) D σ H) :=
    ⟨fun pins s σ H D I q => q.elim (h1.run pins s σ H D I) (h2.run pins s σ H D I)⟩
  refine ps_wrap h fun D σ H q => ?_
  obtain ⟨ι, env, st, R, EV, p⟩ := q
  unfold sSub at p
  cases e1 : m env st with
  | stuck => rw [e1] at p; exact p.elim
  | exn x s1 => rw [e1] at p; exact .inl ⟨ι, env, st, R, EV, by rw [e1]; exact p⟩
  | ok d s1 =>
    rw [e1, thn_ok] at p
    cases e2 : mo env s1 with
    | stuck => rw [e2] at p; exact p.elim
    | exn x s2 =>
      rw [e2] at p
      refine .inl ⟨ι, env, st, R, EV, ?_⟩
      rw [e1]
      exact fun ι1 H1 x R1 E1 ra => ⟨ι1, env, s1, R1, EV.ext E1, by rw [e2]; exact PX1.ext p E1⟩
    | ok o1 s2 =>
      rw [e2, thn_ok] at p
      cases e3 : mi env s2 with
      | stuck => rw [e3] at p; exact p.elim
      | exn x s3 =>
        rw [e3] at p
        refine .inl ⟨ι, env, st, R, EV, ?_⟩
        rw [e1]
        refine fun ι1 H1 x R1 E1 ra => ⟨ι1, env, s1, R1, EV.ext E1, ?_⟩
        rw [e2]
        exact fun ι2 H2 y R2 E2 rb => ⟨ι2, env, s2, R2, (EV.ext E1).ext E2, by rw [e3]; exact PX1.ext (PX1.ext p E1) E2⟩
      | ok i1 s3 =>
        rw [e3, thn_ok] at p
        cases e4 : setU o1 i1 d s3 with
        | stuck => rw [e4] at p; exact p.elim
        | exn x s4 =>
          unfold setU at e4
          split at e4
          · split at e4 <;> cases e4
          · cases e4
          · split at e4
            · split at e4 <;> cases e4
            · cases e4
          · cases e4
        | ok _ s4 =>
          rw [e4, thn_ok] at p
          replace p : ∀ ι' H' σ', SRel X.K ι' s4 H' → Ext ι st H ι' s4 H' → EvR X.K ι' s4 H' σ' env → D.nx σ' H' := p
          unfold setU at e4
          split at e4
          · rename_i n zs k z hL
            split at e4
            · rename_i j hj
              cases e4
              refine .inl ⟨ι, env, st, R, EV, ?_⟩
              rw [e1]
              refine fun ι1 H1 x R1 E1 ra => ⟨ι1, env, s1, R1, EV.ext E1, ?_⟩
              rw [e2]
              refine fun ι2 H2 y R2 E2 rb => ⟨ι2, env, s2, R2, (EV.ext E1).ext E2, ?_⟩
              rw [e3]
              refine fun ι3 H3 w R3 E3 rc => ?_
              obtain ⟨a, us, rfl, h1, h2, h3, h4⟩ := lAt_at R3 hL (rb.ext E3)
              have ew := iOf_at (d := .v (.int k)) rfl rc
              subst ew
              refine ⟨a, us, k, j, rfl, rfl, h1, by rw [h2.length]; exact hj, fun hf => ?_⟩
              have E4 : Ext ι3 s3 H3 ι3 (s3.set n (.lst (zs.set j z))) (upd H3 a (.lst (us.set j x))) := Ext.write R3 h3 h4 (fun z => nomatch z) (fun _ _ z => nomatch z)
              have E := E1.trans (E2.trans (E3.trans E4))
              have rx : Rp (Frz ι3 s3) H3 x z := Rp.ext (E2.trans E3) ra
              exact p ι3 _ σ (R3.write h3 h4 (fun z => nomatch z) (fun _ _ z => nomatch z) hf ⟨_, upd_same, (h2.set rx j).ext E4⟩ rfl) E (EV.ext E)
            · cases e4
          · cases e4
          · rename_i d _ _ _ kd hL
            split at e4
            · rename_i n kvs k hk hK
              split at e4
              · rename_i hc
                cases e4
                refine .inr ⟨ι, env, st, R, EV, ?_⟩
                rw [e1]
                refine fun ι1 H1 x R1 E1 ra => ⟨ι1, env, s1, R1, EV.ext E1, ?_⟩
                rw [e2]
                refine fun ι2 H2 y R2 E2 rb => ⟨ι2, env, s2, R2, (EV.ext E1).ext E2, ?_⟩
                rw [e3]
                refine fun ι3 H3 w R3 E3 rc => ?_
                obtain ⟨n', a, us, en, rfl, h3, h4, h1, h2⟩ := kAt_at R3 hK (rb.ext E3)
                cases en
                have rc' : Rp (Frz ι3 s3) H3 w kd := rc
                rw [kD_of hk] at rc'
                have ew := kV_of rc'
                subst ew
                have hl : us.length < sizeLine := by rw [h2.len]; exact Nat.lt_of_lt_of_le hc.1 (lim_ok (Nat.le_refl _))
                refine ⟨a, _, rfl, DPut.k h1 hl, fun hf => ?_⟩
                have E4 : Ext ι3 s3 H3 ι3 (s3.set n (.dct false (putD kvs kd d))) (upd H3 a (.dK (putK us k x))) := Ext.write R3 h3 h4 (fun z => nomatch z) (fun _ _ z => nomatch z)
                have E := E1.trans (E2.trans (E3.trans E4))
                have rx : RD X.K ι3 s3 H3 x d := ra.ext (E2.trans E3)
                refine p ι3 _ σ (R3.write h3 h4 (fun z => nomatch z) (fun _ _ z => nomatch z) hf ⟨_, upd_same, RK.ext E4 (RK.put hk rx h2)⟩ (putD_low (R3.low n _ h3) hc.2)) E (EV.ext E)
              · cases e4
            · cases e4
          · cases e4
end
end Fw
namespace Fw
open PySem PySem.Spec PyProof.Rows L2
section
variable {K : PySem.W.Frag} {ι ι' : Gh} {st st' : Sto} {H H' : Hp}
structure Mv (ι : Gh) (st : Sto) (H : Hp) (ι' : Gh) (st' : Sto) (H' : Hp) : Prop where
  keep : ∀ q u, H q = some u → Frz ι st q → Frz ι' st' q ∧ H' q = some u
  pre : ∀ (n : Nat) (a : Addr), ι.ad[n]? = some a → ι'.ad[n]? = some a
  lk : ∀ {n : Nat} {t : Bool} {kvs : List (PyData × D)} {a : Addr}, st[n]? = some (.lck t kvs) → ι.ad[n]? = some a → st'[n]? = some (.lck t kvs) ∧ H' a = H a
theorem Mv.rp (m : Mv ι st H ι' st' H') {v : V} {d : PyData} (h : Rp (Frz ι st) H v d) : Rp (Frz ι' st') H' v d := Rp.mv (fun q u e f => let ⟨a, b⟩ := m.keep q u e f; ⟨a, .inl b⟩) h
theorem Mv.rpA (m : Mv ι st H ι' st' H') {v : List V} {d : List PyData} (h : RpA (Frz ι st) H v d) : RpA (Frz ι' st') H' v d := RpA.mv (fun q u e f => let ⟨a, b⟩ := m.keep q u e f; ⟨a, .inl b⟩) h
theorem Mv.rd (m : Mv ι st H ι' st' H') {x : V} : ∀ {d : D}, RD K ι st H x d → RD K ι' st' H' x d
  | .v d, h => m.rp h
  | .ref n, ⟨a, h1, h2⟩ => ⟨a, m.pre n a h1, h2⟩
  | .scr ns, ⟨a, h1, h2⟩ => ⟨a, h1, h2.imp id fun ⟨o, h, f⟩ => let ⟨a, b⟩ := m.keep _ _ h f; ⟨o, b, a⟩⟩
theorem Mv.ev (m : Mv ι st H ι' st' H') {σ : L2.St} {env : Ev} (h : EvR K ι st H σ env) : EvR K ι' st' H' σ env := ⟨h.1, fun i d q => let ⟨x, h1, h2⟩ := h.2 i d q; ⟨x, h1, m.rd h2⟩⟩
theorem Mv.rk (m : Mv ι st H ι' st' H') : ∀ {kvs : List (PyData × D)} {xs : List (Key × V)}, RK K ι st H kvs xs → RK K ι' st' H' kvs xs
  | _, _, .nil => .nil
  | _, _, .cons h r => .cons ⟨h.1, m.rd h.2⟩ (Mv.rk m r)
theorem Mv.rt (m : Mv ι st H ι' st' H') : ∀ {kvs : List (PyData × D)} {xs : List (List Key × V)}, RT K ι st H kvs xs → RT K ι' st' H' kvs xs
  | _, _, .nil => .nil
  | _, _, .cons h r => .cons ⟨h.1, m.rd h.2⟩ (Mv.rt m r)
theorem Mv.rtab (m : Mv ι st H ι' st' H') : ∀ {kvs : List (PyData × D)} {xs : List (NestedKey × Addr × V)}, RTab K ι st H kvs xs → RTab K ι' st' H' kvs xs
  | _, _, .nil => .nil
  | _, _, .cons h r => .cons ⟨h.1, m.rp h.2.1, m.rd h.2.2⟩ (Mv.rtab m r)
theorem Mv.rda (m : Mv ι st H ι' st' H') : ∀ {ds : List D} {xs : List V}, RDA K ι st H ds xs → RDA K ι' st' H' ds xs
  | _, _, .nil => .nil
  | _, _, .cons h r => .cons (m.rd h) (Mv.rda m r)
theorem Mv.ro (m : Mv ι st H ι' st' H') {a : Addr} (h : ∀ u, H a = some u → H' a = some u) : ∀ {o : O}, RO K ι st H a o → RO K ι' st' H' a o
  | .dead, _ => trivial
  | .lst _, ⟨xs, q, r⟩ => ⟨xs, h _ q, m.rpA r⟩
  | .dct false _, ⟨xs, q, r⟩ => ⟨xs, h _ q, m.rk r⟩
  | .dct true _, ⟨xs, q, r⟩ => ⟨xs, h _ q, m.rt r⟩
  | .lck false _, ⟨xs, o, q, r⟩ => ⟨xs, o, h _ q, m.rk r⟩
  | .lck true _, ⟨xs, o, q, r⟩ => ⟨xs, o, h _ q, r.1, r.2.1, r.2.2.1, m.rtab r.2.2.2⟩
  | .tpl _, ⟨xs, o, q, r⟩ => ⟨xs, o, h _ q, m.rda r⟩
  | .tab _, ⟨xs, q, r⟩ => ⟨xs, h _ q, r.1, r.2.1, r.2.2.1, m.rtab r.2.2.2⟩
theorem Ext.mv (e : Ext ι st H ι' st' H') : Mv ι st H ι' st' H' := ⟨e.keep, e.pre, e.lk⟩
end
abbrev Wt := Option (Nat × List PyData)
def chk (w : Wt) (st : Sto) : Prop := match w with
  | none => True
  | some (n, zs) => st[n]? = some (.lst zs)
structure Wlk (K : PySem.W.Frag) (ds : List Itm) (w : Wt) (J : It) (ι : Gh) (st : Sto) (H : Hp) : Prop where
  go : ∀ (i : Nat) (d : Itm) ι' st' H', ds[i]? = some d → SRel K ι' st' H' → Mv ι st H ι' st' H' → chk w st' → J.go i H' ∧ ∀ x H2, J.yld i H' x H2 → SRel K ι' st' H2 ∧ Ext ι' st' H' ι' st' H2 ∧ RI K ι' st' H2 x d
  stop : ∀ ι' st' H', SRel K ι' st' H' → Mv ι st H ι' st' H' → chk w st' → J.stop ds.length H'
  len : ds.length ≤ sizeLine
abbrev MI := Ev → Sto → Out (List Itm × Wt)
def PI1 (K : PySem.W.Frag) (ι : Gh) (st : Sto) (H : Hp) (R : It → Hp → Prop) (r : List Itm × Wt) (st' : Sto) : Prop := ∀ ι' H' J, SRel K ι' st' H' → Ext ι st H ι' st' H' → Wlk K r.1 r.2 J ι' st' H' → R J H'
def TIo (K : PySem.W.Frag) (W : XW) (m : MI) : TI := fun σ H R => ∃ ι env st, SRel K ι st H ∧ EvR K ι st H σ env ∧ (m env st).post (PI1 K ι st H R) (PX1 K W ι st H)
section
variable {X : Cx} {W : XW} {tg it e : Expr} {m : ME}
theorem pi_wrap {t : TI} {m : MI} (h : PI X tg it t) (hi : ∀ σ H R, TIo X.K W m σ H R → t σ H (fun J H' => HF H' → R J H')) : PI X tg it (TIo X.K W m) :=
  ⟨fun pins s σ H R I q => thn (h.run pins s σ H _ I (hi σ H R q)) fun _ _ z => thn z fun _ _ ⟨a, fp, tn, J, H', e1, I', T, st0, hfp, q'⟩ => ⟨a, fp, tn, J, H', e1, I', T, st0, hfp, q' (hf_of I')⟩⟩
theorem pi_or {t u : TI} (h : PI X tg it t) (h' : PI X tg it u) : PI X tg it (fun σ H R => t σ H R ∨ u σ H R) :=
  ⟨fun pins s σ H R I q => q.elim (h.run pins s σ H R I) (h'.run pins s σ H R I)⟩
def seqI (st : Sto) (d : D) : Option (List PyData × Wt) := match lAt st d with
  | some (n, zs) => some (zs, some (n, zs))
  | none => (viewS st d).map fun zs => (zs, none)
theorem viewS_frz {K : PySem.W.Frag} {ι : Gh} {st : Sto} {H : Hp} {x : V} {d : D} {ds : List PyData} (hn : lAt st d = none) (e : viewS st d = some ds) (r : RD K ι st H x d) :
    ∃ a xs, x = .ref a ∧ ((H a = some (.lst xs) ∧ Frz ι st a) ∨ (∃ o, H a = some (.frz o (.tup xs)) ∧ Frz ι st a)) ∧ RpA (Frz ι st) H xs ds := by
  cases d with
  | v z =>
    cases z with
    | list zs =>
      have e' : zs = ds := Option.some.inj e
      subst e'
      have r' : Rp (Frz ι st) H x (.list zs) := r
      cases r' with
      | lst h f t => exact ⟨_, _, rfl, .inl ⟨h, f⟩, t⟩
    | tuple zs =>
      have e' : zs = ds := Option.some.inj e
      subst e'
      have r' : Rp (Frz ι st) H x (.tuple zs) := r
      cases r' with
      | tup h _ f t => exact ⟨_, _, rfl, .inr ⟨_, h, f⟩, t⟩
    | _ => cases e
  | scr ns => cases e
  | ref n =>
    simp only [viewS, viewL] at e
    cases q : st[n]? with
    | none => rw [q] at e; cases e
    | some o =>
      rw [q] at e
      cases o with
      | lst zs => simp only [lAt, q] at hn; cases hn
      | _ => cases e
theorem wlk_list {K : PySem.W.Frag} {ι : Gh} {st : Sto} {H : Hp} {a : Addr} {xs : List V} {ds : List PyData} {w : Wt} (hz : ds.length ≤ sizeLine) (r : RpA (Frz ι st) H xs ds) (hq : ∀ ι' st' H', SRel K ι' st' H' → Mv ι st H ι' st' H' → chk w st' → SqL K H' a xs) :
    Wlk K (ds.map fun d => .one (.v d)) w (Itl K a) ι st H := by
  refine ⟨fun i d ι' st' H' hi R E hc => ?_, fun ι' st' H' R E hc => ?_, by rw [List.length_map]; exact hz⟩
  · rw [List.getElem?_map] at hi
    obtain ⟨z, h1, rfl⟩ := Option.map_eq_some_iff.mp hi
    obtain ⟨x, h2, h3⟩ := r.get h1
    have q := hq ι' st' H' R E hc
    refine ⟨⟨xs, x, q, h2⟩, fun y H2 hy => ?_⟩
    obtain ⟨e1, e2⟩ := hy
    subst e1
    have e3 := e2 xs q
    rw [h2] at e3
    rw [← Option.some.inj e3]
    exact ⟨R, Ext.refl, E.rp h3⟩
  · rw [List.length_map, ← r.length]
    exact ⟨xs, hq ι' st' H' R E hc, Nat.le_refl _⟩
theorem wlk_tup {K : PySem.W.Frag} {ι : Gh} {st : Sto} {H : Hp} {a : Addr} {xs : List V} {ds : List PyData} {w : Wt} (hz : ds.length ≤ sizeLine) (r : RpA (Frz ι st) H xs ds) (hq : ∀ ι' st' H', SRel K ι' st' H' → Mv ι st H ι' st' H' → chk w st' → SqT K H' a xs) :
    Wlk K (ds.map fun d => .one (.v d)) w (Itt K a) ι st H := by
  refine ⟨fun i d ι' st' H' hi R E hc => ?_, fun ι' st' H' R E hc => ?_, by rw [List.length_map]; exact hz⟩
  · rw [List.getElem?_map] at hi
    obtain ⟨z, h1, rfl⟩ := Option.map_eq_some_iff.mp hi
    obtain ⟨x, h2, h3⟩ := r.get h1
    have q := hq ι' st' H' R E hc
    refine ⟨⟨xs, x, q, h2⟩, fun y H2 hy => ?_⟩
    obtain ⟨e1, e2⟩ := hy
    subst e1
    have e3 := e2 xs q
    rw [h2] at e3
    rw [← Option.some.inj e3]
    exact ⟨R, Ext.refl, E.rp h3⟩
  · rw [List.length_map, ← r.length]
    exact ⟨xs, hq ι' st' H' R E hc, Nat.le_refl _⟩
theorem stand_ref {K : PySem.W.Frag} {ι : Gh} {st : Sto} {H : Hp} {n : Nat} {a : Addr} {zs : List PyData} {xs : List V} (hi : ι.ad[n]? = some a) (r : RpA (Frz ι st) H xs zs) (h : H a = some (.lst xs)) :
    ∀ ι' st' H', SRel K ι' st' H' → Mv ι st H ι' st' H' → chk (some (n, zs)) st' → ∃ ys, H' a = some (.lst ys) ∧ RpA (Frz ι' st') H' ys zs := fun ι' st' H' R E hc => by
  obtain ⟨ys, h1, h2⟩ := R.obj n (.lst zs) a hc (E.pre n a hi)
  exact ⟨ys, h1, h2⟩
theorem wlk_ref {K : PySem.W.Frag} {ι : Gh} {st : Sto} {H : Hp} {n : Nat} {a : Addr} {zs : List PyData} {xs : List V} (hz : zs.length ≤ sizeLine) (hi : ι.ad[n]? = some a) (r : RpA (Frz ι st) H xs zs) (h : H a = some (.lst xs)) :
    Wlk K (zs.map fun d => .one (.v d)) (some (n, zs)) (Itl K a) ι st H := by
  refine ⟨fun i d ι' st' H' hi' R E hc => ?_, fun ι' st' H' R E hc => ?_, by rw [List.length_map]; exact hz⟩
  · rw [List.getElem?_map] at hi'
    obtain ⟨z, h1, rfl⟩ := Option.map_eq_some_iff.mp hi'
    obtain ⟨ys, h2, h3⟩ := stand_ref hi r h ι' st' H' R E hc
    obtain ⟨x, h4, h5⟩ := h3.get h1
    refine ⟨⟨ys, x, .of h2, h4⟩, fun y H2 hy => ?_⟩
    obtain ⟨e1, e2⟩ := hy
    subst e1
    have e3 := e2 ys (.of h2)
    rw [h4] at e3
    rw [← Option.some.inj e3]
    exact ⟨R, Ext.refl, h5⟩
  · rw [List.length_map]
    obtain ⟨ys, h2, h3⟩ := stand_ref hi r h ι' st' H' R E hc
    exact ⟨ys, .of h2, by rw [h3.length]; exact Nat.le_refl _⟩
def miSeq (m : ME) : MI := fun env st => (m env st).bind fun d s1 => match d with
  | .scr ns => .ok (ns.map fun n => .one (.v (.int n)), none) s1
  | d => match seqI s1 d with
    | some (zs, w) => .ok (zs.map fun z => .one (.v z), w) s1
    | none => .stuck
theorem i_seq (he : PE X e (TEo X.K W m)) : PI X tg e (TIo X.K W (miSeq m)) := pi_wrap (pi_or (pi_list he) (pi_tup he)) fun σ H Rr q => by
  obtain ⟨ι, env, st, R, EV, p⟩ := q
  unfold miSeq at p
  cases e1 : m env st with
  | stuck => rw [e1] at p; exact p.elim
  | exn x s1 => rw [e1] at p; exact .inl ⟨ι, env, st, R, EV, by rw [e1]; exact p⟩
  | ok d s1 =>
    rw [e1, bind_ok] at p
    split at p
    · rename_i ns
      refine .inl ⟨ι, env, st, R, EV, ?_⟩
      rw [e1]
      refine fun ι1 H1 x R1 E1 ra => ?_
      obtain ⟨a, rfl, h2⟩ := ra
      have hq : SqL X.K H1 a (ns.map V.int) := h2.elim .inr fun ⟨o, h, _⟩ => .inl (.inr ⟨o, h⟩)
      refine ⟨a, rfl, ⟨_, hq⟩, fun _ => p ι1 H1 _ R1 E1 ?_⟩
      have hz : (ns.map PyData.int).length ≤ sizeLine := by
        rw [List.length_map]
        rcases h2 with ⟨o, its, n, _, _, _, _, h5, h6⟩ | ⟨o, h, _⟩
        · have e6 := h6.length
          simp only [List.length_map, Array.length_toList] at e6
          omega
        · have q : (ns.map V.int).length ≤ sizeLine := R1.hf a _ h
          rw [List.length_map] at q
          exact q
      have hw := wlk_list (K := X.K) (a := a) (w := none) hz (rpA_ints (F := Frz ι1 s1) (H := H1) ns) fun ι' st' H' R' E' _ => by
        rcases h2 with h2 | ⟨o, h, f⟩
        · exact .inr h2
        · exact .inl (.inr ⟨o, (E'.keep _ _ h f).2⟩)
      rw [List.map_map] at hw
      exact hw
    · split at p
      · rename_i zs w e2
        unfold seqI at e2
        split at e2
        · rename_i n ws hL
          simp only [Option.some.injEq, Prod.mk.injEq] at e2
          obtain ⟨rfl, rfl⟩ := e2
          refine .inl ⟨ι, env, st, R, EV, ?_⟩
          rw [e1]
          refine fun ι1 H1 x R1 E1 ra => ?_
          obtain ⟨a, us, rfl, h1, h2, h3, h4⟩ := lAt_at R1 hL ra
          exact ⟨a, rfl, ⟨us, .of h1⟩, fun _ => p ι1 H1 _ R1 E1 (wlk_ref (by rw [← h2.length]; exact R1.hf a _ h1) h4 h2 h1)⟩
        · rename_i hL
          obtain ⟨ws, ev, e3⟩ := Option.map_eq_some_iff.mp e2
          simp only [Prod.mk.injEq] at e3
          obtain ⟨rfl, rfl⟩ := e3
          by_cases hT : isT d = true
          · refine .inr ⟨ι, env, st, R, EV, ?_⟩
            rw [e1]
            refine fun ι1 H1 x R1 E1 ra => ?_
            obtain ⟨vs, et⟩ := Option.isSome_iff_exists.mp hT
            have ed := tOf_eq et
            subst ed
            obtain ⟨a, us, rfl, h1 | ⟨o, h1, f⟩, h2⟩ := viewS_frz hL ev ra
            · have ra' : Rp (Frz ι1 s1) H1 (.ref a) (.tuple vs) := ra
              cases ra' with
              | tup h3 _ _ _ => rw [h1.1] at h3; cases h3
            · refine ⟨a, rfl, ⟨us, .inl (.inr ⟨o, h1⟩)⟩, fun _ => p ι1 H1 _ R1 E1 (wlk_tup (by rw [← h2.length]; exact R1.hf a _ h1) h2 fun ι' st' H' R' E' _ => ?_)⟩
              exact .inl (.inr ⟨o, (E'.keep _ _ h1 f).2⟩)
          · refine .inl ⟨ι, env, st, R, EV, ?_⟩
            rw [e1]
            refine fun ι1 H1 x R1 E1 ra => ?_
            obtain ⟨a, us, rfl, ⟨h1, f⟩ | ⟨o, h1, f⟩, h2⟩ := viewS_frz hL ev ra
            · refine ⟨a, rfl, ⟨us, .of h1⟩, fun _ => p ι1 H1 _ R1 E1 (wlk_list (by rw [← h2.length]; exact R1.hf a _ h1) h2 fun ι' st' H' R' E' _ => ?_)⟩
              exact .of (E'.keep _ _ h1 f).2
            · exfalso
              cases d with
              | v z =>
                cases z with
                | tuple _ => exact hT rfl
                | list _ =>
                  have ra' : Rp (Frz ι1 s1) H1 (.ref a) (.list _) := ra
                  cases ra' with
                  | lst h3 _ _ => rw [h1] at h3; cases h3
                | _ => cases ev
              | scr _ => cases ev
              | ref n =>
                simp only [viewS, viewL] at ev
                cases q : s1[n]? with
                | none => rw [q] at ev; cases ev
                | some o =>
                  rw [q] at ev
                  cases o with
                  | lst zs => simp only [lAt, q] at hL; cases hL
                  | _ => cases ev
      · exact p.elim
end
open Classical in
noncomputable def forL (w : Wt) (g : MG) (body : MS) : List Itm → MS
  | [] => fun env st => if chk w st then .nx env st else .stuck
  | d :: r => fun env st => if chk w st then (g d env st).thn fun e1 s1 => match body e1 s1 with
      | .nx e2 s2 => forL w g body r e2 s2
      | .ct e2 s2 => forL w g body r e2 s2
      | .bk e2 s2 => .nx e2 s2
      | .rt d s2 => .rt d s2
      | .exn e s2 => .exn e s2
      | .stuck => .stuck
    else .stuck
noncomputable def sFor (mi : MI) (g : MG) (body : MS) : MS := fun env st => (mi env st).thn fun r s1 => forL r.2 g body r.1 env s1
section
variable {X : Cx} {tg it c : Expr} {body : List Stmt} {mi : MI} {g : MG} {b : MS} {t : MT} {pos : Pos}
theorem s_for {W : XW} (gd : Gd X) (hp : PassesOwn (model X.prog X.w) X.A X.env X.xe) (hi : PI X tg it (TIo X.K W mi)) (hg : PG X tg (TGo X.K W g)) (hb : PSs X body (TSo X.K W b)) (hs : ∀ x, foldedSetIterable it X.env x = pure x := by intro _; rfl) :
    PS X (.For tg it body [] pos) (TSo X.K W (sFor mi g b)) := ps_wrap (ps_for hp gd.calm hi hg hb hs) fun D σ H q => by
  obtain ⟨ι, env, st, R, EV, p⟩ := q
  refine ⟨ι, env, st, R, EV, Out.post_mono (thn_post p) (fun r s1 q ι1 H1 J R1 E1 hW => ?_) fun _ _ q => q⟩
  obtain ⟨ds, w⟩ := r
  let Inv (i m : Nat) (σ : L2.St) (H : Hp) : Prop := m + i = ds.length ∧ ∃ ι' env' st', SRel X.K ι' st' H ∧ Ext ι1 s1 H1 ι' st' H ∧ EvR X.K ι' st' H σ env' ∧ (forL w g b (ds.drop i) env' st').post X.K W ι1 s1 H1 D
  refine ⟨Inv, ⟨ds.length, by show _ + 0 = _; omega, ι1, env, s1, R1, Ext.refl, EV.ext E1, ?_⟩, ?_⟩
  · exact SO.post_ext E1 q
  rintro i m σ2 H2 ⟨hm, ι2, env2, s2, R2, E2, EV2, p2⟩
  by_cases hi : i < ds.length
  · right
    have hd : ds.drop i = ds[i] :: ds.drop (i + 1) := List.drop_eq_getElem_cons hi
    rw [hd] at p2
    unfold forL at p2
    split at p2
    · rename_i hc
      obtain ⟨hgo, hy⟩ := hW.go i ds[i] ι2 s2 H2 (List.getElem?_eq_getElem hi) R2 E2.mv hc
      refine ⟨hgo, Inv (i + 1) (m - 1), fun σ' H' hN => ⟨m - 1, by omega, hN⟩, fun x H3 hyl => ?_⟩
      obtain ⟨R3, E3, ri⟩ := hy x H3 hyl
      refine ⟨ι2, env2, s2, ds[i], R3, EV2.ext E3, ri, Out.post_mono (thn_post p2) (fun e1 s4 q4 ι4 H4 σ4 R4 E4 EV4 _ => ?_) fun _ _ z => (PX1.ext z E2).ext E3⟩
      have E14 := E2.trans (E3.trans E4)
      refine ⟨ι4, e1, s4, R4, EV4, ?_⟩
      cases eb : b e1 s4 with
      | nx e5 s5 =>
        rw [eb] at q4
        exact fun ι5 H5 σ5 R5 E5 EV5 => ⟨by omega, ι5, e5, s5, R5, E14.trans E5, EV5, q4⟩
      | ct e5 s5 =>
        rw [eb] at q4
        exact fun ι5 H5 σ5 R5 E5 EV5 => ⟨by omega, ι5, e5, s5, R5, E14.trans E5, EV5, q4⟩
      | bk e5 s5 =>
        rw [eb] at q4
        exact fun ι5 H5 σ5 R5 E5 EV5 hf => q4 ι5 H5 σ5 R5 (E14.trans E5) EV5
      | rt d5 s5 =>
        rw [eb] at q4
        exact fun ι5 H5 x5 R5 E5 r5 hf => q4 ι5 H5 x5 R5 (E14.trans E5) r5
      | exn e5 s5 =>
        rw [eb] at q4
        exact PX1.ext q4 E14
      | stuck => rw [eb] at q4; exact q4.elim
    · exact p2.elim
  · left
    have hd : ds.drop i = [] := List.drop_eq_nil_of_le (by omega)
    rw [hd] at p2
    unfold forL at p2
    split at p2
    · rename_i hc
      have e : i = ds.length := by omega
      subst e
      exact ⟨hW.stop ι2 s2 H2 R2 E2.mv hc, fun _ => p2 ι2 H2 σ2 R2 E2 EV2⟩
    · exact p2.elim
def whileL (t : MT) (body : MS) : Nat → MS
  | 0 => fun _ _ => .stuck
  | n + 1 => fun env st => (t env st).thn fun k s1 => if k then (match body env s1 with
      | .nx e2 s2 => whileL t body n e2 s2
      | .ct e2 s2 => whileL t body n e2 s2
      | .bk e2 s2 => .nx e2 s2
      | .rt d s2 => .rt d s2
      | .exn e s2 => .exn e s2
      | .stuck => .stuck) else .nx env s1
theorem s_while {W : XW} (n : Nat) (hp : PassesOwn (model X.prog X.w) X.A X.env X.xe) (hc : PT X c (TTo X.K W t)) (hb : PSs X body (TSo X.K W b)) : PS X (.While c body [] pos) (TSo X.K W (whileL t b n)) := ps_wrap (ps_while hp hc hb) fun D σ H q => by
  obtain ⟨ι, env, st, R, EV, p⟩ := q
  let Inv (m : Nat) (σ1 : L2.St) (H1 : Hp) : Prop := ∃ ι' env' st', SRel X.K ι' st' H1 ∧ Ext ι st H ι' st' H1 ∧ EvR X.K ι' st' H1 σ1 env' ∧ (whileL t b m env' st').post X.K W ι st H D
  refine ⟨Inv, ⟨n, ι, env, st, R, Ext.refl, EV, p⟩, ?_⟩
  rintro m σ2 H2 ⟨ι2, env2, s2, R2, E2, EV2, p2⟩
  cases m with
  | zero => exact p2.elim
  | succ m =>
    unfold whileL at p2
    refine ⟨ι2, env2, s2, R2, EV2, Out.post_mono (thn_post p2) (fun k s3 q3 ι3 H3 R3 E3 => ?_) fun _ _ z => PX1.ext z E2⟩
    have E13 := E2.trans E3
    cases k with
    | false => exact iteF fun _ => q3 ι3 H3 σ2 R3 E13 (EV2.ext E3)
    | true =>
      refine iteT ⟨Inv m, fun σ' H' hN => ⟨m, Nat.lt_succ_self m, hN⟩, ?_⟩
      refine ⟨ι3, env2, s3, R3, EV2.ext E3, ?_⟩
      rw [if_pos rfl] at q3
      cases eb : b env2 s3 with
      | nx e5 s5 =>
        rw [eb] at q3
        exact fun ι5 H5 σ5 R5 E5 EV5 => ⟨ι5, e5, s5, R5, E13.trans E5, EV5, q3⟩
      | ct e5 s5 =>
        rw [eb] at q3
        exact fun ι5 H5 σ5 R5 E5 EV5 => ⟨ι5, e5, s5, R5, E13.trans E5, EV5, q3⟩
      | bk e5 s5 =>
        rw [eb] at q3
        exact fun ι5 H5 σ5 R5 E5 EV5 hf => q3 ι5 H5 σ5 R5 (E13.trans E5) EV5
      | rt d5 s5 =>
        rw [eb] at q3
        exact fun ι5 H5 x5 R5 E5 r5 hf => q3 ι5 H5 x5 R5 (E13.trans E5) r5
      | exn e5 s5 =>
        rw [eb] at q3
        exact PX1.ext q3 E13
      | stuck => rw [eb] at q3; exact q3.elim
end
def rngI (lo : Int) (n : Nat) : List Itm := (List.range n).map fun i => .one (.v (.int (lo + (i : Nat))))
theorem rngI_get {lo : Int} {n i : Nat} {d : Itm} (h : (rngI lo n)[i]? = some d) : i < n ∧ d = .one (.v (.int (lo + (i : Nat)))) := by
  unfold rngI at h
  rw [List.getElem?_map] at h
  obtain ⟨j, h1, rfl⟩ := Option.map_eq_some_iff.mp h
  obtain ⟨h2, h3⟩ := List.getElem?_eq_some_iff.mp h1
  rw [List.getElem_range] at h3
  subst h3
  rw [List.length_range] at h2
  exact ⟨h2, rfl⟩
theorem wlk_range {K : PySem.W.Frag} {ι : Gh} {st : Sto} {H : Hp} (lo : Int) (n : Nat) (hz : n ≤ sizeLine) : Wlk K (rngI lo n) none (Itr lo n) ι st H := by
  refine ⟨fun i d ι' st' H' hi R E _ => ?_, fun ι' st' H' R E _ => ?_, by unfold rngI; rw [List.length_map, List.length_range]; exact hz⟩
  · obtain ⟨h1, rfl⟩ := rngI_get hi
    refine ⟨h1, fun x H2 hy => ?_⟩
    obtain ⟨rfl, rfl⟩ := hy
    exact ⟨R, Ext.refl, .int _⟩
  · show n ≤ (rngI lo n).length
    unfold rngI
    rw [List.length_map, List.length_range]
    exact Nat.le_refl _
def miR1 (m : MA) : MI := fun env st => (m env st).bind fun ds s1 => match ds with
  | [d] => match iOf d with
    | some j => if -1000000 ≤ j ∧ j ≤ 1000000 then .ok (rngI 0 j.toNat, none) s1 else .stuck
    | none => .stuck
  | _ => .stuck
def miR2 (m : MA) : MI := fun env st => (m env st).bind fun ds s1 => match ds with
  | [a, b] => match iOf a, iOf b with
    | some i, some j => if -1000000 ≤ i ∧ i ≤ 1000000 ∧ -1000000 ≤ j ∧ j ≤ 1000000 then .ok (rngI i (j - i).toNat, none) s1 else .stuck
    | _, _ => .stuck
  | _ => .stuck
section
variable {X : Cx} {W : XW} {tg a b e : Expr} {m : MA} {p pos : Pos}
theorem i_range1 (hg : Gl X "range") (hm : X.mg "range" = none) (ha : PA X [a] (TAo X.K W m)) (hs : starEach [a] X.env = [(false, eval a X.env)] := by rfl) : PI X tg (.Call (.Name "range" p) [a] [] pos) (TIo X.K W (miR1 m)) :=
  pi_wrap (pi_range1 hg hm ha hs) fun σ H Rr q => by
    obtain ⟨ι, env, st, R, EV, p⟩ := q
    refine ⟨ι, env, st, R, EV, Out.post_mono (Out.post_bind p) (fun ds s1 q ι1 H1 xs R1 E1 ra => ?_) fun _ _ q => q⟩
    split at q
    · obtain ⟨x, rfl, r1⟩ := ra.one
      split at q
      · rename_i j e1
        split at q
        · rename_i hb
          have ex := iOf_at e1 r1
          subst ex
          exact ⟨j, rfl, by omega, by omega, fun _ => q ι1 H1 _ R1 E1 (wlk_range 0 j.toNat (Nat.le_trans (show j.toNat ≤ 1000000 by omega) (by decide)))⟩
        · exact q.elim
      · exact q.elim
    · exact q.elim
theorem i_range2 (hg : Gl X "range") (hm : X.mg "range" = none) (ha : PA X [a, b] (TAo X.K W m)) (hs : starEach [a, b] X.env = [(false, eval a X.env), (false, eval b X.env)] := by rfl) (hs2 : starEach [b] X.env = [(false, eval b X.env)] := by rfl) : PI X tg (.Call (.Name "range" p) [a, b] [] pos) (TIo X.K W (miR2 m)) :=
  pi_wrap (pi_range2 hg hm ha hs hs2) fun σ H Rr q => by
    obtain ⟨ι, env, st, R, EV, p⟩ := q
    refine ⟨ι, env, st, R, EV, Out.post_mono (Out.post_bind p) (fun ds s1 q ι1 H1 xs R1 E1 ra => ?_) fun _ _ q => q⟩
    split at q
    · obtain ⟨x, y, rfl, r1, r2⟩ := ra.two
      split at q
      · rename_i i j e1 e2
        split at q
        · rename_i hb
          have ex := iOf_at e1 r1
          have ey := iOf_at e2 r2
          subst ex ey
          exact ⟨i, j, rfl, ⟨by omega, by omega, by omega, by omega⟩, fun _ => q ι1 H1 _ R1 E1 (wlk_range i _ (Nat.le_trans (show (j - i).toNat ≤ 2000000 by omega) (by decide)))⟩
        · exact q.elim
      · exact q.elim
    · exact q.elim
end
def enumI (zs : List PyData) : List Itm := zs.zipIdx.map fun p => .many [.v (.int (p.2 : Nat)), .v p.1]
end Fw
namespace Fw
open PySem PySem.Spec PyProof.Rows L2
section
variable {prog : Program} {w : World} {A : Around} {E : Value → Shared → Prop} {s : Shared}
end
theorem RpA.at {K : PySem.W.Frag} {ι : Gh} {st : Sto} {H : Hp} {xs : List V} {zs : List PyData} (r : RpA (Frz ι st) H xs zs) {i : Nat} {z : PyData} (h : zs[i]? = some z) : ∃ x, xs[i]? = some x ∧ Rp (Frz ι st) H x z := r.get h
def miEnum (m : MA) : MI := fun env st => (m env st).bind fun ds s1 => match ds with
  | [d] => match seqI s1 d with
    | some (zs, w) => .ok (enumI zs, w) s1
    | none => .stuck
  | _ => .stuck
end Fw
namespace Fw
open PySem PySem.Spec PyProof.Rows L2
def Gh.hide (ι : Gh) (p : Addr) : Gh := ⟨ι.ad, p :: ι.hid⟩
def del (H : Hp) (p : Addr) : Hp := fun b => if b = p then none else H b
theorem del_ne {H : Hp} {p b : Addr} (h : b ≠ p) : del H p b = H b := by unfold del; rw [if_neg h]
theorem del_same {H : Hp} {p : Addr} : del H p p = none := by unfold del; rw [if_pos rfl]
theorem upd_del {H : Hp} {p : Addr} {u : HO} (h : H p = some u) : upd (del H p) p u = H := by
  funext b
  by_cases e : b = p
  · subst e; rw [upd_same, h]
  · rw [upd_ne e, del_ne e]
section
variable {K : PySem.W.Frag} {ι ι' : Gh} {st st' : Sto} {H H' : Hp} {p : Addr}
theorem frz_hide (f : Frz ι st q) (h : q ≠ p) : Frz (ι.hide p) st q := ⟨fun z => by
  rcases List.mem_cons.mp z with z | z
  · exact h z
  · exact f.1 z, f.2⟩
theorem frz_show (f : Frz (ι.hide p) st q) : Frz ι st q ∧ q ≠ p := ⟨⟨fun z => f.1 (List.mem_cons_of_mem _ z), f.2⟩, fun z => f.1 (by rw [z]; exact List.mem_cons_self)⟩
theorem mv_hide (R : SRel K ι st H) (hp : H p = none) {u : HO} : Mv ι st H (ι.hide p) st (upd H p u) :=
  ⟨fun q v e f => ⟨frz_hide f (ne_of_none e hp), by rw [upd_ne (ne_of_none e hp)]; exact e⟩, fun _ _ e => e, fun h hi => ⟨h, upd_ne (let ⟨_, e, _⟩ := R.live h hi (fun z => nomatch z); ne_of_none e hp)⟩⟩
theorem SRel.hide (R : SRel K ι st H) (hp : H p = none) {u : HO} (hd : HdO u) (hl : HF (upd H p u)) : SRel K (ι.hide p) st (upd H p u) := by
  have m := mv_hide (u := u) R hp
  refine ⟨R.len, fun n o a h hi => m.ro (fun v e => by rw [upd_ne (ne_of_none e hp)]; exact e) (R.obj n o a h hi), R.inj, R.low, fun a ha => ?_, hl⟩
  rcases List.mem_cons.mp ha with rfl | ha
  · exact ⟨⟨u, upd_same, hd⟩, (R.frz_new hp).2⟩
  · obtain ⟨⟨ys, e, d⟩, h2⟩ := R.hid a ha
    exact ⟨⟨ys, by rw [upd_ne (ne_of_none e hp)]; exact e, d⟩, h2⟩
theorem mv_show (R : SRel K (ι.hide p) st H) : Mv (ι.hide p) st H ι st (del H p) :=
  ⟨fun q v e f => let ⟨a, b⟩ := frz_show f; ⟨a, by rw [del_ne b]; exact e⟩, fun _ _ e => e, fun h hi => ⟨h, del_ne fun z => by subst z; exact nomatch (R.hid _ List.mem_cons_self).2 _ _ h hi⟩⟩
theorem SRel.unhide (R : SRel K (ι.hide p) st H) (hp : p ∉ ι.hid) : SRel K ι st (del H p) := by
  have m := mv_show R
  refine ⟨R.len, fun n o a h hi => ?_, R.inj, R.low, fun a ha => ?_, fun a u e => ?_⟩
  · by_cases hd : o = O.dead
    · subst hd; trivial
    · have na : a ≠ p := fun z => by subst z; exact hd ((R.hid a List.mem_cons_self).2 n o h hi)
      exact m.ro (fun v e => by rw [del_ne na]; exact e) (R.obj n o a h hi)
  · obtain ⟨⟨ys, e, d⟩, h2⟩ := R.hid a (List.mem_cons_of_mem _ ha)
    have na : a ≠ p := fun z => hp (by rw [← z]; exact ha)
    exact ⟨⟨ys, by rw [del_ne na]; exact e, d⟩, h2⟩
  · by_cases na : a = p
    · subst na
      rw [del_same] at e
      cases e
    · rw [del_ne na] at e
      exact R.hf a u e
theorem mv_hset {u : HO} (R : SRel K ι st H) (hp : p ∈ ι.hid) : Mv ι st H ι st (upd H p u) :=
  ⟨fun q v e f => ⟨f, by rw [upd_ne (fun z => f.1 (by rw [z]; exact hp))]; exact e⟩, fun _ _ e => e, fun h hi => ⟨h, upd_ne fun z => by subst z; exact nomatch (R.hid _ hp).2 _ _ h hi⟩⟩
theorem SRel.hset (R : SRel K ι st H) (hp : p ∈ ι.hid) {u : HO} (hd : HdO u) (hl : HF (upd H p u)) : SRel K ι st (upd H p u) := by
  have m := mv_hset (u := u) R hp
  refine ⟨R.len, fun n o a h hi => ?_, R.inj, R.low, fun a ha => ?_, hl⟩
  · by_cases hx : o = O.dead
    · subst hx; trivial
    · have na : a ≠ p := fun z => by subst z; exact hx ((R.hid a hp).2 n o h hi)
      exact m.ro (fun v e => by rw [upd_ne na]; exact e) (R.obj n o a h hi)
  · by_cases na : a = p
    · subst na
      exact ⟨⟨u, upd_same, hd⟩, (R.hid a hp).2⟩
    · obtain ⟨⟨ys, e, d⟩, h2⟩ := R.hid a ha
      exact ⟨⟨ys, by rw [upd_ne na]; exact e, d⟩, h2⟩
end
def Out.noX {α : Type} (x : Out α) : Out α := match x with
  | .exn _ _ => .stuck
  | o => o
@[simp] theorem noX_ok {α : Type} (a : α) (st : Sto) : (Out.ok a st).noX = .ok a st := rfl
theorem noX_post {α : Type} {x : Out α} {P : α → Sto → Prop} {E E' : Exn → Sto → Prop} (h : x.noX.post P E) : x.post P E' := by
  cases x with
  | ok a s => exact h
  | exn e s => exact h.elim
  | stuck => exact h.elim
open Classical in
noncomputable def lcL (w : Wt) (g : MG) (t : MT) (m : ME) (env0 : Ev) : List Itm → Sto → Out (List PyData)
  | [] => fun st => if chk w st then .ok [] st else .stuck
  | d :: r => fun st => if chk w st then (g d env0 st).noX.bind fun e1 s1 => (t e1 s1).noX.bind fun k s2 =>
      if k then (m e1 s2).noX.bind fun v s3 => match v with
        | .v z => (lcL w g t m env0 r s3).bind fun zs s4 => .ok (z :: zs) s4
        | _ => .stuck
      else lcL w g t m env0 r s2
    else .stuck
theorem noX_bind {α β : Type} {x : Out α} {f : α → Sto → Out β} (h : ∀ a s, (f a s).noX = f a s) : (x.noX.bind f).noX = x.noX.bind f := by
  cases x with
  | ok a s => exact h a s
  | exn e s => rfl
  | stuck => rfl
theorem lcL_noX (w : Wt) (g : MG) (t : MT) (m : ME) (env0 : Ev) : ∀ (ds : List Itm) (st : Sto), (lcL w g t m env0 ds st).noX = lcL w g t m env0 ds st
  | [], st => by
    unfold lcL
    split <;> rfl
  | d :: r, st => by
    unfold lcL
    split
    · refine noX_bind fun e1 s1 => noX_bind fun k s2 => ?_
      split
      · refine noX_bind fun v s3 => ?_
        split
        · rw [← lcL_noX w g t m env0 r s3]
          exact noX_bind fun _ _ => rfl
        · rfl
      · exact lcL_noX w g t m env0 r s2
    · rfl
def mYes : MT := fun _ st => .ok true st
noncomputable def mLc (mi : MI) (g : MG) (t : MT) (m : ME) (own : List Nat) : MF := fun env st => (mi env st).bind fun r s1 => lcL r.2 g t m (wipeE env own) r.1 s1
theorem Mv.trans {ι1 ι2 ι3 : Gh} {s1 s2 s3 : Sto} {H1 H2 H3 : Hp} (a : Mv ι1 s1 H1 ι2 s2 H2) (b : Mv ι2 s2 H2 ι3 s3 H3) : Mv ι1 s1 H1 ι3 s3 H3 :=
  ⟨fun q u e f => let ⟨f1, k1⟩ := a.keep q u e f; b.keep q u k1 f1, fun n x e => b.pre n x (a.pre n x e), fun h hi => let ⟨h1, e1⟩ := a.lk h hi; let ⟨h2, e2⟩ := b.lk h1 (a.pre _ _ hi); ⟨h2, e2.trans e1⟩⟩
theorem wipe_in {σ : L2.St} {i : Nat} : ∀ {vs : List Nat}, i ∈ vs → (L2.wipe σ vs)[i]? = σ[i]?.map fun _ => none
  | v :: vs, h => by
    show ((L2.wipe σ vs).set v none)[i]? = _
    by_cases e : v = i
    · subst e
      by_cases hl : v < σ.length
      · rw [List.getElem?_set_self (by rw [wipe_length]; exact hl), List.getElem?_eq_getElem hl]
        rfl
      · rw [List.getElem?_eq_none (by rw [List.length_set, wipe_length]; omega), List.getElem?_eq_none (by omega)]
        rfl
    · rw [List.getElem?_set_ne e]
      exact wipe_in ((List.mem_cons.mp h).resolve_left fun z => e z.symm)
theorem wipe_wipe (σ : L2.St) (vs : List Nat) : L2.wipe (L2.wipe σ vs) vs = L2.wipe σ vs := by
  refine List.ext_getElem? fun i => ?_
  by_cases h : i ∈ vs
  · rw [wipe_in h, wipe_in h]
    cases σ[i]? <;> rfl
  · rw [wipe_out h]
theorem lc_red {K : PySem.W.Frag} {W : XW} {mi : MI} {g : MG} {t : MT} {m : ME} {own : List Nat} {σ : L2.St} {H : Hp} {Q : VK} (q : TFo K W (mLc mi g t m own) σ H Q) :
    tLc (TIo K W mi) (TGo K WF g (some own)) (TTo K WF t) (TEo K WF m) own σ H (fun v H' => HF H' → Q v H') := by
  obtain ⟨ι, env, st, R, EV, p⟩ := q
  refine ⟨ι, env, st, R, EV, Out.post_mono (Out.post_bind p) (fun r s1 q ι1 H1 J R1 E1 hW L hL => ?_) fun _ _ q => q⟩
  obtain ⟨ds, w⟩ := r
  have EW := (EV.ext E1).wipe own
  -- what a turn finds: the list at L hidden, all else as it was
  let Inv (i k : Nat) (H : Hp) : Prop := k + i = ds.length ∧ ∃ (acc : List V) (zs : List PyData) (ι' : Gh) (st' : Sto), ι'.hid = ι1.hid ∧ H L = some (.lst acc) ∧ acc.length ≤ i ∧ SRel K (ι'.hide L) st' H ∧
    Mv ι1 s1 H1 (ι'.hide L) st' H ∧ (∀ a, a ∈ ι1.hid → H a = H1 a) ∧
    RpA (Frz (ι'.hide L) st') H acc zs ∧ (lcL w g t m (wipeE env own) (ds.drop i) st').post (fun ws s2 => PF1 K ι1 s1 H1 Q (zs ++ ws) s2) fun _ _ => False
  have nL : L ∉ ι1.hid := R1.hid_new hL
  refine ⟨Inv, ⟨ds.length, Nat.add_zero _, [], [], ι1, s1, rfl, upd_same, Nat.le_refl _, R1.hide hL trivial (hf_lst R1.hf (Nat.zero_le _)), mv_hide R1 hL, fun a ha => upd_ne fun z => nL (by rw [← z]; exact ha), .nil, ?_⟩, ?_⟩
  · have q' : (lcL w g t m (wipeE env own) ds s1).noX.post (PF1 K ι st H Q) (PX1 K W ι st H) := by rw [lcL_noX]; exact q
    have q2 : (lcL w g t m (wipeE env own) ds s1).post (PF1 K ι st H Q) fun _ _ => False := noX_post q'
    exact Out.post_mono q2 (fun zs s2 z => PF1.ext z E1) fun _ _ z => z
  rintro i k H2 ⟨hk, acc, zs, ι2, s2, eh, hA, hal, R2, mv, kz, rA, p2⟩
  by_cases hi : i < ds.length
  · right
    have hd : ds.drop i = ds[i] :: ds.drop (i + 1) := List.drop_eq_getElem_cons hi
    rw [hd] at p2
    unfold lcL at p2
    split at p2
    · rename_i hc
      obtain ⟨hgo, hy⟩ := hW.go i ds[i] (ι2.hide L) s2 H2 (List.getElem?_eq_getElem hi) R2 mv hc
      have hlen : acc.length < sizeLine := Nat.lt_of_le_of_lt hal (Nat.lt_of_lt_of_le hi hW.len)
      have fin : ∀ {ι6 : Gh} {s6 : Sto} {H6 : Hp}, SRel K ι6 s6 H6 → Ext (ι2.hide L) s2 H2 ι6 s6 H6 → ∃ ι' : Gh, ι6 = ι'.hide L ∧ ι'.hid = ι1.hid ∧ H6 L = some (.lst acc) ∧ ∀ a, a ∈ ι1.hid → H6 a = H1 a := by
        intro ι6 s6 H6 R6 E6
        refine ⟨⟨ι6.ad, ι1.hid⟩, ?_, rfl, ?_, fun a ha => ?_⟩
        · have e := E6.hid
          have e2 : (ι2.hide L).hid = L :: ι1.hid := by rw [← eh]; rfl
          rw [e2] at e
          cases ι6
          simp only at e
          rw [e]
          rfl
        · rw [E6.keepZ L List.mem_cons_self]; exact hA
        · rw [E6.keepZ a (List.mem_cons_of_mem _ (by rw [eh]; exact ha))]
          exact kz a ha
      refine ⟨hgo, Inv (i + 1) (k - 1), fun H' hN => ⟨k - 1, by omega, hN⟩, fun x H3 hyl => ?_⟩
      obtain ⟨R3, E3, ri⟩ := hy x H3 hyl
      refine ⟨ι2.hide L, wipeE env own, s2, ds[i], R3, (mv.ev EW).ext E3, ri, noX_post (Out.post_mono (Out.post_bind p2) (fun e1 s4 q4 => ?_) fun _ _ z => z)⟩
      refine fun ι4 H4 σ4 R4 E4 EV4 hw => ⟨(show L2.wipe σ4 own = _ from hw).trans (wipe_wipe σ own), ?_⟩
      have E34 := E3.trans E4
      refine ⟨ι4, e1, s4, R4, EV4, noX_post (Out.post_mono (Out.post_bind q4) (fun b s5 q5 ι5 H5 R5 E5 => ?_) fun _ _ z => z)⟩
      have E35 := E34.trans E5
      cases b with
      | false =>
        obtain ⟨ι', e6, e7, e8, e9⟩ := fin R5 E35
        subst e6
        refine iteF ⟨by omega, acc, zs, ι', s5, e7, e8, Nat.le_succ_of_le hal, R5, mv.trans E35.mv, e9, rA.ext E35, ?_⟩
        exact q5
      | true =>
        refine iteT ⟨ι5, e1, s5, R5, EV4.ext E5, noX_post (Out.post_mono (Out.post_bind q5) (fun v s6 q6 ι6 H6 y R6 E6 ry => ?_) fun _ _ z => z)⟩
        have E36 := E35.trans E6
        obtain ⟨ι', e6, e7, e8, e9⟩ := fin R6 E36
        subst e6
        split at q6
        · rename_i z
          have hm := mv_hset (u := .lst (acc ++ [y])) (ι := ι'.hide L) (st := s6) (H := H6) R6 List.mem_cons_self
          refine ⟨acc, e8, hlen, by omega, acc ++ [y], zs ++ [z], ι', s6, e7, upd_same, by rw [List.length_append]; exact Nat.succ_le_succ hal, R6.hset List.mem_cons_self trivial (hf_lst R6.hf (by rw [List.length_append]; exact hlen)), (mv.trans E36.mv).trans hm, fun a ha => ?_, hm.rpA ((rA.ext E36).append (.cons ry .nil)), ?_⟩
          · rw [upd_ne fun z => nL (by rw [← z]; exact ha)]
            exact e9 a ha
          · refine Out.post_mono (Out.post_bind q6) (fun ws s7 z7 => ?_) fun _ _ z => z
            show PF1 K ι1 s1 H1 Q (zs ++ [z] ++ ws) s7
            rw [List.append_assoc]
            exact z7
        · exact q6.elim
    · exact p2.elim
  · left
    have hd : ds.drop i = [] := List.drop_eq_nil_of_le (by omega)
    rw [hd] at p2
    unfold lcL at p2
    split at p2
    · rename_i hc
      have e : i = ds.length := by omega
      subst e
      refine ⟨hW.stop (ι2.hide L) s2 H2 R2 mv hc, fun hf => ?_⟩
      have p3 : PF1 K ι1 s1 H1 Q zs s2 := by
        have z : PF1 K ι1 s1 H1 Q (zs ++ []) s2 := p2
        rw [List.append_nil] at z
        exact z
      have sh := mv_show R2
      have E12 : Ext ι1 s1 H1 ι2 s2 (del H2 L) := by
        have m2 := mv.trans sh
        refine ⟨m2.keep, m2.pre, eh, fun a ha => ?_, m2.lk⟩
        rw [del_ne fun z => nL (by rw [← z]; exact ha)]
        exact kz a ha
      have z := p3 ι2 (del H2 L) acc L (R2.unhide (by rw [eh]; exact nL)) E12 (sh.rpA rA) del_same (by rw [upd_del hA]; exact R2.hf)
      rw [upd_del hA] at z
      exact z
    · exact p2.elim
end Fw
namespace Fw
open PySem PySem.Spec PyProof.Rows L2
theorem ts_nil {X : Cx} {W : XW} : PTs X [] (TTo X.K W mYes) := ⟨fun pins s σ H Q I q => by
  obtain ⟨ι, env, st, R, EV, p⟩ := q
  exact pts_nil.run pins s σ H Q I (p ι H R Ext.refl)⟩
theorem ts_one {X : Cx} {W : XW} {c : Expr} {t : MT} (h : PT X c (TTo X.K W t)) : PTs X [c] (TTo X.K W t) := pts_one h
theorem Gd.blk {X : Cx} (g : Gd X) {s : Shared} {H : Hp} {sc : Scope} {ce : Env} {fp : List Addr} : Gd (X.blk s H sc ce fp) := ⟨g.calm, g.gu, g.un⟩
section
variable {X : Cx} {W : XW} {elt tg iter : Expr} {ifs : List Expr} {scope : Scope} {own : List (Str × Nat)} {pos : Pos} {mi : MI} {g : MG} {t : MT} {m : ME}
theorem xf_lc (gd : Gd X) (hN : X.N.Nodup) (hi : PI X tg iter (TIo X.K W mi)) (ok : BlkOk X.N X.env.scope scope own)
    (hb : ∀ (s : Shared) (H : Hp) (C : Addr) (cl : List (Str × Addr)) (fp : List Addr), PG (X.blk s H scope (compEnvC scope cl C X.env) fp) tg (TGo X.K WF g (some (own.map (·.2)))) ∧ PTs (X.blk s H scope (compEnvC scope cl C X.env) fp) ifs (TTo X.K WF t) ∧ PE (X.blk s H scope (compEnvC scope cl C X.env) fp) elt (TEo X.K WF m))
    (hs : ∀ x, foldedSetIterable iter X.env x = pure x := by intro _; rfl) : PE X (.ListComp elt [⟨tg, iter, ifs, 0⟩] scope pos) (TFo X.K W (mLc mi g t m (own.map (·.2)))) :=
  pf_wrap (pe_lc gd.calm hN hi ok (fun s H C cl fp => (hb s H C cl fp).1) (fun s H C cl fp => (hb s H C cl fp).2.1) (fun s H C cl fp => (hb s H C cl fp).2.2) hs) fun σ H Q q => lc_red q
theorem asg_frz {K : PySem.W.Frag} {m : MF} {i : Nat} {D : Ends} {σ : L2.St} {H : Hp} (q : TSo K W (sAsg (mFrz m) (gNm i)) D σ H) : TFo K W m σ H fun v H' => D.nx (σ.set i (some v)) H' := by
  obtain ⟨ι, env, st, R, EV, p⟩ := q
  refine ⟨ι, env, st, R, EV, Out.post_mono (Out.post_bind (thn_post p)) (fun zs s1 q ι1 H1 xs a R1 E1 ra ha hf => ?_) fun _ _ q => q⟩
  have E2 := Ext.fresh R1 ha (u := .lst xs)
  exact q ι1 _ _ (R1.fresh ha hf) (E1.trans E2) (((EV.ext E1).ext E2).set (x := .ref a) (d := .v (.list zs)) (.lst upd_same (R1.frz_new ha) (ra.ext E2)) i)
theorem s_lcF {i : Nat} {y : Str} {py spos : Pos} (gd : Gd X) (hN : X.N.Nodup) (hy : X.N[i]? = some y) (hyl : X.env.scope.names.lookup y = some .local) (hsw : swapsWith (.ListComp elt [⟨tg, iter, ifs, 0⟩] scope pos) (some (.Name y py)) spos.line X.env = pure true)
    (hi : PI X tg iter (TIo X.K W mi)) (ok : BlkOk X.N X.env.scope scope own)
    (hb : ∀ (s : Shared) (H : Hp) (C : Addr) (cl : List (Str × Addr)) (fp : List Addr), PG (X.blk s H scope (compEnvC scope cl C X.env) fp) tg (TGo X.K WF g (some (own.map (·.2)))) ∧ PTs (X.blk s H scope (compEnvC scope cl C X.env) fp) ifs (TTo X.K WF t) ∧ PE (X.blk s H scope (compEnvC scope cl C X.env) fp) elt (TEo X.K WF m))
    (hs : ∀ x, foldedSetIterable iter X.env x = pure x := by intro _; rfl) : PS X (.Assign [.Name y py] (.ListComp elt [⟨tg, iter, ifs, 0⟩] scope pos) spos) (TSo X.K W (sAsg (mFrz (mLc mi g t m (own.map (·.2)))) (gNm i))) :=
  ps_wrap (ps_setLc gd.calm hN hy hyl hsw hi ok (fun s H C cl fp => (hb s H C cl fp).1) (fun s H C cl fp => (hb s H C cl fp).2.1) (fun s H C cl fp => (hb s H C cl fp).2.2) hs) fun D σ H q => lc_red (asg_frz q)
end
structure RmG (k : Nat) (A : Around) : Prop where
  rm : Room k A
  gu : A.guards = some []
theorem RmG.mono {j k : Nat} {A : Around} (r : RmG k A) (h : j ≤ k) : RmG j A := ⟨r.rm.mono h, r.gu⟩
theorem RmG.deeper {k : Nat} {A : Around} (r : RmG (k + 1) A) (env : Env) : RmG k (A.deeper env) := ⟨r.rm.deeper env, r.gu⟩
theorem RmG.gd {k : Nat} {X : Cx} (r : RmG k X.A) (h : X.calm = true) : Gd X := ⟨h, r.gu, by have := r.rm.un; omega⟩
structure FnG (P : Program) (w : World) (K : PySem.W.Frag) (mg : Str → Option Value) (base : Heap) (CX : CXT) (k : Nat) (f : Addr) (fd : FuncData) (ps : List Str) (sp : Sp) : Prop where
  len : ∀ vs H Q E, sp vs H Q E → vs.length = ps.length
  run : ∀ (A : Around) (outer : List Env) (s : Shared) (H : Hp) (args : Args) (us : List Value) (vs : List V) (Q : VK) (E : XK), RmG k A → Env0 P w K mg base A outer s H → BindsTo s fd args (ps.zip us) → Vals vs us → sp vs H Q E →
    codeAny (model P w) A (.call (.ref f) args) (CR CX outer P w H s Q E) s
section
variable {P : Program} {w : World} {K : PySem.W.Frag} {mg : Str → Option Value} {base : Heap} {CX : CXT} {k : Nat} {f : Addr} {fd : FuncData} {ps : List Str} {sp : Sp}
theorem FnG.mono {j : Nat} (F : FnG P w K mg base CX j f fd ps sp) (h : j ≤ k) : FnG P w K mg base CX k f fd ps sp := ⟨F.len, fun A outer s H args us vs Q E hr => F.run A outer s H args us vs Q E (hr.mono h)⟩
theorem fnG_of {x qual : Str} {params : Arguments} {body : List Stmt} {scope : Scope} {dvs : List V} {kws : List (Str × V)} {N : List Str} (F : FunD K x qual params body scope dvs kws f fd) (S : FnScope N ps scope)
    (len : ∀ vs H Q E, sp vs H Q E → vs.length = ps.length)
    (hbody : ∀ (cdv : Value) (A : Around) (outer : List Env) (s : Shared) (H : Hp) (vs : List V) (Q : VK) (E : XK), RmG k (A.deeper (envOfC qual scope s.heap.objs.size f cdv)) → sp vs H Q E →
      ∃ t, PSs (cxOf CX P w K mg base N qual scope f cdv A outer s H E) body t ∧ t { nx := fun _ H' => Q .non H', rt := Q } (start N vs) H) : FnG P w K mg base CX (k + 1) f fd ps sp := by
  obtain ⟨oc, od, dV, kV, doc, pm, an, cdv, ct, osl, rfl, lk, hcd, _, _⟩ := F.ex
  refine ⟨len, fun A outer s H args us vs Q E hr e0 hb r hsp => ?_⟩
  have KX : K.In s.heap := e0.mod.kin.keeps fun b o e => (e0.bs b o e).1
  have nl : s.heap.NoLimit := e0.mod.nolimit.keeps fun b o e => (e0.bs b o e).1
  have kinds : ∀ y ∈ ps.zip us, scope.names.lookup y.1 = some .local ∨ (scope.names.lookup y.1 = some .cell ∧ ((cellsFrom (s.heap.objs.size + 1) scope.names []).lookup y.1).isSome = true) := by
    rintro ⟨n, v⟩ hy
    exact (S.par n (List.of_mem_zip hy).1).imp id fun q => ⟨q, PySem.W.cellsFrom_some _ _ _ (.inl q)⟩
  refine codeAny_call_function hr.rm.depth (KX _ _ lk) rfl S.co S.gen rfl (PySem.W.codeRec_of KX hcd) (hb _ _ _ _ (wpAny_newFunctionEnv_cells S.kind kinds ?_))
  rintro env rfl s1 x
  refine ⟨nl.keeps x.toInCall.keep, codeAny_func ?_⟩
  obtain ⟨t, ht, hq⟩ := hbody cdv A outer s H vs Q E (hr.deeper _) hsp
  refine wpAny_mono (ht.run [] s1 (start N vs) H _ (inv_start S hr.rm.hd e0 (len _ _ _ _ hsp) r x) hq) (fun fl s' hs => ?_) fun _ _ z => z
  cases fl with
  | ret u =>
    obtain ⟨v, _, H', J, rv, q⟩ := hs
    exact ⟨v, H', J.os, J.bare, J.base, J.hok, rv, q⟩
  | next =>
    obtain ⟨_, H', J, q⟩ := hs
    exact ⟨V.non, H', J.os, J.bare, J.base, J.hok, (rfl : RelV .non Value.none), q⟩
  | brk =>
    obtain ⟨_, _, _, q⟩ := hs
    exact q.elim
  | cont =>
    obtain ⟨_, _, _, q⟩ := hs
    exact q.elim
abbrev FF := List D → Sto → Out D
def fin1 (n : Nat) : SO → Out D
  | .nx _ s => .ok (.v .none) (s.take n)
  | .rt d s => if d.low n then .ok d (s.take n) else .stuck
  | .exn e s => .exn e s
  | _ => .stuck
def fin2 : SO → Out D
  | .nx _ s => .ok (.v .none) s
  | .rt d s => .ok d s
  | .exn e s => .exn e s
  | _ => .stuck
def envE (nN : Nat) (ds : List D) : Ev := ds.map some ++ List.replicate (nN - ds.length) none
def fnT (nN : Nat) (m : MS) : FF := fun ds st => fin1 st.length (m (envE nN ds) st)
def fnK (nN : Nat) (m : MS) : FF := fun ds st => fin2 (m (envE nN ds) st)
def spG (K : PySem.W.Frag) (V : XK → XW) (n : Nat) (f : FF) : Sp := fun vs H Q E => ∃ ι st ds, SRel K ι st H ∧ RDs K ι st H vs ds ∧ ds.length = n ∧ (f ds st).post (PO1 K ι st H Q) (PX1 K (V E) ι st H)
theorem RDs.get {ι : Gh} {st : Sto} {H : Hp} : ∀ {xs : List V} {ds : List D} {i : Nat} {d : D}, RDs K ι st H xs ds → ds[i]? = some d → ∃ x, xs[i]? = some x ∧ RD K ι st H x d
  | _, _, _, _, .nil, e => by simp at e
  | _, _, 0, _, .cons r _, e => by simp at e; subst e; exact ⟨_, rfl, r⟩
  | _, _, i + 1, d, .cons _ r, e => by
    obtain ⟨x, h1, h2⟩ := RDs.get (i := i) (d := d) r (by simpa using e)
    exact ⟨x, by simpa using h1, h2⟩
theorem evR_start {ι : Gh} {st : Sto} {H : Hp} {N : List Str} : ∀ {vs : List V} {ds : List D}, RDs K ι st H vs ds → EvR K ι st H (L2.start N vs) (envE N.length ds) := by
  intro vs ds r
  have hl := RDs.length r
  refine ⟨by unfold L2.start envE; rw [List.length_append, List.length_append, List.length_map, List.length_map, List.length_replicate, List.length_replicate, hl], fun i d q => ?_⟩
  unfold envE at q
  by_cases h : i < ds.length
  · rw [List.getElem?_append_left (by rw [List.length_map]; exact h), List.getElem?_map, List.getElem?_eq_getElem h] at q
    cases q
    obtain ⟨x, h1, h2⟩ := RDs.get r (List.getElem?_eq_getElem h)
    refine ⟨x, ?_, h2⟩
    unfold L2.start
    rw [List.getElem?_append_left (by rw [List.length_map, hl]; exact h), List.getElem?_map, h1]
    rfl
  · rw [List.getElem?_append_right (by rw [List.length_map]; omega), List.getElem?_replicate] at q
    split at q <;> cases q
theorem RDs.append {ι : Gh} {st : Sto} {H : Hp} : ∀ {xs ys : List V} {ds es : List D}, RDs K ι st H xs ds → RDs K ι st H ys es → RDs K ι st H (xs ++ ys) (ds ++ es)
  | _, _, _, _, .nil, s => s
  | _, _, _, _, .cons r t, s => .cons r (RDs.append t s)
theorem ext_take {ι ι' : Gh} {st st' : Sto} {H H' : Hp} (R : SRel K ι st H) (E : Ext ι st H ι' st' H') : Ext ι st H (ι'.tk st.length) (st'.take st.length) H' := by
  refine ⟨fun q u e f => ?_, fun n a h => ?_, E.hid, E.keepZ, fun {n t kvs a} h hi => let ⟨h1, e1⟩ := E.lk h hi; ⟨by rw [List.getElem?_take, if_pos (List.getElem?_eq_some_iff.mp h).1]; exact h1, e1⟩⟩
  · obtain ⟨f1, k1⟩ := E.keep q u e f
    exact ⟨frz_take f1, k1⟩
  · have hn : n < st.length := by
      rw [← R.len]
      by_cases z : n < ι.ad.length
      · exact z
      · rw [List.getElem?_eq_none (by omega)] at h
        cases h
    show (ι'.ad.take st.length)[n]? = _
    rw [List.getElem?_take, if_pos hn]
    exact E.pre n a h
variable {x qual : Str} {params : Arguments} {body : List Stmt} {scope : Scope} {dvs : List V} {kws : List (Str × V)} {N : List Str} {V : XK → XW} {m : MS}
theorem spG_len {n : Nat} {f : FF} {vs : List L2.V} {H : Hp} {Q : VK} {E : XK} (h : spG K V n f vs H Q E) : vs.length = n := by
  obtain ⟨ι, st, ds, R, r, hl, _⟩ := h
  rw [RDs.length r, hl]
theorem fnG_T (F : FunD K x qual params body scope dvs kws f fd) (S : FnScope N ps scope)
    (hb : ∀ (cdv : Value) (A : Around) (outer : List Env) (s : Shared) (H : Hp) (E : XK), RmG k (A.deeper (envOfC qual scope s.heap.objs.size f cdv)) → PSs (cxOf CX P w K mg base N qual scope f cdv A outer s H E) body (TSo K (V E) m)) :
    FnG P w K mg base CX (k + 1) f fd ps (spG K V ps.length (fnT N.length m)) := by
  refine fnG_of F S (fun _ _ _ _ h => spG_len h) fun cdv A outer s H vs Q E hr hsp => ⟨TSo K (V E) m, hb cdv A outer s H E hr, ?_⟩
  obtain ⟨ι, st, ds, R, r, hl, p⟩ := hsp
  refine ⟨ι, envE N.length ds, st, R, evR_start r, ?_⟩
  unfold fnT at p
  cases e : m (envE N.length ds) st with
  | nx e1 s1 =>
    rw [e] at p
    exact fun ι1 H1 σ1 R1 E1 _ => p _ H1 .non (R1.take _) (ext_take R E1) .non
  | rt d s1 =>
    rw [e] at p
    have e2 : fin1 st.length (.rt d s1) = if d.low st.length then .ok d (s1.take st.length) else .stuck := rfl
    rw [e2] at p
    by_cases h : d.low st.length = true
    · rw [if_pos h] at p
      exact fun ι1 H1 x1 R1 E1 r1 => p _ H1 x1 (R1.take _) (ext_take R E1) (r1.take h)
    · rw [if_neg h] at p
      exact p.elim
  | bk e1 s1 => rw [e] at p; exact p.elim
  | ct e1 s1 => rw [e] at p; exact p.elim
  | exn x1 s1 => rw [e] at p; exact p
  | stuck => rw [e] at p; exact p.elim
theorem fnG_K (F : FunD K x qual params body scope dvs kws f fd) (S : FnScope N ps scope)
    (hb : ∀ (cdv : Value) (A : Around) (outer : List Env) (s : Shared) (H : Hp) (E : XK), RmG k (A.deeper (envOfC qual scope s.heap.objs.size f cdv)) → PSs (cxOf CX P w K mg base N qual scope f cdv A outer s H E) body (TSo K (V E) m)) :
    FnG P w K mg base CX (k + 1) f fd ps (spG K V ps.length (fnK N.length m)) := by
  refine fnG_of F S (fun _ _ _ _ h => spG_len h) fun cdv A outer s H vs Q E hr hsp => ⟨TSo K (V E) m, hb cdv A outer s H E hr, ?_⟩
  obtain ⟨ι, st, ds, R, r, hl, p⟩ := hsp
  refine ⟨ι, envE N.length ds, st, R, evR_start r, ?_⟩
  unfold fnK at p
  cases e : m (envE N.length ds) st with
  | nx e1 s1 =>
    rw [e] at p
    exact fun ι1 H1 σ1 R1 E1 _ => p _ H1 .non R1 E1 .non
  | rt d s1 => rw [e] at p; exact p
  | bk e1 s1 => rw [e] at p; exact p.elim
  | ct e1 s1 => rw [e] at p; exact p.elim
  | exn x1 s1 => rw [e] at p; exact p
  | stuck => rw [e] at p; exact p.elim
end
structure MLen (ma : MA) (n : Nat) : Prop where
  of : ∀ env st ds s1, ma env st = .ok ds s1 → ds.length = n
theorem MLen.n : MLen mNil 0 := ⟨fun env st ds s1 e => by cases e; rfl⟩
theorem MLen.c {m : ME} {ma : MA} {n : Nat} (h : MLen ma n) : MLen (mCons m ma) (n + 1) := ⟨fun env st ds s1 e => by
  unfold mCons at e
  cases e1 : m env st with
  | ok d s2 =>
    rw [e1, bind_ok] at e
    cases e2 : ma env s2 with
    | ok us s3 =>
      rw [e2, bind_ok] at e
      cases e
      rw [List.length_cons, h.of _ _ _ _ e2]
    | _ => rw [e2] at e; cases e
  | _ => rw [e1] at e; cases e⟩
def mCall (f : FF) (ma : MA) (xs : List D := []) : ME := fun env st => (ma env st).bind fun ds s1 => f (ds ++ xs) s1
section
variable {X : Cx} {CX : CXT} {k n : Nat} {f : Addr} {fd : FuncData} {ps : List Str} {dvs : List L2.V} {ds : List Value} {xs : List D} {E : XK} {x : Str} {p pos : Pos} {e : Expr} {es : List Expr} {V : XK → XW} {ff : FF} {ma : MA}
theorem run_fnG {sp : Sp} {pins : List (Addr × Obj)} {σ : L2.St} {H : Hp} {s : Shared} {Q : VK} {us : List Value} {vs : List L2.V} (F : FnG X.prog X.w X.K X.mg X.base CX k f fd ps sp) (hr : RmG k X.A) (hb : Binds X.K fd ps ds) (hd : Vals dvs ds) (hx : Passes CX X E)
    (I : Inv X pins σ H s) (r : Vals vs us) (h : sp (vs ++ dvs) H Q E) : wpAny (model X.prog X.w) X.A (call (.ref f) us) (EP X pins σ Q) X.xe s := by
  have r2 := r.append hd
  have hl : (us ++ ds).length = ps.length := by rw [← r2.length]; exact F.len _ _ _ _ h
  refine wpAny_call (codeAny_mono (F.run X.A X.stack s H ⟨us, []⟩ _ _ Q E hr I.env0 (hb s us I.kIn hl) r2 h) fun o s' hq => ?_)
  cases o with
  | error e => exact hx pins σ H s e s' I hq
  | ok fl =>
    cases fl with
    | ret u => exact I.after hq
    | next => exact hq.elim
    | brk => exact hq.elim
    | cont => exact hq.elim
theorem spG_call {K : PySem.W.Frag} {σ : L2.St} {H : Hp} {Q : VK} (hxs : ∀ ι st H, RDs K ι st H dvs xs) (q : TEo K (V E) (mCall ff ma xs) σ H Q) {j : Nat} (hn : MLen ma j) (hj : j + xs.length = n) :
    TAo K (V E) ma σ H fun vs H1 => spG K V n ff (vs ++ dvs) H1 Q E := by
  obtain ⟨ι, env, st, R, EV, p⟩ := q
  unfold mCall at p
  refine ⟨ι, env, st, R, EV, ?_⟩
  cases em : ma env st with
  | ok d s1 =>
    rw [em, bind_ok] at p
    exact fun ι1 H1 vs R1 E1 r1 => ⟨ι1, s1, d ++ xs, R1, RDs.append r1 (hxs _ _ _), by rw [List.length_append, hn.of env st d s1 em]; exact hj, Out.post_mono p (fun _ _ z => z.ext E1) fun _ _ z => z.ext E1⟩
  | exn e s1 => rw [em] at p; exact p
  | stuck => rw [em] at p; exact p.elim
theorem x_call (F : FnG X.prog X.w X.K X.mg X.base CX k f fd ps (spG X.K V n ff)) (hr : RmG k X.A) (hg : Gl X x) (hm : X.mg x = some (.ref f)) (hk : PySem.W.keepIn X.K (.ref f) = true) (hb : Binds X.K fd ps ds) (hd : Vals dvs ds) (hx : Passes CX X E)
    (hxs : ∀ ι st H, RDs X.K ι st H dvs xs) (ha : PA X (e :: es) (TAo X.K (V E) ma)) {j : Nat} (hn : MLen ma j) (hj : j + xs.length = n)
    (hdb : (x == ("__debug__" : Str)) = false := by decide) (he : starEach (e :: es) X.env = (false, eval e X.env) :: starEach es X.env := by rfl) (hpl : (backTo pos (starEach es X.env)).any (·.1) = false := by rfl) :
    PE X (.Call (.Name x p) (e :: es) [] pos) (TEo X.K (V E) (mCall ff ma xs)) := by
  refine ⟨fun pins s σ H Q I h => ?_⟩
  refine wpAny_Call_Name_kw (ld_glob I hg hm ?_ hdb)
  refine PySem.W.callWith_K (h₀ := X.base) I.ok.mod.kin hk (thn (ha.run pos pins s σ H _ I (spG_call hxs h hn hj)) fun us s1 ⟨vs, H1, I1, r, q⟩ => ⟨I1.kIn, ?_⟩) he hpl
  exact run_fnG F hr hb hd hx I1 r q
end
abbrev V0 : XK → XW := fun _ => WF
theorem law_callG {P : Program} {w : World} {K : PySem.W.Frag} {mg mb : Str → Option Value} {k : Nat} {fa a : Addr} {fd : FuncData} {x : Str} {ff : FF} {s₁ : Shared} {vs : List Value} {ns : List Int}
    (KX : K.In s₁.heap) (hns : s₁.heap.Ns mainGlobals mg) (hb : s₁.heap.Ns builtinsNs mb) (hbb : ∀ x : Str, x ≠ "__name__" → mb x = bootBuiltins x) (hlim : s₁.heap.NoLimit) (hg : s₁.gens = #[])
    (ha : s₁.heap.get? a = some { cls := .type "list", data := .seq vs.toArray }) (hi : IntsAre vs ns) (hl : ns.length ≤ sizeLine) (hr : RmG k callerA)
    (F : ∀ base : Heap, K.In base → base.Ns mainGlobals mg → FnG P w K mg base CX0 k fa fd [x] (spG K V0 1 ff)) (hbind : ∀ (s : Shared) (u : Value), BindsTo s fd ⟨[u], []⟩ [(x, u)])
    (hsp : ∃ st, ff [.scr ns] [] = .ok (.v (.bool true)) st) :
    codeAny (model P w) callerA (.call (.ref fa) ⟨[.ref a], []⟩) (fun r s' => r = .ok (.ret (.bool true)) ∧ OldK s₁.heap s'.heap ∧ s'.os = s₁.os ∧ AllBare s'.gens) s₁ := by
  have rv := vals_ints hi
  have lenV := hi.length
  -- from what is tracked: nothing, or the script alone, frozen
  have key : ∀ H : Hp, (∀ b, H b = none ∨ (b = a ∧ ∃ o xs, H b = some (.frz o (.lst xs)))) → (KL K a (ns.map V.int) ∨ ∃ o, H a = some (.frz o (.lst (ns.map V.int)))) → HOk P w H s₁.heap → (H a ≠ none → K.lookup a = none) →
      codeAny (model P w) callerA (.call (.ref fa) ⟨[.ref a], []⟩) (fun r s' => r = .ok (.ret (.bool true)) ∧ OldK s₁.heap s'.heap ∧ s'.os = s₁.os ∧ AllBare s'.gens) s₁ := by
    intro H hO hS hok hK
    have at_a : ∀ {b : Addr} {u : HO}, H b = some u → b = a := fun {b u} e => by
      rcases hO b with z | ⟨z, _⟩
      · rw [z] at e; cases e
      · exact z
    have inB : ∀ {b : Addr} {o : Obj}, s₁.heap.get? b = some o → H b = none → (hidT s₁.heap H).get? b = some o := fun e z => hidT_get e z
    have nsB : ∀ {b : Addr} {m : Str → Option Value}, s₁.heap.Ns b m → (hidT s₁.heap H).Ns b m := by
      rintro b m ⟨o, es, ep, e, d, r⟩
      refine ⟨o, es, ep, inB e ?_, d, r⟩
      cases q : H b with
      | none => rfl
      | some u =>
        have z := at_a q
        subst z
        rw [ha] at e
        cases e
        cases d
    have kB : K.In (hidT s₁.heap H) := fun b o e => inB (KX b o e) (by
      cases q : H b with
      | none => rfl
      | some u =>
        have z := at_a q
        subst z
        rw [hK (by rw [q]; exact Option.some_ne_none u)] at e
        cases e)
    have e0 : Env0 P w K mg (hidT s₁.heap H) callerA [] s₁ H := by
      refine ⟨rfl, ⟨kB, nsB hns, ⟨mb, nsB hb, hbb⟩, ?_⟩, fun b o e => of_hidT e, Nat.le_of_eq (hidT_size _ _), trivial, fun b z => ?_, hok, .of_eq hg⟩
      · obtain ⟨mc, h1, h2⟩ := hlim
        exact ⟨mc, nsB h1, h2⟩
      · cases z
    have R0 : SRel K ⟨[], []⟩ [] H := ⟨rfl, fun n o b h => by simp at h, fun m n b o u h => by simp at h, fun n o h => by simp at h, fun b h => by simp at h, fun b u e => sz_of (hok b u e)⟩
    have r0 : RD K ⟨[], []⟩ [] H (.ref a) (.scr ns) := ⟨a, rfl, hS.imp id fun ⟨o, z⟩ => ⟨o, z, by simp, fun n o h => by simp at h⟩⟩
    have sp : spG K V0 1 ff [.ref a] H (fun v _ => v = .bl true) E0 := by
      obtain ⟨st, e⟩ := hsp
      refine ⟨⟨[], []⟩, [], [.scr ns], R0, .cons r0 .nil, rfl, ?_⟩
      rw [e]
      intro ι1 H1 v R1 E1 rv
      have rv : Rp (Frz ι1 st) H1 v (.bool true) := rv
      cases rv
      rfl
    refine codeAny_mono ((F _ kB (nsB hns)).run callerA [] s₁ H ⟨[.ref a], []⟩ [.ref a] [.ref a] _ _ hr e0 (hbind s₁ (.ref a)) (.cons rfl .nil) sp) fun r s' h => ?_
    cases r with
    | error e => exact h.elim
    | ok fl =>
      cases fl with
      | next => exact h.elim
      | brk => exact h.elim
      | cont => exact h.elim
      | ret u =>
        obtain ⟨v, H', os, bare, un, hok', r', q⟩ := h
        have q' : v = .bl true := q
        subst q'
        obtain rfl : u = Value.bool true := r'
        refine ⟨rfl, OldK.of_keep fun b o e => ?_, os, bare⟩
        rcases hO b with z | ⟨_, ob, xs, z⟩
        · exact un.keep b o e z (by intro y; cases y) (by intro y; cases y)
        · have z2 := un.frzs b ob _ z
          have e1 := (hok b _ z).1
          rw [e] at e1
          cases e1
          exact (hok' b _ z2).1
  cases hk : K.lookup a with
  | some o =>
    have e := KX a o hk
    rw [ha] at e
    cases e
    exact key (fun _ => none) (fun _ => .inl rfl) (.inl ⟨_, vs.toArray, _, hk, rfl, rfl, rfl, by rw [List.size_toArray, lenV]; exact hl, by simpa using rv⟩) (fun b u z => nomatch z) (fun z => absurd rfl z)
  | none =>
    let ob : Obj := { cls := .type "list", data := .seq vs.toArray }
    have same : (fun b => if b = a then some (HO.frz ob (.lst (ns.map V.int))) else none) a = some (HO.frz ob (.lst (ns.map V.int))) := if_pos rfl
    refine key (fun b => if b = a then some (.frz ob (.lst (ns.map V.int))) else none) (fun b => ?_) (.inr ⟨ob, same⟩) (fun b u z => ?_) fun _ => hk
    · by_cases e : b = a
      · exact .inr ⟨e, ob, ns.map V.int, if_pos e⟩
      · exact .inl (if_neg e)
    · by_cases e : b = a
      · subst e
        cases same.symm.trans z
        exact ⟨ha, by rw [List.length_map]; exact hl, vs, _, rv, ha⟩
      · cases (if_neg e : (if b = a then some (HO.frz ob (.lst (ns.map V.int))) else none) = none).symm.trans z
end Fw
namespace Fw
open PySem PySem.Spec PyProof.Rows L2
theorem walkG {l : PySem.W.OpenLaw} {n k : Nat} {q : Program} {loose : List Str} {XP : (Str → Option Value) → Heap → Prop} {YP : World → Heap → Prop} {d : DefRec} {x : Str} {ff : FF}
    (hn : l.most = some n) (hn2 : n ≤ sizeLine) (hdf : d.params.defaults = []) (hr : RmG k callerA)
    (F : ∀ (w : World) (mg : Str → Option Value) (fa : Addr) (h : Heap), YP w h → h.Ns mainGlobals mg → mg d.name = some (.ref fa) →
      ∃ (K : PySem.W.Frag) (fd : FuncData), K.In h ∧ (∀ (s : Shared) (u : Value), BindsTo s fd ⟨[u], []⟩ [(x, u)]) ∧ ∀ base : Heap, K.In base → base.Ns mainGlobals mg → FnG l.prog w K mg base CX0 k fa fd [x] (spG K V0 1 ff))
    (law : ∀ ns : List Int, ns.length ≤ n → ∃ st, ff [.scr ns] [] = .ok (.v (.bool true)) st) :
    PySem.W.WalkO q loose XP YP l.row.toRowW d [] (fun f vs => PySem.call f vs) := by
  refine Att.attach_call hn hdf fun w _ s₁ mg mb fa _ _ _ _ a vs ns G Y _ _ _ hmg ha hi hlen hg => ?_
  obtain ⟨K, fd, KX, hb, hF⟩ := F w mg fa _ Y G.T.g hmg
  exact law_callG KX G.T.g G.T.b G.T.builtins G.T.nolimit hg ha hi (Nat.le_trans hlen hn2) hr hF hb (law ns hlen)
theorem rm0 {k : Nat} (h : k ≤ 60 := by decide) : RmG k callerA := by
  have z : RmG 60 callerA := ⟨⟨rfl, by decide, by decide⟩, rfl⟩
  exact z.mono h
end Fw
namespace Fw
open PySem PySem.Spec PyProof.Rows L2
def mPrs : List (ME × ME) → Ev → Sto → Out (List (D × D))
  | [], _, st => .ok [] st
  | (a, b) :: r, env, st => (a env st).bind fun x s1 => (b env s1).bind fun y s2 => (mPrs r env s2).bind fun ps s3 => .ok ((x, y) :: ps) s3
def keysOf : List (D × D) → Option (List (PyData × D))
  | [] => some []
  | (.v kd, y) :: r => match key1 kd, keysOf r with
    | some _, some kvs => some ((kd, y) :: kvs)
    | _, _ => none
  | _ => none
def putAll (kvs more : List (PyData × D)) : List (PyData × D) := more.foldl (fun acc p => putD acc p.1 p.2) kvs
def mDisp (prs : List (ME × ME)) : ME := fun env st => (mPrs prs env st).noX.bind fun ps s1 => match keysOf ps with
  | some kvs => if kvs.length ≤ 15 ∧ (kvs.all fun p => p.2.low s1.length) = true then .ok (.ref s1.length) (s1 ++ [.dct false (putAll [] kvs)]) else .stuck
  | none => .stuck
section
variable {K : PySem.W.Frag} {W : XW} {ι : Gh} {st : Sto} {H : Hp}
theorem psh_at (R : SRel K ι st H) {p : Addr} : (ι.psh p).ad[st.length]? = some p := by
  show (ι.ad ++ [p])[st.length]? = _
  rw [← R.len, List.getElem?_append_right (Nat.le_refl _), Nat.sub_self]
  rfl
theorem hf_dK {p : Addr} {xs : List (Key × L2.V)} (h : HF H) (hl : xs.length ≤ sizeLine) : HF (upd H p (.dK xs)) := fun a u e => by
  by_cases z : a = p
  · subst z
    rw [upd_same] at e
    cases e
    exact hl
  · rw [upd_ne z] at e
    exact h a u e
def PV (K : PySem.W.Frag) (ι : Gh) (st : Sto) (H : Hp) : List (L2.V × L2.V) → List (D × D) → Prop := Paired fun x p => RD K ι st H x.1 p.1 ∧ RD K ι st H x.2 p.2
def PQ1 (K : PySem.W.Frag) (ι : Gh) (st : Sto) (H : Hp) (Q : List (L2.V × L2.V) → Hp → Prop) (ps : List (D × D)) (st' : Sto) : Prop := ∀ ι' H' xs, SRel K ι' st' H' → Ext ι st H ι' st' H' → PV K ι' st' H' xs ps → Q xs H'
theorem prs_red : ∀ (prs : List (ME × ME)) {ι : Gh} {env : Ev} {st : Sto} {σ : L2.St} {H : Hp} {Q : List (L2.V × L2.V) → Hp → Prop}, SRel K ι st H → EvR K ι st H σ env → (mPrs prs env st).post (PQ1 K ι st H Q) (fun _ _ => False) →
    tPairs (prs.map fun p => (TEo K W p.1, TEo K W p.2)) σ H Q
  | [], ι, env, st, σ, H, Q, R, EV, p => p ι H [] R Ext.refl .nil
  | (a, b) :: r, ι, env, st, σ, H, Q, R, EV, p => by
    refine ⟨ι, env, st, R, EV, Out.post_mono (Out.post_bind p) (fun x s1 q ι1 H1 u R1 E1 ra => ?_) fun _ _ q => q.elim⟩
    refine ⟨ι1, env, s1, R1, EV.ext E1, Out.post_mono (Out.post_bind q) (fun y s2 q2 ι2 H2 w R2 E2 rb => ?_) fun _ _ q => q.elim⟩
    refine prs_red r R2 ((EV.ext E1).ext E2) (Out.post_mono (Out.post_bind q2) (fun ps s3 q3 ι3 H3 xs R3 E3 rp => ?_) fun _ _ q => q)
    exact q3 ι3 H3 ((u, w) :: xs) R3 ((E1.trans E2).trans E3) (.cons ⟨(ra.ext E2).ext E3, rb.ext E3⟩ rp)
theorem keysOf_at : ∀ {ps : List (D × D)} {kvs : List (PyData × D)} {xs : List (L2.V × L2.V)}, keysOf ps = some kvs → PV K ι st H xs ps → ∃ us : List (Key × L2.V), xs = us.map (fun kv => (kV kv.1, kv.2)) ∧ RK K ι st H kvs us ∧ ∀ p ∈ kvs, ∃ k, key1 p.1 = some k
  | [], kvs, _, e, .nil => by cases e; exact ⟨[], rfl, .nil, fun p hp => nomatch hp⟩
  | (.v kd, y) :: r, kvs, _, e, .cons (a := x) h t => by
    unfold keysOf at e
    split at e
    · rename_i k l h1 h2
      cases e
      obtain ⟨us, rfl, h3, h4⟩ := keysOf_at h2 t
      have rc : Rp (Frz ι st) H x.1 kd := h.1
      have hk := kD_of h1
      rw [hk] at rc
      have ew := kV_of rc
      refine ⟨(k, x.2) :: us, ?_, .cons ⟨hk, h.2⟩ h3, fun p hp => ?_⟩
      · rw [List.map_cons, ← ew]
      · rcases List.mem_cons.mp hp with rfl | hp
        · exact ⟨k, h1⟩
        · exact h4 p hp
    · cases e
theorem rk_putAll : ∀ {kvs acc : List (PyData × D)} {us bs : List (Key × L2.V)}, RK K ι st H kvs us → (∀ p ∈ kvs, ∃ k, key1 p.1 = some k) → RK K ι st H acc bs → RK K ι st H (putAll acc kvs) (mergeK bs us)
  | _, _, _, _, .nil, _, r => r
  | _, acc, _, bs, .cons (a := p) (b := q) h t, hk, r => by
    obtain ⟨k, e⟩ := hk p List.mem_cons_self
    have e2 : k = q.1 := by
      have z := e
      rw [h.1, key1_kD] at z
      exact (Option.some.inj z).symm
    subst e2
    have z := rk_putAll t (fun z hz => hk z (List.mem_cons_of_mem _ hz)) (RK.put e h.2 r)
    exact z
theorem putAll_low {n : Nat} : ∀ {kvs acc : List (PyData × D)}, (kvs.all fun p => p.2.low n) = true → (acc.all fun p => p.2.low n) = true → ((putAll acc kvs).all fun p => p.2.low n) = true
  | [], _, _, h => h
  | p :: r, acc, h1, h2 => by
    rw [List.all_cons, Bool.and_eq_true] at h1
    exact putAll_low (kvs := r) h1.2 (putD_low h2 h1.1)
theorem upd_del2 {p : Addr} {u : HO} : upd (del H p) p u = upd H p u := by
  funext b
  by_cases e : b = p
  · subst e; rw [upd_same, upd_same]
  · rw [upd_ne e, del_ne e, upd_ne e]
theorem ext_show {ι1 : Gh} {s1 : Sto} {H1 : Hp} {p : Addr} {u : HO} (R : SRel K ι st H) (hp : H p = none) (R1 : SRel K ι1 s1 H1) (E : Ext (ι.hide p) st (upd H p u) ι1 s1 H1) : ∃ ι2 : Gh, ι1 = ι2.hide p ∧ ι2.hid = ι.hid ∧ SRel K ι2 s1 (del H1 p) ∧ Ext ι st H ι2 s1 (del H1 p) := by
  have e : ι1 = Gh.hide ⟨ι1.ad, ι.hid⟩ p := by
    have e := E.hid
    cases ι1
    simp only at e
    rw [e]
    rfl
  have np : p ∉ ι.hid := R.hid_new hp
  rw [e] at R1 E
  refine ⟨⟨ι1.ad, ι.hid⟩, e, rfl, R1.unhide np, ?_⟩
  have m := ((mv_hide R hp (u := u)).trans E.mv).trans (mv_show R1)
  refine ⟨m.keep, m.pre, rfl, fun a ha => ?_, m.lk⟩
  have na : a ≠ p := fun z => np (by rw [← z]; exact ha)
  rw [del_ne na, E.keepZ a (List.mem_cons_of_mem _ ha), upd_ne na]
theorem disp_red {prs : List (ME × ME)} {σ : L2.St} {Q : VK} (q : TEo K W (mDisp prs) σ H Q) : tDisp (prs.map fun p => (TEo K W p.1, TEo K W p.2)) σ H (fun v H' => HF H' → Q v H') := by
  obtain ⟨ι, env, st, R, EV, p⟩ := q
  intro a ha
  have R1 := R.hide (u := .dK []) ha trivial (hf_dK R.hf (Nat.zero_le _))
  refine prs_red prs R1 ((mv_hide R ha).ev EV) (noX_post (Out.post_mono (Out.post_bind p) (fun ps s1 q ι1 H1 xs R2 E2 rp => ?_) fun _ _ z => z))
  split at q
  · rename_i kvs hk
    split at q
    · rename_i hc
      obtain ⟨us, e1, h2, h3⟩ := keysOf_at hk rp
      have lu : us.length ≤ 15 := by rw [h2.len]; exact hc.1
      have hA : H1 a = some (.dK []) := by rw [E2.keepZ a List.mem_cons_self, upd_same]
      refine ⟨hA, us, e1, lu, fun hf => ?_⟩
      obtain ⟨ι2, eι, eh, R3, E3⟩ := ext_show R ha R2 E2
      have m : Mv ι1 s1 H1 ι2 s1 (del H1 a) := by rw [eι]; rw [eι] at R2; exact mv_show R2
      rw [← upd_del2] at hf ⊢
      have E4 : Ext ι2 s1 (del H1 a) (ι2.psh a) (s1 ++ [.dct false (putAll [] kvs)]) (upd (del H1 a) a (.dK (mergeK [] us))) := Ext.push R3 del_same
      refine q (ι2.psh a) _ _ (R3.push del_same hf ⟨_, upd_same, RK.ext E4 (rk_putAll (m.rk h2) h3 .nil)⟩ (putAll_low hc.2 rfl)) (E3.trans E4) ⟨a, psh_at R3, rfl⟩
    · exact q.elim
  · exact q.elim
end
section
variable {X : Cx} {W : XW} {pos : Pos}
theorem ps_nil0 : PPs X pos [] [] (([] : List (ME × ME)).map fun p => (TEo X.K W p.1, TEo X.K W p.2)) := pps_nil
theorem ps_cons0 {k v : Expr} {ks : List (Option Expr)} {vs : List Expr} {a b : ME} {prs : List (ME × ME)} (hk : PE X k (TEo X.K W a)) (hv : PE X v (TEo X.K W b)) (hr : PPs X pos ks vs (prs.map fun p => (TEo X.K W p.1, TEo X.K W p.2))) :
    PPs X pos (some k :: ks) (v :: vs) (((a, b) :: prs).map fun p => (TEo X.K W p.1, TEo X.K W p.2)) := pps_cons hk hv hr
theorem x_disp {keys : List (Option Expr)} {values : List Expr} {prs : List (ME × ME)} (h : PPs X pos keys values (prs.map fun p => (TEo X.K W p.1, TEo X.K W p.2))) (hall : keys.all (·.isSome) = true := by rfl) (hl : keys.length = values.length := by rfl) (h0 : keys ≠ [] := by exact fun z => nomatch z)
    (h15 : keys.length ≤ 15 := by decide) : PE X (.Dict keys values pos) (TEo X.K W (mDisp prs)) := pe_wrap (pe_disp h hall hl h0 h15) fun _ _ _ q => disp_red q
end
end Fw
namespace Fw
open PySem PySem.Spec PyProof.Rows L2
theorem bt_len : bootBuiltins "len" = some (.builtin "len") := by decide +kernel
theorem bt_abs : bootBuiltins "abs" = some (.builtin "abs") := by decide +kernel
theorem bt_sum : bootBuiltins "sum" = some (.builtin "sum") := by decide +kernel
theorem bt_max : bootBuiltins "max" = some (.builtin "max") := by decide +kernel
theorem bt_repr : bootBuiltins "repr" = some (.builtin "repr") := by decide +kernel
theorem bt_sorted : bootBuiltins "sorted" = some (.builtin "sorted") := by decide +kernel
theorem bt_int : bootBuiltins "int" = some (.type "int") := by decide +kernel
theorem bt_tuple : bootBuiltins "tuple" = some (.type "tuple") := by decide +kernel
theorem bt_list : bootBuiltins "list" = some (.type "list") := by decide +kernel
structure Cal (P : Program) (w : World) (K : PySem.W.Frag) (mg : Str → Option Value) (base : Heap) (k : Nat) (x : Str) (n : Nat) (xs : List D) (ff : FF) : Prop where
  ex : ∃ (f : Addr) (fd : FuncData) (ps : List Str) (dvs : List L2.V) (ds : List Value), FnG P w K mg base CX0 k f fd ps (spG K V0 n ff) ∧ mg x = some (.ref f) ∧ PySem.W.keepIn K (.ref f) = true ∧ Binds K fd ps ds ∧ Vals dvs ds ∧ ∀ ι st H, RDs K ι st H dvs xs
section
variable {P : Program} {w : World} {K : PySem.W.Frag} {mg : Str → Option Value} {base : Heap} {k : Nat} {x qual : Str} {n nN : Nat} {xs : List D} {ff : FF}
theorem Cal.mono {j : Nat} (c : Cal P w K mg base k x n xs ff) (h : k ≤ j) : Cal P w K mg base j x n xs ff := by
  obtain ⟨f, fd, ps, dvs, ds, F, r⟩ := c.ex
  exact ⟨f, fd, ps, dvs, ds, F.mono h, r⟩
theorem Cal.mk0 {f : Addr} {fd : FuncData} {params : Arguments} {body : List Stmt} {scope : Scope} {ps : List Str} (F : FunD K x qual params body scope [] [] f fd) (m : mg x = some (.ref f)) (G : FnG P w K mg base CX0 k f fd ps (spG K V0 n ff))
    (h : ∀ (kV doc pm : Value) (an : Option Addr) (cdv ct : Value) (us : List Value), us.length = ps.length → bindArgs (PySem.W.fnOf x qual params body scope .none kV doc pm an cdv ct) ⟨us, []⟩ = pure (ps.zip us)) : Cal P w K mg base k x n [] ff :=
  ⟨f, fd, ps, [], [], G, m, F.kp, F.bindsN h, .nil, fun _ _ _ => .nil⟩
end
section
variable {X : Cx} {k n j : Nat} {x : Str} {xs : List D} {ff : FF} {p pos : Pos} {e : Expr} {es : List Expr} {ma : MA}
theorem x_cal (c : Cal X.prog X.w X.K X.mg X.base k x n xs ff) (hr : RmG j X.A) (hk : k ≤ j) (hg : Gl X x) (ha : PA X (e :: es) (TAo X.K WF ma)) {i : Nat} (hn : MLen ma i) (hj : i + xs.length = n)
    (hdb : (x == ("__debug__" : Str)) = false := by decide) (he : starEach (e :: es) X.env = (false, eval e X.env) :: starEach es X.env := by rfl) (hpl : (backTo pos (starEach es X.env)).any (·.1) = false := by rfl) :
    PE X (.Call (.Name x p) (e :: es) [] pos) (TEo X.K WF (mCall ff ma xs)) := by
  obtain ⟨f, fd, ps, dvs, ds, F, hm, kp, hb, hd, hxs⟩ := c.ex
  exact x_call (V := V0) (E := E0) F (hr.mono hk) hg hm kp hb hd pass0 hxs ha hn hj hdb he hpl
theorem g_tp {ts : List Expr} {kk m : Nat} {tpos : Pos} {gs : MGs} {W : XW} {vs : Option (List Nat)} (gd : Gd X) (h : PGs X ts (TGso X.K W gs vs)) (hn : (assignEach ts X.env).length = m := by rfl) (hst : (assignEach ts X.env).findIdx? (·.1) = none := by rfl) :
    PG X (.Tuple ts kk tpos) (TGo X.K W (gTp m gs) vs) := g_tup gd.calm h (pg_tup gd.calm h hn hst)
theorem gn (i : Nat) {vs : Option (List Nat)} {W : XW} {y : Str} (hN : X.N.Nodup) (hi : X.N[i]? = some y := by rfl) (hx : Loc X.env.scope y := by first | exact .inl rfl | exact .inr rfl) (hf : X.fn y = true ∨ X.env.scope.names.lookup y = some .local := by first | exact .inl rfl | exact .inr rfl)
    (hv : ∀ ws, vs = some ws → i ∈ ws := by (intro ws z; cases z <;> decide)) : PG X (.Name y pos) (TGo X.K W (gNm i) vs) := g_name i (pg_name (i := i) hN hi hx hf) hv
theorem xv (i : Nat) {W : XW} {y : Str} (hN : X.N[i]? = some y := by rfl) (hv : Vis X.env.scope y := by first | exact Or.inl rfl | exact Or.inr (Or.inl rfl) | exact Or.inr (Or.inr rfl)) (hd : (y == ("__debug__" : Str)) = false := by decide)
    (hcd : (y == ("__classdict__" : Str)) = false := by decide) : PE X (.Name y pos) (TEo X.K W (mVar i)) := x_var i (pe_var hN hv hd hcd)
theorem s_p3 {i j l : Nat} {W : XW} {y z u : Str} {a b c : Expr} {px py pz pt : Pos} {kt k2 : Nat} {pt2 : Pos} (gd : Gd X) (hN : X.N.Nodup) (ha : PA X [a, b, c] (TAo X.K W ma)) (hi : X.N[i]? = some y := by rfl) (hj : X.N[j]? = some z := by rfl) (hl : X.N[l]? = some u := by rfl) (hij : i ≠ j := by decide) (hil : i ≠ l := by decide) (hjl : j ≠ l := by decide)
    (hy : X.env.scope.names.lookup y = some .local := by rfl) (hz : X.env.scope.names.lookup z = some .local := by rfl) (hu : X.env.scope.names.lookup u = some .local := by rfl) (hw : swappedStores [.Tuple [.Name y px, .Name z py, .Name u pz] kt pt] (.Tuple [a, b, c] k2 pt2) X.env = pure (some [y, z, u]) := by rfl)
    (hs : swapsWithSole [.Tuple [.Name y px, .Name z py, .Name u pz] kt pt] (.Tuple [a, b, c] k2 pt2) pos.line X.env = pure false := by rfl) :
    PS X (.Assign [.Tuple [.Name y px, .Name z py, .Name u pz] kt pt] (.Tuple [a, b, c] k2 pt2) pos) (TSo X.K W (sPar3 i j l ma)) := s_par3 ha (ps_par3 gd.calm hN hi hj hl hij hil hjl hy hz hu ha hw hs)
theorem s_pT {W : XW} {m kk k2 : Nat} {p1 p2 : Pos} {ts es : List Expr} {gs : MGs} (gd : Gd X) (ha : PA X es (TAo X.K W ma)) (h : PGs X ts (TGso X.K W gs none)) (hn : (assignEach ts X.env).length = m := by rfl) (hst : (assignEach ts X.env).findIdx? (·.1) = none := by rfl)
    (hs : swapsWithSole [.Tuple ts kk p1] (.Tuple es k2 p2) pos.line X.env = pure false := by rfl) (hw : swappedStores [.Tuple ts kk p1] (.Tuple es k2 p2) X.env = pure none := by rfl) : PS X (.Assign [.Tuple ts kk p1] (.Tuple es k2 p2) pos) (TSo X.K W (sAsgT m ma gs)) :=
  s_asgT ha (pg_tup gd.calm h hn hst) hs hw
end
def rgD (a b : Int) : List PyData := (List.range (b - a).toNat).map fun i => .int (a + (i : Nat))
def rgOk (a b : Int) : Bool := decide (-1000000 ≤ a ∧ a ≤ 1000000 ∧ -1000000 ≤ b ∧ b ≤ 1000000)
def mRg1 (m : ME) : Ev → Sto → Out (List PyData) := fun env st => (m env st).bind fun d s1 => match iOf d with
  | some n => if rgOk 0 n then .ok (rgD 0 n) s1 else .stuck
  | none => .stuck
section
variable {X : Cx} {W : XW} {a b : Expr} {m ma mb : ME} {p q pos pos2 : Pos}
end
theorem s_subP {X : Cx} {W : XW} {e o i : Expr} {m mo mi : ME} {pos pos' : Pos} (gd : Gd X) (he : PE X e (TEo X.K W m)) (ho : PE X o (TEo X.K W mo)) (hi : PE X i (TEo X.K W mi))
    (ha : ∀ v, assign (.Subscript o i pos') X.env v = (do
      let ov ← holding [v] (eval o X.env)
      let iv ← holding [v, ov] (eval i X.env)
      standAt pos'
      holding [v, ov, iv] (setItem ov iv v)
      release [v, ov, iv] []) := by intro _; rfl)
    (hs1 : swapsWithSole [.Subscript o i pos'] e pos.line X.env = pure false := by rfl) (hw : swappedStores [.Subscript o i pos'] e X.env = pure none := by rfl) (hs : swapsWith e (some (.Subscript o i pos')) pos.line X.env = pure false := by rfl) :
    PS X (.Assign [.Subscript o i pos'] e pos) (TSo X.K W (sSub m mo mi)) := s_sub gd he ho hi (pg_sub ho hi set_list ha) hs1 hw hs
theorem own_pass {CX : CXT} {P : Program} {w : World} {K : PySem.W.Frag} {mg : Str → Option Value} {base : Heap} {N : List Str} {qual : Str} {scope : Scope} {f : Addr} {cd : Value} {A : Around} {outer : List Env} {s : Shared} {H : Hp} {E : XK} :
    PassesOwn (model P w) (cxOf CX P w K mg base N qual scope f cd A outer s H E).A (cxOf CX P w K mg base N qual scope f cd A outer s H E).env (cxOf CX P w K mg base N qual scope f cd A outer s H E).xe :=
  passes_of (X := cxOf CX P w K mg base N qual scope f cd A outer s H E) (K := fun e s'' => CX outer H s E e s'') (E₁ := fun e' s'' => CX outer H s E e' s'') rfl
end Fw
namespace Fw
open PySem PySem.Spec PyProof.Rows L2
def tyD (st : Sto) : D → Option String
  | .v .none => some "NoneType"
  | .v (.bool _) => some "bool"
  | .v (.int _) => some "int"
  | .v (.str _) => some "str"
  | .v (.list _) => some "list"
  | .v (.tuple _) => some "tuple"
  | .v (.dict kvs) => if isTK kvs then none else some "dict"
  | .scr _ => some "list"
  | .ref n => match st[n]? with
    | some (.lst _) => some "list"
    | some (.dct _ _) => some "dict"
    | _ => none
theorem tyD_at {K : PySem.W.Frag} {ι : Gh} {st : Sto} {H : Hp} (R : SRel K ι st H) {x : V} {T : String} : ∀ {d : D}, tyD st d = some T → RD K ι st H x d → TyX K H x (.type T)
  | .v z, e, r => by
    have r' : Rp (Frz ι st) H x z := r
    cases r' with
    | non => cases e; exact .base .non
    | bl b => cases e; exact .base (.bl b)
    | int i => cases e; exact .base (.int i)
    | str z => cases e; exact .base (.str z)
    | lst h _ _ => cases e; exact .base (.lst h)
    | tup h _ _ _ => cases e; exact .fTuple h
    | @dcK a xs ds h _ rk =>
      have e2 : T = "dict" := by
        replace e : (if isTK ds then none else some "dict") = some T := e
        split at e
        · cases e
        · exact (Option.some.inj e).symm
      subst e2
      rcases h with h | ⟨o, h⟩
      · exact .base (.dK h)
      · exact .fDict h
    | @dcT a xs ds h _ rk hne =>
      cases rk with
      | nil => exact absurd rfl hne
      | cons _ _ => cases e
  | .scr ns, e, r => by
    cases e
    obtain ⟨a, rfl, h⟩ := r
    rcases h with ⟨o, its, n, h1, h2, _⟩ | ⟨o, h, _⟩
    · exact .kList h1 h2
    · exact .base (.frz h)
  | .ref n, e, r => by
    obtain ⟨a, h1, rfl⟩ := r
    cases q : st[n]? with
    | none => simp only [tyD, q] at e; cases e
    | some o =>
      have ro := R.obj n o a q h1
      cases o with
      | lst zs =>
        simp only [tyD, q] at e
        cases e
        obtain ⟨xs, h, _⟩ := ro
        exact .base (.lst h)
      | dct t kvs =>
        simp only [tyD, q] at e
        cases e
        cases t with
        | false => obtain ⟨xs, h, _⟩ := ro; exact .base (.dK h)
        | true => obtain ⟨xs, h, _⟩ := ro; exact .base (.dT h)
      | _ => simp only [tyD, q] at e; cases e
def isT1 (t T : String) : Option Bool := match T with
  | "int" => some (t == "int" || t == "bool")
  | "bool" => some (t == "bool")
  | "str" => some (t == "str")
  | "list" => some (t == "list")
  | "tuple" => some (t == "tuple")
  | "dict" => some (t == "dict")
  | _ => none
theorem isT1_kit {K : PySem.W.Frag} {t T : String} {b : Bool} (ht : t ∈ ["NoneType", "bool", "int", "str", "list", "tuple", "dict"]) (h : isT1 t T = some b) : PySem.W.kitOne K (.type t) (.type T) = some b := by
  have key : ∀ T ∈ ["int", "bool", "str", "list", "tuple", "dict"], ∀ t ∈ ["NoneType", "bool", "int", "str", "list", "tuple", "dict"], kitB t T = isT1 t T := by decide +kernel
  refine kit_ty ?_
  rw [key T ?_ t ht]
  · exact h
  · unfold isT1 at h
    split at h
    · decide
    · decide
    · decide
    · decide
    · decide
    · decide
    · cases h
theorem tyD_mem {st : Sto} {d : D} {t : String} (h : tyD st d = some t) : t ∈ ["NoneType", "bool", "int", "str", "list", "tuple", "dict"] := by
  unfold tyD at h
  split at h <;> first | (cases h; decide) | skip
  · split at h
    · cases h
    · cases h; decide
  · split at h <;> first | (cases h; decide) | cases h
def isiD (T : String) : F1 := fun d st => match tyD st d with
  | some t => match isT1 t T with
    | some b => .ok (.v (.bool b)) st
    | none => .stuck
  | none => .stuck
theorem bt_isi : bootBuiltins "isinstance" = some (.builtin "isinstance") := by decide +kernel
theorem bt_bool : bootBuiltins "bool" = some (.type "bool") := by decide +kernel
theorem x_isi {X : Cx} {W : XW} {e : Expr} {m : ME} {p q pos : Pos} {x : Str} (T : String) (hg : Gl X "isinstance") (hm : X.mg "isinstance" = none) (hg2 : Gl X x) (hm2 : X.mg x = none) (hv : bootBuiltins x = some (.type T)) (he : PE X e (TEo X.K W m)) (hn : x ≠ "__name__" := by decide) (hdb : (x == ("__debug__" : Str)) = false := by decide)
    (hs : starEach [e, .Name x q] X.env = (false, eval e X.env) :: starEach [.Name x q] X.env := by rfl) (hs2 : starEach [.Name x q] X.env = (false, eval (.Name x q) X.env) :: starEach [] X.env := by rfl) (hpl : (backTo pos (starEach [.Name x q] X.env)).any (·.1) = false := by rfl) :
    PE X (.Call (.Name "isinstance" p) [e, .Name x q] [] pos) (TEo X.K W (mUn (isiD T) m)) :=
  pe_wrap (pe_callB call_isi hg hm bt_isi (pa_cons he (pa_cons (pe_bltn (v := .ty T) hg2 hm2 hv rfl hn hdb) pa_nil hs2) hs) (by decide) (by decide) hs hpl) fun σ H Q q => by
    obtain ⟨ι, env, st, R, EV, p⟩ := q
    refine ⟨ι, env, st, R, EV, Out.post_mono (Out.post_bind p) (fun d s1 q ι1 H1 x R1 E1 ra => ?_) fun _ _ q => q⟩
    unfold isiD at q
    split at q
    · rename_i t et
      split at q
      · rename_i b eb
        exact ⟨x, .ty T, .type t, .type T, b, rfl, .ty T, tyD_at R1 et ra, isT1_kit (tyD_mem et) eb, fun _ => (q.ext E1).same R1 (.bl b)⟩
      · exact q.elim
    · exact q.elim
end Fw
namespace Fw
open PySem PySem.Spec PyProof.Rows L2
def lexLe : List Int → List Int → Bool
  | [], _ => true
  | _ :: _, [] => false
  | a :: r, b :: q => if a < b then true else if a = b then lexLe r q else false
def insR (a : List Int) : List (List Int) → List (List Int)
  | [] => [a]
  | b :: r => if lexLe a b then a :: b :: r else b :: insR a r
def sortR : List (List Int) → List (List Int)
  | [] => []
  | a :: r => insR a (sortR r)
theorem insR_perm (a : List Int) : ∀ l : List (List Int), (insR a l).Perm (a :: l)
  | [] => .refl _
  | b :: r => by
    unfold insR
    split
    · exact .refl _
    · exact ((insR_perm a r).cons b).trans (.swap a b r)
theorem sortR_perm : ∀ l : List (List Int), (sortR l).Perm l
  | [] => .refl _
  | a :: r => (insR_perm a (sortR r)).trans ((sortR_perm r).cons a)
abbrev TB : Int := 1000000
structure RowOk (d : Nat) (r : List Int) : Prop where
  len : r.length = d
  bd : TS.Bd TB r
theorem code_le : ∀ {a b : List Int}, a.length = b.length → TS.Bd TB a → TS.Bd TB b → (lexLe a b = true ↔ TS.code TB a ≤ TS.code TB b)
  | [], [], _, _, _ => ⟨fun _ => Int.le_refl _, fun _ => rfl⟩
  | x :: a, y :: b, hl, ha, hb => by
    have hl' : a.length = b.length := Nat.succ.inj hl
    have ih := code_le hl' ha.tail hb.tail
    unfold lexLe
    by_cases h1 : x < y
    · rw [if_pos h1]
      exact ⟨fun _ => Int.le_of_lt (TS.code_lt hl' ha.tail hb.tail h1), fun _ => rfl⟩
    · rw [if_neg h1]
      by_cases h2 : x = y
      · subst h2
        rw [if_pos rfl, ih]
        have z := TS.code_same (B := TB) (d := x) (r := b) (q := a) hl'.symm
        omega
      · rw [if_neg h2]
        have z := TS.code_lt (d := y) (e := x) hl'.symm hb.tail ha.tail (by omega)
        exact ⟨(fun w => nomatch w), fun w => by omega⟩
theorem code_inj {d : Nat} {a b : List Int} (ha : RowOk d a) (hb : RowOk d b) (h : TS.code TB a = TS.code TB b) : a = b := by
  have key : ∀ {a b : List Int}, a.length = b.length → TS.Bd TB a → TS.Bd TB b → TS.code TB a = TS.code TB b → a = b := by
    intro a
    induction a with
    | nil => intro b hl _ _ _; exact (List.eq_nil_of_length_eq_zero hl.symm).symm
    | cons x r ih =>
      intro b hl h1 h2 he
      cases b with
      | nil => cases hl
      | cons y q =>
        have hl' : r.length = q.length := Nat.succ.inj hl
        rcases Int.lt_trichotomy x y with z | z | z
        · have := TS.code_lt hl' h1.tail h2.tail z; omega
        · subst z
          have s1 := TS.code_same (B := TB) (d := x) (r := r) (q := q) hl'
          have s2 := TS.code_same (B := TB) (d := x) (r := q) (q := r) hl'.symm
          rw [ih hl' h1.tail h2.tail (by omega)]
        · have := TS.code_lt hl'.symm h2.tail h1.tail z; omega
  exact key (ha.len.trans hb.len.symm) ha.bd hb.bd h
theorem insR_sorted {d : Nat} {a : List Int} (ha : RowOk d a) : ∀ {l : List (List Int)}, (∀ r ∈ l, RowOk d r) → l.Pairwise (fun x y => TS.code TB x ≤ TS.code TB y) → (insR a l).Pairwise fun x y => TS.code TB x ≤ TS.code TB y
  | [], _, _ => by simp [insR]
  | b :: r, hl, h => by
    have hb := hl b List.mem_cons_self
    have cl := code_le (ha.len.trans hb.len.symm) ha.bd hb.bd
    obtain ⟨h1, h2⟩ := List.pairwise_cons.mp h
    unfold insR
    split
    · rename_i z
      refine List.pairwise_cons.mpr ⟨fun c hc => ?_, h⟩
      rcases List.mem_cons.mp hc with rfl | hc
      · exact cl.mp z
      · exact Int.le_trans (cl.mp z) (h1 c hc)
    · rename_i z
      have lt : TS.code TB b ≤ TS.code TB a := by
        have : ¬ TS.code TB a ≤ TS.code TB b := fun w => z (cl.mpr w)
        omega
      refine List.pairwise_cons.mpr ⟨fun c hc => ?_, insR_sorted ha (fun r hr => hl r (List.mem_cons_of_mem _ hr)) h2⟩
      rcases List.mem_cons.mp ((insR_perm a r).mem_iff.mp hc) with rfl | hc
      · exact lt
      · exact h1 c hc
theorem sortR_sorted {d : Nat} : ∀ {l : List (List Int)}, (∀ r ∈ l, RowOk d r) → (sortR l).Pairwise fun x y => TS.code TB x ≤ TS.code TB y
  | [], _ => .nil
  | a :: r, h => insR_sorted (h a List.mem_cons_self) (fun q hq => h q (List.mem_cons_of_mem _ ((sortR_perm r).mem_iff.mp hq))) (sortR_sorted fun q hq => h q (List.mem_cons_of_mem _ hq))
theorem map_inj {d : Nat} : ∀ {a b : List (List Int)}, (∀ r ∈ a, RowOk d r) → (∀ r ∈ b, RowOk d r) → a.map (TS.code TB) = b.map (TS.code TB) → a = b
  | [], [], _, _, _ => rfl
  | x :: a, y :: b, ha, hb, h => by
    rw [List.map_cons, List.map_cons] at h
    obtain ⟨h1, h2⟩ := List.cons.inj h
    rw [code_inj (ha x List.mem_cons_self) (hb y List.mem_cons_self) h1, map_inj (fun r hr => ha r (List.mem_cons_of_mem _ hr)) (fun r hr => hb r (List.mem_cons_of_mem _ hr)) h2]
  | [], _ :: _, _, _, h => by cases h
  | _ :: _, [], _, _, h => by cases h
theorem sortR_uniq {d : Nat} {l m : List (List Int)} (hl : ∀ r ∈ l, RowOk d r) (p : m.Perm l) (h : m.Pairwise fun x y => TS.code TB x ≤ TS.code TB y) : m = sortR l := by
  have hm : ∀ r ∈ m, RowOk d r := fun r hr => hl r (p.mem_iff.mp hr)
  have hs : ∀ r ∈ sortR l, RowOk d r := fun r hr => hl r ((sortR_perm l).mem_iff.mp hr)
  refine map_inj hm hs (sorted_uniq ((p.trans (sortR_perm l).symm).map _) ?_ ?_)
  · rw [List.pairwise_map]; exact h
  · rw [List.pairwise_map]; exact sortR_sorted hl
def rowsOf : List PyData → Option (List (List Int))
  | [] => some []
  | .tuple xs :: r => match intsOf xs, rowsOf r with
    | some ns, some rs => some (ns :: rs)
    | _, _ => none
  | _ :: _ => none
def rowB (d : Nat) (r : List Int) : Bool := decide (r.length = d) && r.all fun m => decide (0 ≤ m ∧ m < TB)
theorem rowB_ok {d : Nat} {r : List Int} (h : rowB d r = true) : RowOk d r := by
  unfold rowB at h
  rw [Bool.and_eq_true] at h
  exact ⟨of_decide_eq_true h.1, fun m hm => of_decide_eq_true (List.all_eq_true.mp h.2 m hm)⟩
theorem perm_unmap {α β : Type} {f : α → β} {ys zs : List β} (p : ys.Perm zs) : ∀ {l : List α}, zs = l.map f → ∃ l' : List α, ys = l'.map f ∧ l'.Perm l := by
  induction p with
  | nil =>
    intro l e
    refine ⟨[], rfl, ?_⟩
    rw [List.map_eq_nil_iff.mp e.symm]
  | cons x _ ih =>
    intro l e
    obtain ⟨a, r, rfl, e1, e2⟩ := List.map_eq_cons_iff.mp e.symm
    obtain ⟨l', h1, h2⟩ := ih e2.symm
    exact ⟨a :: l', by rw [List.map_cons, ← h1, e1], h2.cons a⟩
  | swap x y t =>
    intro l e
    obtain ⟨a, r, rfl, e1, e2⟩ := List.map_eq_cons_iff.mp e.symm
    obtain ⟨b, u, rfl, e3, e4⟩ := List.map_eq_cons_iff.mp e2
    exact ⟨b :: a :: u, by rw [List.map_cons, List.map_cons, e1, e3, e4], .swap a b u⟩
  | trans _ _ h1 h2 =>
    intro l e
    obtain ⟨l1, e1, p1⟩ := h2 e
    obtain ⟨l2, e2, p2⟩ := h1 e1
    exact ⟨l2, e2, p2.trans p1⟩
def gSort : GA := fun ds st => match ds with
  | [x] => match viewL st x with
    | some zs => match intsOf zs with
      | some ns => .ok ((sortI ns).map .int) st
      | none => match rowsOf zs with
        | some rs => if zs.length < 64 ∧ 1 ≤ (rs.headD []).length ∧ (rs.all (rowB (rs.headD []).length)) = true then .ok ((sortR rs).map fun r => .tuple (r.map .int)) st else .stuck
        | none => .stuck
    | none => .stuck
  | _ => .stuck
end Fw
namespace Fw
open PySem PySem.Spec PyProof.Rows L2
mutual
/-- no list within, dicts with keys of whole numbers and texts alone -/
def noL : PyData → Bool
  | .none | .bool _ | .int _ | .str _ => true
  | .list _ => false
  | .tuple xs => noLA xs
  | .dict kvs => noLK kvs
def noLA : List PyData → Bool
  | [] => true
  | x :: r => noL x && noLA r
def noLK : List (PyData × PyData) → Bool
  | [] => true
  | (k, v) :: r => (key1 k).isSome && noL v && noLK r
end
section
variable {X : Cx} {pins : List (Addr × Obj)} {σ : L2.St} {H : Hp} {s : Shared} {F : Addr → Prop}
theorem key_reads {h : Heap} {k : Key} {v : Value} (e : keyIs k v = true) : Reads h v (kD k) [] := by
  rcases keyIs_shape e with ⟨i, t, rfl, rfl⟩ | ⟨x, t, rfl, rfl⟩
  · exact .int i t
  · exact .str x t
mutual
theorem rp_reads (I : Inv X pins σ H s) : ∀ (d : PyData) (v : L2.V) (u : Value), Rp F H v d → noL d = true → RelV v u → ∃ as, Reads s.heap u d as ∧ sysModules ∉ as
  | .none, _, _, h, _, r => by
    cases h
    cases r
    exact ⟨_, .none, by simp⟩
  | .bool b, _, _, h, _, r => by
    cases h
    cases r
    exact ⟨_, .bool b, by simp⟩
  | .int i, _, _, h, _, r => by
    cases h
    obtain ⟨t, rfl⟩ := r
    exact ⟨_, .int i t, by simp⟩
  | .str x, _, _, h, _, r => by
    cases h
    obtain ⟨t, rfl⟩ := r
    exact ⟨_, .str x t, by simp⟩
  | .list _, _, _, _, n, _ => by
    rw [noL] at n
    cases n
  | .tuple ds, _, _, h, n, r => by
    cases h with
    | tup e z f t =>
      cases r
      rw [noL] at n
      obtain ⟨its, rv, ⟨o, ho, hc, k, hd⟩, _⟩ := I.tuple (KTup.sq ⟨_, e, z⟩)
      obtain ⟨as, hr, hn⟩ := rp_readsA I ds _ its t n rv
      exact ⟨as, .tuple ho hc hd hr, hn⟩
  | .dict kvs, _, _, h, n, r => by
    rw [noL] at n
    cases h with
    | dcK e f t =>
      cases r
      obtain ⟨_, hne, vs, kv, o, es, ep, ho, ⟨hc, _, _⟩, hd, _, hp, _⟩ := dk_rd I.hok e
      obtain ⟨as, bs, h1, h2, n1, n2⟩ := rp_readsK I kvs _ vs es.toList t n kv hp
      refine ⟨_, .dict ho hc hd h1 h2, ?_⟩
      simp only [List.mem_cons, List.mem_append, not_or]
      exact ⟨⟨fun z => by rw [z] at hne; simp at hne, n1⟩, n2⟩
    | dcT e f t z =>
      cases t with
      | nil => exact absurd rfl z
      | cons _ _ => rw [noLK] at n; simp [key1] at n
theorem rp_readsA (I : Inv X pins σ H s) : ∀ (ds : List PyData) (vs : List L2.V) (us : List Value), RpA F H vs ds → noLA ds = true → Vals vs us → ∃ as, ReadsAll s.heap us ds as ∧ sysModules ∉ as
  | [], _, _, h, _, r => by
    cases h
    cases r
    exact ⟨_, .nil, by simp⟩
  | d :: ds, _, _, h, n, r => by
    rw [noLA, Bool.and_eq_true] at n
    cases h with
    | cons h1 h2 =>
      cases r with
      | cons r1 r2 =>
        obtain ⟨as, q1, n1⟩ := rp_reads I d _ _ h1 n.1 r1
        obtain ⟨bs, q2, n2⟩ := rp_readsA I ds _ _ h2 n.2 r2
        exact ⟨_, .cons q1 q2, by simp only [List.mem_append, not_or]; exact ⟨n1, n2⟩⟩
theorem rp_readsK (I : Inv X pins σ H s) : ∀ (kvs : List (PyData × PyData)) (xs : List (Key × L2.V)) (vs : List (Key × Value)) (es : List DictEntry), RpK F H xs kvs → noLK kvs = true → KV xs vs → Pairs (mixKind X.prog X.w) es vs →
    ∃ as bs, ReadsAll s.heap (es.map (·.key)) (kvs.map (·.1)) as ∧ ReadsAll s.heap (es.map (·.val)) (kvs.map (·.2)) bs ∧ sysModules ∉ as ∧ sysModules ∉ bs
  | [], xs, vs, es, h, _, k, q => by
    cases h
    cases k
    cases q
    exact ⟨_, _, .nil, .nil, by simp, by simp⟩
  | (kk, d) :: kvs, xs, vs, es, h, n, k, q => by
    rw [noLK, Bool.and_eq_true, Bool.and_eq_true] at n
    cases h with
    | cons h1 h2 =>
      cases k with
      | cons k1 k2 =>
        cases q with
        | cons q1 q2 q3 =>
          obtain ⟨e1, e2⟩ := k1
          obtain ⟨as, r1, n1⟩ := rp_reads I d _ _ h1 n.1.2 e2
          obtain ⟨bs, cs, r2, r3, n2, n3⟩ := rp_readsK I kvs _ _ _ h2 n.2 k2 q3
          refine ⟨[] ++ bs, as ++ cs, .cons ?_ r2, .cons ?_ r3, by simpa using n2, by simp only [List.mem_append, not_or]; exact ⟨n1, n3⟩⟩
          · have e1 : _ = _ := e1
            rw [show kD _ = kD _ from congrArg kD e1]
            exact key_reads q1
          · show Reads s.heap (DictEntry.val _) d as
            rw [q2]
            exact r1
end
end
def rReprK (F : Addr → Prop) : List L2.V → Hp → VK → Prop := fun xs H Q => ∃ x z, xs = [x] ∧ Rp F H x z ∧ noL z = true ∧ z.showable = true ∧ z.depth ≤ 60 ∧ z.shown.length ≤ sizeLine ∧ Q (.str z.shown) H
theorem call_reprK {X : Cx} (g : Gd X) : CallR X (.builtin "repr") (fun xs H Q => ∃ F, rReprK F xs H Q) := by
  rintro pins s σ H xs us Q I r ⟨F, x, z, rfl, hd, hl, h1, h3, h4, q⟩
  obtain ⟨u, rfl, ru⟩ := vals1 r
  obtain ⟨as, rd, hn⟩ := rp_reads I z x u hd hl ru
  cases rd with
  | none => exact PySem.P.repr_of_none ⟨.str _, H, I.tok _, ⟨_, rfl⟩, by simpa only [PyData.shown] using q⟩
  | bool b => exact PySem.P.repr_of_bool ⟨.str _, H, I.tok _, ⟨_, rfl⟩, by simpa only [PyData.shown] using q⟩
  | int i t => exact PySem.P.repr_of_int (by simpa [PyData.showable] using h1) ⟨.str _, H, I.tok _, ⟨_, rfl⟩, by simpa only [PyData.shown] using q⟩
  | str y t => exact PySem.P.repr_of_str ⟨.str _, H, I.tok _, ⟨_, rfl⟩, by simpa only [PyData.shown] using q⟩ (by simpa only [PyData.shown] using h4)
  | list e1 e2 e3 e4 => exact repr_of_reads' (Reads.list e1 e2 e3 e4) h1 (fun _ => hn) g.gu (by have := g.un; omega) (fun _ _ e => e) (fun h' u tk hk => ⟨.str _, H, I.kept hk, ⟨_, rfl⟩, q⟩) h4
  | tuple e1 e2 e3 e4 => exact repr_of_reads' (Reads.tuple e1 e2 e3 e4) h1 (fun _ => hn) g.gu (by have := g.un; omega) (fun _ _ e => e) (fun h' u tk hk => ⟨.str _, H, I.kept hk, ⟨_, rfl⟩, q⟩) h4
  | dict e1 e2 e3 e4 e5 => exact repr_of_reads' (Reads.dict e1 e2 e3 e4 e5) h1 (fun _ => hn) g.gu (by have := g.un; omega) (fun _ _ e => e) (fun h' u tk hk => ⟨.str _, H, I.kept hk, ⟨_, rfl⟩, q⟩) h4
def fReprK : FA := fun ds st => match ds with
  | [.v z] => if noL z && z.showable && decide (z.depth ≤ 60) && decide (z.shown.length ≤ lim) then .ok (.v (.str z.shown)) st else fRepr ds st
  | ds => fRepr ds st
theorem opA_reprK {K : PySem.W.Frag} {W : XW} : OpA K W (fun xs H Q => rRepr K xs H Q ∨ ∃ F, rReprK F xs H Q) fReprK := by
  intro ι st H xs ds Q R r p
  unfold fReprK at p
  split at p
  · rename_i z
    split at p
    · rename_i h
      simp only [Bool.and_eq_true, decide_eq_true_eq] at h
      obtain ⟨x, rfl, r1⟩ := r.one
      exact .inr ⟨Frz ι st, x, z, rfl, r1, h.1.1.1, h.1.1.2, h.1.2, lim_ok h.2, fun _ => p.same R (.str _)⟩
    · exact .inl (opA_repr (W := W) ι st H xs _ Q R r p)
  · exact .inl (opA_repr (W := W) ι st H xs _ Q R r p)
end Fw
namespace Fw
open PySem PySem.Spec PyProof.Rows L2
def Out.Ok {α : Type} (x : Out α) (P : α → Sto → Prop) : Prop := match x with
  | .ok a s => P a s
  | _ => False
theorem Out.Ok.eq {α : Type} {x : Out α} {P : α → Sto → Prop} (h : x.Ok P) : ∃ a s, x = .ok a s ∧ P a s := by
  cases x with
  | ok a s => exact ⟨a, s, rfl, h⟩
  | _ => exact h.elim
theorem Out.Ok.mono {α : Type} {x : Out α} {P Q : α → Sto → Prop} (h : x.Ok P) (i : ∀ a s, P a s → Q a s) : x.Ok Q := by
  cases x with
  | ok a s => exact i a s h
  | _ => exact h
section
variable {α β : Type} {st : Sto} {env : Ev}
@[simp] theorem bOf_bool {b : Bool} : bOf (.v (.bool b)) = some b := rfl
@[simp] theorem low_v {n : Nat} {d : PyData} : (D.v d).low n = true := rfl
@[simp] theorem ok_ok {a : α} {P : α → Sto → Prop} : (Out.ok a st).Ok P ↔ P a st := Iff.rfl
@[simp] theorem ok_stuck {P : α → Sto → Prop} : (Out.stuck : Out α).Ok P ↔ False := Iff.rfl
theorem ok_bind {x : Out α} {f : α → Sto → Out β} {P : β → Sto → Prop} : (x.bind f).Ok P ↔ x.Ok fun a s => (f a s).Ok P := by cases x <;> exact Iff.rfl
@[simp] theorem ok_noX {x : Out α} {P : α → Sto → Prop} : x.noX.Ok P ↔ x.Ok P := by cases x <;> exact Iff.rfl
@[simp] theorem ok_var {i : Nat} {P : D → Sto → Prop} : (mVar i env st).Ok P ↔ ∃ d, env[i]? = some (some d) ∧ P d st := by
  unfold mVar
  constructor
  · intro h
    split at h
    · rename_i d e
      exact ⟨d, e, h⟩
    · exact h.elim
  · rintro ⟨d, e, h⟩
    rw [e]
    exact h
@[simp] theorem ok_C {d : PyData} {P : D → Sto → Prop} : (mC d env st).Ok P ↔ P (.v d) st := Iff.rfl
@[simp] theorem ok_un {f : F1} {a : ME} {P : D → Sto → Prop} : (mUn f a env st).Ok P ↔ (a env st).Ok fun x s => (f x s).Ok P := ok_bind
@[simp] theorem ok_bin {f : F2} {a b : ME} {P : D → Sto → Prop} : (mBin f a b env st).Ok P ↔ (a env st).Ok fun x s => (b env s).Ok fun y s2 => (f x y s2).Ok P := by
  unfold mBin
  simp only [ok_bind]
@[simp] theorem ok_arg {f : FA} {m : MA} {P : D → Sto → Prop} : (mArg f m env st).Ok P ↔ (m env st).Ok fun ds s => (f ds s).Ok P := ok_bind
@[simp] theorem ok_nil {P : List D → Sto → Prop} : (mNil env st).Ok P ↔ P [] st := Iff.rfl
@[simp] theorem ok_cons {a : ME} {m : MA} {P : List D → Sto → Prop} : (mCons a m env st).Ok P ↔ (a env st).Ok fun x s => (m env s).Ok fun ds s2 => P (x :: ds) s2 := by
  unfold mCons
  simp only [ok_bind, ok_ok]
@[simp] theorem ok_call {f : FF} {m : MA} {xs : List D} {P : D → Sto → Prop} : (mCall f m xs env st).Ok P ↔ (m env st).Ok fun ds s => (f (ds ++ xs) s).Ok P := ok_bind
@[simp] theorem ok_TB {m : ME} {P : Bool → Sto → Prop} : (mTB m env st).Ok P ↔ (m env st).Ok fun d s => ∃ k, bOf d = some k ∧ P k s := by
  unfold mTB
  rw [ok_bind]
  constructor
  · intro h
    refine h.mono fun d s q => ?_
    split at q
    · rename_i k e
      exact ⟨k, e, q⟩
    · exact q.elim
  · intro h
    refine h.mono fun d s ⟨k, e, q⟩ => ?_
    rw [e]
    exact q
@[simp] theorem ok_Tru {m : ME} {P : Bool → Sto → Prop} : (mTru' m env st).Ok P ↔ (m env st).Ok fun d s => ∃ k, truS' s d = some k ∧ P k s := by
  unfold mTru'
  rw [ok_bind]
  constructor
  · intro h
    refine h.mono fun d s q => ?_
    split at q
    · rename_i k e
      exact ⟨k, e, q⟩
    · exact q.elim
  · intro h
    refine h.mono fun d s ⟨k, e, q⟩ => ?_
    rw [e]
    exact q
@[simp] theorem ok_notT {t : MT} {P : Bool → Sto → Prop} : (mNotT t env st).Ok P ↔ (t env st).Ok fun k s => P (!k) s := by
  unfold mNotT
  simp only [ok_bind, ok_ok]
theorem ok_ite {c : Bool} {x y : Out α} {P : α → Sto → Prop} : (if c = true then x else y).Ok P ↔ (c = true → x.Ok P) ∧ (c = false → y.Ok P) := by
  cases c <;> simp
@[simp] theorem ok_andT {t u : MT} {P : Bool → Sto → Prop} : (mAndT t u env st).Ok P ↔ (t env st).Ok fun k s => (k = true → (u env s).Ok P) ∧ (k = false → P false s) := by
  unfold mAndT
  simp only [ok_bind, ok_ite, ok_ok]
@[simp] theorem ok_orT {t u : MT} {P : Bool → Sto → Prop} : (mOrT t u env st).Ok P ↔ (t env st).Ok fun k s => (k = true → P true s) ∧ (k = false → (u env s).Ok P) := by
  unfold mOrT
  simp only [ok_bind, ok_ite, ok_ok]
@[simp] theorem ok_andV {a b : ME} {P : D → Sto → Prop} : (mAndV a b env st).Ok P ↔ (a env st).Ok fun d s => ∃ k, truS' s d = some k ∧ (k = true → (b env s).Ok P) ∧ (k = false → P d s) := by
  unfold mAndV
  rw [ok_bind]
  constructor
  · intro h
    refine h.mono fun d s q => ?_
    cases e : truS' s d with
    | none => rw [e] at q; exact q.elim
    | some k =>
      rw [e] at q
      cases k with
      | true => exact ⟨true, rfl, fun _ => q, fun z => nomatch z⟩
      | false => exact ⟨false, rfl, (fun z => nomatch z), fun _ => q⟩
  · intro h
    refine h.mono fun d s ⟨k, e, q1, q2⟩ => ?_
    rw [e]
    cases k with
    | true => exact q1 rfl
    | false => exact q2 rfl
@[simp] theorem ok_orV {a b : ME} {P : D → Sto → Prop} : (mOrV a b env st).Ok P ↔ (a env st).Ok fun d s => ∃ k, truS' s d = some k ∧ (k = true → P d s) ∧ (k = false → (b env s).Ok P) := by
  unfold mOrV
  rw [ok_bind]
  constructor
  · intro h
    refine h.mono fun d s q => ?_
    cases e : truS' s d with
    | none => rw [e] at q; exact q.elim
    | some k =>
      rw [e] at q
      cases k with
      | true => exact ⟨true, rfl, fun _ => q, fun z => nomatch z⟩
      | false => exact ⟨false, rfl, (fun z => nomatch z), fun _ => q⟩
  · intro h
    refine h.mono fun d s ⟨k, e, q1, q2⟩ => ?_
    rw [e]
    cases k with
    | true => exact q1 rfl
    | false => exact q2 rfl
@[simp] theorem ok_notV {a : ME} {P : D → Sto → Prop} : (mNotV a env st).Ok P ↔ (a env st).Ok fun d s => ∃ k, truS' s d = some k ∧ P (.v (.bool (!k))) s := by
  unfold mNotV
  rw [ok_bind]
  constructor
  · intro h
    refine h.mono fun d s q => ?_
    split at q
    · rename_i k e
      exact ⟨k, e, q⟩
    · exact q.elim
  · intro h
    refine h.mono fun d s ⟨k, e, q⟩ => ?_
    rw [e]
    exact q
@[simp] theorem ok_iteE {t : MT} {a b : ME} {P : D → Sto → Prop} : (mIte t a b env st).Ok P ↔ (t env st).Ok fun k s => (k = true → (a env s).Ok P) ∧ (k = false → (b env s).Ok P) := by
  unfold mIte
  simp only [ok_bind, ok_ite]
@[simp] theorem ok_frz {m : MF} {P : D → Sto → Prop} : (mFrz m env st).Ok P ↔ (m env st).Ok fun zs s => P (.v (.list zs)) s := by
  unfold mFrz
  simp only [ok_bind, ok_ok]
@[simp] theorem ok_new {m : MF} {P : D → Sto → Prop} : (mNew m env st).Ok P ↔ (m env st).Ok fun zs s => P (.ref s.length) (s ++ [.lst zs]) := by
  unfold mNew
  simp only [ok_bind, ok_ok]
@[simp] theorem ok_mfArg {f : GA} {m : MA} {P : List PyData → Sto → Prop} : (mfArg f m env st).Ok P ↔ (m env st).Ok fun ds s => (f ds s).Ok P := ok_bind
@[simp] theorem ok_mfBin {f : D → D → Sto → Out (List PyData)} {a b : ME} {P : List PyData → Sto → Prop} : (mfBin f a b env st).Ok P ↔ (a env st).Ok fun x s => (b env s).Ok fun y s2 => (f x y s2).Ok P := by
  unfold mfBin
  simp only [ok_bind]
@[simp] theorem ok_lc {mi : MI} {g : MG} {t : MT} {m : ME} {own : List Nat} {P : List PyData → Sto → Prop} : (mLc mi g t m own env st).Ok P ↔ (mi env st).Ok fun r s => (lcL r.2 g t m (wipeE env own) r.1 s).Ok P := ok_bind
@[simp] theorem ok_M {f : FM} {o : ME} {m : MA} {P : D → Sto → Prop} : (mM f o m env st).Ok P ↔ (o env st).Ok fun x s => isL s x = true ∧ (m env s).Ok fun ds s2 => (f x ds s2).Ok P := by
  unfold mM
  rw [ok_bind]
  constructor
  · intro h
    refine h.mono fun d s q => ?_
    split at q
    · rename_i e
      exact ⟨e, ok_bind.mp q⟩
    · exact q.elim
  · intro h
    refine h.mono fun d s ⟨e, q⟩ => ?_
    rw [if_pos e]
    exact ok_bind.mpr q
@[simp] theorem ok_M0 {f : FM} {o : ME} {P : D → Sto → Prop} : (mM0 f o env st).Ok P ↔ (o env st).Ok fun x s => isL s x = true ∧ (f x [] s).Ok P := by
  unfold mM0
  rw [ok_bind]
  constructor
  · intro h
    refine h.mono fun d s q => ?_
    split at q
    · rename_i e
      exact ⟨e, q⟩
    · exact q.elim
  · intro h
    refine h.mono fun d s ⟨e, q⟩ => ?_
    rw [if_pos e]
    exact q
@[simp] theorem ok_moNone {P : Option Int → Sto → Prop} : (moNone env st).Ok P ↔ P none st := Iff.rfl
@[simp] theorem ok_moSome {m : ME} {P : Option Int → Sto → Prop} : (moSome m env st).Ok P ↔ (m env st).Ok fun d s => ∃ i, iOf d = some i ∧ P (some i) s := by
  unfold moSome
  rw [ok_bind]
  constructor
  · intro h
    refine h.mono fun d s q => ?_
    split at q
    · rename_i k e
      exact ⟨k, e, q⟩
    · exact q.elim
  · intro h
    refine h.mono fun d s ⟨k, e, q⟩ => ?_
    rw [e]
    exact q
@[simp] theorem ok_Sl {m : ME} {lo hi : MO} {P : D → Sto → Prop} : (mSl m lo hi env st).Ok P ↔ (m env st).Ok fun a s => (lo env s).Ok fun l s2 => (hi env s2).Ok fun h s3 => (slD a l h s3).Ok P := by
  unfold mSl
  simp only [ok_bind]
end
theorem lcL_inv {w : Wt} {g : MG} {t : MT} {m : ME} {env0 : Ev} {P : List PyData → Sto → Prop} (I : Nat → List PyData → Sto → Prop) : ∀ (ds : List Itm) (st : Sto) (n : Nat) (acc : List PyData),
    (∀ i d acc s, ds[i]? = some d → I (n + i) acc s → chk w s ∧ (g d env0 s).Ok fun e1 s1 => (t e1 s1).Ok fun k s2 => (k = true → (m e1 s2).Ok fun v s3 => ∃ z, v = .v z ∧ I (n + i + 1) (acc ++ [z]) s3) ∧ (k = false → I (n + i + 1) acc s2)) →
    (∀ acc s, I (n + ds.length) acc s → chk w s ∧ P acc s) → I n acc st → (lcL w g t m env0 ds st).Ok fun zs s => P (acc ++ zs) s
  | [], st, n, acc, _, hE, h => by
    obtain ⟨hc, q⟩ := hE acc st h
    unfold lcL
    rw [if_pos hc]
    show P (acc ++ []) st
    rw [List.append_nil]
    exact q
  | d :: r, st, n, acc, hS, hE, h => by
    obtain ⟨hc, q⟩ := hS 0 d acc st rfl h
    unfold lcL
    rw [if_pos hc]
    rw [ok_bind, ok_noX]
    refine q.mono fun e1 s1 q => ?_
    rw [ok_bind, ok_noX]
    refine q.mono fun k s2 q => ?_
    have rest : ∀ acc' s', I (n + 0 + 1) acc' s' → (lcL w g t m env0 r s').Ok fun zs s => P (acc' ++ zs) s := fun acc' s' h' =>
      lcL_inv I r s' (n + 1) acc' (fun i d acc s hd hi => by
        have z := hS (i + 1) d acc s hd (by rw [show n + (i + 1) = n + 1 + i by omega]; exact hi)
        rw [show n + (i + 1) = n + 1 + i by omega] at z
        exact z) (fun acc s hi => hE acc s (by rw [List.length_cons, show n + (r.length + 1) = n + 1 + r.length by omega]; exact hi)) h'
    cases k with
    | true =>
      rw [if_pos rfl, ok_bind, ok_noX]
      refine (q.1 rfl).mono fun v s3 ⟨z, e, hi⟩ => ?_
      subst e
      show (Out.bind _ _).Ok _
      rw [ok_bind]
      refine (rest _ _ hi).mono fun zs s q => ?_
      show P (acc ++ z :: zs) s
      rw [List.append_assoc] at q
      exact q
    | false =>
      rw [if_neg Bool.false_ne_true]
      exact rest _ _ (q.2 rfl)
theorem lcL_map {g : MG} {t : MT} {m : ME} {env0 : Ev} {st : Sto} (F : Itm → Option PyData) : ∀ (ds : List Itm),
    (∀ d ∈ ds, (g d env0 st).Ok fun e1 s1 => s1 = st ∧ (t e1 st).Ok fun k s2 => s2 = st ∧ (k = true → (m e1 st).Ok fun v s3 => s3 = st ∧ ∃ z, v = .v z ∧ F d = some z) ∧ (k = false → F d = none)) →
    lcL none g t m env0 ds st = .ok (ds.filterMap F) st
  | [], _ => by
    unfold lcL
    rw [if_pos (show chk none st from trivial)]
    rfl
  | d :: r, h => by
    have ih := lcL_map F r fun d hd => h d (List.mem_cons_of_mem _ hd)
    obtain ⟨e1, s1, eg, rfl, q⟩ := (h d List.mem_cons_self).eq
    obtain ⟨k, s2, et, rfl, q1, q2⟩ := q.eq
    unfold lcL
    rw [if_pos (show chk none s2 from trivial), eg, noX_ok, bind_ok, et, noX_ok, bind_ok]
    cases k with
    | true =>
      obtain ⟨v, s3, em, rfl, z, rfl, ez⟩ := (q1 rfl).eq
      rw [if_pos rfl, em, noX_ok, bind_ok]
      show (lcL none g t m env0 r s3).bind _ = _
      rw [ih, bind_ok, List.filterMap_cons, ez]
    | false =>
      rw [if_neg Bool.false_ne_true, ih, List.filterMap_cons, q2 rfl]
def P1i (ds : List D) (f : Int → Prop) : Prop := match ds with
  | [.v (.int j)] => f j
  | _ => False
def P2 (ds : List D) (f : D → D → Prop) : Prop := match ds with
  | [a, b] => f a b
  | _ => False
def P3' (ds : List D) (f : D → D → D → Prop) : Prop := match ds with
  | [a, b, c] => f a b c
  | _ => False
@[simp] theorem p1i_int {j : Int} {f : Int → Prop} : P1i [.v (.int j)] f ↔ f j := Iff.rfl
@[simp] theorem p2_two {a b : D} {f : D → D → Prop} : P2 [a, b] f ↔ f a b := Iff.rfl
@[simp] theorem p3_three {a b c : D} {f : D → D → D → Prop} : P3' [a, b, c] f ↔ f a b c := Iff.rfl
def SO.Ok (x : SO) (N : Ev → Sto → Prop) (T : D → Sto → Prop) : Prop := match x with
  | .nx e s => N e s
  | .rt d s => T d s
  | _ => False
theorem SO.Ok.mono {x : SO} {N N' : Ev → Sto → Prop} {T T' : D → Sto → Prop} (h : x.Ok N T) (hN : ∀ e s, N e s → N' e s) (hT : ∀ d s, T d s → T' d s) : x.Ok N' T' := by
  cases x with
  | nx e s => exact hN e s h
  | rt d s => exact hT d s h
  | _ => exact h
theorem so_to {x : SO} {N : Ev → Sto → Prop} {T : D → Sto → Prop} (M : Ev → Sto → Prop) (h : x.Ok M T) (k : ∀ e s, M e s → N e s) : x.Ok N T := h.mono k fun _ _ z => z
section
variable {N : Ev → Sto → Prop} {T : D → Sto → Prop} {env : Ev} {st : Sto}
theorem so_thn {α : Type} {x : Out α} {f : α → Sto → SO} : (x.thn f).Ok N T ↔ x.Ok fun a s => (f a s).Ok N T := by cases x <;> exact Iff.rfl
@[simp] theorem so_nx {e : Ev} {s : Sto} : (SO.nx e s).Ok N T ↔ N e s := Iff.rfl
@[simp] theorem so_rt {d : D} {s : Sto} : (SO.rt d s).Ok N T ↔ T d s := Iff.rfl
@[simp] theorem so_seq {a b : MS} : (sSeq a b env st).Ok N T ↔ (a env st).Ok (fun e s => (b e s).Ok N T) T := by
  unfold sSeq
  cases a env st <;> exact Iff.rfl
@[simp] theorem so_nil : (sNil env st).Ok N T ↔ N env st := Iff.rfl
@[simp] theorem so_ret {m : ME} : (sRet m env st).Ok N T ↔ (m env st).Ok T := by
  unfold sRet
  rw [so_thn]
  exact Iff.rfl
@[simp] theorem so_retN : (sRetN env st).Ok N T ↔ T (.v .none) st := Iff.rfl
@[simp] theorem so_exp {m : ME} : (sExp m env st).Ok N T ↔ (m env st).Ok fun _ s => N env s := by
  unfold sExp
  rw [so_thn]
  exact Iff.rfl
theorem so_ite {c : Bool} {x y : SO} : (if c = true then x else y).Ok N T ↔ (c = true → x.Ok N T) ∧ (c = false → y.Ok N T) := by cases c <;> simp
@[simp] theorem so_if {t : MT} {a b : MS} : (sIf t a b env st).Ok N T ↔ (t env st).Ok fun k s => (k = true → (a env s).Ok N T) ∧ (k = false → (b env s).Ok N T) := by
  unfold sIf
  simp only [so_thn, so_ite]
@[simp] theorem so_asg {m : ME} {i : Nat} : (sAsg m (gNm i) env st).Ok N T ↔ (m env st).Ok fun d s => N (env.set i (some d)) s := by
  unfold sAsg
  simp only [so_thn]
  exact Iff.rfl
@[simp] theorem so_asgG {m : ME} {n : Nat} {gs : MGs} : (sAsg m (gTp n gs) env st).Ok N T ↔ (m env st).Ok fun d s => (gTp n gs (.one d) env s).Ok fun e1 s1 => N e1 s1 := by
  unfold sAsg
  simp only [so_thn]
  exact Iff.rfl
@[simp] theorem so_par2 {i j : Nat} {m : MA} : (sPar2 i j m env st).Ok N T ↔ (m env st).Ok fun ds s => P2 ds fun a b => N ((env.set i (some a)).set j (some b)) s := by
  unfold sPar2
  rw [so_thn]
  constructor
  · intro h
    refine h.mono fun ds s q => ?_
    split at q
    · exact q
    · exact q.elim
  · intro h
    refine h.mono fun ds s q => ?_
    unfold P2 at q
    split at q
    · exact q
    · exact q.elim
@[simp] theorem so_par3 {i j l : Nat} {m : MA} : (sPar3 i j l m env st).Ok N T ↔ (m env st).Ok fun ds s => P3' ds fun a b c => N (((env.set i (some a)).set j (some b)).set l (some c)) s := by
  unfold sPar3
  rw [so_thn]
  constructor
  · intro h
    refine h.mono fun ds s q => ?_
    split at q
    · exact q
    · exact q.elim
  · intro h
    refine h.mono fun ds s q => ?_
    unfold P3' at q
    split at q
    · exact q
    · exact q.elim
@[simp] theorem so_asgT {n : Nat} {m : MA} {gs : MGs} : (sAsgT n m gs env st).Ok N T ↔ (m env st).Ok fun ds s => (ds.length = n ∧ n ≤ 1000) ∧ (gs ds env s).Ok fun e1 s1 => N e1 s1 := by
  unfold sAsgT
  rw [so_thn]
  constructor
  · intro h
    refine h.mono fun ds s q => ?_
    split at q
    · rename_i e
      exact ⟨e, so_thn.mp q⟩
    · exact q.elim
  · intro h
    refine h.mono fun ds s ⟨e, q⟩ => ?_
    rw [if_pos e]
    exact so_thn.mpr q
@[simp] theorem so_sub {m o i : ME} : (sSub m o i env st).Ok N T ↔ (m env st).Ok fun d s1 => (o env s1).Ok fun x s2 => (i env s2).Ok fun y s3 => (setU x y d s3).Ok fun _ s4 => N env s4 := by
  unfold sSub
  simp only [so_thn]
  exact Iff.rfl
@[simp] theorem so_for {mi : MI} {g : MG} {b : MS} : (sFor mi g b env st).Ok N T ↔ (mi env st).Ok fun r s => (forL r.2 g b r.1 env s).Ok N T := by
  unfold sFor
  rw [so_thn]
end
theorem forL_inv {w : Wt} {g : MG} {b : MS} {N : Ev → Sto → Prop} {T : D → Sto → Prop} (I : Nat → Ev → Sto → Prop) : ∀ (ds : List Itm) (env : Ev) (st : Sto) (n : Nat),
    (∀ i d e s, ds[i]? = some d → I (n + i) e s → chk w s ∧ (g d e s).Ok fun e1 s1 => (b e1 s1).Ok (fun e2 s2 => I (n + i + 1) e2 s2) T) → (∀ e s, I (n + ds.length) e s → chk w s ∧ N e s) → I n env st → (forL w g b ds env st).Ok N T
  | [], env, st, n, _, hE, h => by
    obtain ⟨hc, q⟩ := hE env st h
    unfold forL
    rw [if_pos hc]
    exact q
  | d :: r, env, st, n, hS, hE, h => by
    obtain ⟨hc, q⟩ := hS 0 d env st rfl h
    unfold forL
    rw [if_pos hc, so_thn]
    refine q.mono fun e1 s1 q => ?_
    cases eb : b e1 s1 with
    | nx e2 s2 =>
      rw [eb] at q
      refine forL_inv I r e2 s2 (n + 1) (fun i d e s hd hi => ?_) (fun e s hi => hE e s (by rw [List.length_cons, show n + (r.length + 1) = n + 1 + r.length by omega]; exact hi)) q
      have z := hS (i + 1) d e s hd (by rw [show n + (i + 1) = n + 1 + i by omega]; exact hi)
      rw [show n + (i + 1) = n + 1 + i by omega] at z
      exact z
    | rt d2 s2 => rw [eb] at q; exact q
    | _ => rw [eb] at q; exact q.elim
theorem whileL_inv {t : MT} {b : MS} {N : Ev → Sto → Prop} {T : D → Sto → Prop} (I : Nat → Ev → Sto → Prop)
    (hS : ∀ k e s, I k e s → (t e s).Ok fun c s1 => (c = true → (b e s1).Ok (fun e2 s2 => ∃ j, j < k ∧ I j e2 s2) T) ∧ (c = false → N e s1)) : ∀ (n k : Nat) (env : Ev) (st : Sto), k < n → I k env st → (whileL t b n env st).Ok N T
  | 0, k, env, st, hk, _ => absurd hk (Nat.not_lt_zero _)
  | n + 1, k, env, st, hk, h => by
    unfold whileL
    rw [so_thn]
    refine (hS k env st h).mono fun c s1 q => ?_
    cases c with
    | false => exact q.2 rfl
    | true =>
      rw [if_pos rfl]
      have q := q.1 rfl
      cases eb : b env s1 with
      | nx e2 s2 =>
        rw [eb] at q
        obtain ⟨j, hj, hi⟩ := q
        exact whileL_inv I hS n j e2 s2 (by omega) hi
      | rt d2 s2 => rw [eb] at q; exact q
      | _ => rw [eb] at q; exact q.elim
theorem fnT_ok {nN : Nat} {m : MS} {ds : List D} {st : Sto} {P : D → Sto → Prop} (h : (m (envE nN ds) st).Ok (fun _ s => P (.v .none) (s.take st.length)) (fun d s => d.low st.length = true ∧ P d (s.take st.length))) : (fnT nN m ds st).Ok P := by
  unfold fnT
  cases e : m (envE nN ds) st with
  | nx e1 s => rw [e] at h; exact h
  | rt d s =>
    rw [e] at h
    show (if d.low st.length then Out.ok d (s.take st.length) else .stuck).Ok P
    rw [if_pos h.1]
    exact h.2
  | _ => rw [e] at h; exact h.elim
theorem fnK_ok {nN : Nat} {m : MS} {ds : List D} {st : Sto} {P : D → Sto → Prop} (h : (m (envE nN ds) st).Ok (fun _ s => P (.v .none) s) (fun d s => P d s)) : (fnK nN m ds st).Ok P := by
  unfold fnK
  cases e : m (envE nN ds) st with
  | nx e1 s => rw [e] at h; exact h
  | rt d s => rw [e] at h; exact h
  | _ => rw [e] at h; exact h.elim
theorem Out.Ok.is {α : Type} {x : Out α} {a : α} {s : Sto} (h : x.Ok fun b t => b = a ∧ t = s) : x = .ok a s := by
  obtain ⟨b, t, e, rfl, rfl⟩ := h.eq
  exact e
section
variable {i j : Int} {a b : Bool} {st : Sto} {xs ys : List PyData} {d : PyData} {x y : Str}
theorem iOf_eq {a : D} {k : Int} (h : iOf a = some k) : a = .v (.int k) := by
  cases a with
  | v z =>
    cases z with
    | int j => cases h; rfl
    | _ => cases h
  | _ => cases h
@[simp] theorem iOf_int : iOf (.v (.int i)) = some i := rfl
@[simp] theorem addD_int : addD (.v (.int i)) (.v (.int j)) st = .ok (.v (.int (i + j))) st := rfl
@[simp] theorem subD_int : subD (.v (.int i)) (.v (.int j)) st = .ok (.v (.int (i - j))) st := rfl
@[simp] theorem negD_int : negD (.v (.int i)) st = .ok (.v (.int (-i))) st := rfl
@[simp] theorem ltD_int : ltD (.v (.int i)) (.v (.int j)) st = .ok (.v (.bool (decide (i < j)))) st := rfl
@[simp] theorem leD_int : leD (.v (.int i)) (.v (.int j)) st = .ok (.v (.bool (decide (i ≤ j)))) st := rfl
@[simp] theorem gtD_int : gtD (.v (.int i)) (.v (.int j)) st = .ok (.v (.bool (decide (i > j)))) st := rfl
@[simp] theorem geD_int : geD (.v (.int i)) (.v (.int j)) st = .ok (.v (.bool (decide (i ≥ j)))) st := rfl
theorem mulD_int (h : cMul i j = true) : mulD (.v (.int i)) (.v (.int j)) st = .ok (.v (.int (i * j))) st := by
  show (if cMul i j then _ else _) = _
  rw [if_pos h]
theorem mulD_r (h : -(2 ^ 64) < j ∧ j < 2 ^ 64) : mulD (.v (.int i)) (.v (.int j)) st = .ok (.v (.int (i * j))) st := mulD_int (by
  unfold cMul
  simp only [Bool.or_eq_true, Bool.and_eq_true, decide_eq_true_eq]
  exact .inr h)
theorem mulD_l (h : -(2 ^ 64) < i ∧ i < 2 ^ 64) : mulD (.v (.int i)) (.v (.int j)) st = .ok (.v (.int (i * j))) st := mulD_int (by
  unfold cMul
  simp only [Bool.or_eq_true, Bool.and_eq_true, decide_eq_true_eq]
  exact .inl h)
theorem fdivD_int (h : 0 < j) (h2 : j < 1073741824) : fdivD (.v (.int i)) (.v (.int j)) st = .ok (.v (.int (i / j))) st := by
  show (if cDiv i j then _ else _) = _
  have e : cDiv i j = true := by
    unfold cDiv
    simp only [Bool.and_eq_true, decide_eq_true_eq]
    exact ⟨by omega, by omega⟩
  rw [if_pos e]
  show Out.ok (D.v (.int (i.fdiv j))) st = _
  rw [Int.fdiv_eq_ediv_of_nonneg _ (by omega)]
theorem modD_int (h : 0 < j) : modD (.v (.int i)) (.v (.int j)) st = .ok (.v (.int (i % j))) st := by
  show (if decide (j ≠ 0) then _ else _) = _
  rw [if_pos (decide_eq_true (by omega))]
  show Out.ok (D.v (.int (i.fmod j))) st = _
  rw [Int.fmod_eq_emod_of_nonneg _ (by omega)]
@[simp] theorem isD_bool : isD (.v (.bool a)) (.v (.bool b)) st = .ok (.v (.bool (decide (a = b)))) st := rfl
@[simp] theorem isNotD_bool : isNotD (.v (.bool a)) (.v (.bool b)) st = .ok (.v (.bool (!decide (a = b)))) st := rfl
@[simp] theorem tru_bool : truS' st (.v (.bool b)) = some b := rfl
@[simp] theorem fInt_int : fInt [.v (.int i)] st = .ok (.v (.int i)) st := rfl
theorem fAbs_int : fAbs [.v (.int i)] st = .ok (.v (.int i.natAbs)) st := by
  show Out.ok (D.v (.int (if i < 0 then -i else i))) st = _
  congr 3
  split <;> omega
@[simp] theorem bMax_int : f2I intMax [.v (.int i), .v (.int j)] st = .ok (.v (.int (max i j))) st := by
  show Out.ok (D.v (.int (intMax i j))) st = _
  congr 3
  unfold intMax
  split <;> omega
@[simp] theorem len_list : fLen [.v (.list xs)] st = .ok (.v (.int xs.length)) st := rfl
@[simp] theorem len_tup : fLen [.v (.tuple xs)] st = .ok (.v (.int xs.length)) st := rfl
theorem len_of {a : D} (h : viewS st a = some xs) : fLen [a] st = .ok (.v (.int xs.length)) st := by
  show (match viewS st a with
    | some xs => _
    | none => _) = _
  rw [h]
theorem list_of {a : D} (h : viewS st a = some xs) : gList [a] st = .ok xs st := by
  show (match viewS st a with
    | some xs => _
    | none => _) = _
  rw [h]
@[simp] theorem viewS_list : viewS st (.v (.list xs)) = some xs := rfl
@[simp] theorem list_tup : gList [.v (.tuple xs)] st = .ok xs st := rfl
@[simp] theorem tup_list : fTuple [.v (.list xs)] st = .ok (.v (.tuple xs)) st := rfl
theorem viewS_ref {n : Nat} (h : st[n]? = some (.lst xs)) : viewS st (.ref n) = some xs := by
  show (match st[n]? with
    | some (.lst xs) => some xs
    | _ => none) = _
  rw [h]
theorem isL_ref {n : Nat} (h : st[n]? = some (.lst xs)) : isL st (.ref n) = true := by
  show (match st[n]? with
    | some (.lst xs) => some xs
    | _ => none).isSome = _
  rw [h]
  rfl
theorem lAt_ref {n : Nat} (h : st[n]? = some (.lst xs)) : lAt st (.ref n) = some (n, xs) := by
  show (match st[n]? with
    | some (.lst zs) => some (n, zs)
    | _ => none) = _
  rw [h]
theorem tup_of {n : Nat} (h : st[n]? = some (.lst xs)) : fTuple [.ref n] st = .ok (.v (.tuple xs)) st := by
  show (match viewL st (.ref n) with
    | some xs => _
    | none => _) = _
  have e : viewL st (.ref n) = some xs := viewS_ref h
  rw [e]
theorem seqIndex_nat {n k : Nat} (h : k < n) : seqIndex? (k : Int) n = some k := by
  unfold seqIndex?
  have h1 : ¬ (k : Int) < 0 := by omega
  simp only [if_neg h1]
  rw [if_pos (by simp; omega)]
  simp
theorem atI_nat {α : Type} {xs : List α} {k : Nat} : atI xs (k : Int) = xs[k]? := by
  unfold atI ixN
  rw [if_pos (by omega)]
  by_cases h : k < xs.length
  · rw [if_pos (by omega)]
    simp
  · rw [if_neg (by omega), List.getElem?_eq_none (by omega)]
    rfl
theorem pop_at {n k : Nat} (h : st[n]? = some (.lst xs)) (hk : k < xs.length) (hl : xs.length ≤ 1000000) : fmPopAt (.ref n) [.v (.int k)] st = .ok (.v xs[k]) (st.set n (.lst (xs.eraseIdx k))) := by
  unfold fmPopAt
  rw [lAt_ref h]
  show (if -1000000 ≤ (k : Int) ∧ (k : Int) ≤ 1000000 then _ else _) = _
  rw [if_pos (by omega), seqIndex_nat hk]
  show (match xs[k]? with
    | some d => _
    | none => _) = _
  rw [List.getElem?_eq_getElem hk]
theorem append_at {n : Nat} (h : st[n]? = some (.lst xs)) (hl : xs.length < 1000000) : fmAppend (.ref n) [.v d] st = .ok (.v .none) (st.set n (.lst (xs ++ [d]))) := by
  unfold fmAppend
  rw [lAt_ref h]
  show (if xs.length < lim then _ else _) = _
  rw [if_pos (show xs.length < lim from hl)]
theorem sub_of {a : D} {k : Nat} (hv : viewK st a = none) (h : viewS st a = some xs) (hk : xs[k]? = some d) : subsD a (.v (.int k)) st = .ok (.v d) st := by
  unfold subsD
  rw [hv]
  show ixD a _ st = _
  unfold ixD
  rw [h]
  show (match atI xs (k : Int) with
    | some d => _
    | none => _) = _
  rw [atI_nat, hk]
theorem sub_list {k : Nat} (hk : xs[k]? = some d) : subsD (.v (.list xs)) (.v (.int k)) st = .ok (.v d) st := sub_of rfl rfl hk
theorem sub_tup {k : Nat} (hk : xs[k]? = some d) : subsD (.v (.tuple xs)) (.v (.int k)) st = .ok (.v d) st := sub_of rfl rfl hk
end
section
variable {m : MA} {me : ME} {env : Ev} {st : Sto} {P : List Itm × Wt → Sto → Prop} {xs ys : List PyData}
theorem ok_R1 : (miR1 m env st).Ok P ↔ (m env st).Ok fun ds s => P1i ds fun j => (-1000000 ≤ j ∧ j ≤ 1000000) ∧ P (rngI 0 j.toNat, none) s := by
  unfold miR1
  rw [ok_bind]
  constructor
  · intro h
    refine h.mono fun ds s q => ?_
    split at q
    · split at q
      · rename_i j e
        split at q
        · rename_i hb
          have ed := (iOf_eq e)
          subst ed
          exact ⟨hb, q⟩
        · exact q.elim
      · exact q.elim
    · exact q.elim
  · intro h
    refine h.mono fun ds s q => ?_
    unfold P1i at q
    split at q
    · rename_i j
      show (if -1000000 ≤ j ∧ j ≤ 1000000 then Out.ok (rngI 0 j.toNat, none) s else .stuck).Ok P
      rw [if_pos q.1]
      exact q.2
    · exact q.elim
def seqW (d : D) (s1 : Sto) : Out (List Itm × Wt) := match d with
  | .scr ns => .ok (ns.map fun n => .one (.v (.int n)), none) s1
  | d => match seqI s1 d with
    | some (zs, w) => .ok (zs.map fun z => .one (.v z), w) s1
    | none => .stuck
theorem ok_seq : (miSeq me env st).Ok P ↔ (me env st).Ok fun d s => (seqW d s).Ok P := ok_bind
@[simp] theorem seqW_list : seqW (.v (.list xs)) st = .ok (xs.map fun z => .one (.v z), none) st := rfl
@[simp] theorem seqW_tup : seqW (.v (.tuple xs)) st = .ok (xs.map fun z => .one (.v z), none) st := rfl
@[simp] theorem seqW_scr {ns : List Int} : seqW (.scr ns) st = .ok (ns.map fun n => .one (.v (.int n)), none) st := rfl
@[simp] theorem ok_gMore {g : MG} {r : MGs} {d : D} {t : List D} {P : Ev → Sto → Prop} : (gMore g r (d :: t) env st).Ok P ↔ (g (.one d) env st).Ok fun e1 s1 => (r t e1 s1).Ok P := ok_bind
@[simp] theorem ok_gNone {P : Ev → Sto → Prop} : (gNone [] env st).Ok P ↔ P env st := Iff.rfl
@[simp] theorem ok_gNm {i : Nat} {d : D} {P : Ev → Sto → Prop} : (gNm i (.one d) env st).Ok P ↔ P (env.set i (some d)) st := Iff.rfl
end
end Fw
namespace Fw
open PySem PySem.Spec PyProof.Rows L2
structure Src where
  stk : List Int
  left : Int
  mixed : Int
  turn : Int
def Src.o (s : Src) : O := .dct false [(.str "cells", .ref 0), (.str "left", .v (.int s.left)), (.str "mixed", .v (.int s.mixed)), (.str "turn", .v (.int s.turn))]
def Src.sto (s : Src) (rest : Sto) : Sto := .lst (s.stk.reverse.map .int) :: s.o :: rest
section
variable {s : Src} {rest : Sto} {x : Int}
@[simp] theorem src_cells : subsD (.ref 1) (.v (.str "cells")) (s.sto rest) = .ok (.ref 0) (s.sto rest) := by rfl
@[simp] theorem src_left : subsD (.ref 1) (.v (.str "left")) (s.sto rest) = .ok (.v (.int s.left)) (s.sto rest) := by rfl
@[simp] theorem src_mixed : subsD (.ref 1) (.v (.str "mixed")) (s.sto rest) = .ok (.v (.int s.mixed)) (s.sto rest) := by rfl
@[simp] theorem src_turn : subsD (.ref 1) (.v (.str "turn")) (s.sto rest) = .ok (.v (.int s.turn)) (s.sto rest) := by rfl
@[simp] theorem set_left : setU (.ref 1) (.v (.str "left")) (.v (.int x)) (s.sto rest) = .ok () (({ s with left := x } : Src).sto rest) := by rfl
@[simp] theorem set_mixed : setU (.ref 1) (.v (.str "mixed")) (.v (.int x)) (s.sto rest) = .ok () (({ s with mixed := x } : Src).sto rest) := by rfl
@[simp] theorem set_turn : setU (.ref 1) (.v (.str "turn")) (.v (.int x)) (s.sto rest) = .ok () (({ s with turn := x } : Src).sto rest) := by rfl
@[simp] theorem src_len : fLen [.ref 0] (s.sto rest) = .ok (.v (.int s.stk.length)) (s.sto rest) := by
  show Out.ok (D.v (.int ((s.stk.reverse.map PyData.int).length))) (s.sto rest) = _
  rw [List.length_map, List.length_reverse]
@[simp] theorem src_isL : isL (s.sto rest) (.ref 0) = true := rfl
theorem src_pop {c : Int} {r : List Int} (h : s.stk = c :: r) : fmPop (.ref 0) [] (s.sto rest) = .ok (.v (.int c)) (({ s with stk := r } : Src).sto rest) := by
  obtain ⟨k, l, m, t⟩ := s
  simp only at h
  subst h
  show fmPop (.ref 0) [] (.lst ((c :: r).reverse.map .int) :: _ :: rest) = _
  unfold fmPop
  show (match ((c :: r).reverse.map PyData.int)[((c :: r).reverse.map PyData.int).length - 1]? with
    | some d => _
    | none => _) = _
  rw [show ((c :: r).reverse.map PyData.int) = r.reverse.map PyData.int ++ [.int c] by simp]
  rw [List.length_append, List.length_singleton, Nat.add_sub_cancel, List.getElem?_append_right (Nat.le_refl _), Nat.sub_self]
  show Out.ok _ _ = _
  simp only [List.dropLast_concat]
  rfl
end
def Src.ok (s : Src) : Prop := s.stk.length < 1000000
def Pick (f : FF) : Prop := ∀ (s : Src) (rest : Sto) (m : Int), m < 1073741824 → s.ok → (f [.ref 1, .v (.int m)] (s.sto rest)).Ok fun d st => ∃ (r : Int) (s' : Src), d = .v (.int r) ∧ st = s'.sto rest ∧ s'.ok ∧ 0 ≤ r ∧ (1 ≤ m → r < m) ∧ (m ≤ 0 → r = 0)
theorem take_sto {s : Src} {s0 : Src} {rest : Sto} : (s.sto rest).take (s0.sto rest).length = s.sto rest := List.take_length (l := s.sto rest)
end Fw
namespace Fw.LA
open PySem PySem.Spec PyProof.Rows L2 Fw
noncomputable def law_pick_T1 : MT := (mAndT (mTB (mBin ltD (mBin subsD (mVar 0) (mC (.str "left"))) (mC (.int 2)))) (mTB (mBin gtD (mArg fLen (mCons (mVar 2) mNil)) (mC (.int 0)))))
noncomputable def law_pick_B1 : MS := (sSub (mM0 fmPop (mVar 2)) (mVar 0) (mC (.str "left")))
noncomputable def S_law_pick_10 : MS := (sRet (mBin modD (mArg fInt (mCons (mBin fdivD (mVar 5) (mC (.int 16))) mNil)) (mVar 1)))
noncomputable def S_law_pick_9 : MS := (sSeq (sAsg (mBin modD (mArg fInt (mCons (mBin addD (mBin mulD (mVar 5) (mVar 5)) (mBin mulD (mVar 4) (mC (.int 17)))) mNil)) (mC (.int 2147483647))) (gNm 5)) S_law_pick_10)
noncomputable def S_law_pick_8 : MS := (sSeq (sAsg (mBin modD (mArg fInt (mCons (mBin addD (mBin subsD (mVar 0) (mC (.str "mixed"))) (mBin mulD (mVar 4) (mC (.int 104729)))) mNil)) (mC (.int 998244353))) (gNm 5)) S_law_pick_9)
noncomputable def S_law_pick_7 : MS := (sSeq (sAsg (mBin subsD (mVar 0) (mC (.str "turn"))) (gNm 4)) S_law_pick_8)
noncomputable def S_law_pick_6 : MS := (sSeq (sSub (mBin addD (mBin subsD (mVar 0) (mC (.str "turn"))) (mC (.int 1))) (mVar 0) (mC (.str "turn"))) S_law_pick_7)
noncomputable def S_law_pick_5 : MS := (sSeq (sIf (mTB (mBin gtD (mVar 3) (mC (.int 1)))) (sSeq (sSub (mBin fdivD (mVar 3) (mVar 1)) (mVar 0) (mC (.str "left"))) (sRet (mBin modD (mArg fInt (mCons (mVar 3) mNil)) (mVar 1)))) sNil) S_law_pick_6)
noncomputable def S_law_pick_4 : MS := (sSeq (sAsg (mBin subsD (mVar 0) (mC (.str "left"))) (gNm 3)) S_law_pick_5)
noncomputable def S_law_pick_3 : MS := (sSeq (whileL law_pick_T1 law_pick_B1 1000000) S_law_pick_4)
noncomputable def S_law_pick_2 : MS := (sSeq (sAsg (mBin subsD (mVar 0) (mC (.str "cells"))) (gNm 2)) S_law_pick_3)
noncomputable def S_law_pick : MS := (sSeq (sIf (mTB (mBin ltD (mVar 1) (mC (.int 2)))) (sRet (mC (.int 0))) sNil) S_law_pick_2)
noncomputable def f_law_pick : FF := fnT 6 S_law_pick
noncomputable def law_any_order_E1 : MI := (miR1 (mCons (mArg fLen (mCons (mVar 2) mNil)) mNil))
noncomputable def law_any_order_G1 : MG := (gNm 3)
noncomputable def law_any_order_T1 : MT := mYes
noncomputable def law_any_order_M1 : ME := (mM fmPopAt (mVar 2) (mCons (mCall f_law_pick (mCons (mVar 0) (mCons (mArg fLen (mCons (mVar 2) mNil)) mNil)) []) mNil))
noncomputable def S_law_any_order_2 : MS := (sRet (mFrz (mLc law_any_order_E1 law_any_order_G1 law_any_order_T1 law_any_order_M1 [3])))
noncomputable def S_law_any_order : MS := (sSeq (sAsg (mNew (mfArg gList (mCons (mVar 1) mNil))) (gNm 2)) S_law_any_order_2)
noncomputable def f_law_any_order : FF := fnT 4 S_law_any_order
noncomputable def S_law_of : MS := (sRet (mBin subsD (mVar 1) (mCall f_law_pick (mCons (mVar 0) (mCons (mArg fLen (mCons (mVar 1) mNil)) mNil)) [])))
noncomputable def f_law_of : FF := fnT 2 S_law_of
noncomputable def law_source_E1 : MI := (miSeq (mVar 0))
noncomputable def law_source_G1 : MG := (gNm 2)
noncomputable def law_source_B1 : MS := (sAsg (mBin modD (mArg fInt (mCons (mBin addD (mBin addD (mBin mulD (mVar 1) (mC (.int 69069))) (mBin mulD (mVar 2) (mC (.int 31)))) (mC (.int 5))) mNil)) (mC (.int 2147483629))) (gNm 1))
noncomputable def law_source_E2 : MI := (miSeq (mVar 0))
noncomputable def law_source_G2 : MG := (gNm 2)
noncomputable def law_source_T1 : MT := mYes
noncomputable def law_source_M1 : ME := (mArg fAbs (mCons (mVar 2) mNil))
noncomputable def S_law_source_4 : MS := (sRet (mDisp [((mC (.str "cells")), (mNew (mfRev (mVar 3)))), ((mC (.str "left")), (mC (.int 1))), ((mC (.str "mixed")), (mVar 1)), ((mC (.str "turn")), (mC (.int 0)))]))
noncomputable def S_law_source_3 : MS := (sSeq (sAsg (mFrz (mLc law_source_E2 law_source_G2 law_source_T1 law_source_M1 [2])) (gNm 3)) S_law_source_4)
noncomputable def S_law_source_2 : MS := (sSeq (sFor law_source_E1 law_source_G1 law_source_B1) S_law_source_3)
noncomputable def S_law_source : MS := (sSeq (sAsg (mC (.int 11)) (gNm 1)) S_law_source_2)
noncomputable def f_law_source : FF := fnK 4 S_law_source
noncomputable def law_mixed_E1 : MI := (miR1 (mCons (mArg fLen (mCons (mVar 2) mNil)) mNil))
noncomputable def law_mixed_G1 : MG := (gNm 3)
noncomputable def law_mixed_T1 : MT := mYes
noncomputable def law_mixed_M1 : ME := (mM fmPopAt (mVar 2) (mCons (mCall f_law_pick (mCons (mVar 0) (mCons (mArg fLen (mCons (mVar 2) mNil)) mNil)) []) mNil))
noncomputable def S_law_mixed_2 : MS := (sRet (mFrz (mLc law_mixed_E1 law_mixed_G1 law_mixed_T1 law_mixed_M1 [3])))
noncomputable def S_law_mixed : MS := (sSeq (sAsg (mNew (mfArg gList (mCons (mVar 1) mNil))) (gNm 2)) S_law_mixed_2)
noncomputable def f_law_mixed : FF := fnT 4 S_law_mixed
end Fw.LA
namespace Fw.LB
open PySem PySem.Spec PyProof.Rows L2 Fw
noncomputable def law_source_E1 : MI := (miSeq (mVar 0))
noncomputable def law_source_G1 : MG := (gNm 2)
noncomputable def law_source_B1 : MS := (sAsg (mBin modD (mArg fInt (mCons (mBin addD (mBin addD (mBin mulD (mVar 1) (mC (.int 69069))) (mBin mulD (mVar 2) (mC (.int 31)))) (mC (.int 5))) mNil)) (mC (.int 2147483629))) (gNm 1))
noncomputable def law_source_E2 : MI := (miSeq (mVar 0))
noncomputable def law_source_G2 : MG := (gNm 2)
noncomputable def law_source_T1 : MT := mYes
noncomputable def law_source_M1 : ME := (mArg fAbs (mCons (mVar 2) mNil))
noncomputable def S_law_source_3 : MS := (sRet (mDisp [((mC (.str "cells")), (mNew (mfRev (mFrz (mLc law_source_E2 law_source_G2 law_source_T1 law_source_M1 [2]))))), ((mC (.str "left")), (mC (.int 1))), ((mC (.str "mixed")), (mVar 1)), ((mC (.str "turn")), (mC (.int 0)))]))
noncomputable def S_law_source_2 : MS := (sSeq (sFor law_source_E1 law_source_G1 law_source_B1) S_law_source_3)
noncomputable def S_law_source : MS := (sSeq (sAsg (mC (.int 11)) (gNm 1)) S_law_source_2)
noncomputable def f_law_source : FF := fnK 3 S_law_source
noncomputable def law_pick_T1 : MT := (mAndT (mTB (mBin gtD (mVar 1) (mC (.int 1)))) (mAndT (mTB (mBin ltD (mBin subsD (mVar 0) (mC (.str "left"))) (mC (.int 2)))) (mTB (mBin gtD (mArg fLen (mCons (mBin subsD (mVar 0) (mC (.str "cells"))) mNil)) (mC (.int 0))))))
noncomputable def law_pick_B1 : MS := (sSub (mM0 fmPop (mBin subsD (mVar 0) (mC (.str "cells")))) (mVar 0) (mC (.str "left")))
noncomputable def S_law_pick_8 : MS := (sRet (mBin modD (mArg fInt (mCons (mBin fdivD (mVar 3) (mC (.int 16))) mNil)) (mVar 1)))
noncomputable def S_law_pick_7 : MS := (sSeq (sSub (mVar 3) (mVar 0) (mC (.str "mixed"))) S_law_pick_8)
noncomputable def S_law_pick_6 : MS := (sSeq (sAsg (mBin modD (mArg fInt (mCons (mBin addD (mBin mulD (mVar 3) (mVar 3)) (mBin mulD (mBin subsD (mVar 0) (mC (.str "turn"))) (mC (.int 17)))) mNil)) (mC (.int 2147483647))) (gNm 3)) S_law_pick_7)
noncomputable def S_law_pick_5 : MS := (sSeq (sAsg (mBin modD (mArg fInt (mCons (mBin addD (mBin subsD (mVar 0) (mC (.str "mixed"))) (mBin mulD (mBin subsD (mVar 0) (mC (.str "turn"))) (mC (.int 104729)))) mNil)) (mC (.int 998244353))) (gNm 3)) S_law_pick_6)
noncomputable def S_law_pick_4 : MS := (sSeq (sSub (mBin addD (mBin subsD (mVar 0) (mC (.str "turn"))) (mC (.int 1))) (mVar 0) (mC (.str "turn"))) S_law_pick_5)
noncomputable def S_law_pick_3 : MS := (sSeq (sIf (mOrT (mTB (mBin ltD (mVar 1) (mC (.int 2)))) (mTB (mBin gtD (mVar 2) (mC (.int 1))))) (sSeq (sSub (mBin fdivD (mVar 2) (mArg (f2I intMax) (mCons (mC (.int 1)) (mCons (mVar 1) mNil)))) (mVar 0) (mC (.str "left"))) (sRet (mBin modD (mArg fInt (mCons (mVar 2) mNil)) (mArg (f2I intMax) (mCons (mC (.int 1)) (mCons (mVar 1) mNil)))))) sNil) S_law_pick_4)
noncomputable def S_law_pick_2 : MS := (sSeq (sAsg (mBin subsD (mVar 0) (mC (.str "left"))) (gNm 2)) S_law_pick_3)
noncomputable def S_law_pick : MS := (sSeq (whileL law_pick_T1 law_pick_B1 1000000) S_law_pick_2)
noncomputable def f_law_pick : FF := fnT 4 S_law_pick
noncomputable def law_mixed_E1 : MI := (miR1 (mCons (mArg fLen (mCons (mVar 2) mNil)) mNil))
noncomputable def law_mixed_G1 : MG := (gNm 3)
noncomputable def law_mixed_T1 : MT := mYes
noncomputable def law_mixed_M1 : ME := (mM fmPopAt (mVar 2) (mCons (mCall f_law_pick (mCons (mVar 0) (mCons (mArg fLen (mCons (mVar 2) mNil)) mNil)) []) mNil))
noncomputable def S_law_mixed_2 : MS := (sRet (mFrz (mLc law_mixed_E1 law_mixed_G1 law_mixed_T1 law_mixed_M1 [3])))
noncomputable def S_law_mixed : MS := (sSeq (sAsg (mNew (mfArg gList (mCons (mVar 1) mNil))) (gNm 2)) S_law_mixed_2)
noncomputable def f_law_mixed : FF := fnT 4 S_law_mixed
noncomputable def S_law_of : MS := (sRet (mBin subsD (mVar 1) (mCall f_law_pick (mCons (mVar 0) (mCons (mArg fLen (mCons (mVar 1) mNil)) mNil)) [])))
noncomputable def f_law_of : FF := fnT 2 S_law_of
end Fw.LB
namespace Fw.LC
open PySem PySem.Spec PyProof.Rows L2 Fw
noncomputable abbrev f_law_pick : FF := Fw.LA.f_law_pick
noncomputable abbrev f_law_any_order : FF := Fw.LA.f_law_any_order
noncomputable def S_do_want : MS := (sRet (mAndV (mBin inU (mVar 2) (mBin subsD (mBin subsD (mVar 0) (mC (.int 1))) (mVar 1))) (mBin inU (mVar 1) (mBin subsD (mBin subsD (mVar 0) (mC (.int 1))) (mVar 2)))))
noncomputable def f_do_want : FF := fnT 3 S_do_want
noncomputable def S_has_rather_3 : MS := (sRet (mOrV (mBin notInU (mVar 3) (mVar 4)) (mBin ltD (mIndex (mVar 4) (mCons (mVar 2) mNil)) (mIndex (mVar 4) (mCons (mVar 3) mNil)))))
noncomputable def S_has_rather_2 : MS := (sSeq (sIf (mTB (mBin notInU (mVar 2) (mVar 4))) (sRet (mAndV (mBin isD (mVar 2) (mC .none)) (mAndV (mBin isNotD (mVar 3) (mC .none)) (mBin notInU (mVar 3) (mVar 4))))) sNil) S_has_rather_3)
noncomputable def S_has_rather : MS := (sSeq (sAsg (mBin subsD (mBin subsD (mVar 0) (mC (.int 1))) (mVar 1)) (gNm 4)) S_has_rather_2)
noncomputable def f_has_rather : FF := fnT 5 S_has_rather
noncomputable def partner_of_E1 : MI := (miSeq (mVar 0))
noncomputable def partner_of_G1 : MG := (gNm 3)
noncomputable def partner_of_T1 : MT := (mTB (mBin inU (mVar 1) (mVar 3)))
noncomputable def partner_of_M1 : ME := (mBin subD (mArg fSum (mCons (mVar 3) mNil)) (mVar 1))
noncomputable def S_partner_of_2 : MS := (sRet (mIte (mTB (mBin neD (mVar 2) (mFrz (mfArg gDisp mNil)))) (mBin subsD (mVar 2) (mC (.int 0))) (mC .none)))
noncomputable def S_partner_of : MS := (sSeq (sAsg (mFrz (mLc partner_of_E1 partner_of_G1 partner_of_T1 partner_of_M1 [3])) (gNm 2)) S_partner_of_2)
noncomputable def f_partner_of : FF := fnT 4 S_partner_of
noncomputable def S_does_break : MS := (sRet (mAndV (mCall f_has_rather (mCons (mVar 0) (mCons (mVar 2) (mCons (mVar 3) (mCons (mCall f_partner_of (mCons (mVar 1) (mCons (mVar 2) mNil)) []) mNil)))) []) (mCall f_has_rather (mCons (mVar 0) (mCons (mVar 3) (mCons (mVar 2) (mCons (mCall f_partner_of (mCons (mVar 1) (mCons (mVar 3) mNil)) []) mNil)))) [])))
noncomputable def f_does_break : FF := fnT 4 S_does_break
noncomputable def breaking_pairs_E1 : MI := (miR2 (mCons (mBin addD (mVar 3) (mC (.int 1))) (mCons (mBin subsD (mVar 0) (mC (.int 0))) mNil)))
noncomputable def breaking_pairs_G1 : MG := (gNm 5)
noncomputable def breaking_pairs_T1 : MT := (mTru' (mCall f_do_want (mCons (mVar 0) (mCons (mVar 3) (mCons (mVar 5) mNil))) []))
noncomputable def breaking_pairs_M1 : ME := (mVar 5)
noncomputable def breaking_pairs_E2 : MI := (miSeq (mVar 4))
noncomputable def breaking_pairs_G2 : MG := (gNm 5)
noncomputable def breaking_pairs_T2 : MT := (mTru' (mCall f_does_break (mCons (mVar 0) (mCons (mVar 1) (mCons (mVar 3) (mCons (mVar 5) mNil)))) []))
noncomputable def breaking_pairs_M2 : ME := (mArg fTup (mCons (mVar 3) (mCons (mVar 5) mNil)))
noncomputable def breaking_pairs_B1_2 : MS := (sAsg (mFrz (mfBin gCat (mVar 2) (mFrz (mLc breaking_pairs_E2 breaking_pairs_G2 breaking_pairs_T2 breaking_pairs_M2 [5])))) (gNm 2))
noncomputable def breaking_pairs_E3 : MI := (miR1 (mCons (mBin subsD (mVar 0) (mC (.int 0))) mNil))
noncomputable def breaking_pairs_G3 : MG := (gNm 3)
noncomputable def breaking_pairs_B1 : MS := (sSeq (sAsg (mFrz (mLc breaking_pairs_E1 breaking_pairs_G1 breaking_pairs_T1 breaking_pairs_M1 [5])) (gNm 4)) breaking_pairs_B1_2)
noncomputable def S_breaking_pairs_3 : MS := (sRet (mArg fTuple (mCons (mVar 2) mNil)))
noncomputable def S_breaking_pairs_2 : MS := (sSeq (sFor breaking_pairs_E3 breaking_pairs_G3 breaking_pairs_B1) S_breaking_pairs_3)
noncomputable def S_breaking_pairs : MS := (sSeq (sAsg (mFrz (mfArg gDisp mNil)) (gNm 2)) S_breaking_pairs_2)
noncomputable def f_breaking_pairs : FF := fnT 6 S_breaking_pairs
noncomputable def S_law_want : MS := (sRet (mAndV (mBin inU (mVar 2) (mBin subsD (mBin subsD (mVar 0) (mC (.int 1))) (mVar 1))) (mBin inU (mVar 1) (mBin subsD (mBin subsD (mVar 0) (mC (.int 1))) (mVar 2)))))
noncomputable def f_law_want : FF := fnT 3 S_law_want
noncomputable def S_law_place_2 : MS := (sRet (mIte (mTB (mBin isD (mVar 2) (mC .none))) (mArg fLen (mCons (mVar 3) mNil)) (mIte (mTB (mBin inU (mVar 2) (mVar 3))) (mIndex (mVar 3) (mCons (mVar 2) mNil)) (mBin addD (mArg fLen (mCons (mVar 3) mNil)) (mC (.int 1))))))
noncomputable def S_law_place : MS := (sSeq (sAsg (mBin subsD (mBin subsD (mVar 0) (mC (.int 1))) (mVar 1)) (gNm 3)) S_law_place_2)
noncomputable def f_law_place : FF := fnT 4 S_law_place
noncomputable def law_partner_E1 : MI := (miSeq (mVar 0))
noncomputable def law_partner_G1 : MG := (gNm 3)
noncomputable def law_partner_T1 : MT := (mTB (mBin inU (mVar 1) (mVar 3)))
noncomputable def law_partner_M1 : ME := (mBin subD (mBin addD (mBin subsD (mVar 3) (mC (.int 0))) (mBin subsD (mVar 3) (mC (.int 1)))) (mVar 1))
noncomputable def S_law_partner_2 : MS := (sRet (mIte (mTB (mBin neD (mVar 2) (mFrz (mfArg gDisp mNil)))) (mBin subsD (mVar 2) (mC (.int 0))) (mC .none)))
noncomputable def S_law_partner : MS := (sSeq (sAsg (mFrz (mLc law_partner_E1 law_partner_G1 law_partner_T1 law_partner_M1 [3])) (gNm 2)) S_law_partner_2)
noncomputable def f_law_partner : FF := fnT 4 S_law_partner
noncomputable def law_breaking_E1 : MI := (miR2 (mCons (mBin addD (mVar 3) (mC (.int 1))) (mCons (mBin subsD (mVar 0) (mC (.int 0))) mNil)))
noncomputable def law_breaking_G1 : MG := (gNm 4)
noncomputable def law_breaking_T1 : MT := (mTru' (mCall f_law_want (mCons (mVar 0) (mCons (mVar 3) (mCons (mVar 4) mNil))) []))
noncomputable def law_breaking_M1 : ME := (mVar 4)
noncomputable def law_breaking_B2_2 : MS := (sIf (mAndT (mTru' (mVar 5)) (mTB (mBin ltD (mCall f_law_place (mCons (mVar 0) (mCons (mVar 4) (mCons (mVar 3) mNil))) []) (mCall f_law_place (mCons (mVar 0) (mCons (mVar 4) (mCons (mCall f_law_partner (mCons (mVar 1) (mCons (mVar 4) mNil)) []) mNil))) [])))) (sExp (mM fmAppend (mVar 2) (mCons (mArg fTup (mCons (mVar 3) (mCons (mVar 4) mNil))) mNil))) sNil)
noncomputable def law_breaking_E2 : MI := (miSeq (mFrz (mLc law_breaking_E1 law_breaking_G1 law_breaking_T1 law_breaking_M1 [4])))
noncomputable def law_breaking_G2 : MG := (gNm 4)
noncomputable def law_breaking_B2 : MS := (sSeq (sAsg (mBin ltD (mCall f_law_place (mCons (mVar 0) (mCons (mVar 3) (mCons (mVar 4) mNil))) []) (mCall f_law_place (mCons (mVar 0) (mCons (mVar 3) (mCons (mCall f_law_partner (mCons (mVar 1) (mCons (mVar 3) mNil)) []) mNil))) [])) (gNm 5)) law_breaking_B2_2)
noncomputable def law_breaking_E3 : MI := (miR1 (mCons (mBin subsD (mVar 0) (mC (.int 0))) mNil))
noncomputable def law_breaking_G3 : MG := (gNm 3)
noncomputable def law_breaking_B1 : MS := (sFor law_breaking_E2 law_breaking_G2 law_breaking_B2)
noncomputable def S_law_breaking_3 : MS := (sRet (mUn frz1 (mVar 2)))
noncomputable def S_law_breaking_2 : MS := (sSeq (sFor law_breaking_E3 law_breaking_G3 law_breaking_B1) S_law_breaking_3)
noncomputable def S_law_breaking : MS := (sSeq (sAsg (mNew (mfArg gDisp mNil)) (gNm 2)) S_law_breaking_2)
noncomputable def f_law_breaking : FF := fnT 6 S_law_breaking
end Fw.LC
namespace Fw
open PySem PySem.Spec PyProof.Rows L2
theorem sq_small {a : Int} (h : 0 ≤ a) (h2 : a < 998244353) : -(2 ^ 64) < a ∧ a < 2 ^ 64 := ⟨by omega, by omega⟩
theorem pickB_ok : Pick LB.f_law_pick := by
  intro s rest m hm hs
  refine fnT_ok ?_
  unfold LB.S_law_pick
  simp only [envE, so_seq, so_if, so_ret, so_retN, so_exp, so_nil, so_nx, so_rt, so_asg, so_asgG, so_par2, so_par3, ok_gNm, ok_gMore, ok_gNone, so_asgT, so_sub, so_for, ok_TB, ok_Tru, ok_notT, ok_andT, ok_orT, ok_andV, ok_orV, ok_notV, ok_iteE, ok_frz, ok_new, ok_mfArg, ok_mfBin, ok_lc, ok_M, ok_M0, ok_moNone, ok_moSome, ok_Sl,
  ok_bin, ok_un, ok_arg, ok_cons, ok_nil, ok_call, ok_var, ok_C, ok_ok, ok_stuck, ok_noX, bOf_bool, low_v, iOf_int, addD_int, subD_int, negD_int, ltD_int, leD_int, gtD_int, geD_int, fInt_int, isD_bool, isNotD_bool, tru_bool, List.map_cons, List.map_nil, List.length_cons, List.length_nil, List.replicate_succ, List.replicate_zero, List.cons_append, List.nil_append,
  List.append_nil, List.getElem?_cons_zero, List.getElem?_cons_succ, List.set_cons_zero, List.set_cons_succ, Option.some.injEq, exists_eq_left', exists_eq_left, true_and, and_true, true_implies, false_implies, implies_true, Bool.false_eq_true, reduceCtorEq, false_and, and_false, D.v.injEq, PyData.int.injEq, D.ref.injEq, p1i_int, p2_two, p3_three, decide_true, Bool.not_true, Bool.not_false, decide_eq_true_eq, decide_eq_false_iff_not]
  refine so_to (fun e st => ∃ s' : Src, e = [some (D.ref 1), some (D.v (PyData.int m)), none, none] ∧ st = s'.sto rest ∧ s'.ok) ?_ ?_
  · refine whileL_inv (fun k e st => ∃ s' : Src, e = [some (D.ref 1), some (D.v (PyData.int m)), none, none] ∧ st = s'.sto rest ∧ s'.ok ∧ s'.stk.length = k) ?_ 1000000 s.stk.length _ _ hs ⟨s, rfl, rfl, hs, rfl⟩
    rintro k e st ⟨s', rfl, rfl, ok, hk⟩
    unfold LB.law_pick_T1 LB.law_pick_B1
    simp only [envE, so_seq, so_if, so_ret, so_retN, so_exp, so_nil, so_nx, so_rt, so_asg, so_asgG, so_par2, so_par3, ok_gNm, ok_gMore, ok_gNone, so_asgT, so_sub, so_for, ok_TB, ok_Tru, ok_notT, ok_andT, ok_orT, ok_andV, ok_orV, ok_notV, ok_iteE, ok_frz, ok_new, ok_mfArg, ok_mfBin, ok_lc, ok_M, ok_M0, ok_moNone, ok_moSome, ok_Sl,
  ok_bin, ok_un, ok_arg, ok_cons, ok_nil, ok_call, ok_var, ok_C, ok_ok, ok_stuck, ok_noX, bOf_bool, low_v, iOf_int, addD_int, subD_int, negD_int, ltD_int, leD_int, gtD_int, geD_int, fInt_int, isD_bool, isNotD_bool, tru_bool, List.map_cons, List.map_nil, List.length_cons, List.length_nil, List.replicate_succ, List.replicate_zero, List.cons_append, List.nil_append,
  List.append_nil, List.getElem?_cons_zero, List.getElem?_cons_succ, List.set_cons_zero, List.set_cons_succ, Option.some.injEq, exists_eq_left', exists_eq_left, true_and, and_true, true_implies, false_implies, implies_true, Bool.false_eq_true, reduceCtorEq, false_and, and_false, D.v.injEq, PyData.int.injEq, D.ref.injEq, p1i_int, p2_two, p3_three, decide_true, Bool.not_true, Bool.not_false, decide_eq_true_eq, decide_eq_false_iff_not, src_left, src_len, src_isL, src_cells]
    refine ⟨fun _ => ⟨fun h => ⟨fun h2 => ?_, fun h2 => ⟨s', rfl, ok⟩⟩, fun h => ⟨s', rfl, ok⟩⟩, fun h => ⟨s', rfl, ok⟩⟩
    obtain ⟨c, r, e⟩ : ∃ c r, s'.stk = c :: r := by
      cases es : s'.stk with
      | nil => rw [es] at h2; simp at h2
      | cons c r => exact ⟨c, r, rfl⟩
    have hr : s'.stk.length = r.length + 1 := by rw [e]; rfl
    simp only [src_pop e, envE, so_seq, so_if, so_ret, so_retN, so_exp, so_nil, so_nx, so_rt, so_asg, so_asgG, so_par2, so_par3, ok_gNm, ok_gMore, ok_gNone, so_asgT, so_sub, so_for, ok_TB, ok_Tru, ok_notT, ok_andT, ok_orT, ok_andV, ok_orV, ok_notV, ok_iteE, ok_frz, ok_new, ok_mfArg, ok_mfBin, ok_lc, ok_M, ok_M0, ok_moNone, ok_moSome, ok_Sl,
  ok_bin, ok_un, ok_arg, ok_cons, ok_nil, ok_call, ok_var, ok_C, ok_ok, ok_stuck, ok_noX, bOf_bool, low_v, iOf_int, addD_int, subD_int, negD_int, ltD_int, leD_int, gtD_int, geD_int, fInt_int, isD_bool, isNotD_bool, tru_bool, List.map_cons, List.map_nil, List.length_cons, List.length_nil, List.replicate_succ, List.replicate_zero, List.cons_append, List.nil_append,
  List.append_nil, List.getElem?_cons_zero, List.getElem?_cons_succ, List.set_cons_zero, List.set_cons_succ, Option.some.injEq, exists_eq_left', exists_eq_left, true_and, and_true, true_implies, false_implies, implies_true, Bool.false_eq_true, reduceCtorEq, false_and, and_false, D.v.injEq, PyData.int.injEq, D.ref.injEq, p1i_int, p2_two, p3_three, decide_true, Bool.not_true, Bool.not_false, decide_eq_true_eq, decide_eq_false_iff_not, set_left]
    have ok' : s'.stk.length < 1000000 := ok
    exact ⟨r.length, by omega, _, rfl, show r.length < 1000000 by omega, rfl⟩
  · rintro e st ⟨s1, rfl, rfl, ok⟩
    have pos : (0 : Int) < max 1 m := by omega
    have lt : max 1 m < 1073741824 := by omega
    unfold LB.S_law_pick_2 LB.S_law_pick_3
    simp only [envE, so_seq, so_if, so_ret, so_retN, so_exp, so_nil, so_nx, so_rt, so_asg, so_asgG, so_par2, so_par3, ok_gNm, ok_gMore, ok_gNone, so_asgT, so_sub, so_for, ok_TB, ok_Tru, ok_notT, ok_andT, ok_orT, ok_andV, ok_orV, ok_notV, ok_iteE, ok_frz, ok_new, ok_mfArg, ok_mfBin, ok_lc, ok_M, ok_M0, ok_moNone, ok_moSome, ok_Sl,
  ok_bin, ok_un, ok_arg, ok_cons, ok_nil, ok_call, ok_var, ok_C, ok_ok, ok_stuck, ok_noX, bOf_bool, low_v, iOf_int, addD_int, subD_int, negD_int, ltD_int, leD_int, gtD_int, geD_int, fInt_int, isD_bool, isNotD_bool, tru_bool, List.map_cons, List.map_nil, List.length_cons, List.length_nil, List.replicate_succ, List.replicate_zero, List.cons_append, List.nil_append,
  List.append_nil, List.getElem?_cons_zero, List.getElem?_cons_succ, List.set_cons_zero, List.set_cons_succ, Option.some.injEq, exists_eq_left', exists_eq_left, true_and, and_true, true_implies, false_implies, implies_true, Bool.false_eq_true, reduceCtorEq, false_and, and_false, D.v.injEq, PyData.int.injEq, D.ref.injEq, p1i_int, p2_two, p3_three, decide_true, Bool.not_true, Bool.not_false, decide_eq_true_eq, decide_eq_false_iff_not, src_left, set_left, bMax_int, fdivD_int pos lt, modD_int pos]
    have fin : ∃ (r : Int) (s' : Src), s1.left % max 1 m = r ∧ List.take (List.length (s.sto rest)) (({ s1 with left := s1.left / max 1 m } : Src).sto rest) = s'.sto rest ∧ s'.ok ∧ 0 ≤ r ∧ (1 ≤ m → r < m) ∧ (m ≤ 0 → r = 0) := by
      refine ⟨_, _, rfl, take_sto, ok, Int.emod_nonneg _ (by omega), fun z => ?_, fun z => ?_⟩
      · rw [show max 1 m = m by omega]
        exact Int.emod_lt_of_pos _ (by omega)
      · rw [show max 1 m = 1 by omega]
        exact Int.emod_one _
    refine ⟨fun _ => fin, fun h => ⟨fun _ => fin, fun h2 => ?_⟩⟩
    unfold LB.S_law_pick_4 LB.S_law_pick_5 LB.S_law_pick_6 LB.S_law_pick_7 LB.S_law_pick_8
    simp only [envE, so_seq, so_if, so_ret, so_retN, so_exp, so_nil, so_nx, so_rt, so_asg, so_asgG, so_par2, so_par3, ok_gNm, ok_gMore, ok_gNone, so_asgT, so_sub, so_for, ok_TB, ok_Tru, ok_notT, ok_andT, ok_orT, ok_andV, ok_orV, ok_notV, ok_iteE, ok_frz, ok_new, ok_mfArg, ok_mfBin, ok_lc, ok_M, ok_M0, ok_moNone, ok_moSome, ok_Sl,
  ok_bin, ok_un, ok_arg, ok_cons, ok_nil, ok_call, ok_var, ok_C, ok_ok, ok_stuck, ok_noX, bOf_bool, low_v, iOf_int, addD_int, subD_int, negD_int, ltD_int, leD_int, gtD_int, geD_int, fInt_int, isD_bool, isNotD_bool, tru_bool, List.map_cons, List.map_nil, List.length_cons, List.length_nil, List.replicate_succ, List.replicate_zero, List.cons_append, List.nil_append,
  List.append_nil, List.getElem?_cons_zero, List.getElem?_cons_succ, List.set_cons_zero, List.set_cons_succ, Option.some.injEq, exists_eq_left', exists_eq_left, true_and, and_true, true_implies, false_implies, implies_true, Bool.false_eq_true, reduceCtorEq, false_and, and_false, D.v.injEq, PyData.int.injEq, D.ref.injEq, p1i_int, p2_two, p3_three, decide_true, Bool.not_true, Bool.not_false, decide_eq_true_eq, decide_eq_false_iff_not, src_turn, set_turn, src_mixed, set_mixed, mulD_r (show -(2 ^ 64) < (104729 : Int) ∧ (104729 : Int) < 2 ^ 64 by decide), mulD_r (show -(2 ^ 64) < (17 : Int) ∧ (17 : Int) < 2 ^ 64 by decide), modD_int (show (0 : Int) < 998244353 by decide), modD_int (show (0 : Int) < 2147483647 by decide), modD_int (show (0 : Int) < m by omega),
      fdivD_int (show (0 : Int) < 16 by decide) (by decide)]
    rw [mulD_l (sq_small (Int.emod_nonneg _ (by decide)) (Int.emod_lt_of_pos _ (by decide)))]
    simp only [envE, so_seq, so_if, so_ret, so_retN, so_exp, so_nil, so_nx, so_rt, so_asg, so_asgG, so_par2, so_par3, ok_gNm, ok_gMore, ok_gNone, so_asgT, so_sub, so_for, ok_TB, ok_Tru, ok_notT, ok_andT, ok_orT, ok_andV, ok_orV, ok_notV, ok_iteE, ok_frz, ok_new, ok_mfArg, ok_mfBin, ok_lc, ok_M, ok_M0, ok_moNone, ok_moSome, ok_Sl,
  ok_bin, ok_un, ok_arg, ok_cons, ok_nil, ok_call, ok_var, ok_C, ok_ok, ok_stuck, ok_noX, bOf_bool, low_v, iOf_int, addD_int, subD_int, negD_int, ltD_int, leD_int, gtD_int, geD_int, fInt_int, isD_bool, isNotD_bool, tru_bool, List.map_cons, List.map_nil, List.length_cons, List.length_nil, List.replicate_succ, List.replicate_zero, List.cons_append, List.nil_append,
  List.append_nil, List.getElem?_cons_zero, List.getElem?_cons_succ, List.set_cons_zero, List.set_cons_succ, Option.some.injEq, exists_eq_left', exists_eq_left, true_and, and_true, true_implies, false_implies, implies_true, Bool.false_eq_true, reduceCtorEq, false_and, and_false, D.v.injEq, PyData.int.injEq, D.ref.injEq, p1i_int, p2_two, p3_three, decide_true, Bool.not_true, Bool.not_false, decide_eq_true_eq, decide_eq_false_iff_not, src_turn, set_mixed, mulD_r (show -(2 ^ 64) < (17 : Int) ∧ (17 : Int) < 2 ^ 64 by decide), modD_int (show (0 : Int) < 2147483647 by decide), modD_int (show (0 : Int) < m by omega), fdivD_int (show (0 : Int) < 16 by decide) (by decide)]
    exact ⟨_, _, rfl, take_sto, ok, Int.emod_nonneg _ (by omega), fun _ => Int.emod_lt_of_pos _ (by omega), fun z => by omega⟩
theorem sto_app {s : Src} {rest : Sto} {o : O} : s.sto rest ++ [o] = s.sto (rest ++ [o]) := rfl
theorem sto_at {s : Src} {rest more : Sto} {o : O} : (s.sto (rest ++ o :: more))[rest.length + 2]? = some o := by
  show (rest ++ o :: more)[rest.length]? = _
  rw [List.getElem?_append_right (Nat.le_refl _), Nat.sub_self]
  rfl
theorem sto_set {s : Src} {rest : Sto} {o u : O} : (s.sto (rest ++ [o])).set (rest.length + 2) u = s.sto (rest ++ [u]) := by
  show _ :: _ :: (rest ++ [o]).set rest.length u = _
  rw [List.set_append_right _ _ (Nat.le_refl _), Nat.sub_self]
  rfl
theorem sto_len {s : Src} {rest : Sto} : (s.sto rest).length = rest.length + 2 := rfl
theorem sto_take {s : Src} {rest more : Sto} : (s.sto (rest ++ more)).take (rest.length + 2) = s.sto rest := by
  show _ :: _ :: (rest ++ more).take rest.length = _
  rw [List.take_left]
  rfl
theorem perm_out {α : Type} : ∀ (l : List α) (k : Nat) (h : k < l.length), (l[k] :: l.eraseIdx k).Perm l
  | [], k, h => absurd h (Nat.not_lt_zero _)
  | a :: l, 0, h => .refl _
  | a :: l, k + 1, h => (List.Perm.swap a _ _).trans ((perm_out l k (Nat.lt_of_succ_lt_succ h)).cons a)
def Shuf (f : FF) : Prop := ∀ (s : Src) (rest : Sto) (d : D) (xs : List PyData), s.ok → viewS (s.sto rest) d = some xs → xs.length ≤ 1000000 → (f [.ref 1, d] (s.sto rest)).Ok fun r st => ∃ (ys : List PyData) (s' : Src), r = .v (.list ys) ∧ st = s'.sto rest ∧ s'.ok ∧ ys.Perm xs
theorem shuf_ok {pick : FF} (hp : Pick pick) : Shuf (fnT 4 (sSeq (sAsg (mNew (mfArg gList (mCons (mVar 1) mNil))) (gNm 2)) (sRet (mFrz (mLc (miR1 (mCons (mArg fLen (mCons (mVar 2) mNil)) mNil)) (gNm 3) mYes
    (mM fmPopAt (mVar 2) (mCons (mCall pick (mCons (mVar 0) (mCons (mArg fLen (mCons (mVar 2) mNil)) mNil)) []) mNil)) [3]))))) := by
  intro s rest d xs hs hv hl
  refine fnT_ok ?_
  simp only [envE, so_seq, so_if, so_ret, so_retN, so_exp, so_nil, so_nx, so_rt, so_asg, so_asgG, so_par2, so_par3, ok_gNm, ok_gMore, ok_gNone, so_asgT, so_sub, so_for, ok_TB, ok_Tru, ok_notT, ok_andT, ok_orT, ok_andV, ok_orV, ok_notV, ok_iteE, ok_frz, ok_new, ok_mfArg, ok_mfBin, ok_lc, ok_M, ok_M0, ok_moNone, ok_moSome, ok_Sl,
  ok_bin, ok_un, ok_arg, ok_cons, ok_nil, ok_call, ok_var, ok_C, ok_ok, ok_stuck, ok_noX, bOf_bool, low_v, iOf_int, addD_int, subD_int, negD_int, ltD_int, leD_int, gtD_int, geD_int, fInt_int, isD_bool, isNotD_bool, tru_bool, List.map_cons, List.map_nil, List.length_cons, List.length_nil, List.replicate_succ, List.replicate_zero, List.cons_append, List.nil_append,
  List.append_nil, List.getElem?_cons_zero, List.getElem?_cons_succ, List.set_cons_zero, List.set_cons_succ, Option.some.injEq, exists_eq_left', exists_eq_left, true_and, and_true, true_implies, false_implies, implies_true, Bool.false_eq_true, reduceCtorEq, false_and, and_false, D.v.injEq, PyData.int.injEq, D.ref.injEq, p1i_int, p2_two, p3_three, decide_true, Bool.not_true, Bool.not_false, decide_eq_true_eq, decide_eq_false_iff_not, list_of hv, ok_R1, sto_len, sto_app]
  rw [len_of (xs := xs) (viewS_ref sto_at)]
  simp only [envE, so_seq, so_if, so_ret, so_retN, so_exp, so_nil, so_nx, so_rt, so_asg, so_asgG, so_par2, so_par3, ok_gNm, ok_gMore, ok_gNone, so_asgT, so_sub, so_for, ok_TB, ok_Tru, ok_notT, ok_andT, ok_orT, ok_andV, ok_orV, ok_notV, ok_iteE, ok_frz, ok_new, ok_mfArg, ok_mfBin, ok_lc, ok_M, ok_M0, ok_moNone, ok_moSome, ok_Sl,
  ok_bin, ok_un, ok_arg, ok_cons, ok_nil, ok_call, ok_var, ok_C, ok_ok, ok_stuck, ok_noX, bOf_bool, low_v, iOf_int, addD_int, subD_int, negD_int, ltD_int, leD_int, gtD_int, geD_int, fInt_int, isD_bool, isNotD_bool, tru_bool, List.map_cons, List.map_nil, List.length_cons, List.length_nil, List.replicate_succ, List.replicate_zero, List.cons_append, List.nil_append,
  List.append_nil, List.getElem?_cons_zero, List.getElem?_cons_succ, List.set_cons_zero, List.set_cons_succ, Option.some.injEq, exists_eq_left', exists_eq_left, true_and, and_true, true_implies, false_implies, implies_true, Bool.false_eq_true, reduceCtorEq, false_and, and_false, D.v.injEq, PyData.int.injEq, D.ref.injEq, p1i_int, p2_two, p3_three, decide_true, Bool.not_true, Bool.not_false, decide_eq_true_eq, decide_eq_false_iff_not]
  refine ⟨by omega, ?_⟩
  have e0 : wipeE [some (D.ref 1), some d, some (D.ref (rest.length + 2)), none] [3] = [some (D.ref 1), some d, some (D.ref (rest.length + 2)), none] := rfl
  rw [e0]
  refine (lcL_inv (P := fun zs st => ∃ (ys : List PyData) (s' : Src), PyData.list zs = PyData.list ys ∧ List.take (rest.length + 2) st = s'.sto rest ∧ s'.ok ∧ ys.Perm xs) (n := 0) (acc := []) (fun i acc st => ∃ (s' : Src) (zs : List PyData), st = s'.sto (rest ++ [.lst zs]) ∧ s'.ok ∧ zs.length + i = xs.length ∧ (acc ++ zs).Perm xs) (rngI 0 (xs.length : Int).toNat) _ ?_ ?_ ⟨s, xs, rfl, hs, by omega, .refl _⟩).mono fun zs st q => q
  · rintro i d1 acc st hd ⟨s1, zs, rfl, ok, hz, hp1⟩
    obtain ⟨hi, rfl⟩ := rngI_get hd
    rw [Nat.zero_add] at hz
    refine ⟨trivial, ?_⟩
    rw [ok_gNm]
    simp only [List.set_cons_succ, List.set_cons_zero]
    show (Out.ok true _).Ok _
    rw [ok_ok]
    refine ⟨fun _ => ?_, fun z => nomatch z⟩
    simp only [envE, so_seq, so_if, so_ret, so_retN, so_exp, so_nil, so_nx, so_rt, so_asg, so_asgG, so_par2, so_par3, ok_gNm, ok_gMore, ok_gNone, so_asgT, so_sub, so_for, ok_TB, ok_Tru, ok_notT, ok_andT, ok_orT, ok_andV, ok_orV, ok_notV, ok_iteE, ok_frz, ok_new, ok_mfArg, ok_mfBin, ok_lc, ok_M, ok_M0, ok_moNone, ok_moSome, ok_Sl,
  ok_bin, ok_un, ok_arg, ok_cons, ok_nil, ok_call, ok_var, ok_C, ok_ok, ok_stuck, ok_noX, bOf_bool, low_v, iOf_int, addD_int, subD_int, negD_int, ltD_int, leD_int, gtD_int, geD_int, fInt_int, isD_bool, isNotD_bool, tru_bool, List.map_cons, List.map_nil, List.length_cons, List.length_nil, List.replicate_succ, List.replicate_zero, List.cons_append, List.nil_append,
  List.append_nil, List.getElem?_cons_zero, List.getElem?_cons_succ, List.set_cons_zero, List.set_cons_succ, Option.some.injEq, exists_eq_left', exists_eq_left, true_and, and_true, true_implies, false_implies, implies_true, Bool.false_eq_true, reduceCtorEq, false_and, and_false, D.v.injEq, PyData.int.injEq, D.ref.injEq, p1i_int, p2_two, p3_three, decide_true, Bool.not_true, Bool.not_false, decide_eq_true_eq, decide_eq_false_iff_not, isL_ref sto_at]
    rw [len_of (xs := zs) (viewS_ref sto_at)]
    simp only [envE, so_seq, so_if, so_ret, so_retN, so_exp, so_nil, so_nx, so_rt, so_asg, so_asgG, so_par2, so_par3, ok_gNm, ok_gMore, ok_gNone, so_asgT, so_sub, so_for, ok_TB, ok_Tru, ok_notT, ok_andT, ok_orT, ok_andV, ok_orV, ok_notV, ok_iteE, ok_frz, ok_new, ok_mfArg, ok_mfBin, ok_lc, ok_M, ok_M0, ok_moNone, ok_moSome, ok_Sl,
  ok_bin, ok_un, ok_arg, ok_cons, ok_nil, ok_call, ok_var, ok_C, ok_ok, ok_stuck, ok_noX, bOf_bool, low_v, iOf_int, addD_int, subD_int, negD_int, ltD_int, leD_int, gtD_int, geD_int, fInt_int, isD_bool, isNotD_bool, tru_bool, List.map_cons, List.map_nil, List.length_cons, List.length_nil, List.replicate_succ, List.replicate_zero, List.cons_append, List.nil_append,
  List.append_nil, List.getElem?_cons_zero, List.getElem?_cons_succ, List.set_cons_zero, List.set_cons_succ, Option.some.injEq, exists_eq_left', exists_eq_left, true_and, and_true, true_implies, false_implies, implies_true, Bool.false_eq_true, reduceCtorEq, false_and, and_false, D.v.injEq, PyData.int.injEq, D.ref.injEq, p1i_int, p2_two, p3_three, decide_true, Bool.not_true, Bool.not_false, decide_eq_true_eq, decide_eq_false_iff_not]
    refine (hp s1 (rest ++ [.lst zs]) zs.length (by omega) ok).mono ?_
    rintro r st ⟨r, s2, rfl, rfl, ok2, h0, h1, _⟩
    have hr := h1 (by omega)
    obtain ⟨k, rfl⟩ : ∃ k : Nat, r = k := ⟨r.toNat, by omega⟩
    have hk : k < zs.length := by omega
    rw [pop_at sto_at hk (by omega), ok_ok, sto_set]
    refine ⟨_, rfl, s2, _, rfl, ok2, by rw [List.length_eraseIdx_of_lt hk]; omega, ?_⟩
    refine List.Perm.trans ?_ hp1
    rw [List.append_assoc]
    refine List.Perm.append_left _ ?_
    exact perm_out zs k hk
  · rintro acc st ⟨s1, zs, rfl, ok, hz, hp1⟩
    refine ⟨trivial, ?_⟩
    have e : zs = [] := List.eq_nil_of_length_eq_zero (by
      have e2 : (rngI 0 (xs.length : Int).toNat).length = xs.length := by unfold rngI; rw [List.length_map, List.length_range]; omega
      omega)
    subst e
    rw [List.append_nil] at hp1
    exact ⟨acc, s1, rfl, sto_take, ok, hp1⟩
theorem shufB : Shuf LB.f_law_mixed := shuf_ok pickB_ok
def OneOf (f : FF) : Prop := ∀ (s : Src) (rest : Sto) (xs : List PyData), s.ok → 0 < xs.length → xs.length ≤ 1000000 → (f [.ref 1, .v (.list xs)] (s.sto rest)).Ok fun r st => ∃ (z : PyData) (s' : Src), r = .v z ∧ z ∈ xs ∧ st = s'.sto rest ∧ s'.ok
theorem oneOf_ok {pick : FF} (hp : Pick pick) : OneOf (fnT 2 (sRet (mBin subsD (mVar 1) (mCall pick (mCons (mVar 0) (mCons (mArg fLen (mCons (mVar 1) mNil)) mNil)) [])))) := by
  intro s rest xs hs h0 hl
  refine fnT_ok ?_
  simp only [envE, so_seq, so_if, so_ret, so_retN, so_exp, so_nil, so_nx, so_rt, so_asg, so_asgG, so_par2, so_par3, ok_gNm, ok_gMore, ok_gNone, so_asgT, so_sub, so_for, ok_TB, ok_Tru, ok_notT, ok_andT, ok_orT, ok_andV, ok_orV, ok_notV, ok_iteE, ok_frz, ok_new, ok_mfArg, ok_mfBin, ok_lc, ok_M, ok_M0, ok_moNone, ok_moSome, ok_Sl,
  ok_bin, ok_un, ok_arg, ok_cons, ok_nil, ok_call, ok_var, ok_C, ok_ok, ok_stuck, ok_noX, bOf_bool, low_v, iOf_int, addD_int, subD_int, negD_int, ltD_int, leD_int, gtD_int, geD_int, fInt_int, isD_bool, isNotD_bool, tru_bool, List.map_cons, List.map_nil, List.length_cons, List.length_nil, List.replicate_succ, List.replicate_zero, List.cons_append, List.nil_append,
  List.append_nil, List.getElem?_cons_zero, List.getElem?_cons_succ, List.set_cons_zero, List.set_cons_succ, Option.some.injEq, exists_eq_left', exists_eq_left, true_and, and_true, true_implies, false_implies, implies_true, Bool.false_eq_true, reduceCtorEq, false_and, and_false, D.v.injEq, PyData.int.injEq, D.ref.injEq, p1i_int, p2_two, p3_three, decide_true, Bool.not_true, Bool.not_false, decide_eq_true_eq, decide_eq_false_iff_not, len_list]
  refine (hp s rest xs.length (by omega) hs).mono ?_
  rintro r st ⟨r, s2, rfl, rfl, ok2, h0, h1, _⟩
  have hr := h1 (by omega)
  obtain ⟨k, rfl⟩ : ∃ k : Nat, r = k := ⟨r.toNat, by omega⟩
  have hk : k < xs.length := by omega
  rw [sub_list (List.getElem?_eq_getElem hk)]
  exact ⟨rfl, xs[k], s2, rfl, List.getElem_mem hk, take_sto, ok2⟩
theorem oneOfB : OneOf LB.f_law_of := oneOf_ok pickB_ok
def Opens (f : FF) : Prop := ∀ ns : List Int, ns.length < 1000000 → (f [.scr ns] []).Ok fun r st => ∃ s : Src, r = .ref 1 ∧ st = s.sto [] ∧ s.ok
theorem abs_map {env0 : Ev} {st : Sto} {i : Nat} (h : i < env0.length) (ns : List Int) : lcL none (gNm i) mYes (mArg fAbs (mCons (mVar i) mNil)) env0 (ns.map fun n => .one (.v (.int n))) st = .ok (ns.map fun n => PyData.int n.natAbs) st := by
  rw [lcL_map (fun d => match d with | .one (.v (.int n)) => some (.int n.natAbs) | _ => none)]
  · congr 1
    rw [List.filterMap_map]
    induction ns with
    | nil => rfl
    | cons n r ih => rw [List.filterMap_cons, List.map_cons, ih]; rfl
  · intro d hd
    obtain ⟨n, _, rfl⟩ := List.mem_map.mp hd
    rw [ok_gNm]
    refine ⟨rfl, ?_⟩
    show (Out.ok true st).Ok _
    rw [ok_ok]
    refine ⟨rfl, fun _ => ?_, fun z => nomatch z⟩
    simp only [ok_arg, ok_cons, ok_var, ok_nil, List.getElem?_set_self h, Option.some.injEq, exists_eq_left', fAbs_int, ok_ok]
    exact ⟨trivial, _, rfl, rfl⟩
theorem mix_for {k : Nat} {j : Nat} {env0 : Ev} (hj : j ≠ 1) (h1 : 1 < env0.length) (hj2 : j < env0.length) (ns : List Int) {st : Sto} {N : Ev → Sto → Prop} {T : D → Sto → Prop} {x : Int} (e1 : env0[1]? = some (some (.v (.int x))))
    (h : ∀ (e : Ev) (y : Int), e.length = env0.length → (∀ i, i ≠ 1 → i ≠ j → e[i]? = env0[i]?) → e[1]? = some (some (.v (.int y))) → N e st) :
    (forL none (gNm j) (sAsg (mBin modD (mArg fInt (mCons (mBin addD (mBin addD (mBin mulD (mVar 1) (mC (.int 69069))) (mBin mulD (mVar j) (mC (.int 31)))) (mC (.int 5))) mNil)) (mC (.int 2147483629))) (gNm 1)) (ns.map fun n => .one (.v (.int n))) env0 st).Ok N T := by
  refine forL_inv (fun _ e s => s = st ∧ e.length = env0.length ∧ (∀ i, i ≠ 1 → i ≠ j → e[i]? = env0[i]?) ∧ ∃ y : Int, e[1]? = some (some (.v (.int y)))) _ _ _ 0 ?_ ?_ ⟨rfl, rfl, fun _ _ _ => rfl, x, e1⟩
  · rintro i d e s hd ⟨rfl, hl, ho, y, ey⟩
    rw [List.getElem?_map] at hd
    obtain ⟨n, _, rfl⟩ := Option.map_eq_some_iff.mp hd
    refine ⟨trivial, ?_⟩
    have e2 : (e.set j (some (D.v (.int n))))[1]? = some (some (.v (.int y))) := by rw [List.getElem?_set_ne hj]; exact ey
    have e3 : (e.set j (some (D.v (.int n))))[j]? = some (some (.v (.int n))) := List.getElem?_set_self (by omega)
    rw [ok_gNm]
    simp only [so_asg, ok_bin, ok_arg, ok_cons, ok_var, ok_C, ok_nil, e2, e3, Option.some.injEq, exists_eq_left', mulD_r (show -(2 ^ 64) < (69069 : Int) ∧ (69069 : Int) < 2 ^ 64 by decide), mulD_r (show -(2 ^ 64) < (31 : Int) ∧ (31 : Int) < 2 ^ 64 by decide), ok_ok, addD_int, fInt_int, modD_int (show (0 : Int) < 2147483629 by decide)]
    refine ⟨trivial, by rw [List.length_set, List.length_set]; exact hl, fun i h1 h2 => ?_, _, List.getElem?_set_self (by rw [List.length_set]; omega)⟩
    rw [List.getElem?_set_ne (Ne.symm h1), List.getElem?_set_ne (Ne.symm h2)]
    exact ho i h1 h2
  · rintro e s ⟨rfl, hl, ho, y, ey⟩
    exact ⟨trivial, h e y hl ho ey⟩
theorem ok_rev {m : ME} {env : Ev} {st : Sto} {P : List PyData → Sto → Prop} : (mfRev m env st).Ok P ↔ (m env st).Ok fun a s => ∃ xs, viewL s a = some xs ∧ P xs.reverse s := by
  unfold mfRev
  rw [ok_bind]
  constructor
  · intro h
    refine h.mono fun d s q => ?_
    split at q
    · rename_i xs e
      exact ⟨xs, e, q⟩
    · exact q.elim
  · intro h
    refine h.mono fun d s ⟨xs, e, q⟩ => ?_
    rw [e]
    exact q
theorem ok_prs0 {env : Ev} {st : Sto} {P : List (D × D) → Sto → Prop} : (mPrs [] env st).Ok P ↔ P [] st := Iff.rfl
theorem ok_prs1 {a b : ME} {r : List (ME × ME)} {env : Ev} {st : Sto} {P : List (D × D) → Sto → Prop} : (mPrs ((a, b) :: r) env st).Ok P ↔ (a env st).Ok fun x s1 => (b env s1).Ok fun y s2 => (mPrs r env s2).Ok fun ps s3 => P ((x, y) :: ps) s3 := by
  show ((a env st).bind _).Ok P ↔ _
  simp only [ok_bind, ok_ok]
theorem ok_disp {prs : List (ME × ME)} {env : Ev} {st : Sto} {P : D → Sto → Prop} : (mDisp prs env st).Ok P ↔ (mPrs prs env st).Ok fun ps s => ∃ kvs, keysOf ps = some kvs ∧ (kvs.length ≤ 15 ∧ (kvs.all fun p => p.2.low s.length) = true) ∧ P (.ref s.length) (s ++ [.dct false (putAll [] kvs)]) := by
  unfold mDisp
  rw [ok_bind, ok_noX]
  constructor
  · intro h
    refine h.mono fun d s q => ?_
    split at q
    · rename_i xs e
      split at q
      · rename_i hc
        exact ⟨xs, e, hc, q⟩
      · exact q.elim
    · exact q.elim
  · intro h
    refine h.mono fun d s ⟨xs, e, hc, q⟩ => ?_
    rw [e]
    show (if _ then _ else _ : Out D).Ok P
    rw [if_pos hc]
    exact q
theorem keysC {x y z : D} {w : D} : keysOf [(.v (.str "cells"), x), (.v (.str "left"), y), (.v (.str "mixed"), z), (.v (.str "turn"), w)] = some [(.str "cells", x), (.str "left", y), (.str "mixed", z), (.str "turn", w)] := rfl
theorem putC {x y z : D} {w : D} : putAll [] [(.str "cells", x), (.str "left", y), (.str "mixed", z), (.str "turn", w)] = [(.str "cells", x), (.str "left", y), (.str "mixed", z), (.str "turn", w)] := by rfl
theorem opens_disp {ns : List Int} {y : Int} {P : D → Sto → Prop} {st : Sto} (hs : st = [.lst ((ns.map fun n => PyData.int n.natAbs).reverse)]) (hl : ns.length < 1000000) (h : ∀ s : Src, s.ok → P (.ref 1) (s.sto [])) :
    ∃ kvs, keysOf [(.v (.str "cells"), .ref 0), (.v (.str "left"), .v (.int 1)), (.v (.str "mixed"), .v (.int y)), (.v (.str "turn"), .v (.int 0))] = some kvs ∧ (kvs.length ≤ 15 ∧ (kvs.all fun p => p.2.low st.length) = true) ∧ P (.ref st.length) (st ++ [.dct false (putAll [] kvs)]) := by
  subst hs
  refine ⟨_, keysC, ⟨by simp, by rfl⟩, ?_⟩
  rw [putC]
  have z := h ⟨ns.map fun n => (n.natAbs : Int), 1, y, 0⟩ (by show (ns.map _).length < 1000000; rw [List.length_map]; exact hl)
  have e : (Src.mk (ns.map fun n => (n.natAbs : Int)) 1 y 0).sto [] = [.lst ((ns.map fun n => PyData.int n.natAbs).reverse)] ++ [.dct false [(.str "cells", .ref 0), (.str "left", .v (.int 1)), (.str "mixed", .v (.int y)), (.str "turn", .v (.int 0))]] := by
    show ([O.lst (((ns.map fun n => (n.natAbs : Int)).reverse).map PyData.int), _] : Sto) = _
    rw [← List.map_reverse, List.map_map, ← List.map_reverse]
    rfl
  rw [e] at z
  exact z
theorem opensB : Opens LB.f_law_source := by
  intro ns hl
  refine fnK_ok ?_
  unfold LB.S_law_source LB.S_law_source_2 LB.law_source_E1
  simp only [envE, so_seq, so_if, so_ret, so_retN, so_exp, so_nil, so_nx, so_rt, so_asg, so_asgG, so_par2, so_par3, ok_gNm, ok_gMore, ok_gNone, so_asgT, so_sub, so_for, ok_TB, ok_Tru, ok_notT, ok_andT, ok_orT, ok_andV, ok_orV, ok_notV, ok_iteE, ok_frz, ok_new, ok_mfArg, ok_mfBin, ok_lc, ok_M, ok_M0, ok_moNone, ok_moSome, ok_Sl,
  ok_bin, ok_un, ok_arg, ok_cons, ok_nil, ok_call, ok_var, ok_C, ok_ok, ok_stuck, ok_noX, bOf_bool, low_v, iOf_int, addD_int, subD_int, negD_int, ltD_int, leD_int, gtD_int, geD_int, fInt_int, isD_bool, isNotD_bool, tru_bool, List.map_cons, List.map_nil, List.length_cons, List.length_nil, List.replicate_succ, List.replicate_zero, List.cons_append, List.nil_append,
  List.append_nil, List.getElem?_cons_zero, List.getElem?_cons_succ, List.set_cons_zero, List.set_cons_succ, Option.some.injEq, exists_eq_left', exists_eq_left, true_and, and_true, true_implies, false_implies, implies_true, Bool.false_eq_true, reduceCtorEq, false_and, and_false, D.v.injEq, PyData.int.injEq, D.ref.injEq, p1i_int, p2_two, p3_three, decide_true, Bool.not_true, Bool.not_false, decide_eq_true_eq, decide_eq_false_iff_not, ok_seq, seqW_scr]
  refine mix_for (k := 0) (j := 2) (x := 11) (by decide) (by simp) (by simp) ns rfl fun e y hl2 ho ey => ?_
  unfold LB.S_law_source_3 LB.law_source_E2
  have e0 : e[0]? = some (some (.scr ns)) := ho 0 (by decide) (by decide)
  have hl3 : e.length = 3 := hl2
  simp only [so_ret, ok_disp, ok_prs1, ok_prs0, ok_C, ok_new, ok_rev, ok_frz, ok_lc, ok_var, e0, ey, ok_seq, seqW_scr, ok_ok, Option.some.injEq, exists_eq_left']
  have hw : 2 < (wipeE e [2]).length := by show 2 < (e.set 2 none).length; rw [List.length_set]; omega
  unfold LB.law_source_G2 LB.law_source_T1 LB.law_source_M1
  rw [abs_map hw, ok_ok]
  refine ⟨_, rfl, ?_⟩
  exact opens_disp (y := y) (P := fun d st => ∃ s : Src, d = .ref 1 ∧ st = s.sto [] ∧ s.ok) (st := [O.lst ((ns.map fun n => PyData.int n.natAbs).reverse)]) rfl hl fun s hs => ⟨s, rfl, rfl, hs⟩
end Fw
namespace Fw
open PySem PySem.Spec PyProof.Rows L2
structure Rep (d : PyData) (w k : Nat) : Prop where
  sh : d.showable = true
  nd : d.hasDict = false
  ls : d.leavesShort 13 = true
  can : d.canLay0 = true
  bulk : d.bulk ≤ w
  dep : d.depth ≤ k
section
variable {d e : PyData} {w k w' k' : Nat} {xs ys : List PyData} {st : Sto}
theorem Rep.mono (r : Rep d w k) (h1 : w ≤ w') (h2 : k ≤ k') : Rep d w' k' := ⟨r.sh, r.nd, r.ls, r.can, Nat.le_trans r.bulk h1, Nat.le_trans r.dep h2⟩
theorem rep_int {i : Int} (h : i.natAbs < 10 ^ 12) : Rep (.int i) w k := by
  refine ⟨?_, rfl, ?_, rfl, by simp [PyData.bulk], by simp [PyData.depth]⟩
  · simp only [PyData.showable, decide_eq_true_eq]
    by_cases h0 : i.natAbs = 0
    · rw [h0]; decide
    · have := (Nat.log2_lt h0 (k := 40)).mpr (Nat.lt_trans h (by decide))
      omega
  · simp only [PyData.leavesShort, decide_eq_true_eq]
    exact PyData.shown_int_le h
theorem rep_all (h : ∀ x ∈ xs, Rep x w k) : PyData.showableAll xs = true ∧ PyData.hasDictAll xs = false ∧ PyData.leavesShortAll 13 xs = true ∧ PyData.canLayAll0 xs = true ∧ PyData.bulkAll xs ≤ xs.length * (w + 1) ∧ PyData.depthAll xs ≤ k := by
  induction xs with
  | nil => exact ⟨rfl, rfl, rfl, rfl, by simp [PyData.bulkAll], by simp [PyData.depthAll]⟩
  | cons x r ih =>
    obtain ⟨a, b, c, e, f, g⟩ := ih fun y hy => h y (List.mem_cons_of_mem _ hy)
    have hx := h x List.mem_cons_self
    refine ⟨by rw [PyData.showableAll, hx.sh, a]; rfl, by rw [PyData.hasDictAll, hx.nd, b]; rfl, by rw [PyData.leavesShortAll, hx.ls, c]; rfl, by rw [PyData.canLayAll0, hx.can, e]; rfl, ?_, ?_⟩
    · rw [PyData.bulkAll, List.length_cons, Nat.add_mul, Nat.one_mul]
      have := hx.bulk
      omega
    · rw [PyData.depthAll]
      exact Nat.max_le.mpr ⟨hx.dep, g⟩
theorem rep_list (h : ∀ x ∈ xs, Rep x w k) (hl : xs.length ≤ w') : Rep (.list xs) (w' * (w + 1)) (k + 1) := by
  obtain ⟨a, b, c, e, f, g⟩ := rep_all h
  exact ⟨by rw [PyData.showable]; exact a, by rw [PyData.hasDict]; exact b, by rw [PyData.leavesShort]; exact c, by rw [PyData.canLay0]; exact e, by rw [PyData.bulk]; exact Nat.le_trans f (Nat.mul_le_mul_right _ hl), by rw [PyData.depth]; exact Nat.succ_le_succ g⟩
theorem rep_tup (h : ∀ x ∈ xs, Rep x w k) (hl : xs.length ≤ w') : Rep (.tuple xs) (w' * (w + 1)) (k + 1) := by
  obtain ⟨a, b, c, e, f, g⟩ := rep_all h
  exact ⟨by rw [PyData.showable]; exact a, by rw [PyData.hasDict]; exact b, by rw [PyData.leavesShort]; exact c, by rw [PyData.canLay0]; exact e, by rw [PyData.bulk]; exact Nat.le_trans f (Nat.mul_le_mul_right _ hl), by rw [PyData.depth]; exact Nat.succ_le_succ g⟩
theorem rep_ints {is : List Int} (h : ∀ i ∈ is, i.natAbs < 10 ^ 12) (hl : is.length ≤ w') : Rep (.tuple (is.map .int)) w' 1 := by
  have z := rep_tup (xs := is.map .int) (w := 0) (k := 0) (w' := w') (fun x hx => by
    obtain ⟨i, hi, rfl⟩ := List.mem_map.mp hx
    exact rep_int (h i hi)) (by rw [List.length_map]; exact hl)
  rw [Nat.zero_add, Nat.mul_one] at z
  exact z
theorem repr_of0 (r : Rep d w k) (h1 : w ≤ 60000 := by decide) (h2 : k ≤ 60 := by decide) : fRepr [.v d] st = .ok (.v (.str d.shown)) st := by
  have hl := PyData.shown_le_bulk 13 (by decide) d r.ls
  have hb := r.bulk
  show (if _ then _ else _ : Out D) = _
  rw [if_pos]
  simp only [Bool.and_eq_true, Bool.not_eq_true', decide_eq_true_eq]
  refine ⟨⟨⟨r.sh, r.nd⟩, Nat.le_trans r.dep h2⟩, ?_⟩
  show _ ≤ 1000000
  omega
theorem repr_of (r : Rep d w k) (h1 : w ≤ 60000 := by decide) (h2 : k ≤ 60 := by decide) : fReprK [.v d] st = .ok (.v (.str d.shown)) st := by
  show (if noL d && d.showable && decide (d.depth ≤ 60) && decide (d.shown.length ≤ lim) then Out.ok (D.v (.str d.shown)) st else fRepr [.v d] st) = _
  split
  · rfl
  · exact repr_of0 r h1 h2
theorem shaped_of (r : Rep d w k) (h2 : k ≤ 60 := by decide) : SeqAt.shaped d = true := by
  unfold SeqAt.shaped
  rw [r.can, Bool.true_and]
  exact decide_eq_true (Nat.le_trans r.dep (by omega))
theorem eqS_str {x y : Str} : eqS st (.v (.str x)) (.v (.str y)) = some (decide (x = y)) := rfl
@[simp] theorem neD_str {x y : Str} : neD (.v (.str x)) (.v (.str y)) st = .ok (.v (.bool (!decide (x = y)))) st := rfl
theorem eqT_of (hd : SeqAt.shaped d = true) (he : SeqAt.shaped e = true) : eqT st (.v d) (.v e) = some (PyData.eqv d e) := by
  show (if SeqAt.shaped d && SeqAt.shaped e then some (PyData.eqv d e) else none) = _
  rw [hd, he]
  rfl
theorem shaped_int {i : Int} : SeqAt.shaped (.int i) = true := by
  unfold SeqAt.shaped
  simp [PyData.canLay0, PyData.depth]
theorem eqS_int {i j : Int} : eqS st (.v (.int i)) (.v (.int j)) = some (decide (i = j)) := by
  refine (eqT_of (st := st) shaped_int shaped_int).trans ?_
  simp only [PyData.eqv]
  exact congrArg some (Bool.eq_iff_iff.mpr (by simp))
@[simp] theorem eqD_int {i j : Int} : eqD (.v (.int i)) (.v (.int j)) st = .ok (.v (.bool (decide (i = j)))) st := by
  unfold eqD
  rw [eqS_int]
@[simp] theorem neD_int {i j : Int} : neD (.v (.int i)) (.v (.int j)) st = .ok (.v (.bool (!decide (i = j)))) st := by
  unfold neD
  rw [eqS_int]
theorem eqS_same (r : Rep d w k) (h2 : k ≤ 60 := by decide) : eqS st (.v d) (.v d) = some true := by
  have hs := shaped_of r h2
  have he : PyData.eqv d d = true := SeqAt.eqv_refl d r.can
  cases d with
  | str x => rw [eqS_str, decide_eq_true rfl]
  | _ => exact (eqT_of (st := st) hs hs).trans (by rw [he])
theorem ne_same (r : Rep d w k) (h2 : k ≤ 60 := by decide) : neD (.v d) (.v d) st = .ok (.v (.bool false)) st := by
  unfold neD
  rw [eqS_same r h2]
  rfl
end
end Fw
namespace Fw
open PySem PySem.Spec PyProof.Rows L2
section
variable {st : Sto} {xs ys : List PyData} {a b c e : PyData} {is js : List Int}
@[simp] theorem disp0 : gDisp [] st = .ok [] st := rfl
@[simp] theorem disp1 : gDisp [.v a] st = .ok [a] st := rfl
@[simp] theorem tup0 : fTup [] st = .ok (.v (.tuple [])) st := rfl
@[simp] theorem tup1 : fTup [.v a] st = .ok (.v (.tuple [a])) st := rfl
@[simp] theorem tup2 : fTup [.v a, .v b] st = .ok (.v (.tuple [a, b])) st := rfl
theorem intsOf_map : ∀ is : List Int, intsOf (is.map .int) = some is
  | [] => rfl
  | i :: r => by
    show (intsOf (r.map .int)).map (i :: ·) = _
    rw [intsOf_map r]
    rfl
theorem sum_tup : fSum [.v (.tuple (is.map .int))] st = .ok (.v (.int is.sum)) st := by
  show (match intsOf (is.map .int) with
    | some ns => _
    | none => _) = _
  rw [intsOf_map]
theorem cut_take {α : Type} (l : List α) (k : Nat) : cutP l none (some (k : Int)) = l.take k := by
  unfold cutP
  rw [HT.sIx_none, HT.sIx_nat, List.drop_zero, Nat.sub_zero]
  rcases Nat.le_total k l.length with h | h
  · rw [Nat.min_eq_left h]
  · rw [Nat.min_eq_right h, List.take_length, List.take_of_length_le h]
theorem rep_list0 {k : Int} (h1 : -1000000 ≤ k ∧ k ≤ 1000000) (h : xs.length * k.toNat ≤ 1000000) : gRep (.v (.list xs)) (.v (.int k)) st = .ok (List.replicate k.toNat xs).flatten st := by
  show (if -1000000 ≤ k ∧ k ≤ 1000000 ∧ xs.length * k.toNat ≤ lim then _ else _) = _
  rw [if_pos ⟨h1.1, h1.2, h⟩]
theorem rep_one {n : Nat} (h : n ≤ 1000000) : gRep (.v (.list [a])) (.v (.int n)) st = .ok (List.replicate n a) st := by
  rw [rep_list0 ⟨by omega, by omega⟩ (by rw [List.length_singleton, Int.toNat_natCast]; omega), Int.toNat_natCast]
  congr 1
  induction n with
  | zero => rfl
  | succ n ih => rw [List.replicate_succ, List.replicate_succ, List.flatten_cons, ih (by omega)]; rfl
end
section
variable {m : MA} {env : Ev} {st : Sto} {P : List Itm × Wt → Sto → Prop} {xs ys : List PyData} {is js : List Int}
theorem ok_yes {Q : Bool → Sto → Prop} : (mYes env st).Ok Q ↔ Q true st := Iff.rfl
theorem rngI_nat {n : Nat} : rngI 0 n = (List.range n).map fun i : Nat => .one (.v (.int i)) := by
  unfold rngI
  exact List.map_congr_left fun i _ => by rw [Int.zero_add]
end
theorem lcL_mapA {α : Type} {g : MG} {t : MT} {m : ME} {env0 : Ev} {st : Sto} (f : α → Itm) (F : α → Option PyData) : ∀ (l : List α),
    (∀ a ∈ l, (g (f a) env0 st).Ok fun e1 s1 => s1 = st ∧ (t e1 st).Ok fun k s2 => s2 = st ∧ (k = true → (m e1 st).Ok fun v s3 => s3 = st ∧ ∃ z, v = .v z ∧ F a = some z) ∧ (k = false → F a = none)) →
    lcL none g t m env0 (l.map f) st = .ok (l.filterMap F) st
  | [], _ => by
    unfold List.map lcL
    rw [if_pos (show chk none st from trivial)]
    rfl
  | a :: r, h => by
    have ih := lcL_mapA f F r fun d hd => h d (List.mem_cons_of_mem _ hd)
    obtain ⟨e1, s1, eg, rfl, q⟩ := (h a List.mem_cons_self).eq
    obtain ⟨k, s2, et, rfl, q1, q2⟩ := q.eq
    rw [List.map_cons]
    unfold lcL
    rw [if_pos (show chk none s2 from trivial), eg, noX_ok, bind_ok, et, noX_ok, bind_ok]
    cases k with
    | true =>
      obtain ⟨v, s3, em, rfl, z, rfl, ez⟩ := (q1 rfl).eq
      rw [if_pos rfl, em, noX_ok, bind_ok]
      show (lcL none g t m env0 (r.map f) s3).bind _ = _
      rw [ih, bind_ok, List.filterMap_cons, ez]
    | false =>
      rw [if_neg Bool.false_ne_true, ih, List.filterMap_cons, q2 rfl]
theorem lcL_all {α : Type} {g : MG} {m : ME} {env0 : Ev} {st : Sto} (f : α → Itm) (F : α → PyData) (l : List α)
    (h : ∀ a ∈ l, (g (f a) env0 st).Ok fun e1 s1 => s1 = st ∧ (m e1 st).Ok fun v s3 => s3 = st ∧ v = .v (F a)) : lcL none g mYes m env0 (l.map f) st = .ok (l.map F) st := by
  rw [lcL_mapA f (fun a => some (F a)) l fun a ha => ?_]
  · rw [List.filterMap_eq_map']
  · refine (h a ha).mono fun e1 s1 ⟨e, q⟩ => ⟨e, ?_⟩
    rw [ok_yes]
    exact ⟨rfl, fun _ => q.mono fun v s3 ⟨e3, ev⟩ => ⟨e3, _, ev, rfl⟩, fun z => nomatch z⟩
end Fw
namespace Fw
open PySem PySem.Spec PyProof.Rows L2
abbrev nI (k : Nat) : PyData := .int (k : Int)
abbrev tNs (l : List Nat) : PyData := .tuple (l.map nI)
abbrev lNs (l : List Nat) : PyData := .list (l.map nI)
section
variable {st : Sto} {l row : List Nat} {k b : Nat} {e0 : Ev} {P : D → Sto → Prop}
theorem flat_nats (l : List Nat) : (l.map nI).all flatP = true := by
  rw [List.all_map]
  exact List.all_eq_true.mpr fun _ _ => rfl
theorem eqv_nat {a b : Nat} : PyData.eqv (nI a) (nI b) = decide (a = b) := by
  simp only [PyData.eqv]
  exact Bool.eq_iff_iff.mpr (by simp only [beq_iff_eq, decide_eq_true_eq]; omega)
theorem any_nat (l : List Nat) (b : Nat) : ((l.map nI).any fun y => PyData.eqv y (nI b)) = decide (b ∈ l) := by
  rw [List.any_map]
  induction l with
  | nil => rfl
  | cons a r ih =>
    rw [List.any_cons, ih]
    show (PyData.eqv (nI a) (nI b) || _) = _
    rw [eqv_nat]
    by_cases h : a = b
    · subst h; simp
    · have : ¬ b = a := fun z => h z.symm
      simp [h, this]
theorem inS_tup : inS st (.v (nI b)) (.v (tNs l)) = some (decide (b ∈ l)) := by
  show (if flatP (nI b) && (l.map nI).all flatP then some ((l.map nI).any fun y => PyData.eqv y (nI b)) else _) = _
  rw [flat_nats, any_nat]
  rfl
theorem inS_list : inS st (.v (nI b)) (.v (lNs l)) = some (decide (b ∈ l)) := by
  show (if flatP (nI b) && (l.map nI).all flatP then some ((l.map nI).any fun y => PyData.eqv y (nI b)) else _) = _
  rw [flat_nats, any_nat]
  rfl
theorem in_tup : inU (.v (nI b)) (.v (tNs l)) st = .ok (.v (.bool (decide (b ∈ l)))) st := by
  show (match inS st (.v (nI b)) (.v (tNs l)) with
    | some k => Out.ok (D.v (.bool k)) st
    | none => .stuck) = _
  rw [inS_tup]
theorem in_list : inU (.v (nI b)) (.v (lNs l)) st = .ok (.v (.bool (decide (b ∈ l)))) st := by
  show (match inS st (.v (nI b)) (.v (lNs l)) with
    | some k => Out.ok (D.v (.bool k)) st
    | none => .stuck) = _
  rw [inS_list]
theorem notIn_tup : notInU (.v (nI b)) (.v (tNs l)) st = .ok (.v (.bool (!decide (b ∈ l)))) st := by
  show (match inS st (.v (nI b)) (.v (tNs l)) with
    | some k => Out.ok (D.v (.bool (!k))) st
    | none => .stuck) = _
  rw [inS_tup]
theorem idxP_nat : ∀ {l : List Nat} {b : Nat}, b ∈ l → idxP (nI b) (l.map nI) = some (l.idxOf b)
  | [], _, h => nomatch h
  | a :: r, b, h => by
    rw [List.map_cons]
    unfold idxP
    rw [eqv_nat]
    by_cases e : a = b
    · subst e
      simp
    · have hb : b ∈ r := (List.mem_cons.mp h).resolve_left fun z => e z.symm
      rw [if_neg (by simpa using e), idxP_nat hb, List.idxOf_cons]
      have e2 : (a == b) = false := by simpa using e
      rw [e2]
      rfl
theorem index_tN (h : b ∈ l) : fmIndex (.v (tNs l)) [.v (nI b)] st = .ok (.v (nI (l.idxOf b))) st := by
  show (if flatP (nI b) && (l.map nI).all flatP then _ else _ : Out D) = _
  have e : (flatP (nI b) && (l.map nI).all flatP) = true := by rw [flat_nats]; rfl
  rw [if_pos e, idxP_nat h]
theorem rep_tNs {w : Nat} (h : ∀ k ∈ l, k < 10 ^ 12) (hl : l.length ≤ w) : Rep (tNs l) w 1 := by
  have e : tNs l = .tuple ((l.map fun k : Nat => (k : Int)).map .int) := by
    rw [List.map_map]
    rfl
  rw [e]
  refine rep_ints (fun x hx => ?_) (by rw [List.length_map]; exact hl)
  obtain ⟨k, hk, rfl⟩ := List.mem_map.mp hx
  exact h k hk
end
theorem shaped_nil {t : List PyData → PyData} (h : t = .list ∨ t = .tuple) : SeqAt.shaped (t []) = true := by
  rcases h with rfl | rfl <;> (unfold SeqAt.shaped; simp [PyData.canLay0, PyData.canLayAll0, PyData.depth, PyData.depthAll])
theorem shaped_nats (l : List Nat) : SeqAt.shaped (lNs l) = true := by
  have key : ∀ l : List Nat, PyData.canLayAll0 (l.map nI) = true ∧ PyData.depthAll (l.map nI) = 0 := fun l => by
    induction l with
    | nil => exact ⟨rfl, rfl⟩
    | cons a r ih =>
      rw [List.map_cons, PyData.canLayAll0, PyData.depthAll, ih.1, ih.2]
      simp [PyData.canLay0, PyData.depth]
  unfold SeqAt.shaped
  rw [PyData.canLay0, PyData.depth, (key l).1, (key l).2]
  rfl
theorem ne_nilL {xs : List PyData} {st : Sto} (h : SeqAt.shaped (.list xs) = true) : neD (.v (.list xs)) (.v (.list [])) st = .ok (.v (.bool (!xs.isEmpty))) st := by
  unfold neD
  have e : eqS st (.v (.list xs)) (.v (.list [])) = some xs.isEmpty := by
    refine (eqT_of (st := st) h (shaped_nil (t := .list) (.inl rfl))).trans ?_
    rw [PyData.eqv]
    cases xs <;> simp [PyData.eqvAll]
  rw [e]
theorem eq_nilL {xs : List PyData} {st : Sto} (h : SeqAt.shaped (.list xs) = true) : eqD (.v (.list xs)) (.v (.list [])) st = .ok (.v (.bool xs.isEmpty)) st := by
  unfold eqD
  have e : eqS st (.v (.list xs)) (.v (.list [])) = some xs.isEmpty := by
    refine (eqT_of (st := st) h (shaped_nil (t := .list) (.inl rfl))).trans ?_
    rw [PyData.eqv]
    cases xs <;> simp [PyData.eqvAll]
  rw [e]
theorem ok_Index {mo : ME} {ma : MA} {env : Ev} {st : Sto} {P : D → Sto → Prop} : (mIndex mo ma env st).Ok P ↔ (mo env st).Ok fun o s => (isL s o || isT o) = true ∧ (ma env s).Ok fun ds s2 => (fmIndex o ds s2).Ok P := by
  unfold mIndex
  rw [ok_bind]
  constructor
  · intro h
    refine h.mono fun d s q => ?_
    split at q
    · rename_i e
      exact ⟨e, ok_bind.mp q⟩
    · exact q.elim
  · intro h
    refine h.mono fun d s ⟨e, q⟩ => ?_
    rw [if_pos e]
    exact ok_bind.mpr q
@[simp] theorem isT_tup {xs : List PyData} : isT (.v (.tuple xs)) = true := rfl
def P2i (ds : List D) (f : Int → Int → Prop) : Prop := match ds with
  | [.v (.int i), .v (.int j)] => f i j
  | _ => False
@[simp] theorem p2i_int {i j : Int} {f : Int → Int → Prop} : P2i [.v (.int i), .v (.int j)] f ↔ f i j := Iff.rfl
theorem ok_R2 {m : MA} {env : Ev} {st : Sto} {P : List Itm × Wt → Sto → Prop} : (miR2 m env st).Ok P ↔ (m env st).Ok fun ds s => P2i ds fun i j => (-1000000 ≤ i ∧ i ≤ 1000000 ∧ -1000000 ≤ j ∧ j ≤ 1000000) ∧ P (rngI i (j - i).toNat, none) s := by
  unfold miR2
  rw [ok_bind]
  constructor
  · intro h
    refine h.mono fun ds s q => ?_
    split at q
    · split at q
      · rename_i i j e1 e2
        split at q
        · rename_i hb
          have ed := iOf_eq e1
          have ee := iOf_eq e2
          subst ed ee
          exact ⟨hb, q⟩
        · exact q.elim
      · exact q.elim
    · exact q.elim
  · intro h
    refine h.mono fun ds s q => ?_
    unfold P2i at q
    split at q
    · rename_i i j
      show (if -1000000 ≤ i ∧ i ≤ 1000000 ∧ -1000000 ≤ j ∧ j ≤ 1000000 then Out.ok (rngI i (j - i).toNat, none) s else .stuck).Ok P
      rw [if_pos q.1]
      exact q.2
    · exact q.elim
def ups (a n : Nat) : List Nat := (List.range (n - a)).map (a + ·)
theorem mem_ups {a n b : Nat} : b ∈ ups a n ↔ a ≤ b ∧ b < n := by
  unfold ups
  rw [List.mem_map]
  constructor
  · rintro ⟨i, hi, rfl⟩
    have := List.mem_range.mp hi
    omega
  · rintro ⟨h1, h2⟩
    exact ⟨b - a, List.mem_range.mpr (by omega), by omega⟩
theorem rng_ups {a n : Nat} : rngI (a : Int) ((n : Int) - (a : Int)).toNat = (ups a n).map fun b : Nat => .one (.v (nI b)) := by
  unfold rngI ups
  rw [List.map_map, show ((n : Int) - (a : Int)).toNat = n - a by omega]
  refine List.map_congr_left fun i _ => ?_
  show Itm.one (.v (.int ((a : Int) + (i : Int)))) = .one (.v (.int ((a + i : Nat) : Int)))
  rw [Int.natCast_add]
theorem cat_list {xs ys : List PyData} {st : Sto} (h : xs.length + ys.length ≤ 1000000) : gCat (.v (.list xs)) (.v (.list ys)) st = .ok (xs ++ ys) st := by
  show (if xs.length + ys.length ≤ lim then _ else _) = _
  rw [if_pos (show xs.length + ys.length ≤ lim from h)]
end Fw
namespace Fw
open PySem PySem.Spec PyProof.Rows L2
section
variable {prog : Program} {w : World} {A : Around} {E : Value → Shared → Prop} {s : Shared}
end
section
variable {X : Cx} {W : XW} {e : Expr} {m : ME} {k : Nat} {p1 p2 p3 pos : Pos}
end
section
variable {st : Sto} {rest : Sto} {xs : List PyData} {z : PyData}
theorem ne_bool {a b : Bool} : neD (.v (.bool a)) (.v (.bool b)) st = .ok (.v (.bool (a != b))) st := by
  cases a <;> cases b <;> rfl
theorem lcL_some {α : Type} {g : MG} {t : MT} {m : ME} {env0 : Ev} (f : α → Itm) (F : α → PyData) : ∀ (l : List α) (s : Src), s.ok →
    (∀ a ∈ l, ∀ s : Src, s.ok → (g (f a) env0 (s.sto rest)).Ok fun e1 st1 => st1 = s.sto rest ∧ (t e1 (s.sto rest)).Ok fun k st2 => ∃ s' : Src, st2 = s'.sto rest ∧ s'.ok ∧ (m e1 (s'.sto rest)).Ok fun v st3 => v = .v (F a) ∧ st3 = s'.sto rest) →
    (lcL none g t m env0 (l.map f) (s.sto rest)).Ok fun zs st => ∃ (s' : Src) (l' : List α), st = s'.sto rest ∧ s'.ok ∧ l'.Sublist l ∧ zs = l'.map F
  | [], s, hs, _ => by
    unfold List.map lcL
    rw [if_pos (show chk none (s.sto rest) from trivial)]
    exact ⟨s, [], rfl, hs, .slnil, rfl⟩
  | a :: r, s, hs, h => by
    rw [List.map_cons]
    unfold lcL
    rw [if_pos (show chk none (s.sto rest) from trivial), ok_bind, ok_noX]
    refine (h a List.mem_cons_self s hs).mono ?_
    rintro e1 st1 ⟨rfl, q⟩
    show (Out.bind (Out.noX _) _).Ok _
    rw [ok_bind, ok_noX]
    refine q.mono ?_
    rintro k st2 ⟨s2, rfl, ok2, q2⟩
    cases k with
    | true =>
      rw [if_pos rfl, ok_bind, ok_noX]
      refine q2.mono ?_
      rintro v st3 ⟨rfl, rfl⟩
      show (Out.bind _ _).Ok _
      rw [ok_bind]
      refine (lcL_some f F r s2 ok2 fun d hd => h d (List.mem_cons_of_mem _ hd)).mono ?_
      rintro zs st ⟨s3, l', rfl, ok3, hsub, rfl⟩
      exact ⟨s3, a :: l', rfl, ok3, hsub.cons₂ a, rfl⟩
    | false =>
      rw [if_neg Bool.false_ne_true]
      refine (lcL_some f F r s2 ok2 fun d hd => h d (List.mem_cons_of_mem _ hd)).mono ?_
      rintro zs st ⟨s3, l', rfl, ok3, hsub, rfl⟩
      exact ⟨s3, l', rfl, ok3, hsub.cons a, rfl⟩
theorem ok_gTpT {i j : Nat} {env : Ev} {x y : PyData} {Q : Ev → Sto → Prop} : (gTp 2 (gMore (gNm i) (gMore (gNm j) gNone)) (.one (.v (.tuple [x, y]))) env st).Ok Q ↔ Q ((env.set i (some (.v x))).set j (some (.v y))) st := Iff.rfl
def tyB : PyData → Bool
  | .dict kvs => !isTK kvs
  | _ => true
theorem isi_by {d : PyData} {T t : String} {b : Bool} (h1 : tyD st (.v d) = some t) (h2 : isT1 t T = some b) : isiD T (.v d) st = .ok (.v (.bool b)) st := by
  show (match tyD st (.v d) with
    | some t => match isT1 t T with
      | some b => Out.ok (D.v (.bool b)) st
      | none => .stuck
    | none => .stuck) = _
  rw [h1]
  show (match isT1 t T with
      | some b => Out.ok (D.v (.bool b)) st
      | none => .stuck) = _
  rw [h2]
end
end Fw
namespace Fw
open PySem PySem.Spec PyProof.Rows L2
section
variable {K : PySem.W.Frag} {ι ι' : Gh} {st st' : Sto} {H H' : Hp}
structure Mk (ι : Gh) (st : Sto) (H : Hp) (ι' : Gh) (st' : Sto) (H' : Hp) : Prop where
  keep : ∀ q u, H q = some u → Frz ι st q → Frz ι' st' q ∧ H' q = some u
  pre : ∀ (n : Nat) (a : Addr), ι.ad[n]? = some a → ι'.ad[n]? = some a
theorem Mk.rp (m : Mk ι st H ι' st' H') {v : V} {d : PyData} (h : Rp (Frz ι st) H v d) : Rp (Frz ι' st') H' v d := Rp.mv (fun q u e f => let ⟨a, b⟩ := m.keep q u e f; ⟨a, .inl b⟩) h
theorem Mk.rpA (m : Mk ι st H ι' st' H') {v : List V} {d : List PyData} (h : RpA (Frz ι st) H v d) : RpA (Frz ι' st') H' v d := RpA.mv (fun q u e f => let ⟨a, b⟩ := m.keep q u e f; ⟨a, .inl b⟩) h
theorem Mk.rd (m : Mk ι st H ι' st' H') {x : V} : ∀ {d : D}, RD K ι st H x d → RD K ι' st' H' x d
  | .v d, h => m.rp h
  | .ref n, ⟨a, h1, h2⟩ => ⟨a, m.pre n a h1, h2⟩
  | .scr ns, ⟨a, h1, h2⟩ => ⟨a, h1, h2.imp id fun ⟨o, h, f⟩ => let ⟨a, b⟩ := m.keep _ _ h f; ⟨o, b, a⟩⟩
theorem Mk.rk (m : Mk ι st H ι' st' H') : ∀ {kvs : List (PyData × D)} {xs : List (Key × V)}, RK K ι st H kvs xs → RK K ι' st' H' kvs xs
  | _, _, .nil => .nil
  | _, _, .cons h r => .cons ⟨h.1, m.rd h.2⟩ (Mk.rk m r)
theorem Mk.rt (m : Mk ι st H ι' st' H') : ∀ {kvs : List (PyData × D)} {xs : List (List Key × V)}, RT K ι st H kvs xs → RT K ι' st' H' kvs xs
  | _, _, .nil => .nil
  | _, _, .cons h r => .cons ⟨h.1, m.rd h.2⟩ (Mk.rt m r)
theorem Mk.rtab (m : Mk ι st H ι' st' H') : ∀ {kvs : List (PyData × D)} {xs : List (NestedKey × Addr × V)}, RTab K ι st H kvs xs → RTab K ι' st' H' kvs xs
  | _, _, .nil => .nil
  | _, _, .cons h r => .cons ⟨h.1, m.rp h.2.1, m.rd h.2.2⟩ (Mk.rtab m r)
theorem Mk.rda (m : Mk ι st H ι' st' H') : ∀ {ds : List D} {xs : List V}, RDA K ι st H ds xs → RDA K ι' st' H' ds xs
  | _, _, .nil => .nil
  | _, _, .cons h r => .cons (m.rd h) (Mk.rda m r)
theorem Mk.ro (m : Mk ι st H ι' st' H') {a : Addr} (h : ∀ u, H a = some u → H' a = some u) : ∀ {o : O}, RO K ι st H a o → RO K ι' st' H' a o
  | .dead, _ => trivial
  | .lst _, ⟨xs, q, r⟩ => ⟨xs, h _ q, m.rpA r⟩
  | .dct false _, ⟨xs, q, r⟩ => ⟨xs, h _ q, m.rk r⟩
  | .dct true _, ⟨xs, q, r⟩ => ⟨xs, h _ q, m.rt r⟩
  | .lck false _, ⟨xs, o, q, r⟩ => ⟨xs, o, h _ q, m.rk r⟩
  | .lck true _, ⟨xs, o, q, r⟩ => ⟨xs, o, h _ q, r.1, r.2.1, r.2.2.1, m.rtab r.2.2.2⟩
  | .tpl _, ⟨xs, o, q, r⟩ => ⟨xs, o, h _ q, m.rda r⟩
  | .tab _, ⟨xs, q, r⟩ => ⟨xs, h _ q, r.1, r.2.1, r.2.2.1, m.rtab r.2.2.2⟩
end
section
variable {K : PySem.W.Frag} {ι : Gh} {st : Sto} {H : Hp}
end
section
variable {prog : Program} {w : World} {A : Around} {E : Value → Shared → Prop} {s : Shared}
theorem gather_tup {l : Addr} {us : List Value} {Q : List Value → Shared → Prop} (ht : IsTup s.heap l us.toArray) (hz : us.length ≤ sizeLine)
    (h : Q us { s with heap := (s.heap.push (seqObj "list" #[] 0)).update s.heap.objs.size (Obj.mapSeq (· ++ us.toArray)) }) : wpAny (model prog w) A (collect (.ref l)) Q E s := by
  obtain ⟨ob, g1, g2, k, g3⟩ := id ht
  have g1' : (s.heap.push (seqObj "list" #[] 0)).get? l = some ob := Heap.get?_push_of_some _ g1
  unfold collect
  refine wpAny_bind (wpAny_runValue (codeAny_builtin entry_proto_collect' ?_))
  show wpAny _ _ (do again (.builtin "list.__iadd__" ⟨[← newList [], .ref l], []⟩)) _ _ s
  refine wpAny_bind ?_
  refine wpAny_newList ?_
  refine wpAny_pure ⟨Code.quiet_builtin _ (by decide +kernel), ?_⟩
  refine codeAny_builtin entry_list_iadd' ?_
  show wpAny _ _ (Builtin.List.listExtendWith (.ref s.heap.objs.size) (.ref l) (.ref s.heap.objs.size)) _ _ { s with heap := s.heap.push (seqObj "list" #[] 0) }
  unfold Builtin.List.listExtendWith
  refine wpAny_bind (wpAny_typeOf (T := "tuple") ⟨ob, g1', g2⟩ ?_)
  rw [if_pos (by rw [show (Value.type "tuple" == Value.type "tuple") = true from rfl, Bool.or_true])]
  refine wpAny_bind (listItems_at g1' g3 ?_)
  refine wpAny_bind ?_
  refine listItems_at (xs := #[]) (n := 0) (Heap.get?_push_size _ rfl) rfl ?_
  rw [if_neg (by simp)]
  refine wpAny_bind ?_
  refine listUpdate_at (xs := #[]) (n := 0) (Heap.get?_push_size _ rfl) rfl ?_ (Nat.zero_le _) (by show (#[] ++ us.toArray).size ≤ sizeLine + 1; simp only [Array.size_append, List.size_toArray, List.length_nil]; omega)
  refine wpAny_pure ?_
  refine wpAny_bind (m := load s.heap.objs.size) ?_
  refine wpAny_load (get?_update_seq (Heap.get?_push_size _ rfl) _) ?_
  show wpAny _ _ (pure ((#[] : Array Value) ++ us.toArray).toList) Q E _
  have e : ((#[] : Array Value) ++ us.toArray).toList = us := by simp
  rw [e]
  exact wpAny_pure h
end
def gSortV : GA := fun ds st => match ds with
  | [.v (.tuple zs)] => match rowsOf zs with
    | some rs => if zs.length < 64 ∧ 1 ≤ (rs.headD []).length ∧ (rs.all (rowB (rs.headD []).length)) = true then .ok ((sortR rs).map fun r => .tuple (r.map .int)) st else .stuck
    | none => .stuck
  | _ => .stuck
end Fw
namespace Fw.LD
open PySem PySem.Spec PyProof.Rows L2 Fw
noncomputable abbrev f_do_want : FF := Fw.LC.f_do_want
noncomputable abbrev f_has_rather : FF := Fw.LC.f_has_rather
noncomputable abbrev f_law_place : FF := Fw.LC.f_law_place
noncomputable abbrev f_law_partner : FF := Fw.LC.f_law_partner
noncomputable abbrev f_law_want : FF := Fw.LC.f_law_want
noncomputable def law_pairings_E1 : MI := (miR2 (mCons (mBin addD (mVar 2) (mC (.int 1))) (mCons (mBin subsD (mVar 0) (mC (.int 0))) mNil)))
noncomputable def law_pairings_G1 : MG := (gNm 6)
noncomputable def law_pairings_T1 : MT := (mTru' (mCall f_law_want (mCons (mVar 0) (mCons (mVar 2) (mCons (mVar 6) mNil))) []))
noncomputable def law_pairings_M1 : ME := (mVar 6)
noncomputable def law_pairings_E2 : MI := (miSeq (mVar 5))
noncomputable def law_pairings_G2 : MG := (gNm 6)
noncomputable def law_pairings_T2 : MT := (mTB (mBin isD (mCall f_law_partner (mCons (mVar 4) (mCons (mVar 6) mNil)) []) (mC .none)))
noncomputable def law_pairings_M2 : ME := (mVar 6)
noncomputable def law_pairings_E3 : MI := (miSeq (mVar 5))
noncomputable def law_pairings_G3 : MG := (gNm 6)
noncomputable def law_pairings_T3 : MT := mYes
noncomputable def law_pairings_M3 : ME := (mArg fTuple (mCons (mFrz (mfArg gSortV (mCons (mBin addD (mVar 4) (mArg fTup (mCons (mArg fTup (mCons (mVar 2) (mCons (mVar 6) mNil))) mNil))) mNil))) mNil))
noncomputable def law_pairings_E4 : MI := (miSeq (mVar 1))
noncomputable def law_pairings_G4 : MG := (gNm 4)
noncomputable def law_pairings_B2 : MS := (sIf (mTB (mBin isD (mCall f_law_partner (mCons (mVar 4) (mCons (mVar 2) mNil)) []) (mC .none))) (sSeq (sAsg (mFrz (mLc law_pairings_E1 law_pairings_G1 law_pairings_T1 law_pairings_M1 [6])) (gNm 5)) (sSeq (sAsg (mFrz (mLc law_pairings_E2 law_pairings_G2 law_pairings_T2 law_pairings_M2 [6])) (gNm 5)) (sAsg (mFrz (mfBin gCat (mVar 3) (mFrz (mLc law_pairings_E3 law_pairings_G3 law_pairings_T3 law_pairings_M3 [6])))) (gNm 3)))) sNil)
noncomputable def law_pairings_B1_3 : MS := (sAsg (mVar 3) (gNm 1))
noncomputable def law_pairings_B1_2 : MS := (sSeq (sFor law_pairings_E4 law_pairings_G4 law_pairings_B2) law_pairings_B1_3)
noncomputable def law_pairings_E5 : MI := (miR1 (mCons (mBin subsD (mVar 0) (mC (.int 0))) mNil))
noncomputable def law_pairings_G5 : MG := (gNm 2)
noncomputable def law_pairings_B1 : MS := (sSeq (sAsg (mFrz (mfArg gList (mCons (mVar 1) mNil))) (gNm 3)) law_pairings_B1_2)
noncomputable def S_law_pairings_3 : MS := (sRet (mVar 1))
noncomputable def S_law_pairings_2 : MS := (sSeq (sFor law_pairings_E5 law_pairings_G5 law_pairings_B1) S_law_pairings_3)
noncomputable def S_law_pairings : MS := (sSeq (sAsg (mFrz (mfArg gDisp (mCons (mArg fTup mNil) mNil))) (gNm 1)) S_law_pairings_2)
noncomputable def f_law_pairings : FF := fnT 7 S_law_pairings
end Fw.LD
set_option maxHeartbeats 400000
namespace PySem.SeqAt
open AutoSeq1 (wpAny_loadPart')
open MeetsSeq
end PySem.SeqAt
namespace Fw
open PySem PySem.Spec PyProof.Rows L2
section
variable {X : Cx} {W : XW} {a b : Expr} {ma mb : ME}
end
end Fw
namespace Fw
open PySem PySem.Spec PyProof.Rows L2
section
variable {K : PySem.W.Frag} {ι ι' : Gh} {st st' : Sto} {H H' : Hp}
end
section
variable {X : Cx} {W : XW} {o i e : Expr} {mo mi me : ME} {pos tpos : Pos} {vs : Option (List Nat)}
end
def PD1 (K : PySem.W.Frag) (ι : Gh) (st : Sto) (H : Hp) (Q : VK) (kvs : List (PyData × D)) (st' : Sto) : Prop :=
  ∀ ι' H' xs p, SRel K ι' st' H' → Ext ι st H ι' st' H' → RK K ι' st' H' kvs xs → H' p = none → HF (upd H' p (.dK xs)) → Q (.ref p) (upd H' p (.dK xs))
theorem PD1.ext {K : PySem.W.Frag} {ι ι' : Gh} {st st' s2 : Sto} {H H' : Hp} {Q : VK} {kvs : List (PyData × D)} (h : PD1 K ι st H Q kvs s2) (e : Ext ι st H ι' st' H') : PD1 K ι' st' H' Q kvs s2 :=
  fun ι2 H2 xs p R E r => h ι2 H2 xs p R (e.trans E) r
section
variable {X : Cx} {W : XW} {kx vx tg iter : Expr} {ifs : List Expr} {scope : Scope} {own : List (Str × Nat)} {pos : Pos} {mi : MI} {g : MG} {t : MT} {mk mv : ME}
end
section
variable {st : Sto} {env : Ev} {N : Ev → Sto → Prop} {T : D → Sto → Prop}
end
end Fw
namespace Fw
open PySem PySem.Spec PyProof.Rows L2
section
variable {K : PySem.W.Frag} {ι ι1 : Gh} {st s1 : Sto} {H H1 : Hp}
theorem Mk.ev {ι' : Gh} {st' : Sto} {H' : Hp} (m : Mk ι st H ι' st' H') {σ : L2.St} {env : Ev} (h : EvR K ι st H σ env) : EvR K ι' st' H' σ env :=
  ⟨h.1, fun i d q => let ⟨x, h1, h2⟩ := h.2 i d q; ⟨x, h1, m.rd h2⟩⟩
end
def gSortW : GA := fun ds st => match ds with
  | [.v (.tuple [])] => .ok [] st
  | _ => gSortV ds st
def gSortU : GA := fun ds st => match ds with
  | [.v (.tuple _)] => gSortW ds st
  | _ => gSort ds st
end Fw
namespace Fw.LE
open PySem PySem.Spec PyProof.Rows L2 Fw
noncomputable abbrev f_do_want : FF := Fw.LC.f_do_want
noncomputable abbrev f_has_rather : FF := Fw.LC.f_has_rather
noncomputable abbrev f_law_pick : FF := Fw.LA.f_law_pick
noncomputable abbrev f_law_any_order : FF := Fw.LA.f_law_any_order
noncomputable def law_hall_E1 : MI := (miR1 (mCons (mVar 2) mNil))
noncomputable def law_hall_G1 : MG := (gNm 6)
noncomputable def law_hall_T1 : MT := (mTB (mBin eqD (mCall f_law_pick (mCons (mVar 0) (mCons (mC (.int 2)) mNil)) []) (mC (.int 0))))
noncomputable def law_hall_M1 : ME := (mVar 6)
noncomputable def law_hall_E2 : MI := (miSeq (mIte (mTB (mBin eqD (mVar 4) (mC (.int 0)))) (mVar 7) (mCall f_law_any_order (mCons (mVar 0) (mCons (mFrz (mRg1 (mVar 2))) mNil)) [])))
noncomputable def law_hall_G2 : MG := (gNm 10)
noncomputable def law_hall_T2 : MT := (mTB (mBin neD (mBin inU (mVar 10) (mVar 5)) (mBin inU (mVar 6) (mVar 5))))
noncomputable def law_hall_M2 : ME := (mVar 10)
noncomputable def law_hall_E3 : MI := (miSeq (mVar 9))
noncomputable def law_hall_G3 : MG := (gNm 10)
noncomputable def law_hall_T3 : MT := (mOrT (mTB (mBin eqD (mVar 4) (mC (.int 1)))) (mTB (mBin gtD (mCall f_law_pick (mCons (mVar 0) (mCons (mBin addD (mVar 3) (mC (.int 1))) mNil)) []) (mC (.int 0)))))
noncomputable def law_hall_M3 : ME := (mVar 10)
noncomputable def law_hall_B1_2 : MS := (sExp (mM fmAppend (mVar 8) (mCons (mArg fTuple (mCons (mFrz (mLc law_hall_E3 law_hall_G3 law_hall_T3 law_hall_M3 [10])) mNil)) mNil)))
noncomputable def law_hall_E4 : MI := (miR1 (mCons (mVar 2) mNil))
noncomputable def law_hall_G4 : MG := (gNm 6)
noncomputable def law_hall_B1 : MS := (sSeq (sAsg (mFrz (mLc law_hall_E2 law_hall_G2 law_hall_T2 law_hall_M2 [10])) (gNm 9)) law_hall_B1_2)
noncomputable def S_law_hall_5 : MS := (sRet (mArg fTup (mCons (mArg fTup (mCons (mVar 2) (mCons (mArg fTuple (mCons (mVar 8) mNil)) mNil))) (mCons (mVar 5) mNil))))
noncomputable def S_law_hall_4 : MS := (sSeq (sFor law_hall_E4 law_hall_G4 law_hall_B1) S_law_hall_5)
noncomputable def S_law_hall_3 : MS := (sSeq (sPar2 7 8 (mCons (mCall f_law_any_order (mCons (mVar 0) (mCons (mFrz (mRg1 (mVar 2))) mNil)) []) (mCons (mNew (mfArg gDisp mNil)) mNil))) S_law_hall_4)
noncomputable def S_law_hall_2 : MS := (sSeq (sAsg (mArg fTuple (mCons (mFrz (mLc law_hall_E1 law_hall_G1 law_hall_T1 law_hall_M1 [6])) mNil)) (gNm 5)) S_law_hall_3)
noncomputable def S_law_hall : MS := (sSeq (sAsgT 3 (mCons (mBin addD (mC (.int 2)) (mCall f_law_pick (mCons (mVar 0) (mCons (mBin subD (mVar 1) (mC (.int 1))) mNil)) [])) (mCons (mBin addD (mC (.int 1)) (mCall f_law_pick (mCons (mVar 0) (mCons (mC (.int 4)) mNil)) [])) (mCons (mCall f_law_pick (mCons (mVar 0) (mCons (mC (.int 4)) mNil)) []) mNil))) (gMore (gNm 2) (gMore (gNm 3) (gMore (gNm 4) gNone)))) S_law_hall_2)
noncomputable def f_law_hall : FF := fnT 11 S_law_hall
noncomputable def law_trim_E1 : MI := (miSeq (mVar 2))
noncomputable def law_trim_G1 : MG := (gNm 3)
noncomputable def law_trim_T1 : MT := (mTB (mBin inU (mVar 1) (mBin subsD (mBin subsD (mVar 0) (mC (.int 1))) (mVar 3))))
noncomputable def law_trim_M1 : ME := (mVar 3)
noncomputable def law_trim_E2 : MI := (miEnum (mCons (mBin subsD (mVar 0) (mC (.int 1))) mNil))
noncomputable def law_trim_G2 : MG := (gTp 2 (gMore (gNm 1) (gMore (gNm 2) gNone)))
noncomputable def law_trim_T2 : MT := mYes
noncomputable def law_trim_M2 : ME := (mFrz (mLc law_trim_E1 law_trim_G1 law_trim_T1 law_trim_M1 [3]))
noncomputable def S_law_trim : MS := (sRet (mFrz (mLc law_trim_E2 law_trim_G2 law_trim_T2 law_trim_M2 [1, 2])))
noncomputable def f_law_trim : FF := fnT 4 S_law_trim
noncomputable def S_law_rather_2 : MS := (sRet (mBin ltD (mIndex (mVar 4) (mCons (mVar 2) mNil)) (mIndex (mVar 4) (mCons (mVar 3) mNil))))
noncomputable def S_law_rather : MS := (sSeq (sAsg (mFrz (mfBin gCat (mFrz (mfArg gList (mCons (mBin subsD (mBin subsD (mVar 0) (mC (.int 1))) (mVar 1)) mNil))) (mFrz (mfArg gDisp (mCons (mC .none) mNil))))) (gNm 4)) S_law_rather_2)
noncomputable def f_law_rather : FF := fnT 5 S_law_rather
noncomputable def law_flat_E1 : MI := (miSeq (mVar 0))
noncomputable def law_flat_G1 : MG := (gTp 2 (gMore (gNm 2) (gMore (gNm 3) gNone)))
noncomputable def law_flat_B1 : MS := (sAsg (mFrz (mfBin gCat (mVar 1) (mFrz (mfArg gDisp (mCons (mVar 2) (mCons (mVar 3) mNil)))))) (gNm 1))
noncomputable def S_law_flat_3 : MS := (sRet (mVar 1))
noncomputable def S_law_flat_2 : MS := (sSeq (sFor law_flat_E1 law_flat_G1 law_flat_B1) S_law_flat_3)
noncomputable def S_law_flat : MS := (sSeq (sAsg (mFrz (mfArg gDisp mNil)) (gNm 1)) S_law_flat_2)
noncomputable def f_law_flat : FF := fnT 4 S_law_flat
noncomputable def law_pairings_E1 : MI := (miSeq (mVar 3))
noncomputable def law_pairings_G1 : MG := (gNm 7)
noncomputable def law_pairings_T1 : MT := (mAndT (mTB (mBin gtD (mVar 7) (mVar 2))) (mTB (mBin notInU (mVar 7) (mVar 6))))
noncomputable def law_pairings_M1 : ME := (mBin addD (mVar 5) (mArg fTup (mCons (mArg fTup (mCons (mVar 2) (mCons (mVar 7) mNil))) mNil)))
noncomputable def law_pairings_B2_2 : MS := (sIf (mTB (mBin notInU (mVar 2) (mVar 6))) (sAsg (mFrz (mfBin gCat (mVar 4) (mFrz (mLc law_pairings_E1 law_pairings_G1 law_pairings_T1 law_pairings_M1 [7])))) (gNm 4)) sNil)
noncomputable def law_pairings_E2 : MI := (miSeq (mVar 1))
noncomputable def law_pairings_G2 : MG := (gNm 5)
noncomputable def law_pairings_B2 : MS := (sSeq (sAsg (mCall f_law_flat (mCons (mVar 5) mNil) []) (gNm 6)) law_pairings_B2_2)
noncomputable def law_pairings_B1_3 : MS := (sAsg (mFrz (mfBin gCat (mVar 1) (mVar 4))) (gNm 1))
noncomputable def law_pairings_B1_2 : MS := (sSeq (sFor law_pairings_E2 law_pairings_G2 law_pairings_B2) law_pairings_B1_3)
noncomputable def law_pairings_E3 : MI := (miEnum (mCons (mCall f_law_trim (mCons (mVar 0) mNil) []) mNil))
noncomputable def law_pairings_G3 : MG := (gTp 2 (gMore (gNm 2) (gMore (gNm 3) gNone)))
noncomputable def law_pairings_B1 : MS := (sSeq (sAsg (mFrz (mfArg gDisp mNil)) (gNm 4)) law_pairings_B1_2)
noncomputable def law_pairings_E4 : MI := (miSeq (mVar 1))
noncomputable def law_pairings_G4 : MG := (gNm 5)
noncomputable def law_pairings_T2 : MT := mYes
noncomputable def law_pairings_M2 : ME := (mArg fTuple (mCons (mFrz (mfArg gSortU (mCons (mVar 5) mNil))) mNil))
noncomputable def S_law_pairings_3 : MS := (sRet (mFrz (mLc law_pairings_E4 law_pairings_G4 law_pairings_T2 law_pairings_M2 [5])))
noncomputable def S_law_pairings_2 : MS := (sSeq (sFor law_pairings_E3 law_pairings_G3 law_pairings_B1) S_law_pairings_3)
noncomputable def S_law_pairings : MS := (sSeq (sAsg (mFrz (mfArg gDisp (mCons (mArg fTup mNil) mNil))) (gNm 1)) S_law_pairings_2)
noncomputable def f_law_pairings : FF := fnT 8 S_law_pairings
noncomputable abbrev f_partner_of : FF := Fw.LC.f_partner_of
end Fw.LE
namespace Fw
open PySem PySem.Spec PyProof.Rows L2
def mStar (me : ME) (mr : MA) : MA := fun env st => (me env st).bind fun a s1 => match viewS s1 a with
  | some zs => (mr env s1).bind fun ds s2 => .ok (zs.map .v ++ ds) s2
  | none => .stuck
theorem RDs.app {K : PySem.W.Frag} {ι : Gh} {st : Sto} {H : Hp} : ∀ {xs ys : List V} {ds es : List D}, RDs K ι st H xs ds → RDs K ι st H ys es → RDs K ι st H (xs ++ ys) (ds ++ es)
  | _, _, _, _, .nil, s => s
  | _, _, _, _, .cons h r, s => .cons h (RDs.app r s)
theorem xa_star {X : Cx} {W : XW} {e : Expr} {es : List Expr} {p : Pos} {me : ME} {mr : MA} (he : PE X e (TEo X.K W me)) (hr : PA X es (TAo X.K W mr)) (hs : starEach (.Starred e p :: es) X.env = (true, eval e X.env) :: starEach es X.env := by rfl) : PA X (.Starred e p :: es) (TAo X.K W (mStar me mr)) :=
  pa_wrap (StX.pa_star he hr hs) fun σ H Q q => by
    obtain ⟨ι, env, st, R, EV, pp⟩ := q
    refine ⟨ι, env, st, R, EV, Out.post_mono (Out.post_bind pp) (fun a s1 q ι1 H1 x R1 E1 ra => ?_) fun _ _ z => z⟩
    split at q
    · rename_i zs e1
      obtain ⟨ad, us, rfl, h1, h2⟩ := viewS_at R1 e1 ra
      refine ⟨ad, us, rfl, ?_, ι1, env, s1, R1, EV.ext E1, Out.post_mono (Out.post_bind q) (fun ds s2 q2 ι2 H2 ys R2 E2 rs _ => ?_) fun _ _ z => z.ext E1⟩
      · rcases h1 with h1 | h1
        · exact .inr (.of h1)
        · exact .inl h1.sq
      · exact q2 ι2 H2 _ R2 (E1.trans E2) ((RDs.ext E2 (rds_vals h2)).app rs)
    · exact q.elim
theorem ok_star {me : ME} {mr : MA} {env : Ev} {st : Sto} {P : List D → Sto → Prop} : (mStar me mr env st).Ok P ↔ (me env st).Ok fun a s1 => ∃ zs, viewS s1 a = some zs ∧ (mr env s1).Ok fun ds s2 => P (zs.map .v ++ ds) s2 := by
  unfold mStar
  rw [ok_bind]
  refine ⟨fun h => h.mono fun a s q => ?_, fun h => h.mono fun a s ⟨zs, e, q⟩ => ?_⟩
  · split at q
    · rename_i zs e
      exact ⟨zs, e, by rw [ok_bind] at q; exact q⟩
    · exact q.elim
  · rw [e]
    show (Out.bind _ _).Ok P
    rw [ok_bind]
    exact q
end Fw
namespace L2
open PySem PySem.Spec PyProof.Rows
section
variable {X : Cx} {e : Expr} {te : TE} {p apos cpos pos : Pos}
end
end L2
namespace Fw
open PySem PySem.Spec PyProof.Rows L2
end Fw
namespace Fw
open PySem PySem.Spec PyProof.Rows L2
section
variable {X : Cx} {W : XW} {elt tg iter tg1 iter1 : Expr} {ifs ifs1 : List Expr} {scope : Scope} {own own1 : List (Str × Nat)} {pos : Pos} {mi mi1 : MI} {g g1 : MG} {t t1 : MT} {m : ME}
end
end Fw
namespace L2
open PySem PySem.Spec PyProof.Rows
section
variable {X : Cx}
end
end L2
namespace Fw
open PySem PySem.Spec PyProof.Rows L2
section
variable {K : PySem.W.Frag} {ι : Gh} {st : Sto} {H : Hp}
end
section
variable {X : Cx} {W : XW} {a b : Expr} {m ma mb : ME} {p q pos pos2 : Pos}
end
end Fw
namespace Fw.LF
open PySem PySem.Spec PyProof.Rows L2 Fw
noncomputable abbrev f_do_want : FF := Fw.LC.f_do_want
noncomputable abbrev f_has_rather : FF := Fw.LC.f_has_rather
noncomputable abbrev f_law_pick : FF := Fw.LA.f_law_pick
noncomputable abbrev f_law_trim : FF := Fw.LE.f_law_trim
noncomputable abbrev f_law_rather : FF := Fw.LE.f_law_rather
end Fw.LF
namespace Fw
open PySem PySem.Spec PyProof.Rows L2
end Fw
namespace RZ
open PySem PySem.Spec PyProof.Rows L2
end RZ
namespace Fw
open PySem PySem.Spec PyProof.Rows L2
end Fw
namespace Fw
open PySem PySem.Spec PyProof.Rows L2
end Fw
namespace L2
open PySem PySem.Spec PyProof.Rows
section
variable {X : Cx} {pins : List (Addr × Obj)} {σ : St} {H : Hp} {s : Shared} {a b : Addr} {kvs more : List (Key × V)} {A : Around} {E : Value → Shared → Prop}
end
end L2
namespace Fw
open PySem PySem.Spec PyProof.Rows L2
end Fw
namespace RZ
open PySem PySem.Spec PyProof.Rows L2
end RZ
namespace Fw
open PySem PySem.Spec PyProof.Rows L2
end Fw
namespace Fw
open PySem PySem.Spec PyProof.Rows L2
end Fw
namespace Fw
open PySem PySem.Spec PyProof.Rows L2
open PySem.W (AllAlike Sortable dataLe dataLt alike alikeAll sortVals dataKind sortingHeap EachIs)
section
variable {prog : Program} {w : World} {A : Around} {E : Value → Shared → Prop} {s : Shared} {M : Model}
theorem mapM_fun {α β : Type} {f : α → Sem β} (g : α → β) : ∀ (l : List α) {Q : List β → Shared → Prop}, (∀ v ∈ l, ∀ Q' : β → Shared → Prop, Q' (g v) s → wpAny M A (f v) Q' E s) → Q (l.map g) s → wpAny M A (l.mapM f) Q E s
  | [], _, _, h => by rw [List.mapM_nil]; exact wpAny_pure h
  | x :: l, Q, hf, h => by
    rw [List.mapM_cons]
    exact wpAny_bind (hf x (.head _) _ (wpAny_bind (mapM_fun g l (Q := fun bs s' => wpAny M A (pure (g x :: bs)) Q E s') (fun v hv => hf v (.tail _ hv)) (wpAny_pure h))))
def fstV (h : Heap) (v : Value) : Option Value := match v with
  | .ref a => match h.get? a with
    | some o => match o.data with
      | .seq xs _ => xs[0]?
      | _ => none
    | none => none
  | _ => none
theorem tups_kind {vs : List Value} {ds : List PyData} {Q : SortKind → Shared → Prop} (e : EachIs (fun v d => ∃ as, Reads s.heap v d as) vs ds) (ht : ∀ d ∈ ds, ∃ xs, d = .tuple xs) (hne : .tuple [] ∈ ds) (h : Q (if ((vs.map (fstV s.heap)).toArray[0]?.bind id).isSome = true then general' else oneType') s) :
    wpAny M A (keyKind' vs.toArray) Q E s := by
  have look : ∀ v ∈ vs, ∃ a o xs n, v = .ref a ∧ s.heap.get? a = some o ∧ o.cls = .type "tuple" ∧ o.data = .seq xs n := fun v hv => by
    obtain ⟨d, hd, as, r⟩ := e.left v hv
    obtain ⟨xs, rfl⟩ := ht d hd
    cases r with
    | tuple h1 h2 h3 h4 => exact ⟨_, _, _, _, rfl, h1, h2, h3⟩
  have ty : ∀ v ∈ vs, PySem.W.Looks M s.heap (typeOf v) (Value.type "tuple") := fun v hv => by
    obtain ⟨d, hd, as, r⟩ := e.left v hv
    obtain ⟨xs, rfl⟩ := ht d hd
    exact PySem.W.looks_reads r
  have emp : ∃ v ∈ vs, fstV s.heap v = none := by
    have : ∀ {vs : List Value} {ds : List PyData}, EachIs (fun v d => ∃ as, Reads s.heap v d as) vs ds → .tuple [] ∈ ds → ∃ v ∈ vs, ∃ as, Reads s.heap v (.tuple []) as := fun {vs ds} e => by
      induction e with
      | nil => intro h; cases h
      | cons r t ih =>
        intro h
        rcases List.mem_cons.mp h with q | q
        · exact ⟨_, List.mem_cons_self, by rw [q]; exact r⟩
        · obtain ⟨v, hv, q⟩ := ih q
          exact ⟨v, List.mem_cons_of_mem _ hv, q⟩
    obtain ⟨v, hv, as, r⟩ := this e hne
    refine ⟨v, hv, ?_⟩
    cases r with
    | @tuple a o xs n _ _ h1 h2 h3 h4 =>
      have : xs.toList = [] := by
        cases q : xs.toList with
        | nil => rfl
        | cons x r => rw [q] at h4; cases h4
      have hx : xs = #[] := Array.toList_inj.mp (by rw [this])
      show (match s.heap.get? a with
        | some o => match o.data with
          | .seq xs _ => xs[0]?
          | _ => none
        | none => none) = none
      rw [h1]
      show (match o.data with
        | .seq xs _ => xs[0]?
        | _ => none) = none
      rw [h3, hx]
      rfl
  rw [kat_kind_eq, List.mapM_toArray, map_eq_pure_bind]
  refine wpAny_bind (wpAny_bind (mapM_fun (fstV s.heap) vs (fun v hv Q' hq => ?_) (wpAny_pure ?_)))
  · obtain ⟨a, o, xs, n, rfl, h1, h2, h3⟩ := look v hv
    rw [PySem.W.kas_first_eq]
    refine wpAny_bind ((ty _ hv).here ?_)
    rw [if_neg (by simp)]
    refine wpAny_bind (listItems_at h1 h3 ?_)
    refine wpAny_pure ?_
    have e0 : fstV s.heap (.ref a) = xs[0]? := by
      show (match s.heap.get? a with
        | some o => match o.data with
          | .seq xs _ => xs[0]?
          | _ => none
        | none => none) = _
      rw [h1]
      show (match o.data with
        | .seq xs _ => xs[0]?
        | _ => none) = _
      rw [h3]
    rw [e0] at hq
    exact hq
  · have hall : ((vs.map (fstV s.heap)).toArray.all fun x => x.isSome) = false := by
      obtain ⟨v, hv, hn⟩ := emp
      rw [List.all_toArray, List.all_eq_false]
      exact ⟨_, List.mem_map.mpr ⟨v, hv, hn⟩, by simp⟩
    rw [hall, if_neg Bool.false_ne_true]
    by_cases hg : ((vs.map (fstV s.heap)).toArray[0]?.bind id).isSome = true
    · rw [if_pos hg] at h ⊢
      exact wpAny_pure h
    · rw [if_neg hg] at h ⊢
      rw [oneTypeOnly'_eq, List.mapM_toArray, map_eq_pure_bind]
      refine wpAny_bind (wpAny_bind (wpAny_bind (PySem.W.kas_mapM (r := Value.type "tuple") _ (fun v hv Q' hq => (ty v hv).here hq) (wpAny_pure ?_))))
      obtain ⟨v, hv, _⟩ := emp
      cases vs with
      | nil => cases hv
      | cons v1 rest =>
        have hall2 : ((List.map (fun _ => Value.type "tuple") (v1 :: rest)).toArray.all fun x => x == Value.type "tuple") = true := by
          simp only [List.all_toArray, List.all_map, List.all_eq_true]
          intro _ _
          exact beq_self_eq_true _
        have h0 : (List.map (fun _ => Value.type "tuple") (v1 :: rest)).toArray[0]? = some (Value.type "tuple") := by simp
        rw [h0]
        simp only [hall2, if_true]
        exact wpAny_pure (wpAny_pure h)
theorem oneLt_tups {f : Bool} {xs ys : List PyData} {a b : Value} {as bs : List Addr} {Q : Bool → Shared → Prop} (ra : Reads s.heap a (.tuple xs) as) (rb : Reads s.heap b (.tuple ys) bs) (h : alike (.tuple xs) (.tuple ys) = true)
    (hu : A.units + min (PyData.tuple xs).depth (PyData.tuple ys).depth < cLine) (hq : Q (dataLt (.tuple xs) (.tuple ys)) s) : wpAny (model prog w) A (oneLt' f a b) Q E s := by
  cases f with
  | false =>
    rw [oneLt'_eq]
    simp only [Bool.false_eq_true, if_false]
    exact wpAny_bind (PySem.W.rcLt_alike _ _ A s a b as bs ra rb h nofun hu prog w E _ (wpAny_truthy_bool hq))
  | true =>
    have hal : alikeAll xs ys = true := by simpa [alike] using h
    cases ra with
    | @tuple l o vs n _ as1 h1 h2 h3 h4 =>
      cases rb with
      | @tuple l' o' vs' n' _ bs1 k1 k2 k3 k4 =>
        have n1 : vs.size = xs.length := by simpa using PySem.SeqAt.ReadsAll.length _ _ _ h4
        have n2 : vs'.size = ys.length := by simpa using PySem.SeqAt.ReadsAll.length _ _ _ k4
        rw [PySem.W.dataLt_tuple, ← PySem.W.firstLt_toks xs ys hal, ← n1, ← n2] at hq
        rw [oneLt'_eq]
        simp only [if_true]
        refine wpAny_bind (wpAny_cRoomFor (PySem.SeqAt.room_here hu) ?_)
        have hl : s.heap.IsTuple l vs := ⟨_, h1, h2, _, h3⟩
        have hb : s.heap.IsTuple l' vs' := ⟨_, k1, k2, _, k3⟩
        have he : ∀ j (j1 : j < vs.size) (j2 : j < vs'.size), PySem.SeqAt.EqAt A.in1 s vs[j] vs'[j] (PySem.SeqAt.pairEq xs ys j) := fun j j1 j2 => by
          have := PySem.W.eqAt_alikeAll xs ys A.in1 s vs.toList vs'.toList _ _ h4 k4 hal (PySem.SeqAt.room_in hu) j (by simpa using j1) (by simpa using j2)
          simpa using this
        have hr : ∀ j (j1 : j < vs.size) (j2 : j < vs'.size), PySem.SeqAt.pairEq xs ys j = false → PySem.SeqAt.RcLt A.in1 s vs[j] vs'[j] ((fun j => dataLt (xs.getD j .none) (ys.getD j .none)) j) := fun j j1 j2 hj => by
          have := PySem.W.rcLt_alikeAll xs ys A.in1 s vs.toList vs'.toList _ _ h4 k4 hal (PySem.SeqAt.room_in hu) j (by simpa using j1) (by simpa using j2) hj
          simpa using this
        obtain ⟨⟨cls, dd, data, sl⟩, ho, hc, m, hd⟩ := id hl
        obtain ⟨⟨cls2, dd2, data2, sl2⟩, ho2, hc2, m2, hd2⟩ := id hb
        simp only at hc hd hc2 hd2
        subst hc hd hc2 hd2
        refine wpAny_bind (wpAny_callSpecialIfBound?_slot (T := "tuple") ⟨_, ho, rfl⟩ F.slot_tuple_lt (call_meets F.slot_tuple_lt ⟨_, ho, rfl⟩ F.entry_tuple_lt (F.args_tuple_lt_2 _ _) (PySem.SeqAt.tuple_ltAt l l' vs vs' m m2 dd dd2 sl sl2 (PySem.SeqAt.pairEq xs ys) (fun j => dataLt (xs.getD j .none) (ys.getD j .none))) ⟨ho, ho2, he, hr, ?_⟩))
        exact wpAny_truthy_bool hq
theorem sortsAt_tups {vs : List Value} {ds : List PyData} (e : EachIs (fun v d => ∃ as, Reads s.heap v d as) vs ds) (hal : AllAlike ds) (ht : ∀ d ∈ ds, ∃ xs, d = .tuple xs) (hne : .tuple [] ∈ ds) (hu : ∀ d, d ∈ ds → A.units + d.depth < cLine) : PySem.W.SortsAt prog w A s (dataKind s.heap ds) vs := by
  refine ⟨fun v hv => ?_, ?_⟩
  · obtain ⟨d, hd, as, r⟩ := e.left v hv
    exact ⟨_, PySem.W.dataKind_some hal hd r⟩
  · have both : ∀ kd, (kd = general' ∨ kd = oneType') → H.LtAt prog w A s (dataKind s.heap ds) kd := fun kd hkd E x y a b Q ha hb hq => by
      obtain ⟨d, as, hd, ra, rfl⟩ := PySem.W.dataKind_inv ha
      obtain ⟨d', as', hd', rb, rfl⟩ := PySem.W.dataKind_inv hb
      obtain ⟨xs, rfl⟩ := ht d hd
      obtain ⟨ys, rfl⟩ := ht d' hd'
      have room : A.units + min (PyData.tuple xs).depth (PyData.tuple ys).depth < cLine := Nat.lt_of_le_of_lt (Nat.add_le_add_left (Nat.min_le_left _ _) _) (hu _ hd)
      rcases hkd with rfl | rfl
      · rw [show keyLt' general' x y = oneLt' false x y from rfl]
        exact oneLt_tups ra rb (hal _ hd _ hd') room hq
      · rw [keyLt'_oneType]
        exact oneLt_tups ra rb (hal _ hd _ hd') room hq
    refine ⟨if ((vs.map (fstV s.heap)).toArray[0]?.bind id).isSome = true then general' else oneType', both _ ?_, fun _ E Q q => tups_kind e ht hne q⟩
    split
    · exact .inl rfl
    · exact .inr rfl
end
def Sort2 (ds : List PyData) : Prop := Sortable ds ∨ ∀ d ∈ ds, ∃ xs, d = .tuple xs
theorem sortsAt2 {prog : Program} {w : World} {A : Around} {s : Shared} {vs : List Value} {ds : List PyData} (e : EachIs (fun v d => ∃ as, Reads s.heap v d as) vs ds) (hal : AllAlike ds) (hk : Sort2 ds) (hu : ∀ d, d ∈ ds → A.units + d.depth < cLine) : PySem.W.SortsAt prog w A s (dataKind s.heap ds) vs := by
  rcases hk with hk | hk
  · exact PySem.W.SortsAt.data e hal hk hu
  · by_cases hne : PyData.tuple [] ∈ ds
    · exact sortsAt_tups e hal hk hne hu
    · refine PySem.W.SortsAt.data e hal (.inl fun d hd => ?_) hu
      obtain ⟨xs, rfl⟩ := hk d hd
      cases xs with
      | nil => exact absurd hd hne
      | cons x r => exact ⟨x, r, rfl⟩
section
variable {prog : Program} {w : World} {A : Around} {E : Value → Shared → Prop} {s : Shared}
theorem sorted_col {x : Value} {us : List Value} {β : Type} {bs : List β} {enc : β → PyData} {R : Value → β → Prop} {Q : Value → Shared → Prop}
    (col : ∀ (R : List Value → Shared → Prop) (E' : Value → Shared → Prop), (∀ h' tk, (∀ b o, s.heap.get? b = some o → h'.get? b = some o) → R us { s with heap := h', toks := tk }) → wpAny (model prog w) A.in1 (collect x) R E' s)
    (e : EachIs R us bs) (er : EachIs (fun v b => ∃ as, Reads s.heap v (enc b) as) us bs) (hal : AllAlike (bs.map enc)) (hk : Sort2 (bs.map enc)) (hL : bs.length ≤ sizeLine) (hu : ∀ b, b ∈ bs → A.units + 2 + (enc b).depth < cLine)
    (h : ∀ (out : List Value) (h1 h2 : Heap) (tk c : Nat), (∀ b o, s.heap.get? b = some o → h1.get? b = some o) → (∀ b o, h1.get? b = some o → h2.get? b = some o) → h2.get? h1.objs.size = some (seqObj "list" (List.toArray out) c) → EachIs R out (bs.mergeSort (dataLe false enc)) → Q (.ref h1.objs.size) { s with heap := h2, toks := tk }) :
    wpAny (model prog w) A (call (.builtin "sorted") [x]) Q E s := by
  have hl : us.length = bs.length := e.length
  refine Calls.call_function_entry kind_sorted plain_sorted entry_sorted (args_sorted1 _) ?_
  unfold Builtin.«sorted»
  refine wpAny_bind (m := checkCount "sorted" 1 1 _) (wpAny_pure ?_)
  refine wpAny_bind (col _ _ fun h1 tk hk1 => ?_)
  refine wpAny_bind (wpAny_newList ?_ (by rw [hl]; exact hL))
  have hoL : (h1.push (seqObj "list" us.toArray 0)).get? h1.objs.size = some (seqObj "list" us.toArray 0) := Heap.get?_push_size _ rfl
  have k1 : ∀ b o, h1.get? b = some o → (h1.push (seqObj "list" us.toArray 0)).get? b = some o := fun b o q => Heap.get?_push_of_some _ q
  have ne : ∀ b o, h1.get? b = some o → b ≠ h1.objs.size := fun b o q => Nat.ne_of_lt (Heap.lt_size q)
  have k2 : ∀ b o, h1.get? b = some o → (sortingHeap (h1.push (seqObj "list" us.toArray 0)) h1.objs.size us).get? b = some o := fun b o q => PySem.W.sortingHeap_old (ne b o q) (k1 b o q)
  have er' : EachIs (fun v b => ∃ as, Reads (sortingHeap (h1.push (seqObj "list" us.toArray 0)) h1.objs.size us) v (enc b) as) us bs := er.mono fun _ _ ⟨as, r⟩ => ⟨as, PyProof.Rows.Reads.keeps (fun b o q => k2 b o (hk1 b o q)) r⟩
  show wpAny _ _ _ _ _ { s with heap := h1.push (seqObj "list" us.toArray 0), toks := tk }
  refine wpAny_bind (wpAny_holding (wpAny_call_entry slot_list_sort ⟨_, hoL, rfl⟩ entry_list_sort ?_ (args_list_sort _)))
  refine PySem.W.list_sort_vals (κ := dataKind (sortingHeap (h1.push (seqObj "list" us.toArray 0)) h1.objs.size us) (bs.map enc)) hoL (sortsAt2 (s := { s with heap := sortingHeap (h1.push (seqObj "list" us.toArray 0)) h1.objs.size us, toks := tk }) (PySem.W.each_map (R := fun v d => ∃ as, Reads (sortingHeap (h1.push (seqObj "list" us.toArray 0)) h1.objs.size us) v d as) enc er') hal hk (PySem.W.bound_map (A := A.in1.in1) hu)) (by rw [hl]; exact hL) ⟨.none, rfl, ?_⟩
  refine wpAny_pure ⟨_, rfl, ?_⟩
  obtain ⟨c, hc⟩ := PyProof.Rows.sortedHeap_at (vs := us) (out := (sortVals (dataKind (sortingHeap (h1.push (seqObj "list" us.toArray 0)) h1.objs.size us) (bs.map enc)) false us us).toArray) hoL
  refine h _ h1 _ tk c hk1 (fun b o q => ?_) hc (PySem.W.sortVals_data false e er' hal)
  rw [PyProof.Rows.sortedHeap_old (ne b o q) (Heap.lt_size (k1 b o q))]
  exact k1 b o q
theorem collect_tup {l : Addr} {us : List Value} (ht : IsTup s.heap l us.toArray) (hz : us.length ≤ sizeLine) (R : List Value → Shared → Prop) (E' : Value → Shared → Prop)
    (h : ∀ h' tk, (∀ b o, s.heap.get? b = some o → h'.get? b = some o) → R us { s with heap := h', toks := tk }) : wpAny (model prog w) A (collect (.ref l)) R E' s :=
  gather_tup ht hz (h _ s.toks fun b o q => by
    have hlt : b < s.heap.objs.size := Heap.lt_size q
    rw [Heap.get?_update_ne _ _ _ _ (Nat.ne_of_lt hlt), Heap.get?_push_ne _ _ _ (Nat.ne_of_lt hlt)]
    exact q)
theorem collect_lst {l : Addr} {us : List Value} (ht : s.heap.IsList l us.toArray) (hz : us.length ≤ sizeLine) (R : List Value → Shared → Prop) (E' : Value → Shared → Prop)
    (h : ∀ h' tk, (∀ b o, s.heap.get? b = some o → h'.get? b = some o) → R us { s with heap := h', toks := tk }) : wpAny (model prog w) A (collect (.ref l)) R E' s :=
  collect_list ht (h _ s.toks fun b o q => by
    have hlt : b < s.heap.objs.size := Heap.lt_size q
    rw [Heap.get?_update_ne _ _ _ _ (Nat.ne_of_lt hlt), Heap.get?_push_ne _ _ _ (Nat.ne_of_lt hlt)]
    exact q) hz
end
def rSortG (K : PySem.W.Frag) : List V → Hp → VK → Prop := fun vs H Q => ∃ (a : Addr) (xs : List V) (zs : List PyData), vs = [V.ref a] ∧ (SqL K H a xs ∨ SqT K H a xs) ∧ DpAll K H xs zs ∧ AllAlike zs ∧ Sort2 zs ∧ (∀ d ∈ zs, d.depth ≤ 50) ∧
  ∀ (ps : List (V × PyData)) (p : Addr), ps.Perm (xs.zip zs) → ps.map (·.2) = zs.mergeSort (dataLe false id) → H p = none → Q (.ref p) (upd H p (.lst (ps.map (·.1))))
theorem dpAll_len {K : PySem.W.Frag} {H : Hp} : ∀ {xs : List V} {zs : List PyData}, DpAll K H xs zs → xs.length = zs.length
  | _, _, .nil => rfl
  | _, _, .cons _ r => by rw [List.length_cons, List.length_cons, dpAll_len r]
section
variable {X : Cx} {pins : List (Addr × Obj)} {σ : L2.St} {H : Hp} {s : Shared}
theorem each_vals : ∀ {xs : List V} {zs : List PyData} {us : List Value}, Vals xs us → DpAll X.K H xs zs → EachIs (fun v (b : V × PyData) => RelV b.1 v) us (xs.zip zs)
  | _, _, _, .nil, .nil => .nil
  | _, _, _, .cons h r, .cons h2 r2 => .cons h (each_vals r r2)
theorem each_reads (I : Inv X pins σ H s) : ∀ {xs : List V} {zs : List PyData} {us : List Value}, Vals xs us → DpAll X.K H xs zs → EachIs (fun v (b : V × PyData) => ∃ as, Reads s.heap v b.2 as) us (xs.zip zs)
  | _, _, _, .nil, .nil => .nil
  | _, _, _, .cons h r, .cons h2 r2 => .cons (Dp.reads I _ _ _ h2 h) (each_reads I r r2)
theorem vals_each : ∀ {us : List Value} {ps : List (V × PyData)}, EachIs (fun v (b : V × PyData) => RelV b.1 v) us ps → Vals (ps.map (·.1)) us
  | _, _, .nil => .nil
  | _, _, .cons h r => .cons h (vals_each r)
theorem cr_sortG (g : Gd X) : CallR X (.builtin "sorted") (rSortG X.K) := by
  rintro pins s σ H vs us Q I r ⟨a, xs, zs, rfl, hs, hd, hal, hk, hdep, q⟩
  rw [Vals.ref1 r]
  have hlz := dpAll_len hd
  have key : ∀ its : List Value, Vals xs its → xs.length ≤ sizeLine → (∀ (R : List Value → Shared → Prop) (E' : Value → Shared → Prop), (∀ h' tk, (∀ b o, s.heap.get? b = some o → h'.get? b = some o) → R its { s with heap := h', toks := tk }) → wpAny (model X.prog X.w) X.A.in1 (collect (.ref a)) R E' s) →
      wpAny (model X.prog X.w) X.A (call (.builtin "sorted") [.ref a]) (EP X pins σ Q) X.xe s := by
    intro its rv hz col
    have e2 : (xs.zip zs).map (fun b : V × PyData => b.2) = zs := by
      rw [List.map_snd_zip]
      exact Nat.le_of_eq hlz.symm
    refine sorted_col (enc := fun b : V × PyData => b.2) col (each_vals rv hd) (each_reads I rv hd) (by rw [e2]; exact hal) (by rw [e2]; exact hk) (by rw [List.length_zip]; omega) (fun b hb => ?_) fun out h1 h2 tk c k1 k2 hc eo => ?_
    · have := hdep b.2 (by rw [← e2]; exact List.mem_map.mpr ⟨b, hb, rfl⟩)
      have := g.un
      omega
    · have I1 : Inv X pins σ H { s with heap := h1, toks := tk } := I.kept k1
      have hp := List.mergeSort_perm (xs.zip zs) (dataLe false fun b : V × PyData => b.2)
      have hlen : (((xs.zip zs).mergeSort (dataLe false fun b : V × PyData => b.2)).map (·.1)).length ≤ sizeLine := by
        rw [List.length_map, hp.length_eq, List.length_zip]
        omega
      refine ⟨.ref _, _, I1.laid (t' := tk) (o := .lst (((xs.zip zs).mergeSort (dataLe false fun b : V × PyData => b.2)).map (·.1))) k2 (Nat.le_refl _) ⟨hlen, out, c, vals_each eo, hc⟩, rfl, q _ _ hp ?_ (I1.hok.fresh (Nat.le_refl _))⟩
      rw [List.map_mergeSort (r := dataLe false fun b : V × PyData => b.2) (s := dataLe false id) (f := fun b : V × PyData => b.2) fun _ _ _ _ => rfl, e2]
  rcases hs with hs | hs
  · obtain ⟨its, rv, hl, hz⟩ := I.list hs
    exact key its rv hz fun R E' h => collect_lst hl.isList (by rw [← rv.length]; exact hz) R E' h
  · obtain ⟨its, rv, hl, hz⟩ := I.tuple hs
    exact key its rv hz fun R E' h => collect_tup hl (by rw [← rv.length]; exact hz) R E' h
end
def alikeB (zs : List PyData) : Bool := zs.all fun d => zs.all fun e => alike d e
def sortB (zs : List PyData) : Bool := (zs.all fun d => match d with
  | .tuple _ => true
  | _ => false) || zs.all fun d => match d with
  | .tuple _ => false
  | .none => false
  | _ => true
theorem alikeB_ok {zs : List PyData} (h : alikeB zs = true) : AllAlike zs := fun d hd e he => List.all_eq_true.mp (List.all_eq_true.mp h d hd) e he
theorem sortB_ok {zs : List PyData} (h : sortB zs = true) : Sort2 zs := by
  unfold sortB at h
  rcases (Bool.or_eq_true _ _).mp h with h | h
  · refine .inr fun d hd => ?_
    have := List.all_eq_true.mp h d hd
    split at this
    · exact ⟨_, rfl⟩
    · cases this
  · refine .inl (.inr fun d hd => ?_)
    have := List.all_eq_true.mp h d hd
    split at this
    · cases this
    · cases this
    · rename_i h1 h2
      exact ⟨h2, h1⟩
def sorB (zs : List PyData) : Bool := alikeB zs && sortB zs && (zs.all fun d => decide (d.depth ≤ 50)) && !PyData.hasDictAll zs
def gSortG : GA := fun ds st => match ds with
  | [x] => match viewS st x with
    | some zs => if sorB zs then .ok (zs.mergeSort (dataLe false id)) st else .stuck
    | none => .stuck
  | _ => .stuck
theorem rpA_of_perm {F : Addr → Prop} {H : Hp} : ∀ {xs : List V} {zs : List PyData}, RpA F H xs zs → ∀ b ∈ xs.zip zs, Rp F H b.1 b.2
  | _, _, .nil, b, hb => by cases hb
  | _, _, .cons h r, b, hb => by
    rw [List.zip_cons_cons] at hb
    rcases List.mem_cons.mp hb with rfl | hb
    · exact h
    · exact rpA_of_perm r b hb
theorem rpA_all {F : Addr → Prop} {H : Hp} : ∀ {ps : List (V × PyData)}, (∀ b ∈ ps, Rp F H b.1 b.2) → RpA F H (ps.map (·.1)) (ps.map (·.2))
  | [], _ => .nil
  | b :: r, h => .cons (h b List.mem_cons_self) (rpA_all fun c hc => h c (List.mem_cons_of_mem _ hc))
theorem opF_sortG {K : PySem.W.Frag} {W : XW} : OpFA K W (rSortG K) gSortG := by
  intro ι st H xs ds Q R r p
  unfold gSortG at p
  split at p
  · rename_i x
    obtain ⟨y, rfl, r1⟩ := r.one
    split at p
    · rename_i zs e
      split at p
      · rename_i hc
        unfold sorB at hc
        simp only [Bool.and_eq_true, Bool.not_eq_true'] at hc
        obtain ⟨⟨⟨h1, h2⟩, h3⟩, h4⟩ := hc
        obtain ⟨q, us, rfl, hq, hr⟩ := viewS_atF R e r1
        refine ⟨q, us, zs, rfl, ?_, hr.dp h4, alikeB_ok h1, sortB_ok h2, fun d hd => of_decide_eq_true (List.all_eq_true.mp h3 d hd), fun ps b hp hs hb hf => ?_⟩
        · rcases hq with hq | ⟨⟨o, hq, _⟩, _⟩
          · exact .inl (.of hq)
          · exact .inr (.inl (.inr ⟨o, hq⟩))
        · have := rpA_all (fun c hc => rpA_of_perm hr c (hp.mem_iff.mp hc))
          rw [hs] at this
          exact p.new R this b hb hf
      · exact p.elim
    · exact p.elim
  · exact p.elim
theorem xf_sortG {X : Cx} {W : XW} {e : Expr} {es : List Expr} {m : MA} {p pos : Pos} {x : Str} (gd : Gd X) (hg : Gl X x) (hm : X.mg x = none) (hv : bootBuiltins x = some (.builtin "sorted")) (ha : PA X (e :: es) (TAo X.K W m)) (hn : x ≠ "__name__" := by decide) (hdb : (x == ("__debug__" : Str)) = false := by decide)
    (he : starEach (e :: es) X.env = (false, eval e X.env) :: starEach es X.env := by rfl) (hpl : (backTo pos (starEach es X.env)).any (·.1) = false := by rfl) :
    PE X (.Call (.Name x p) (e :: es) [] pos) (TFo X.K W (mfArg gSortG m)) := pf_wrap (pe_callB (cr_sortG gd) hg hm hv ha hn hdb he hpl) fun σ H Q q => tf_arg opF_sortG q
end Fw
namespace Fw
open PySem PySem.Spec PyProof.Rows L2
def OffSys (h0 : Heap) (as : List Addr) : Prop := (∃ o, h0.get? sysModules = some o ∧ o.cls = .type "dict") → sysModules ∉ as
section
variable {prog : Program} {w : World} {h0 : Heap}
theorem OffSys.sub {as bs : List Addr} (h : OffSys h0 as) (s : ∀ b ∈ bs, b ∈ as) : OffSys h0 bs := fun q m => h q (s _ m)
mutual
theorem shK : ∀ {v : Value} {d : PyData} {as : List Addr}, Reads h0 v d as → d.showable = true → OffSys h0 as → d.shown.length ≤ sizeLine → ∃ bs, ReadAtMost h0 d.depth bs ∧ ReprK prog w bs h0 d.depth v d.shown
  | _, _, _, .none, _, _, _ => ⟨[], (nofun), by rw [PyData.shown]; exact .of_is ReprIs.none _ _ _⟩
  | _, _, _, .bool b, _, _, _ => ⟨[], (nofun), by rw [PyData.shown]; exact .of_is (ReprIs.bool b) _ _ _⟩
  | _, _, _, .int i t, q, _, _ => ⟨[], (nofun), by rw [PyData.shown]; exact .of_is (ReprIs.int t (by simpa [PyData.showable] using q)) _ _ _⟩
  | _, _, _, .str x t, _, _, z => ⟨[], (nofun), by rw [PyData.shown] at z ⊢; exact .of_is (ReprIs.str x t z) _ _ _⟩
  | _, _, _, .list (a := a) (vs := vs) (xs := xs) e1 e2 e3 e4, q, n, z => by
    rw [PyData.shown] at z
    obtain ⟨bs, b1, b2⟩ := shKA e4 (by rw [PyData.showable] at q; exact q) (n.sub fun b m => List.mem_cons_of_mem _ m) fun t m => Nat.le_trans (listText_mem_le m) z
    have r : Reads h0 (.ref a) (.list xs) _ := .list e1 e2 e3 e4
    have off : a ∉ bs := not_mem_of_deeper r (by rw [PyData.depth]; omega) b1
    refine ⟨a :: bs, ReadAtMost.cons r (by rw [PyData.depth]; omega) b1, ?_⟩
    rw [PyData.depth, PyData.shown]
    obtain ⟨l⟩ := vs
    cases l with
    | nil =>
      have e5 : ReadsAll h0 [] xs _ := e4
      cases e5
      rw [PyData.shownAll, listText_nil]
      exact ReprK.listEmpty e1 e2 e3
    | cons x l => exact ReprK.list e1 e2 e3 off (by simpa using b2.length_eq) fun i y e => b2.item i y (by simpa using e)
  | _, _, _, .tuple (a := a) (xs := xs) e1 e2 e3 e4, q, n, z => by
    rw [PyData.shown] at z
    obtain ⟨bs, b1, b2⟩ := shKA e4 (by rw [PyData.showable] at q; exact q) n fun t m => Nat.le_trans (tupleText_mem_le m) z
    have r : Reads h0 (.ref a) (.tuple xs) _ := .tuple e1 e2 e3 e4
    have off : a ∉ bs := not_mem_of_deeper r (by rw [PyData.depth]; omega) b1
    refine ⟨a :: bs, ReadAtMost.cons r (by rw [PyData.depth]; omega) b1, ?_⟩
    rw [PyData.depth, PyData.shown]
    exact ReprK.tuple e1 e2 e3 off b2
  | _, _, _, .dict (a := a) (es := es) (kvs := kvs) (as := us) (bs := ws) e1 e2 e3 e4 e5, q, n, z => by
    rw [PyData.shown] at z
    have ne : a ≠ sysModules := fun e => n ⟨_, e ▸ e1, e2⟩ (e ▸ List.mem_cons_self)
    obtain ⟨q1, q2⟩ := PyData.showableKv_split kvs (by rw [PyData.showable] at q; exact q)
    obtain ⟨b1, c1, k1⟩ := shKA e4 q1 (n.sub fun b m => List.mem_cons_of_mem _ (List.mem_append_left _ m)) fun t m =>
      let ⟨p, hp, hl⟩ := PyData.shownKv_key_le kvs t m
      Nat.le_trans hl (Nat.le_trans (dictText_mem_le hp) z)
    obtain ⟨b2, c2, k2⟩ := shKA e5 q2 (n.sub fun b m => List.mem_cons_of_mem _ (List.mem_append_right _ m)) fun t m =>
      let ⟨p, hp, hl⟩ := PyData.shownKv_val_le kvs t m
      Nat.le_trans hl (Nat.le_trans (dictText_mem_le hp) z)
    have r : Reads h0 (.ref a) (.dict kvs) _ := .dict e1 e2 e3 e4 e5
    have c3 : ReadAtMost h0 (PyData.depthKv kvs) (b1 ++ b2) := (c1.mono (PyData.depthAll_keys_le kvs)).append (c2.mono (PyData.depthAll_vals_le kvs))
    have off : a ∉ b1 ++ b2 := not_mem_of_deeper r (by rw [PyData.depth]; omega) c3
    refine ⟨a :: (b1 ++ b2), ReadAtMost.cons r (by rw [PyData.depth]; omega) c3, ?_⟩
    rw [PyData.depth, PyData.shown, PyData.shownKv_eq]
    exact ReprK.dict e1 e2 e3 (beq_eq_false_iff_ne.mpr ne) off (ReprEntriesK.of_two es.toList _ _ (k1.more_le (fun _ m => List.mem_append_left _ m) (PyData.depthAll_keys_le kvs)) (k2.more_le (fun _ m => List.mem_append_right _ m) (PyData.depthAll_vals_le kvs)))
theorem shKA : ∀ {vs : List Value} {ds : List PyData} {as : List Addr}, ReadsAll h0 vs ds as → PyData.showableAll ds = true → OffSys h0 as → (∀ t ∈ PyData.shownAll ds, t.length ≤ sizeLine) → ∃ bs, ReadAtMost h0 (PyData.depthAll ds) bs ∧ ReprAllK prog w bs h0 (PyData.depthAll ds) vs (PyData.shownAll ds)
  | _, _, _, .nil, _, _, _ => ⟨[], (nofun), by rw [PyData.shownAll]; exact .nil⟩
  | _, _, _, .cons (d := d) (ds := ds) r rs, q, n, z => by
    rw [PyData.showableAll, Bool.and_eq_true] at q
    rw [PyData.shownAll] at z
    obtain ⟨b1, c1, k1⟩ := shK r q.1 (n.sub fun _ m => List.mem_append_left _ m) (z _ List.mem_cons_self)
    obtain ⟨b2, c2, k2⟩ := shKA rs q.2 (n.sub fun _ m => List.mem_append_right _ m) fun t m => z t (List.mem_cons_of_mem _ m)
    refine ⟨b1 ++ b2, ?_, ?_⟩
    · rw [PyData.depthAll]
      exact (c1.mono (Nat.le_max_left _ _)).append (c2.mono (Nat.le_max_right _ _))
    · rw [PyData.depthAll, PyData.shownAll]
      exact .cons ((k1.more fun _ m => List.mem_append_left _ m).level_le (Nat.le_max_left _ _)) (k2.more_le (fun _ m => List.mem_append_right _ m) (Nat.le_max_right _ _))
end
variable {A : Around} {E : Value → Shared → Prop} {s : Shared} {Q : Value → Shared → Prop} {a : Addr} {d : PyData} {as : List Addr}
theorem repr_off (r : Reads h0 (.ref a) d as) (q : d.showable = true) (n : OffSys h0 as) (hg : A.guards = some []) (hu : A.units + (d.depth + 1) < cLine) (k0 : ∀ b o, h0.get? b = some o → s.heap.get? b = some o)
    (hQ : ∀ h' u tk, (∀ b o, s.heap.get? b = some o → h'.get? b = some o) → Q (.str d.shown u) { s with heap := h', toks := tk }) (z : d.shown.length ≤ sizeLine) : wpAny (model prog w) A (call (.builtin "repr") [.ref a]) Q E s := by
  cases r with
  | list e1 e2 e3 e4 =>
    rename_i o vs k xs cs
    rw [PyData.shown] at z hQ
    rw [PyData.depth] at hu
    obtain ⟨bs, b1, b2⟩ := shKA (prog := prog) (w := w) e4 (by rw [PyData.showable] at q; exact q) (n.sub fun b m => List.mem_cons_of_mem _ m) fun t m => Nat.le_trans (listText_mem_le m) z
    have off : a ∉ bs := not_mem_of_deeper (.list e1 e2 e3 e4) (by rw [PyData.depth]; omega) b1
    refine call_repr_slot (by omega) ⟨o, k0 _ _ e1, e2⟩ F.slot_list_repr.toG ?_
    obtain ⟨l⟩ := vs
    cases l with
    | nil =>
      have e5 : ReadsAll h0 [] xs _ := e4
      cases e5
      rw [PyData.shownAll, listText_nil] at hQ
      exact call_list_repr_empty ⟨o, k0 _ _ e1, e2⟩ (k0 _ _ e1) e3 ⟨_, _, rfl, hQ s.heap _ _ fun _ _ e => e⟩
    | cons x l => exact call_list_reprK e1 e2 e3 off (by simpa using b2.length_eq) (fun i y e => b2.item i y (by simpa using e)) hg (fun b _ => Clear.nil b) (by show A.units + 1 + _ < cLine; omega) k0 (fun h' u tk hk => ⟨_, _, rfl, hQ h' u tk hk⟩) z
  | tuple e1 e2 e3 e4 =>
    rename_i o vs k xs
    rw [PyData.shown] at z hQ
    rw [PyData.depth] at hu
    obtain ⟨bs, b1, b2⟩ := shKA (prog := prog) (w := w) e4 (by rw [PyData.showable] at q; exact q) n fun t m => Nat.le_trans (tupleText_mem_le m) z
    have off : a ∉ bs := not_mem_of_deeper (.tuple e1 e2 e3 e4) (by rw [PyData.depth]; omega) b1
    refine call_repr_slot (by omega) ⟨o, k0 _ _ e1, e2⟩ F.slot_tuple_repr ?_
    exact call_tuple_reprK e1 e2 e3 off b2 hg (fun b _ => Clear.nil b) (by show A.units + 1 + _ < cLine; omega) k0 (fun h' u tk hk => ⟨_, _, rfl, hQ h' u tk hk⟩) z
  | dict e1 e2 e3 e4 e5 =>
    rename_i o es k kvs us ws
    rw [PyData.shown] at z hQ
    rw [PyData.depth] at hu
    have ne : a ≠ sysModules := fun e => n ⟨_, e ▸ e1, e2⟩ (e ▸ List.mem_cons_self)
    obtain ⟨q1, q2⟩ := PyData.showableKv_split kvs (by rw [PyData.showable] at q; exact q)
    obtain ⟨b1, c1, k1⟩ := shKA (prog := prog) (w := w) e4 q1 (n.sub fun b m => List.mem_cons_of_mem _ (List.mem_append_left _ m)) fun t m =>
      let ⟨p, hp, hl⟩ := PyData.shownKv_key_le kvs t m
      Nat.le_trans hl (Nat.le_trans (dictText_mem_le hp) z)
    obtain ⟨b2, c2, k2⟩ := shKA (prog := prog) (w := w) e5 q2 (n.sub fun b m => List.mem_cons_of_mem _ (List.mem_append_right _ m)) fun t m =>
      let ⟨p, hp, hl⟩ := PyData.shownKv_val_le kvs t m
      Nat.le_trans hl (Nat.le_trans (dictText_mem_le hp) z)
    have c3 : ReadAtMost h0 (PyData.depthKv kvs) (b1 ++ b2) := (c1.mono (PyData.depthAll_keys_le kvs)).append (c2.mono (PyData.depthAll_vals_le kvs))
    have off : a ∉ b1 ++ b2 := not_mem_of_deeper (.dict e1 e2 e3 e4 e5) (by rw [PyData.depth]; omega) c3
    refine call_repr_slot (by omega) ⟨o, k0 _ _ e1, e2⟩ F.slot_dict_repr ?_
    rw [PyData.shownKv_eq] at z hQ
    exact call_dict_reprK e1 e2 e3 (beq_eq_false_iff_ne.mpr ne) off (ReprEntriesK.of_two es.toList _ _ (k1.more_le (fun _ m => List.mem_append_left _ m) (PyData.depthAll_keys_le kvs)) (k2.more_le (fun _ m => List.mem_append_right _ m) (PyData.depthAll_vals_le kvs))) hg (fun b _ => Clear.nil b) (by show A.units + 1 + _ < cLine; omega) k0 (fun h' u tk hk => ⟨_, _, rfl, hQ h' u tk hk⟩) z
end
mutual
/-- dicts with keys of whole numbers and texts alone -/
def kOk : PyData → Bool
  | .none | .bool _ | .int _ | .str _ => true
  | .list xs => kOkA xs
  | .tuple xs => kOkA xs
  | .dict kvs => kOkK kvs
def kOkA : List PyData → Bool
  | [] => true
  | x :: r => kOk x && kOkA r
def kOkK : List (PyData × PyData) → Bool
  | [] => true
  | (k, v) :: r => (key1 k).isSome && kOk v && kOkK r
end
section
variable {X : Cx} {pins : List (Addr × Obj)} {σ : L2.St} {H : Hp} {s : Shared} {F : Addr → Prop}
theorem offs_nil {h : Heap} : OffSys h [] := fun _ m => nomatch m
theorem offs_app {h : Heap} {as bs : List Addr} (a : OffSys h as) (b : OffSys h bs) : OffSys h (as ++ bs) := fun q m => (List.mem_append.mp m).elim (a q) (b q)
mutual
theorem rp_reads2 (I : Inv X pins σ H s) : ∀ (d : PyData) (v : L2.V) (u : Value), Rp F H v d → kOk d = true → RelV v u → ∃ as, Reads s.heap u d as ∧ OffSys s.heap as
  | .none, _, _, h, _, r => by
    cases h
    cases r
    exact ⟨_, .none, offs_nil⟩
  | .bool b, _, _, h, _, r => by
    cases h
    cases r
    exact ⟨_, .bool b, offs_nil⟩
  | .int i, _, _, h, _, r => by
    cases h
    obtain ⟨t, rfl⟩ := r
    exact ⟨_, .int i t, offs_nil⟩
  | .str x, _, _, h, _, r => by
    cases h
    obtain ⟨t, rfl⟩ := r
    exact ⟨_, .str x t, offs_nil⟩
  | .list ds, _, _, h, n, r => by
    cases h with
    | lst e f t =>
      cases r
      rw [kOk] at n
      obtain ⟨its, rv, hl, _⟩ := I.list (.of e)
      obtain ⟨o, ho, hc, k, hd⟩ := hl.isList
      obtain ⟨as, hr, hn⟩ := rp_reads2A I ds _ its t n rv
      refine ⟨_, .list ho hc hd hr, fun q m => ?_⟩
      rcases List.mem_cons.mp m with e1 | m
      · obtain ⟨o', q1, q2⟩ := q
        rw [e1, ho] at q1
        cases q1
        rw [hc] at q2
        injection q2 with q2
        exact absurd q2 (by decide)
      · exact hn q m
  | .tuple ds, _, _, h, n, r => by
    cases h with
    | tup e z f t =>
      cases r
      rw [kOk] at n
      obtain ⟨its, rv, ⟨o, ho, hc, k, hd⟩, _⟩ := I.tuple (KTup.sq ⟨_, e, z⟩)
      obtain ⟨as, hr, hn⟩ := rp_reads2A I ds _ its t n rv
      exact ⟨as, .tuple ho hc hd hr, hn⟩
  | .dict kvs, _, _, h, n, r => by
    rw [kOk] at n
    cases h with
    | dcK e f t =>
      cases r
      obtain ⟨_, hne, vs, kv, o, es, ep, ho, ⟨hc, _, _⟩, hd, _, hp, _⟩ := dk_rd I.hok e
      obtain ⟨as, bs, h1, h2, n1, n2⟩ := rp_reads2K I kvs _ vs es.toList t n kv hp
      refine ⟨_, .dict ho hc hd h1 h2, fun q m => ?_⟩
      rcases List.mem_append.mp m with m | m
      · rcases List.mem_cons.mp m with e1 | m
        · rw [← e1] at hne
          simp at hne
        · exact n1 q m
      · exact n2 q m
    | dcT e f t z =>
      cases t with
      | nil => exact absurd rfl z
      | cons _ _ => rw [kOkK] at n; simp [key1] at n
theorem rp_reads2A (I : Inv X pins σ H s) : ∀ (ds : List PyData) (vs : List L2.V) (us : List Value), RpA F H vs ds → kOkA ds = true → Vals vs us → ∃ as, ReadsAll s.heap us ds as ∧ OffSys s.heap as
  | [], _, _, h, _, r => by
    cases h
    cases r
    exact ⟨_, .nil, offs_nil⟩
  | d :: ds, _, _, h, n, r => by
    rw [kOkA, Bool.and_eq_true] at n
    cases h with
    | cons h1 h2 =>
      cases r with
      | cons r1 r2 =>
        obtain ⟨as, q1, n1⟩ := rp_reads2 I d _ _ h1 n.1 r1
        obtain ⟨bs, q2, n2⟩ := rp_reads2A I ds _ _ h2 n.2 r2
        exact ⟨_, .cons q1 q2, offs_app n1 n2⟩
theorem rp_reads2K (I : Inv X pins σ H s) : ∀ (kvs : List (PyData × PyData)) (xs : List (Key × L2.V)) (vs : List (Key × Value)) (es : List DictEntry), RpK F H xs kvs → kOkK kvs = true → KV xs vs → Pairs (mixKind X.prog X.w) es vs →
    ∃ as bs, ReadsAll s.heap (es.map (·.key)) (kvs.map (·.1)) as ∧ ReadsAll s.heap (es.map (·.val)) (kvs.map (·.2)) bs ∧ OffSys s.heap as ∧ OffSys s.heap bs
  | [], xs, vs, es, h, _, k, q => by
    cases h
    cases k
    cases q
    exact ⟨_, _, .nil, .nil, offs_nil, offs_nil⟩
  | (kk, d) :: kvs, xs, vs, es, h, n, k, q => by
    rw [kOkK, Bool.and_eq_true, Bool.and_eq_true] at n
    cases h with
    | cons h1 h2 =>
      cases k with
      | cons k1 k2 =>
        cases q with
        | cons q1 q2 q3 =>
          obtain ⟨e1, e2⟩ := k1
          obtain ⟨as, r1, n1⟩ := rp_reads2 I d _ _ h1 n.1.2 e2
          obtain ⟨bs, cs, r2, r3, n2, n3⟩ := rp_reads2K I kvs _ _ _ h2 n.2 k2 q3
          refine ⟨[] ++ bs, as ++ cs, .cons ?_ r2, .cons ?_ r3, n2, offs_app n1 n3⟩
          · have e1 : _ = _ := e1
            rw [show kD _ = kD _ from congrArg kD e1]
            exact key_reads q1
          · show Reads s.heap (DictEntry.val _) d as
            rw [q2]
            exact r1
end
end
def rReprM (F : Addr → Prop) : List L2.V → Hp → VK → Prop := fun xs H Q => ∃ x z, xs = [x] ∧ Rp F H x z ∧ kOk z = true ∧ z.showable = true ∧ z.depth ≤ 60 ∧ z.shown.length ≤ sizeLine ∧ Q (.str z.shown) H
theorem call_reprM {X : Cx} (g : Gd X) : CallR X (.builtin "repr") (fun xs H Q => ∃ F, rReprM F xs H Q) := by
  rintro pins s σ H xs us Q I r ⟨F, x, z, rfl, hd, hl, h1, h3, h4, q⟩
  obtain ⟨u, rfl, ru⟩ := vals1 r
  obtain ⟨as, rd, hn⟩ := rp_reads2 I z x u hd hl ru
  cases rd with
  | none => exact PySem.P.repr_of_none ⟨.str _, H, I.tok _, ⟨_, rfl⟩, by simpa only [PyData.shown] using q⟩
  | bool b => exact PySem.P.repr_of_bool ⟨.str _, H, I.tok _, ⟨_, rfl⟩, by simpa only [PyData.shown] using q⟩
  | int i t => exact PySem.P.repr_of_int (by simpa [PyData.showable] using h1) ⟨.str _, H, I.tok _, ⟨_, rfl⟩, by simpa only [PyData.shown] using q⟩
  | str y t => exact PySem.P.repr_of_str ⟨.str _, H, I.tok _, ⟨_, rfl⟩, by simpa only [PyData.shown] using q⟩ (by simpa only [PyData.shown] using h4)
  | list e1 e2 e3 e4 => exact repr_off (.list e1 e2 e3 e4) h1 hn g.gu (by have := g.un; omega) (fun _ _ e => e) (fun h' u tk hk => ⟨.str _, H, I.kept hk, ⟨_, rfl⟩, q⟩) h4
  | tuple e1 e2 e3 e4 => exact repr_off (.tuple e1 e2 e3 e4) h1 hn g.gu (by have := g.un; omega) (fun _ _ e => e) (fun h' u tk hk => ⟨.str _, H, I.kept hk, ⟨_, rfl⟩, q⟩) h4
  | dict e1 e2 e3 e4 e5 => exact repr_off (.dict e1 e2 e3 e4 e5) h1 hn g.gu (by have := g.un; omega) (fun _ _ e => e) (fun h' u tk hk => ⟨.str _, H, I.kept hk, ⟨_, rfl⟩, q⟩) h4
def fReprM : FA := fun ds st => match ds with
  | [.v z] => if kOk z && z.showable && decide (z.depth ≤ 60) && decide (z.shown.length ≤ lim) then .ok (.v (.str z.shown)) st else fReprK ds st
  | ds => fReprK ds st
theorem opA_reprM {K : PySem.W.Frag} {W : XW} : OpA K W (fun xs H Q => (rRepr K xs H Q ∨ ∃ F, rReprK F xs H Q) ∨ ∃ F, rReprM F xs H Q) fReprM := by
  intro ι st H xs ds Q R r p
  unfold fReprM at p
  split at p
  · rename_i z
    split at p
    · rename_i h
      simp only [Bool.and_eq_true, decide_eq_true_eq] at h
      obtain ⟨x, rfl, r1⟩ := r.one
      exact .inr ⟨Frz ι st, x, z, rfl, r1, h.1.1.1, h.1.1.2, h.1.2, lim_ok h.2, fun _ => p.same R (.str _)⟩
    · exact .inl (opA_reprK (W := W) ι st H xs _ Q R r p)
  · exact .inl (opA_reprK (W := W) ι st H xs _ Q R r p)
end Fw
namespace Fw
open PySem PySem.Spec PyProof.Rows L2
section
variable {X : Cx} {pins : List (Addr × Obj)} {σ : L2.St} {H : Hp} {s : Shared} {x y : V} {v u : Value} {k : Bool} {Q : VK}
end
section
variable {X : Cx} {W : XW} {a b : Expr} {ma mb : ME}
end
section
variable {xs ys : List PyData} {st : Sto}
end
end Fw
namespace Fw
open PySem PySem.Spec PyProof.Rows L2
end Fw
namespace Fw.LG
open PySem PySem.Spec PyProof.Rows L2 Fw
noncomputable abbrev f_law_pick : FF := Fw.LA.f_law_pick
noncomputable abbrev f_law_of : FF := Fw.LA.f_law_of
end Fw.LG
namespace Fw
open PySem PySem.Spec PyProof.Rows L2
mutual
theorem keyN_hash (w w' : World) : ∀ (d : PyData) (k : NestedKey), keyN d = some k → k.hash w = k.hash w'
  | .none, k, e => by rw [keyN] at e; cases e; rfl
  | .int i, k, e => by rw [keyN] at e; cases e; rfl
  | .tuple ds, k, e => by
    rw [keyN] at e
    obtain ⟨ks, e1, rfl⟩ := Option.map_eq_some_iff.mp e
    rw [NestedKey.hash, NestedKey.hash, keyNA_hash w w' ds ks e1]
  | .bool _, k, e => by rw [keyN] at e <;> first | cases e | (intros; intro z; cases z)
  | .str _, k, e => by rw [keyN] at e <;> first | cases e | (intros; intro z; cases z)
  | .list _, k, e => by rw [keyN] at e <;> first | cases e | (intros; intro z; cases z)
  | .dict _, k, e => by rw [keyN] at e <;> first | cases e | (intros; intro z; cases z)
theorem keyNA_hash (w w' : World) : ∀ (ds : List PyData) (ks : List NestedKey), keyNA ds = some ks → NestedKey.hashes w ks = NestedKey.hashes w' ks
  | [], ks, e => by rw [keyNA] at e; cases e; rfl
  | d :: ds, ks, e => by
    rw [keyNA] at e
    split at e
    · rename_i k l h1 h2
      cases e
      rw [NestedKey.hashes, NestedKey.hashes, keyN_hash w w' d k h1, keyNA_hash w w' ds l h2]
    · cases e
end
theorem keyP_at {d : PyData} {k : NestedKey} (e : keyP d = some k) : keyN d = some k ∧ k.depth ≤ 8 := by
  unfold keyP at e
  split at e
  · split at e
    · rename_i k' h
      split at e
      · rename_i hd
        cases e
        exact ⟨h, hd⟩
      · cases e
    · cases e
  · cases e
section
variable {X : Cx} {pins : List (Addr × Obj)} {σ : L2.St} {H : Hp} {s : Shared} {F : Addr → Prop}
mutual
theorem rp_nest (I : Inv X pins σ H s) : ∀ (d : PyData) (v : L2.V) (u : Value) (k : NestedKey), Rp F H v d → keyN d = some k → RelV v u → NestedIs s.heap k u
  | .none, _, u, k, .non, e, r => by rw [keyN] at e; cases e; cases r; exact .none
  | .int i, _, u, k, .int _, e, r => by
    rw [keyN] at e
    cases e
    obtain ⟨t, rfl⟩ := r
    exact .int i t
  | .tuple ds, _, u, k, .tup (a := a) (xs := xs) (o := o) h1 _ _ h4, e, r => by
    rw [keyN] at e
    obtain ⟨ks, e1, rfl⟩ := Option.map_eq_some_iff.mp e
    cases (show u = Value.ref a from r)
    obtain ⟨h5, h6, its, rv, ob, h7, h8, n, h9⟩ := I.hok a _ h1
    exact .tup h7 h8 h9 (by simpa using rp_nestA I ds xs its ks h4 e1 rv)
  | .bool _, _, _, k, _, e, _ => by rw [keyN] at e <;> first | cases e | (intros; intro z; cases z)
  | .str _, _, _, k, _, e, _ => by rw [keyN] at e <;> first | cases e | (intros; intro z; cases z)
  | .list _, _, _, k, _, e, _ => by rw [keyN] at e <;> first | cases e | (intros; intro z; cases z)
  | .dict _, _, _, k, _, e, _ => by rw [keyN] at e <;> first | cases e | (intros; intro z; cases z)
theorem rp_nestA (I : Inv X pins σ H s) : ∀ (ds : List PyData) (vs : List L2.V) (us : List Value) (ks : List NestedKey), RpA F H vs ds → keyNA ds = some ks → Vals vs us → NestedAll s.heap ks us
  | [], _, _, ks, .nil, e, .nil => by rw [keyNA] at e; cases e; exact .nil
  | d :: ds, _, _, ks, .cons h t, e, .cons r rr => by
    rw [keyNA] at e
    split at e
    · rename_i k l h1 h2
      cases e
      exact .cons (rp_nest I d _ _ k h h1 r) (rp_nestA I ds _ _ l t h2 rr)
    · cases e
end
end
def KyH (H : Hp) (v : L2.V) (k : NestedKey) : Prop := ∃ F d, Rp F H v d ∧ keyP d = some k
structure TabH (H : Hp) (a : Addr) (xs : List (NestedKey × Addr × L2.V)) : Prop where
  at' : H a = some (TabO a xs)
  sys : (a == sysModules) = false
  nd : (xs.map (·.1)).Nodup
  len : xs.length ≤ sizeLine
  key : ∀ x ∈ xs, KyH H (.ref x.2.1) x.1
abbrev TR : List (NestedKey × Addr × L2.V) → List (NestedKey × Addr × Value) → Prop := Paired (fun p q => p.1 = q.1 ∧ p.2.1 = q.2.1 ∧ RelV p.2.2 q.2.2)
def hasT (xs : List (NestedKey × Addr × L2.V)) (k : NestedKey) : Bool := xs.any fun x => decide (x.1 = k)
def getT (xs : List (NestedKey × Addr × L2.V)) (k : NestedKey) : Option L2.V := (xs.find? fun x => decide (x.1 = k)).map (·.2.2)
def putT (xs : List (NestedKey × Addr × L2.V)) (k : NestedKey) (p : Addr) (v : L2.V) : List (NestedKey × Addr × L2.V) :=
  if hasT xs k = true then xs.map fun x => if x.1 = k then (x.1, x.2.1, v) else x else xs ++ [(k, p, v)]
theorem TR.keys : ∀ {xs ys}, TR xs ys → ys.map (·.1) = xs.map (·.1)
  | _, _, .nil => rfl
  | _, _, .cons h r => by rw [List.map_cons, List.map_cons, TR.keys r, h.1]
theorem TR.len : ∀ {xs ys}, TR xs ys → ys.length = xs.length
  | _, _, .nil => rfl
  | _, _, .cons h r => by rw [List.length_cons, List.length_cons, TR.len r]
theorem TR.mem : ∀ {xs ys}, TR xs ys → ∀ y ∈ ys, ∃ x ∈ xs, x.1 = y.1 ∧ x.2.1 = y.2.1
  | _, _, .nil, y, hy => by cases hy
  | _, _, .cons h r, y, hy => by
    rcases List.mem_cons.mp hy with rfl | hy
    · exact ⟨_, List.mem_cons_self, h.1, h.2.1⟩
    · obtain ⟨x, hx, e⟩ := TR.mem r y hy
      exact ⟨x, List.mem_cons_of_mem _ hx, e⟩
theorem TR.at : ∀ {xs ys} {k : NestedKey}, TR xs ys → RelO ((xs.find? fun x => decide (x.1 = k)).map (·.2.2)) ((atKey ys k).map (·.2))
  | _, _, _, .nil => trivial
  | x :: xs, y :: ys, k, .cons h r => by
    have ih := TR.at (k := k) r
    unfold atKey at ih ⊢
    rw [List.find?_cons, List.find?_cons, h.1]
    by_cases e : y.1 = k
    · rw [decide_eq_true e]
      exact h.2.2
    · rw [decide_eq_false e]
      exact ih
theorem TR.has {xs ys} {k : NestedKey} (r : TR xs ys) : (atKey ys k).isSome = hasT xs k := by
  have h := r.at (k := k)
  have e : hasT xs k = ((xs.find? fun x => decide (x.1 = k)).map (·.2.2)).isSome := by
    unfold hasT
    rw [Option.isSome_map, Bool.eq_iff_iff, List.any_eq_true, List.find?_isSome]
  rw [e]
  cases h1 : (xs.find? fun x => decide (x.1 = k)).map (·.2.2) with
  | none =>
    rw [h1] at h
    cases h2 : atKey ys k with
    | none => rfl
    | some p => rw [h2] at h; exact h.elim
  | some v =>
    rw [h1] at h
    cases h2 : atKey ys k with
    | none => rw [h2] at h; exact h.elim
    | some p => rfl
theorem TR.append : ∀ {xs ys xs' ys'}, TR xs ys → TR xs' ys' → TR (xs ++ xs') (ys ++ ys')
  | _, _, _, _, .nil, s => s
  | _, _, _, _, .cons h r, s => .cons h (TR.append r s)
theorem TR.putAt {k : NestedKey} {v : L2.V} {u : Value} (rv : RelV v u) : ∀ {xs ys}, TR xs ys → TR (xs.map fun x => if x.1 = k then (x.1, x.2.1, v) else x) (ys.map (PySem.putAt k u))
  | _, _, .nil => .nil
  | x :: xs, y :: ys, .cons h r => by
    refine .cons ?_ (TR.putAt rv r)
    unfold PySem.putAt
    rw [← h.1]
    dsimp only
    by_cases e : x.1 = k
    · rw [if_pos e, if_pos e]
      exact ⟨rfl, h.2.1, rv⟩
    · rw [if_neg e, if_neg e]
      exact h
theorem TR.put {k : NestedKey} {p : Addr} {v : L2.V} {u : Value} {xs ys} (r : TR xs ys) (rv : RelV v u) : TR (putT xs k p v) (storedH ys k p u) := by
  unfold putT storedH
  rw [r.has]
  split
  · exact r.putAt rv
  · exact r.append (.cons ⟨rfl, rfl, rv⟩ .nil)
section
variable {X : Cx} {pins : List (Addr × Obj)} {σ : L2.St} {H : Hp} {s : Shared} {a p : Addr} {k : NestedKey} {xs : List (NestedKey × Addr × L2.V)}
theorem KyH.is (I : Inv X pins σ H s) (h : KyH H (.ref p) k) : (nestedKind X.prog X.w).is s.heap k p := by
  obtain ⟨F, d, r, e⟩ := h
  obtain ⟨e1, e2⟩ := keyP_at e
  exact ⟨rp_nest I d _ _ k r e1 rfl, e2⟩
theorem TabH.dict (I : Inv X pins σ H s) (T : TabH H a xs) : ∃ ys, TR xs ys ∧ s.heap.DictOfH (nestedKind X.prog X.w) a ys := by
  obtain ⟨⟨w, ys, hp, o, es, ep, h1, h2, h3, h4⟩, _, _⟩ := I.hok a _ T.at'
  have hk : ∀ y ∈ ys, (nestedKind X.prog X.w).is s.heap y.1 y.2.1 := fun y hy => by
    obtain ⟨x, hx, e1, e2⟩ := TR.mem hp y hy
    rw [← e1, ← e2]
    exact (T.key x hx).is I
  refine ⟨ys, hp, o, es, ep, h1, h2, h3, ?_, hk, by rw [TR.keys hp]; exact T.nd⟩
  rw [h4]
  refine List.map_congr_left fun y hy => ?_
  obtain ⟨x, hx, e1, e2⟩ := TR.mem hp y hy
  obtain ⟨F, d, _, e⟩ := T.key x hx
  show (⟨y.1.hash w, _, _⟩ : DictEntry) = ⟨y.1.hash X.w, _, _⟩
  rw [← e1, keyN_hash w X.w d x.1 (keyP_at e).1]
end
def hasK (kvs : List (PyData × D)) (k : NestedKey) : Bool := kvs.any fun p => decide (keyP p.1 = some k)
def getKT (kvs : List (PyData × D)) (k : NestedKey) : Option D := (kvs.find? fun p => decide (keyP p.1 = some k)).map (·.2)
def putKT (kvs : List (PyData × D)) (kd : PyData) (k : NestedKey) (d : D) : List (PyData × D) :=
  if hasK kvs k = true then kvs.map fun p => if keyP p.1 = some k then (p.1, d) else p else kvs ++ [(kd, d)]
section
variable {K : PySem.W.Frag} {ι : Gh} {st : Sto} {H : Hp} {k : NestedKey}
theorem RTab.len : ∀ {kvs xs}, RTab K ι st H kvs xs → kvs.length = xs.length
  | _, _, .nil => rfl
  | _, _, .cons _ r => by rw [List.length_cons, List.length_cons, RTab.len r]
theorem RTab.has : ∀ {kvs xs} {k : NestedKey}, RTab K ι st H kvs xs → hasK kvs k = hasT xs k
  | _, _, _, .nil => rfl
  | _, _, k, .cons h r => by
    have ih := RTab.has (k := k) r
    unfold hasK hasT at ih ⊢
    rw [List.any_cons, List.any_cons, ih, h.1]
    congr 1
    exact decide_eq_decide.mpr ⟨fun z => Option.some.inj z, fun z => congrArg some z⟩
theorem RTab.get : ∀ {kvs xs} {d : D}, RTab K ι st H kvs xs → getKT kvs k = some d → ∃ v, getT xs k = some v ∧ RD K ι st H v d
  | _, _, d, .nil, e => by cases e
  | p :: kvs, x :: xs, d, .cons h r, e => by
    unfold getKT getT at *
    rw [List.find?_cons, h.1] at e
    rw [List.find?_cons]
    by_cases z : x.1 = k
    · rw [decide_eq_true (congrArg some z)] at e
      rw [decide_eq_true z]
      cases e
      exact ⟨_, rfl, h.2.2⟩
    · rw [decide_eq_false fun q => z (Option.some.inj q)] at e
      rw [decide_eq_false z]
      exact RTab.get r e
theorem RTab.append : ∀ {kvs xs kvs' xs'}, RTab K ι st H kvs xs → RTab K ι st H kvs' xs' → RTab K ι st H (kvs ++ kvs') (xs ++ xs')
  | _, _, _, _, .nil, s => s
  | _, _, _, _, .cons h r, s => .cons h (RTab.append r s)
theorem RTab.putAt {d : D} {v : L2.V} (rd : RD K ι st H v d) : ∀ {kvs xs}, RTab K ι st H kvs xs → RTab K ι st H (kvs.map fun p => if keyP p.1 = some k then (p.1, d) else p) (xs.map fun x => if x.1 = k then (x.1, x.2.1, v) else x)
  | _, _, .nil => .nil
  | p :: kvs, x :: xs, .cons h r => by
    refine .cons ?_ (RTab.putAt rd r)
    dsimp only
    rw [h.1]
    by_cases z : x.1 = k
    · rw [if_pos z, if_pos (congrArg some z)]
      exact ⟨h.1, h.2.1, rd⟩
    · rw [if_neg z, if_neg fun q => z (Option.some.inj q)]
      exact h
theorem RTab.put {d : D} {v : L2.V} {kd : PyData} {p : Addr} {kvs xs} (r : RTab K ι st H kvs xs) (rd : RD K ι st H v d) (hk : keyP kd = some k) (rk : Rp (Frz ι st) H (.ref p) kd) : RTab K ι st H (putKT kvs kd k d) (putT xs k p v) := by
  unfold putKT putT
  rw [r.has]
  split
  · exact r.putAt rd
  · exact r.append (.cons ⟨hk, rk, rd⟩ .nil)
theorem RTab.key : ∀ {kvs xs}, RTab K ι st H kvs xs → ∀ x ∈ xs, KyH H (.ref x.2.1) x.1
  | _, _, .nil, x, hx => by cases hx
  | _, _, .cons h r, x, hx => by
    rcases List.mem_cons.mp hx with rfl | hx
    · exact ⟨_, _, h.2.1, h.1⟩
    · exact RTab.key r x hx
theorem putKT_low {n : Nat} {kvs : List (PyData × D)} {kd : PyData} {d : D} (h : O.low n (.tab kvs) = true) (hd : d.low n = true) : O.low n (.tab (putKT kvs kd k d)) = true := by
  have h : (kvs.all fun p => p.2.low n) = true := h
  show ((putKT kvs kd k d).all fun p => p.2.low n) = true
  unfold putKT
  rw [List.all_eq_true] at *
  split
  · intro p hp
    obtain ⟨q, hq, rfl⟩ := List.mem_map.mp hp
    split
    · exact hd
    · exact h q hq
  · intro p hp
    rcases List.mem_append.mp hp with hp | hp
    · exact h p hp
    · cases List.mem_singleton.mp hp
      exact hd
theorem putT_nd {xs : List (NestedKey × Addr × L2.V)} {p : Addr} {v : L2.V} (h : (xs.map (·.1)).Nodup) : ((putT xs k p v).map (·.1)).Nodup := by
  unfold putT
  split
  · rw [List.map_map]
    have e : (xs.map ((·.1) ∘ fun x => if x.1 = k then (x.1, x.2.1, v) else x)) = xs.map (·.1) := List.map_congr_left fun x _ => by
      show (if x.1 = k then (x.1, x.2.1, v) else x).1 = x.1
      split <;> rfl
    rw [e]
    exact h
  · rename_i hk
    rw [List.map_append]
    refine List.nodup_append.mpr ⟨h, by simp, fun x hx y hy e => hk ?_⟩
    subst e
    have hy : x = k := by simpa using hy
    subst hy
    obtain ⟨z, hz, e⟩ := List.mem_map.mp hx
    exact List.any_eq_true.mpr ⟨z, hz, decide_eq_true e⟩
end
section
variable {X : Cx} {W : XW} {o i e : Expr} {mo mi me : ME} {pos tpos : Pos} {vs : Option (List Nat)}
end
end Fw
namespace L2
open PySem PySem.Spec PyProof.Rows
section
variable {prog : Program} {w : World} {A : Around} {E : Value → Shared → Prop} {s : Shared} {d : Addr} {es : Array DictEntry} {ep : Nat} {x : Int} {t : Tok}
end
section
variable {X : Cx} {e o : Expr} {ty td : TE} {apos cpos : Pos}
end
end L2
namespace Fw
open PySem PySem.Spec PyProof.Rows L2
section
variable {X : Cx} {W : XW} {e o f : Expr} {me mo mf : ME} {apos cpos : Pos}
end
end Fw
namespace Fw
open PySem PySem.Spec PyProof.Rows L2
section
variable {st : Sto} {env : Ev}
end
end Fw
namespace Fw
open PySem PySem.Spec PyProof.Rows L2
def PrR (K : PySem.W.Frag) (ι : Gh) (st : Sto) (H : Hp) (p : PyData × D) (x : V) : Prop := ∃ t o kx vx, x = .ref t ∧ H t = some (.frz o (.tup [kx, vx])) ∧ Frz ι st t ∧ Rp (Frz ι st) H kx p.1 ∧ (∃ k, key1 p.1 = some k) ∧ RD K ι st H vx p.2
abbrev RPs (K : PySem.W.Frag) (ι : Gh) (st : Sto) (H : Hp) : List (PyData × D) → List V → Prop := Paired (PrR K ι st H)
section
variable {K : PySem.W.Frag} {ι ι' : Gh} {st st' : Sto} {H H' : Hp}
theorem PrR.mv (m : Mv ι st H ι' st' H') {p : PyData × D} {x : V} (h : PrR K ι st H p x) : PrR K ι' st' H' p x := by
  obtain ⟨t, o, kx, vx, rfl, h1, h2, h3, h4, h5⟩ := h
  obtain ⟨f, e⟩ := m.keep t _ h1 h2
  exact ⟨t, o, kx, vx, rfl, e, f, m.rp h3, h4, m.rd h5⟩
theorem RPs.mv (m : Mv ι st H ι' st' H') : ∀ {kvs xs}, RPs K ι st H kvs xs → RPs K ι' st' H' kvs xs
  | _, _, .nil => .nil
  | _, _, .cons h r => .cons (h.mv m) (RPs.mv m r)
end
def PP1 (K : PySem.W.Frag) (ι : Gh) (st : Sto) (H : Hp) (Q : VK) (kvs : List (PyData × D)) (st' : Sto) : Prop :=
  ∀ ι' H' xs p, SRel K ι' st' H' → Ext ι st H ι' st' H' → RPs K ι' st' H' kvs xs → H' p = none → HF (upd H' p (.lst xs)) → Q (.ref p) (upd H' p (.lst xs))
theorem PP1.ext {K : PySem.W.Frag} {ι ι' : Gh} {st st' s2 : Sto} {H H' : Hp} {Q : VK} {kvs : List (PyData × D)} (h : PP1 K ι st H Q kvs s2) (e : Ext ι st H ι' st' H') : PP1 K ι' st' H' Q kvs s2 :=
  fun ι2 H2 xs p R E r => h ι2 H2 xs p R (e.trans E) r
section
variable {X : Cx} {W : XW} {tg iter : Expr} {es : List Expr} {ifs : List Expr} {scope : Scope} {own : List (Str × Nat)} {pos tpos cpos p : Pos} {mi : MI} {g : MG} {t : MT} {m : MA} {x : Str} {kk : Nat}
end
end Fw
namespace Fw.LH
open PySem PySem.Spec PyProof.Rows L2 Fw
noncomputable abbrev f_do_want : FF := Fw.LC.f_do_want
noncomputable abbrev f_has_rather : FF := Fw.LC.f_has_rather
noncomputable abbrev f_partner_of : FF := Fw.LC.f_partner_of
noncomputable abbrev f_law_pick : FF := Fw.LB.f_law_pick
noncomputable abbrev f_law_of : FF := Fw.LB.f_law_of
noncomputable abbrev f_law_mixed : FF := Fw.LB.f_law_mixed
noncomputable abbrev f_law_want : FF := Fw.LC.f_law_want
noncomputable def S_law_rather_3 : MS := (sRet (mBin ltD (mVar 5) (mIte (mTB (mBin inU (mVar 3) (mVar 4))) (mIndex (mVar 4) (mCons (mVar 3) mNil)) (mArg fLen (mCons (mVar 4) mNil)))))
noncomputable def S_law_rather_2 : MS := (sSeq (sAsg (mIte (mTB (mBin inU (mVar 2) (mVar 4))) (mIndex (mVar 4) (mCons (mVar 2) mNil)) (mArg fLen (mCons (mVar 4) mNil))) (gNm 5)) S_law_rather_3)
noncomputable def S_law_rather : MS := (sSeq (sAsg (mFrz (mfBin gCat (mFrz (mfArg gList (mCons (mBin subsD (mBin subsD (mVar 0) (mC (.int 1))) (mVar 1)) mNil))) (mFrz (mfArg gDisp (mCons (mC .none) mNil))))) (gNm 4)) S_law_rather_2)
noncomputable def f_law_rather : FF := fnT 6 S_law_rather
noncomputable def law_partner_E1 : MI := (miSeq (mVar 0))
noncomputable def law_partner_G1 : MG := (gTp 2 (gMore (gNm 3) (gMore (gNm 4) gNone)))
noncomputable def law_partner_T1 : MT := (mTB (mBin inU (mVar 1) (mArg fTup (mCons (mVar 3) (mCons (mVar 4) mNil)))))
noncomputable def law_partner_M1 : ME := (mBin subD (mBin addD (mVar 3) (mVar 4)) (mVar 1))
noncomputable def S_law_partner_2 : MS := (sRet (mIte (mTB (mBin neD (mVar 2) (mFrz (mfArg gDisp mNil)))) (mBin subsD (mVar 2) (mC (.int 0))) (mC .none)))
noncomputable def S_law_partner : MS := (sSeq (sAsg (mFrz (mLc law_partner_E1 law_partner_G1 law_partner_T1 law_partner_M1 [3, 4])) (gNm 2)) S_law_partner_2)
noncomputable def f_law_partner : FF := fnT 5 S_law_partner
noncomputable def law_breaking_E1 : MI := (miR2 (mCons (mBin addD (mVar 3) (mC (.int 1))) (mCons (mBin subsD (mVar 0) (mC (.int 0))) mNil)))
noncomputable def law_breaking_G1 : MG := (gNm 4)
noncomputable def law_breaking_B2 : MS := (sIf (mAndT (mTru' (mCall f_law_want (mCons (mVar 0) (mCons (mVar 3) (mCons (mVar 4) mNil))) [])) (mTru' (mCall f_law_rather (mCons (mVar 0) (mCons (mVar 3) (mCons (mVar 4) (mCons (mCall f_law_partner (mCons (mVar 1) (mCons (mVar 3) mNil)) []) mNil)))) []))) (sAsg (mFrz (mfBin gCat (mVar 2) (mFrz (mfBin gRep (mFrz (mfArg gDisp (mCons (mArg fTup (mCons (mVar 3) (mCons (mVar 4) mNil))) mNil))) (mArg fInt (mCons (mCall f_law_rather (mCons (mVar 0) (mCons (mVar 4) (mCons (mVar 3) (mCons (mCall f_law_partner (mCons (mVar 1) (mCons (mVar 4) mNil)) []) mNil)))) []) mNil)))))) (gNm 2)) sNil)
noncomputable def law_breaking_E2 : MI := (miR1 (mCons (mBin subsD (mVar 0) (mC (.int 0))) mNil))
noncomputable def law_breaking_G2 : MG := (gNm 3)
noncomputable def law_breaking_B1 : MS := (sFor law_breaking_E1 law_breaking_G1 law_breaking_B2)
noncomputable def S_law_breaking_3 : MS := (sRet (mVar 2))
noncomputable def S_law_breaking_2 : MS := (sSeq (sFor law_breaking_E2 law_breaking_G2 law_breaking_B1) S_law_breaking_3)
noncomputable def S_law_breaking : MS := (sSeq (sAsg (mFrz (mfArg gDisp mNil)) (gNm 2)) S_law_breaking_2)
noncomputable def f_law_breaking : FF := fnT 5 S_law_breaking
noncomputable def law_pairings_E1 : MI := (miSeq (mVar 1))
noncomputable def law_pairings_G1 : MG := (gNm 5)
noncomputable def law_pairings_T1 : MT := (mAndT (mTB (mBin isD (mCall f_law_partner (mCons (mVar 5) (mCons (mVar 2) mNil)) []) (mC .none))) (mTB (mBin isD (mCall f_law_partner (mCons (mVar 5) (mCons (mVar 3) mNil)) []) (mC .none))))
noncomputable def law_pairings_M1 : ME := (mVar 5)
noncomputable def law_pairings_E2 : MI := (miSeq (mVar 4))
noncomputable def law_pairings_G2 : MG := (gNm 5)
noncomputable def law_pairings_T2 : MT := mYes
noncomputable def law_pairings_M2 : ME := (mBin addD (mVar 5) (mArg fTup (mCons (mArg fTup (mCons (mVar 2) (mCons (mVar 3) mNil))) mNil)))
noncomputable def law_pairings_E3 : MI := (miR2 (mCons (mBin addD (mVar 2) (mC (.int 1))) (mCons (mBin subsD (mVar 0) (mC (.int 0))) mNil)))
noncomputable def law_pairings_G3 : MG := (gNm 3)
noncomputable def law_pairings_B2 : MS := (sIf (mTru' (mCall f_law_want (mCons (mVar 0) (mCons (mVar 2) (mCons (mVar 3) mNil))) [])) (sSeq (sAsg (mFrz (mLc law_pairings_E1 law_pairings_G1 law_pairings_T1 law_pairings_M1 [5])) (gNm 4)) (sAsg (mFrz (mfBin gCat (mVar 1) (mFrz (mLc law_pairings_E2 law_pairings_G2 law_pairings_T2 law_pairings_M2 [5])))) (gNm 1))) sNil)
noncomputable def law_pairings_E4 : MI := (miR1 (mCons (mBin subsD (mVar 0) (mC (.int 0))) mNil))
noncomputable def law_pairings_G4 : MG := (gNm 2)
noncomputable def law_pairings_B1 : MS := (sFor law_pairings_E3 law_pairings_G3 law_pairings_B2)
noncomputable def S_law_pairings_3 : MS := (sRet (mFrz (mfArg gSortG (mCons (mVar 1) mNil))))
noncomputable def S_law_pairings_2 : MS := (sSeq (sFor law_pairings_E4 law_pairings_G4 law_pairings_B1) S_law_pairings_3)
noncomputable def S_law_pairings : MS := (sSeq (sAsg (mFrz (mfArg gDisp (mCons (mArg fTup mNil) mNil))) (gNm 1)) S_law_pairings_2)
noncomputable def f_law_pairings : FF := fnT 6 S_law_pairings
end Fw.LH
namespace L2
open PySem PySem.Spec PyProof.Rows
abbrev IsLs (h : Heap) (l : Addr) (vs : List Value) : Prop := ∃ n, h.get? l = some { cls := .type "list", data := .seq vs.toArray n }
section
variable {prog : Program} {w : World} {A : Around} {E : Value → Shared → Prop} {l it S : Addr}
end
section
variable {X : Cx} {pins : List (Addr × Obj)} {σ : L2.St} {H : Hp} {s : Shared}
abbrev LsR (s : Shared) : List (Addr × List V) → List (Addr × List Value) → Prop := Paired (fun q p => q.1 = p.1 ∧ Vals q.2 p.2 ∧ IsLs s.heap p.1 p.2)
theorem LsR.mem : ∀ {xs ls}, LsR s xs ls → ∀ p ∈ ls, IsLs s.heap p.1 p.2
  | _, _, .nil, p, hp => by cases hp
  | _, _, .cons h r, p, hp => by
    rcases List.mem_cons.mp hp with rfl | hp
    · exact h.2.2
    · exact LsR.mem r p hp
end
end L2
namespace Fw
open PySem PySem.Spec PyProof.Rows L2
end Fw
namespace Fw
open PySem PySem.Spec PyProof.Rows L2
open PySem.W (dataLt alike AlikeAll minD)
section
variable {X : Cx} {pins : List (Addr × Obj)} {σ : L2.St} {H : Hp} {s : Shared}
end
end Fw
namespace PySem.SeqAt
open AutoSeq1 (wpAny_loadPart')
open MeetsSeq
end PySem.SeqAt
namespace PySem.SeqAt
open MeetsSeq
end PySem.SeqAt
namespace Fw
open PySem PySem.Spec PyProof.Rows L2
section
variable {X : Cx} {pins : List (Addr × Obj)} {σ : L2.St} {H : Hp} {s : Shared} {x y : V} {v u : Value} {k : Bool} {Q : VK}
end
section
variable {X : Cx} {W : XW} {a b : Expr} {ma mb : ME}
end
section
variable {d e : PyData} {st : Sto}
end
end Fw
namespace L2
open PySem PySem.Spec PyProof.Rows PySem.Calls
section
variable {X : Cx} {es : List Expr} {k : Nat} {pos : Pos}
end
end L2
namespace Fw
open PySem PySem.Spec PyProof.Rows L2
section
variable {X : Cx} {W : XW} {ts : List Expr} {gs : MGs} {pos : Pos} {vs : Option (List Nat)}
end
end Fw
namespace Fw
open PySem PySem.Spec PyProof.Rows L2 PySem.Calls
section
variable {X : Cx} {pins : List (Addr × Obj)} {σ : L2.St} {H : Hp} {s : Shared}
def putAllT (acc kvs : List (NestedKey × Addr × L2.V)) : List (NestedKey × Addr × L2.V) := kvs.foldl (fun acc p => putT acc p.1 p.2.1 p.2.2) acc
theorem TR.putAll : ∀ {kvs : List (NestedKey × Addr × L2.V)} {prs : List (NestedKey × Addr × Value)} {xs ys}, TR kvs prs → TR xs ys → TR (putAllT xs kvs) (storedAllH ys prs)
  | _, _, _, _, .nil, r => r
  | _, _, _, _, .cons (a := p) (b := q) h t, r => by
    obtain ⟨h1, h2, h3⟩ := h
    have e := TR.put (k := p.1) (p := p.2.1) r h3
    have := TR.putAll t e
    unfold putAllT storedAllH at this ⊢
    rw [List.foldl_cons, List.foldl_cons]
    rw [← h1, ← h2]
    exact this
end
def putAllKT (acc : List (PyData × D)) (l : List (PyData × NestedKey × PyData)) : List (PyData × D) := l.foldl (fun acc p => putKT acc p.1 p.2.1 (.v p.2.2)) acc
section
variable {K : PySem.W.Frag} {ι : Gh} {st : Sto} {H : Hp}
def RPT (ι : Gh) (st : Sto) (H : Hp) : List (PyData × NestedKey × PyData) → List (NestedKey × Addr × L2.V) → Prop := Paired fun p q => keyP p.1 = some q.1 ∧ p.2.1 = q.1 ∧ Rp (Frz ι st) H (.ref q.2.1) p.1 ∧ Rp (Frz ι st) H q.2.2 p.2.2
theorem RTab.putAll : ∀ {l : List (PyData × NestedKey × PyData)} {kvs : List (NestedKey × Addr × L2.V)} {acc : List (PyData × D)} {xs : List (NestedKey × Addr × L2.V)}, RPT ι st H l kvs → RTab K ι st H acc xs → (xs.map (·.1)).Nodup → O.low st.length (.tab acc) = true → xs.length + kvs.length ≤ sizeLine →
    RTab K ι st H (putAllKT acc l) (putAllT xs kvs) ∧ ((putAllT xs kvs).map (·.1)).Nodup ∧ O.low st.length (.tab (putAllKT acc l)) = true ∧ (putAllT xs kvs).length ≤ sizeLine
  | _, _, _, _, .nil, r, nd, lw, hl => ⟨r, nd, lw, hl⟩
  | _, _, acc, xs, .cons (a := p) (b := q) h t, r, nd, lw, hl => by
    obtain ⟨h1, h2, h3, h4⟩ := h
    have r1 : RTab K ι st H (putKT acc p.1 q.1 (.v p.2.2)) (putT xs q.1 q.2.1 q.2.2) := r.put h4 h1 h3
    have hlen : (putT xs q.1 q.2.1 q.2.2).length ≤ xs.length + 1 := by
      unfold putT
      split
      · rw [List.length_map]; omega
      · rw [List.length_append]; exact Nat.le_refl _
    rw [List.length_cons] at hl
    have z := RTab.putAll t r1 (putT_nd nd) (putKT_low lw rfl) (by omega)
    unfold putAllKT putAllT at z ⊢
    rw [List.foldl_cons, List.foldl_cons, h2]
    exact z
end
end Fw
namespace Fw
open PySem PySem.Spec PyProof.Rows L2 PySem.Calls
open PySem.W (AllAlike Sortable dataLe dataLt alike alikeAll sortVals dataKind sortingHeap EachIs)
theorem TR.get : ∀ {xs : List (NestedKey × Addr × L2.V)} {ys : List (NestedKey × Addr × Value)} {i : Nat} {x}, TR xs ys → xs[i]? = some x → ∃ y, ys[i]? = some y ∧ x.2.1 = y.2.1
  | _, _, _, _, .nil, e => by simp at e
  | _, _, 0, _, .cons h r, e => by simp at e; subst e; exact ⟨_, rfl, h.2.1⟩
  | _, _, i + 1, _, .cons h r, e => by
    obtain ⟨y, h1, h2⟩ := TR.get (i := i) r (by simpa using e)
    exact ⟨y, by simpa using h1, h2⟩
section
variable {K : PySem.W.Frag} {ι ι' : Gh} {st st' : Sto} {H H' : Hp}
end
section
variable {K : PySem.W.Frag} {ι ι1 : Gh} {st s1 : Sto} {H H1 : Hp}
end
section
variable {X : Cx} {pins : List (Addr × Obj)} {σ : L2.St} {H : Hp} {s : Shared}
end
section
variable {K : PySem.W.Frag} {ι : Gh} {st : Sto} {H : Hp}
end
end Fw
namespace Fw
open PySem PySem.Spec PyProof.Rows L2
section
variable {X : Cx} {tg iter kx vx : Expr} {ifs : List Expr} {scope : Scope} {own : List (Str × Nat)} {pos spos : Pos}
variable {W : XW} {mi : MI} {g : MG} {t : MT} {mk mv : ME}
variable {elt tg1 iter1 : Expr} {ifs1 : List Expr} {mi1 : MI} {g1 : MG} {t1 : MT} {m : ME} {vs1 : List Nat}
end
def SO.Okb (x : SO) (N : Ev → Sto → Prop) (B : Ev → Sto → Prop) (C : Ev → Sto → Prop) (T : D → Sto → Prop) : Prop := match x with
  | .nx e s => N e s
  | .bk e s => B e s
  | .ct e s => C e s
  | .rt d s => T d s
  | _ => False
section
variable {N B C : Ev → Sto → Prop} {T : D → Sto → Prop} {env : Ev} {st : Sto}
theorem SO.Okb.mono {x : SO} {N' B' C' : Ev → Sto → Prop} {T' : D → Sto → Prop} (h : x.Okb N B C T) (hN : ∀ e s, N e s → N' e s) (hB : ∀ e s, B e s → B' e s) (hC : ∀ e s, C e s → C' e s) (hT : ∀ d s, T d s → T' d s) : x.Okb N' B' C' T' := by
  cases x
  all_goals first | exact hN _ _ h | exact hB _ _ h | exact hC _ _ h | exact hT _ _ h | exact h.elim
end
end Fw
namespace Fw
open PySem PySem.Spec PyProof.Rows L2
def sDead : MS := fun _ _ => .stuck
theorem s_dead {X : Cx} {W : XW} {s : Stmt} : PS X s (TSo X.K W sDead) := ⟨fun pins s σ H D I q => by
  obtain ⟨ι, env, st, R, EV, p⟩ := q
  exact p.elim⟩
end Fw
namespace Wk04
open PySem PySem.Spec PyProof.Rows L2 Fw
abbrev top (i : Nat) : Stmt := PySem.Challenge.pw_pairsandprices_k04_whole_pairings_of_sma.main.body.getD i (.Pass ⟨0, 0, 0, 0⟩)
abbrev FnP (K : PySem.W.Frag) (x : Str) (st : Stmt) (f : Addr) (fd : FuncData) : Prop := FunD K x x (defArgs st) (defBody st) (defScope st) [] [] f fd
-- not reached: copied, _law_pairing
noncomputable abbrev f_law_source : FF := Fw.LB.f_law_source
noncomputable abbrev f_law_pick : FF := Fw.LB.f_law_pick
noncomputable abbrev f_law_mixed : FF := Fw.LB.f_law_mixed
noncomputable abbrev f_law_of : FF := Fw.LB.f_law_of
noncomputable def law_hall_E1 : MI := (miR1 (mCons (mVar 3) mNil))
noncomputable def law_hall_G1 : MG := (gNm 7)
noncomputable def law_hall_T1 : MT := (mTB (mBin eqD (mCall f_law_pick (mCons (mVar 0) (mCons (mC (.int 2)) mNil)) []) (mC (.int 0))))
noncomputable def law_hall_M1 : ME := (mVar 7)
noncomputable def law_hall_E2 : MI := (miR1 (mCons (mVar 3) mNil))
noncomputable def law_hall_G2 : MG := (gNm 9)
noncomputable def law_hall_T2 : MT := (mAndT (mTB (mBin neD (mVar 9) (mVar 7))) (mOrT (mTB (mBin eqD (mVar 4) (mC (.int 0)))) (mTB (mBin neD (mBin inU (mVar 7) (mVar 5)) (mBin inU (mVar 9) (mVar 5))))))
noncomputable def law_hall_M2 : ME := (mVar 9)
noncomputable def law_hall_B1_3 : MS := (sExp (mM fmAppend (mVar 6) (mCons (mArg fTuple (mCons (mIte (mTB (mBin gtD (mArg fLen (mCons (mVar 8) mNil)) (mC (.int 2)))) (mFrz (mfSl (mVar 8) moNone (moSome (mBin subD (mArg fLen (mCons (mVar 8) mNil)) (mCall f_law_of (mCons (mVar 0) (mCons (mFrz (mfArg gDisp (mCons (mC (.int 0)) (mCons (mC (.int 0)) (mCons (mC (.int 0)) (mCons (mC (.int 1)) (mCons (mC (.int 2)) mNil))))))) mNil)) []))))) (mVar 8)) mNil)) mNil)))
noncomputable def law_hall_B1_2 : MS := (sSeq (sAsg (mCall f_law_mixed (mCons (mVar 0) (mCons (mVar 8) mNil)) []) (gNm 8)) law_hall_B1_3)
noncomputable def law_hall_E3 : MI := (miR1 (mCons (mVar 3) mNil))
noncomputable def law_hall_G3 : MG := (gNm 7)
noncomputable def law_hall_B1 : MS := (sSeq (sAsg (mFrz (mLc law_hall_E2 law_hall_G2 law_hall_T2 law_hall_M2 [9])) (gNm 8)) law_hall_B1_2)
noncomputable def S_law_hall_4 : MS := (sRet (mArg fTup (mCons (mVar 3) (mCons (mArg fTuple (mCons (mVar 6) mNil)) mNil))))
noncomputable def S_law_hall_3 : MS := (sSeq (sFor law_hall_E3 law_hall_G3 law_hall_B1) S_law_hall_4)
noncomputable def S_law_hall_2 : MS := (sSeq (sAsgT 2 (mCons (mFrz (mLc law_hall_E1 law_hall_G1 law_hall_T1 law_hall_M1 [7])) (mCons (mNew (mfArg gDisp mNil)) mNil)) (gMore (gNm 5) (gMore (gNm 6) gNone))) S_law_hall_3)
noncomputable def S_law_hall : MS := (sSeq (sAsgT 2 (mCons (mBin addD (mVar 1) (mCall f_law_pick (mCons (mVar 0) (mCons (mBin addD (mBin subD (mVar 2) (mVar 1)) (mC (.int 1))) mNil)) [])) (mCons (mCall f_law_pick (mCons (mVar 0) (mCons (mC (.int 4)) mNil)) []) mNil)) (gMore (gNm 3) (gMore (gNm 4) gNone))) S_law_hall_2)
noncomputable def f_law_hall : FF := fnT 10 S_law_hall
noncomputable abbrev f_law_want : FF := Fw.LC.f_law_want
noncomputable abbrev f_law_partner : FF := Fw.LH.f_law_partner
noncomputable abbrev f_law_pairings : FF := Fw.LH.f_law_pairings
noncomputable abbrev f_partner_of : FF := Fw.LC.f_partner_of
noncomputable abbrev f_do_want : FF := Fw.LC.f_do_want
noncomputable def all_pairings_E1 : MI := (miR2 (mCons (mBin addD (mVar 2) (mC (.int 1))) (mCons (mBin subsD (mVar 0) (mC (.int 0))) mNil)))
noncomputable def all_pairings_G1 : MG := (gNm 6)
noncomputable def all_pairings_T1 : MT := (mAndT (mTru' (mCall f_do_want (mCons (mVar 0) (mCons (mVar 2) (mCons (mVar 6) mNil))) [])) (mTB (mBin isD (mCall f_partner_of (mCons (mVar 4) (mCons (mVar 6) mNil)) []) (mC .none))))
noncomputable def all_pairings_M1 : ME := (mVar 6)
noncomputable def all_pairings_E2 : MI := (miSeq (mVar 5))
noncomputable def all_pairings_G2 : MG := (gNm 6)
noncomputable def all_pairings_T2 : MT := mYes
noncomputable def all_pairings_M2 : ME := (mArg fTup (mStar (mVar 4) (mCons (mArg fTup (mCons (mVar 2) (mCons (mVar 6) mNil))) mNil)))
noncomputable def all_pairings_B2_2 : MS := (sIf (mTB (mBin isD (mCall f_partner_of (mCons (mVar 4) (mCons (mVar 2) mNil)) []) (mC .none))) (sAsg (mFrz (mfBin gCat (mVar 3) (mFrz (mLc all_pairings_E2 all_pairings_G2 all_pairings_T2 all_pairings_M2 [6])))) (gNm 3)) sNil)
noncomputable def all_pairings_E3 : MI := (miSeq (mVar 1))
noncomputable def all_pairings_G3 : MG := (gNm 4)
noncomputable def all_pairings_B2 : MS := (sSeq (sAsg (mFrz (mLc all_pairings_E1 all_pairings_G1 all_pairings_T1 all_pairings_M1 [6])) (gNm 5)) all_pairings_B2_2)
noncomputable def all_pairings_B1_3 : MS := (sAsg (mFrz (mfBin gCat (mVar 1) (mVar 3))) (gNm 1))
noncomputable def all_pairings_B1_2 : MS := (sSeq (sFor all_pairings_E3 all_pairings_G3 all_pairings_B2) all_pairings_B1_3)
noncomputable def all_pairings_E4 : MI := (miR1 (mCons (mBin subsD (mVar 0) (mC (.int 0))) mNil))
noncomputable def all_pairings_G4 : MG := (gNm 2)
noncomputable def all_pairings_B1 : MS := (sSeq (sAsg (mFrz (mfArg gDisp mNil)) (gNm 3)) all_pairings_B1_2)
noncomputable def S_all_pairings_3 : MS := (sRet (mArg fTuple (mCons (mFrz (mfArg gSortG (mCons (mVar 1) mNil))) mNil)))
noncomputable def S_all_pairings_2 : MS := (sSeq (sFor all_pairings_E4 all_pairings_G4 all_pairings_B1) S_all_pairings_3)
noncomputable def S_all_pairings : MS := (sSeq (sAsg (mFrz (mfArg gDisp (mCons (mArg fTup mNil) mNil))) (gNm 1)) S_all_pairings_2)
noncomputable def f_all_pairings : FF := fnT 7 S_all_pairings
noncomputable abbrev f_law_rather : FF := Fw.LH.f_law_rather
noncomputable abbrev f_law_breaking : FF := Fw.LH.f_law_breaking
noncomputable abbrev f_has_rather : FF := Fw.LC.f_has_rather
noncomputable abbrev f_does_break : FF := Fw.LC.f_does_break
noncomputable abbrev f_breaking_pairs : FF := Fw.LC.f_breaking_pairs
noncomputable def S_is_unbroken : MS := (sRet (mBin eqD (mCall f_breaking_pairs (mCons (mVar 0) (mCons (mVar 1) mNil)) []) (mArg fTup mNil)))
noncomputable def f_is_unbroken : FF := fnT 2 S_is_unbroken
noncomputable def S_is_number : MS := (sRet (mAndV (mUn (isiD "int") (mVar 0)) (mAndV (mNotV (mUn (isiD "bool") (mVar 0))) (mBin geD (mVar 0) (mC (.int 0))))))
noncomputable def f_is_number : FF := fnT 1 S_is_number
noncomputable def S_place_in_4 : MS := (sRet (mIndex (mVar 3) (mCons (mVar 2) mNil)))
noncomputable def S_place_in_3 : MS := (sSeq (sIf (mOrT (mNotT (mTru' (mCall f_is_number (mCons (mVar 2) mNil) []))) (mTB (mBin notInU (mVar 2) (mVar 3)))) sDead sNil) S_place_in_4)
noncomputable def S_place_in_2 : MS := (sSeq (sIf (mTB (mBin isD (mVar 2) (mC .none))) (sRet (mArg fLen (mCons (mVar 3) mNil))) sNil) S_place_in_3)
noncomputable def S_place_in : MS := (sSeq (sAsg (mBin subsD (mBin subsD (mVar 0) (mC (.int 1))) (mVar 1)) (gNm 3)) S_place_in_2)
noncomputable def f_place_in : FF := fnT 4 S_place_in
noncomputable def who_likes_better_E1 : MI := (miR1 (mCons (mBin subsD (mVar 0) (mC (.int 0))) mNil))
noncomputable def who_likes_better_G1 : MG := (gNm 4)
noncomputable def who_likes_better_T1 : MT := mYes
noncomputable def who_likes_better_M1 : ME := (mArg fTup (mCons (mVar 4) (mCons (mCall f_partner_of (mCons (mVar 1) (mCons (mVar 4) mNil)) []) (mCons (mCall f_partner_of (mCons (mVar 2) (mCons (mVar 4) mNil)) []) mNil))))
noncomputable def who_likes_better_E2 : MI := (miSeq (mVar 3))
noncomputable def who_likes_better_G2 : MG := (gTp 3 (gMore (gNm 4) (gMore (gNm 5) (gMore (gNm 6) gNone))))
noncomputable def who_likes_better_T2 : MT := (mTru' (mCall f_has_rather (mCons (mVar 0) (mCons (mVar 4) (mCons (mVar 5) (mCons (mVar 6) mNil)))) []))
noncomputable def who_likes_better_M2 : ME := (mVar 4)
noncomputable def S_who_likes_better_2 : MS := (sRet (mArg fTuple (mCons (mFrz (mLc who_likes_better_E2 who_likes_better_G2 who_likes_better_T2 who_likes_better_M2 [4, 5, 6])) mNil)))
noncomputable def S_who_likes_better : MS := (sSeq (sAsg (mFrz (mLc who_likes_better_E1 who_likes_better_G1 who_likes_better_T1 who_likes_better_M1 [4])) (gNm 3)) S_who_likes_better_2)
noncomputable def f_who_likes_better : FF := fnT 7 S_who_likes_better
noncomputable def law_E1 : MI := (miSeq (mVar 6))
noncomputable def law_G1 : MG := (gNm 8)
noncomputable def law_T1 : MT := (mTB (mBin eqD (mCall f_law_breaking (mCons (mVar 3) (mCons (mVar 8) mNil)) []) (mFrz (mfArg gDisp mNil))))
noncomputable def law_M1 : ME := (mVar 8)
noncomputable def law_E2 : MI := (miSeq (mVar 6))
noncomputable def law_G2 : MG := (gNm 8)
noncomputable def law_T2 : MT := (mTru' (mCall f_is_unbroken (mCons (mVar 3) (mCons (mVar 8) mNil)) []))
noncomputable def law_M2 : ME := (mVar 8)
noncomputable def law_E3 : MI := (miR1 (mCons (mVar 4) mNil))
noncomputable def law_G3 : MG := (gNm 10)
noncomputable def law_T3 : MT := (mTB (mBin isD (mCall f_partner_of (mCons (mVar 8) (mCons (mVar 10) mNil)) []) (mC .none)))
noncomputable def law_M3 : ME := (mVar 10)
noncomputable def law_E4 : MI := (miSeq (mVar 9))
noncomputable def law_G4 : MG := (gNm 11)
noncomputable def law_T4 : MT := (mAndT (mTB (mBin neD (mVar 11) (mVar 10))) (mTru' (mCall f_do_want (mCons (mVar 3) (mCons (mVar 10) (mCons (mVar 11) mNil))) [])))
noncomputable def law_M4 : ME := (mVar 11)
noncomputable def law_E5 : MI := (miSeq (mVar 9))
noncomputable def law_G5 : MG := (gNm 10)
noncomputable def law_T5 : MT := (mTB (mBin neD (mFrz (mLc law_E4 law_G4 law_T4 law_M4 [11])) (mFrz (mfArg gDisp mNil))))
noncomputable def law_M5 : ME := (mVar 10)
noncomputable def law_B2_2 : MS := (sIf (mTB (mBin neD (mFrz (mLc law_E5 law_G5 law_T5 law_M5 [10])) (mFrz (mfArg gDisp mNil)))) (sRet (mC (.bool false))) sNil)
noncomputable def law_E6 : MI := (miSeq (mVar 7))
noncomputable def law_G6 : MG := (gNm 8)
noncomputable def law_B2 : MS := (sSeq (sAsg (mFrz (mLc law_E3 law_G3 law_T3 law_M3 [10])) (gNm 9)) law_B2_2)
noncomputable def law_E7 : MI := (miR1 (mCons (mVar 4) mNil))
noncomputable def law_G7 : MG := (gNm 10)
noncomputable def law_B4 : MS := (sIf (mTB (mBin ltD (mCall f_place_in (mCons (mVar 3) (mCons (mVar 10) (mCons (mCall f_partner_of (mCons (mVar 8) (mCons (mVar 10) mNil)) []) mNil))) []) (mCall f_place_in (mCons (mVar 3) (mCons (mVar 10) (mCons (mCall f_partner_of (mCons (mVar 13) (mCons (mVar 10) mNil)) []) mNil))) []))) (sExp (mM fmAppend (mVar 14) (mCons (mVar 10) mNil))) sNil)
noncomputable def law_B3_4 : MS := (sIf (mOrT (mTB (mBin neD (mArg fReprM (mCons (mCall f_who_likes_better (mCons (mVar 3) (mCons (mVar 8) (mCons (mVar 13) mNil))) []) mNil)) (mArg fReprM (mCons (mArg fTuple (mCons (mVar 14) mNil)) mNil)))) (mTB (mBin neD (mCall f_who_likes_better (mCons (mVar 3) (mCons (mVar 8) (mCons (mVar 8) mNil))) []) (mArg fTup mNil)))) (sRet (mC (.bool false))) sNil)
noncomputable def law_B3_3 : MS := (sSeq (sFor law_E7 law_G7 law_B4) law_B3_4)
noncomputable def law_B3_2 : MS := (sSeq (sAsg (mNew (mfArg gDisp mNil)) (gNm 14)) law_B3_3)
noncomputable def law_E8 : MI := (miR1 (mCons (mC (.int 4)) mNil))
noncomputable def law_G8 : MG := (gNm 12)
noncomputable def law_B3 : MS := (sSeq (sAsgT 2 (mCons (mCall f_law_of (mCons (mVar 1) (mCons (mVar 6) mNil)) []) (mCons (mCall f_law_of (mCons (mVar 1) (mCons (mVar 6) mNil)) []) mNil)) (gMore (gNm 8) (gMore (gNm 13) gNone))) law_B3_2)
noncomputable def law_B1_8 : MS := (sIf (mTB (mBin neD (mArg fReprM (mCons (mVar 3) mNil)) (mVar 5))) (sRet (mC (.bool false))) sNil)
noncomputable def law_B1_7 : MS := (sSeq (sFor law_E8 law_G8 law_B3) law_B1_8)
noncomputable def law_B1_6 : MS := (sSeq (sFor law_E6 law_G6 law_B2) law_B1_7)
noncomputable def law_B1_5 : MS := (sSeq (sIf (mTB (mBin neD (mFrz (mLc law_E2 law_G2 law_T2 law_M2 [8])) (mVar 7))) (sRet (mC (.bool false))) sNil) law_B1_6)
noncomputable def law_B1_4 : MS := (sSeq (sAsg (mFrz (mLc law_E1 law_G1 law_T1 law_M1 [8])) (gNm 7)) law_B1_5)
noncomputable def law_B1_3 : MS := (sSeq (sIf (mTB (mBin neD (mArg fReprM (mCons (mCall f_all_pairings (mCons (mVar 3) mNil) []) mNil)) (mArg fReprM (mCons (mArg fTuple (mCons (mVar 6) mNil)) mNil)))) (sRet (mC (.bool false))) sNil) law_B1_4)
noncomputable def law_B1_2 : MS := (sSeq (sPar3 4 5 6 (mCons (mBin subsD (mVar 3) (mC (.int 0))) (mCons (mArg fReprM (mCons (mVar 3) mNil)) (mCons (mCall f_law_pairings (mCons (mVar 3) mNil) []) mNil)))) law_B1_3)
noncomputable def law_E9 : MI := (miR1 (mCons (mC (.int 4)) mNil))
noncomputable def law_G9 : MG := (gNm 2)
noncomputable def law_B1 : MS := (sSeq (sAsg (mCall f_law_hall (mCons (mVar 1) (mCons (mC (.int 1)) (mCons (mC (.int 6)) mNil))) []) (gNm 3)) law_B1_2)
noncomputable def law_E10 : MI := (miSeq (mCall f_all_pairings (mCons (mVar 15) mNil) []))
noncomputable def law_G10 : MG := (gNm 8)
noncomputable def law_T6 : MT := mYes
noncomputable def law_M6 : ME := (mCall f_is_unbroken (mCons (mVar 15) (mCons (mVar 8) mNil)) [])
noncomputable def S_law_4 : MS := (sRet (mBin eqD (mFrz (mLc law_E10 law_G10 law_T6 law_M6 [8])) (mFrz (mfBin gRep (mFrz (mfArg gDisp (mCons (mC (.bool false)) mNil))) (mC (.int 4))))))
noncomputable def S_law_3 : MS := (sSeq (sAsg (mArg fTup (mCons (mC (.int 3)) (mCons (mArg fTup (mCons (mArg fTup (mCons (mC (.int 1)) (mCons (mC (.int 2)) mNil))) (mCons (mArg fTup (mCons (mC (.int 2)) (mCons (mC (.int 0)) mNil))) (mCons (mArg fTup (mCons (mC (.int 0)) (mCons (mC (.int 1)) mNil))) mNil)))) mNil))) (gNm 15)) S_law_4)
noncomputable def S_law_2 : MS := (sSeq (sFor law_E9 law_G9 law_B1) S_law_3)
noncomputable def S_law : MS := (sSeq (sAsg (mCall f_law_source (mCons (mVar 0) mNil) []) (gNm 1)) S_law_2)
noncomputable def f_law : FF := fnT 16 S_law
section
variable {P : Program} {w : World} {K : PySem.W.Frag} {mg : Str → Option Value} {base : Heap}
abbrev N_law_source : List Str := ["script", "mixed", "cell"]
theorem sc_law_source : FnScope N_law_source ["script"] (defScope (top 17)) := ⟨rfl, rfl, rfl, by decide +kernel, rfl, by decide +kernel, by decide +kernel⟩
theorem ok_law_source {f : Addr} {fd : FuncData} (F : FnP K "_law_source" (top 17) f fd) (h_int : mg "int" = none) (h_abs : mg "abs" = none) : FnG P w K mg base CX0 1 f fd ["script"] (spG K V0 1 f_law_source) := by
  refine fnG_K F sc_law_source fun cdv A outer s H E hr => ?_
  have sc := sc_law_source
  have gd := hr.gd (X := cxOf CX0 P w K mg base N_law_source "_law_source" (defScope (top 17)) f cdv A outer s H E) rfl
  exact (ss_cons (s_asg x_int (gn 1 sc.nd)) (ss_cons (s_for gd own_pass (i_seq (xv 0)) (gn 2 sc.nd) (ss_one (s_asg (x_mod (x_callT call_int1 opA_int rfl h_int bt_int (xa_cons (x_add (x_add (x_mul (xv 1) x_int) (x_mul (xv 2) x_int)) x_int) xa_nil)) x_int) (gn 1 sc.nd)))) (ss_one (s_ret (x_disp (ps_cons0 x_str (x_new (xf_rev (x_frz (xf_lc (own := [("cell", 2)]) gd sc.nd (i_seq (xv 0)) (blkOk_by (N := N_law_source) (sc := defScope (top 17)) (by decide +kernel)) (fun _ _ _ _ _ => ⟨(gn 2 sc.nd), ts_nil, (x_callB call_abs opA_abs rfl h_abs bt_abs (xa_cons (xv 2) xa_nil))⟩))))) (ps_cons0 x_str x_int (ps_cons0 x_str (xv 1) (ps_cons0 x_str x_int ps_nil0)))))))))
abbrev N_law_pick : List Str := ["source", "many", "left", "mixed"]
theorem sc_law_pick : FnScope N_law_pick ["source", "many"] (defScope (top 18)) := ⟨rfl, rfl, rfl, by decide +kernel, rfl, by decide +kernel, by decide +kernel⟩
theorem ok_law_pick {f : Addr} {fd : FuncData} (F : FnP K "_law_pick" (top 18) f fd) (h_len : mg "len" = none) (h_max : mg "max" = none) (h_int : mg "int" = none) : FnG P w K mg base CX0 1 f fd ["source", "many"] (spG K V0 2 f_law_pick) := by
  refine fnG_T F sc_law_pick fun cdv A outer s H E hr => ?_
  have sc := sc_law_pick
  have gd := hr.gd (X := cxOf CX0 P w K mg base N_law_pick "_law_pick" (defScope (top 18)) f cdv A outer s H E) rfl
  exact (ss_cons (s_while 1000000 own_pass (PW.pt (t_and (t_c (c_gt (xv 1) x_int)) (t_and (t_c (c_lt (x_sub' gd (xv 0) x_str) x_int)) (t_and1 (t_c (c_gt (x_callB call_len opA_len rfl h_len bt_len (xa_cons (x_sub' gd (xv 0) x_str) xa_nil)) x_int)))))) (ss_one (s_subP gd (x_m0 PySem.F.plainAttrs_list PySem.F.slot_list_pop PySem.F.type_list_pop mt_pop opM_pop (x_sub' gd (xv 0) x_str)) (xv 0) x_str))) (ss_cons (s_asg (x_sub' gd (xv 0) x_str) (gn 2 sc.nd)) (ss_cons (s_if (PW.pt (t_or (t_c (c_lt (xv 1) x_int)) (t_or1 (t_c (c_gt (xv 2) x_int))))) (ss_cons (s_subP gd (x_fdiv (xv 2) (x_callB (call_max2 gd.calm) opA_2I rfl h_max bt_max (xa_cons x_int (xa_cons (xv 1) xa_nil)))) (xv 0) x_str) (ss_one (s_ret (x_mod (x_callT call_int1 opA_int rfl h_int bt_int (xa_cons (xv 2) xa_nil)) (x_callB (call_max2 gd.calm) opA_2I rfl h_max bt_max (xa_cons x_int (xa_cons (xv 1) xa_nil))))))) ss_nil) (ss_cons (s_subP gd (x_add (x_sub' gd (xv 0) x_str) x_int) (xv 0) x_str) (ss_cons (s_asg (x_mod (x_callT call_int1 opA_int rfl h_int bt_int (xa_cons (x_add (x_sub' gd (xv 0) x_str) (x_mul (x_sub' gd (xv 0) x_str) x_int)) xa_nil)) x_int) (gn 3 sc.nd)) (ss_cons (s_asg (x_mod (x_callT call_int1 opA_int rfl h_int bt_int (xa_cons (x_add (x_mul (xv 3) (xv 3)) (x_mul (x_sub' gd (xv 0) x_str) x_int)) xa_nil)) x_int) (gn 3 sc.nd)) (ss_cons (s_subP gd (xv 3) (xv 0) x_str) (ss_one (s_ret (x_mod (x_callT call_int1 opA_int rfl h_int bt_int (xa_cons (x_fdiv (xv 3) x_int) xa_nil)) (xv 1)))))))))))
abbrev N_law_mixed : List Str := ["source", "things", "rest", "lap"]
theorem sc_law_mixed : FnScope N_law_mixed ["source", "things"] (defScope (top 20)) := ⟨rfl, rfl, rfl, by decide +kernel, rfl, by decide +kernel, by decide +kernel⟩
theorem ok_law_mixed {f : Addr} {fd : FuncData} (F : FnP K "_law_mixed" (top 20) f fd) (h_list : mg "list" = none) (h_len : mg "len" = none) (h_range : mg "range" = none) (C_law_pick : Cal P w K mg base 1 "_law_pick" 2 [] f_law_pick) : FnG P w K mg base CX0 2 f fd ["source", "things"] (spG K V0 2 f_law_mixed) := by
  refine fnG_T F sc_law_mixed fun cdv A outer s H E hr => ?_
  have sc := sc_law_mixed
  have gd := hr.gd (X := cxOf CX0 P w K mg base N_law_mixed "_law_mixed" (defScope (top 20)) f cdv A outer s H E) rfl
  exact (ss_cons (s_asg (x_new (xf_list rfl h_list bt_list (xa_cons (xv 1) xa_nil))) (gn 2 sc.nd)) (ss_one (s_ret (x_frz (xf_lc (own := [("lap", 3)]) gd sc.nd (i_range1 rfl h_range (xa_cons (x_callB call_len opA_len rfl h_len bt_len (xa_cons (xv 2) xa_nil)) xa_nil)) (blkOk_by (N := N_law_mixed) (sc := defScope (top 20)) (by decide +kernel)) (fun _ _ _ _ _ => ⟨(gn 3 sc.nd), ts_nil, (x_m PySem.F.plainAttrs_list PySem.F.slot_list_pop PySem.F.type_list_pop mt_popAt opM_popAt (xv 2) (xa_cons (x_cal C_law_pick hr (by decide) rfl (xa_cons (xv 0) (xa_cons (x_callB call_len opA_len rfl h_len bt_len (xa_cons (xv 2) xa_nil)) xa_nil)) (.c (.c .n)) rfl) xa_nil))⟩))))))
abbrev N_law_of : List Str := ["source", "some"]
theorem sc_law_of : FnScope N_law_of ["source", "some"] (defScope (top 19)) := ⟨rfl, rfl, rfl, by decide +kernel, rfl, by decide +kernel, by decide +kernel⟩
theorem ok_law_of {f : Addr} {fd : FuncData} (F : FnP K "_law_of" (top 19) f fd) (h_len : mg "len" = none) (C_law_pick : Cal P w K mg base 1 "_law_pick" 2 [] f_law_pick) : FnG P w K mg base CX0 2 f fd ["source", "some"] (spG K V0 2 f_law_of) := by
  refine fnG_T F sc_law_of fun cdv A outer s H E hr => ?_
  have sc := sc_law_of
  have gd := hr.gd (X := cxOf CX0 P w K mg base N_law_of "_law_of" (defScope (top 19)) f cdv A outer s H E) rfl
  exact (ss_one (s_ret (x_sub' gd (xv 1) (x_cal C_law_pick hr (by decide) rfl (xa_cons (xv 0) (xa_cons (x_callB call_len opA_len rfl h_len bt_len (xa_cons (xv 1) xa_nil)) xa_nil)) (.c (.c .n)) rfl))))
abbrev N_law_hall : List Str := ["source", "least", "most", "n", "way", "lot", "rows", "a", "some", "b"]
theorem sc_law_hall : FnScope N_law_hall ["source", "least", "most"] (defScope (top 21)) := ⟨rfl, rfl, rfl, by decide +kernel, rfl, by decide +kernel, by decide +kernel⟩
theorem ok_law_hall {f : Addr} {fd : FuncData} (F : FnP K "_law_hall" (top 21) f fd) (h_range : mg "range" = none) (h_len : mg "len" = none) (h_tuple : mg "tuple" = none) (C_law_pick : Cal P w K mg base 1 "_law_pick" 2 [] f_law_pick) (C_law_mixed : Cal P w K mg base 2 "_law_mixed" 2 [] f_law_mixed) (C_law_of : Cal P w K mg base 2 "_law_of" 2 [] f_law_of) : FnG P w K mg base CX0 3 f fd ["source", "least", "most"] (spG K V0 3 f_law_hall) := by
  refine fnG_T F sc_law_hall fun cdv A outer s H E hr => ?_
  have sc := sc_law_hall
  have gd := hr.gd (X := cxOf CX0 P w K mg base N_law_hall "_law_hall" (defScope (top 21)) f cdv A outer s H E) rfl
  exact (ss_cons (s_pT gd (xa_cons (x_add (xv 1) (x_cal C_law_pick hr (by decide) rfl (xa_cons (xv 0) (xa_cons (x_add (x_sub (xv 2) (xv 1)) x_int) xa_nil)) (.c (.c .n)) rfl)) (xa_cons (x_cal C_law_pick hr (by decide) rfl (xa_cons (xv 0) (xa_cons x_int xa_nil)) (.c (.c .n)) rfl) xa_nil)) (gs_cons (gn 3 sc.nd) (gs_cons (gn 4 sc.nd) gs_nil))) (ss_cons (s_pT gd (xa_cons (x_frz (xf_lc (own := [("a", 7)]) gd sc.nd (i_range1 rfl h_range (xa_cons (xv 3) xa_nil)) (blkOk_by (N := N_law_hall) (sc := defScope (top 21)) (by decide +kernel)) (fun _ _ _ _ _ => ⟨(gn 7 sc.nd), (ts_one (t_c (c_eq gd.blk (x_cal C_law_pick hr (by decide) rfl (xa_cons (xv 0) (xa_cons x_int xa_nil)) (.c (.c .n)) rfl) x_int))), (xv 7)⟩))) (xa_cons (x_new (xf_disp xa_nil)) xa_nil)) (gs_cons (gn 5 sc.nd) (gs_cons (gn 6 sc.nd) gs_nil))) (ss_cons (s_for gd own_pass (i_range1 rfl h_range (xa_cons (xv 3) xa_nil)) (gn 7 sc.nd) (ss_cons (s_lcF (i := 8) (own := [("b", 9)]) gd sc.nd rfl rfl (sw_true rfl rfl rfl (by decide +kernel)) (i_range1 rfl h_range (xa_cons (xv 3) xa_nil)) (blkOk_by (N := N_law_hall) (sc := defScope (top 21)) (by decide +kernel)) (fun _ _ _ _ _ => ⟨(gn 9 sc.nd), (ts_one (PW.pt (t_and (t_c (c_ne gd.blk (xv 9) (xv 7))) (t_and1 (PW.pt (t_or (t_c (c_eq gd.blk (xv 4) x_int)) (t_or1 (t_c (c_ne gd.blk (x_c (c_in gd.blk (xv 7) (xv 5))) (x_c (c_in gd.blk (xv 9) (xv 5)))))))))))), (xv 9)⟩)) (ss_cons (s_asg (x_cal C_law_mixed hr (by decide) rfl (xa_cons (xv 0) (xa_cons (xv 8) xa_nil)) (.c (.c .n)) rfl) (gn 8 sc.nd)) (ss_one (s_expr (x_m PySem.F.plainAttrs_list PySem.F.slot_list_append PySem.F.type_list_append mt_append opM_append (xv 6) (xa_cons (x_callT call_tupleN opA_tuple rfl h_tuple bt_tuple (xa_cons (x_ite (t_c (c_gt (x_callB call_len opA_len rfl h_len bt_len (xa_cons (xv 8) xa_nil)) x_int)) (x_frz (xf_slice (xv 8) xo_none (xo_some (x_sub (x_callB call_len opA_len rfl h_len bt_len (xa_cons (xv 8) xa_nil)) (x_cal C_law_of hr (by decide) rfl (xa_cons (xv 0) (xa_cons (x_frz (xf_disp (xa_cons x_int (xa_cons x_int (xa_cons x_int (xa_cons x_int (xa_cons x_int xa_nil))))))) xa_nil)) (.c (.c .n)) rfl))))) (xv 8)) xa_nil)) xa_nil))))))) (ss_one (s_ret (x_tup (xa_cons (xv 3) (xa_cons (x_callT call_tupleN opA_tuple rfl h_tuple bt_tuple (xa_cons (xv 6) xa_nil)) xa_nil))))))))
abbrev N_law_want : List Str := ["hall", "a", "b"]
theorem sc_law_want : FnScope N_law_want ["hall", "a", "b"] (defScope (top 22)) := ⟨rfl, rfl, rfl, by decide +kernel, rfl, by decide +kernel, by decide +kernel⟩
theorem ok_law_want {f : Addr} {fd : FuncData} (F : FnP K "_law_want" (top 22) f fd)  : FnG P w K mg base CX0 1 f fd ["hall", "a", "b"] (spG K V0 3 f_law_want) := by
  refine fnG_T F sc_law_want fun cdv A outer s H E hr => ?_
  have sc := sc_law_want
  have gd := hr.gd (X := cxOf CX0 P w K mg base N_law_want "_law_want" (defScope (top 22)) f cdv A outer s H E) rfl
  exact (ss_one (s_ret (x_and (x_c (c_in gd (xv 2) (x_sub' gd (x_sub' gd (xv 0) x_int) (xv 1)))) (x_one (x_c (c_in gd (xv 1) (x_sub' gd (x_sub' gd (xv 0) x_int) (xv 2))))))))
abbrev N_law_partner : List Str := ["pairing", "a", "some", "x", "y"]
theorem sc_law_partner : FnScope N_law_partner ["pairing", "a"] (defScope (top 24)) := ⟨rfl, rfl, rfl, by decide +kernel, rfl, by decide +kernel, by decide +kernel⟩
theorem ok_law_partner {f : Addr} {fd : FuncData} (F : FnP K "_law_partner" (top 24) f fd)  : FnG P w K mg base CX0 1 f fd ["pairing", "a"] (spG K V0 2 f_law_partner) := by
  refine fnG_T F sc_law_partner fun cdv A outer s H E hr => ?_
  have sc := sc_law_partner
  have gd := hr.gd (X := cxOf CX0 P w K mg base N_law_partner "_law_partner" (defScope (top 24)) f cdv A outer s H E) rfl
  exact (ss_cons (s_lcF (i := 2) (own := [("x", 3), ("y", 4)]) gd sc.nd rfl rfl (sw_true rfl rfl rfl (by decide +kernel)) (i_seq (xv 0)) (blkOk_by (N := N_law_partner) (sc := defScope (top 24)) (by decide +kernel)) (fun _ _ _ _ _ => ⟨(g_tp gd.blk (gs_cons (gn 3 sc.nd) (gs_cons (gn 4 sc.nd) gs_nil))), (ts_one (t_c (c_in gd.blk (xv 1) (x_tup (xa_cons (xv 3) (xa_cons (xv 4) xa_nil)))))), (x_sub (x_add (xv 3) (xv 4)) (xv 1))⟩)) (ss_one (s_ret (x_ite (t_c (c_ne gd (xv 2) (x_frz (xf_disp xa_nil)))) (x_sub' gd (xv 2) x_int) x_non))))
abbrev N_law_pairings : List Str := ["hall", "found", "a", "b", "free", "one"]
theorem sc_law_pairings : FnScope N_law_pairings ["hall"] (defScope (top 26)) := ⟨rfl, rfl, rfl, by decide +kernel, rfl, by decide +kernel, by decide +kernel⟩
theorem ok_law_pairings {f : Addr} {fd : FuncData} (F : FnP K "_law_pairings" (top 26) f fd) (h_range : mg "range" = none) (h_sorted : mg "sorted" = none) (C_law_want : Cal P w K mg base 1 "_law_want" 3 [] f_law_want) (C_law_partner : Cal P w K mg base 1 "_law_partner" 2 [] f_law_partner) : FnG P w K mg base CX0 2 f fd ["hall"] (spG K V0 1 f_law_pairings) := by
  refine fnG_T F sc_law_pairings fun cdv A outer s H E hr => ?_
  have sc := sc_law_pairings
  have gd := hr.gd (X := cxOf CX0 P w K mg base N_law_pairings "_law_pairings" (defScope (top 26)) f cdv A outer s H E) rfl
  exact (ss_cons (s_asg (x_frz (xf_disp (xa_cons (x_tup xa_nil) xa_nil))) (gn 1 sc.nd)) (ss_cons (s_for gd own_pass (i_range1 rfl h_range (xa_cons (x_sub' gd (xv 0) x_int) xa_nil)) (gn 2 sc.nd) (ss_one (s_for gd own_pass (i_range2 rfl h_range (xa_cons (x_add (xv 2) x_int) (xa_cons (x_sub' gd (xv 0) x_int) xa_nil))) (gn 3 sc.nd) (ss_one (s_if (t_v (x_cal C_law_want hr (by decide) rfl (xa_cons (xv 0) (xa_cons (xv 2) (xa_cons (xv 3) xa_nil))) (.c (.c (.c .n))) rfl)) (ss_cons (s_lcF (i := 4) (own := [("one", 5)]) gd sc.nd rfl rfl (sw_true rfl rfl rfl (by decide +kernel)) (i_seq (xv 1)) (blkOk_by (N := N_law_pairings) (sc := defScope (top 26)) (by decide +kernel)) (fun _ _ _ _ _ => ⟨(gn 5 sc.nd), (ts_one (PW.pt (t_and (t_c (c_is (x_cal C_law_partner hr (by decide) rfl (xa_cons (xv 5) (xa_cons (xv 2) xa_nil)) (.c (.c .n)) rfl) x_non)) (t_and1 (t_c (c_is (x_cal C_law_partner hr (by decide) rfl (xa_cons (xv 5) (xa_cons (xv 3) xa_nil)) (.c (.c .n)) rfl) x_non)))))), (xv 5)⟩)) (ss_one (s_asg (x_frz (xf_cat (xv 1) (x_frz (xf_lc (own := [("one", 5)]) gd sc.nd (i_seq (xv 4)) (blkOk_by (N := N_law_pairings) (sc := defScope (top 26)) (by decide +kernel)) (fun _ _ _ _ _ => ⟨(gn 5 sc.nd), ts_nil, (x_add (xv 5) (x_tup (xa_cons (x_tup (xa_cons (xv 2) (xa_cons (xv 3) xa_nil))) xa_nil)))⟩))))) (gn 1 sc.nd)))) ss_nil))))) (ss_one (s_ret (x_frz (xf_sortG gd rfl h_sorted bt_sorted (xa_cons (xv 1) xa_nil)))))))
abbrev N_partner_of : List Str := ["pairing", "person", "some", "pair"]
theorem sc_partner_of : FnScope N_partner_of ["pairing", "person"] (defScope (top 10)) := ⟨rfl, rfl, rfl, by decide +kernel, rfl, by decide +kernel, by decide +kernel⟩
theorem ok_partner_of {f : Addr} {fd : FuncData} (F : FnP K "partner_of" (top 10) f fd) (h_sum : mg "sum" = none) : FnG P w K mg base CX0 1 f fd ["pairing", "person"] (spG K V0 2 f_partner_of) := by
  refine fnG_T F sc_partner_of fun cdv A outer s H E hr => ?_
  have sc := sc_partner_of
  have gd := hr.gd (X := cxOf CX0 P w K mg base N_partner_of "partner_of" (defScope (top 10)) f cdv A outer s H E) rfl
  exact (ss_cons (s_lcF (i := 2) (own := [("pair", 3)]) gd sc.nd rfl rfl (sw_true rfl rfl rfl (by decide +kernel)) (i_seq (xv 0)) (blkOk_by (N := N_partner_of) (sc := defScope (top 10)) (by decide +kernel)) (fun _ _ _ _ _ => ⟨(gn 3 sc.nd), (ts_one (t_c (c_in gd.blk (xv 1) (xv 3)))), (x_sub (x_callB ((cr_sum gd.blk.calm).or (cr_sumT gd.blk.calm)) opA_sum rfl h_sum bt_sum (xa_cons (xv 3) xa_nil)) (xv 1))⟩)) (ss_one (s_ret (x_ite (t_c (c_ne gd (xv 2) (x_frz (xf_disp xa_nil)))) (x_sub' gd (xv 2) x_int) x_non))))
abbrev N_do_want : List Str := ["hall", "a", "b"]
theorem sc_do_want : FnScope N_do_want ["hall", "a", "b"] (defScope (top 6)) := ⟨rfl, rfl, rfl, by decide +kernel, rfl, by decide +kernel, by decide +kernel⟩
theorem ok_do_want {f : Addr} {fd : FuncData} (F : FnP K "do_want" (top 6) f fd)  : FnG P w K mg base CX0 1 f fd ["hall", "a", "b"] (spG K V0 3 f_do_want) := by
  refine fnG_T F sc_do_want fun cdv A outer s H E hr => ?_
  have sc := sc_do_want
  have gd := hr.gd (X := cxOf CX0 P w K mg base N_do_want "do_want" (defScope (top 6)) f cdv A outer s H E) rfl
  exact (ss_one (s_ret (x_and (x_c (c_in gd (xv 2) (x_sub' gd (x_sub' gd (xv 0) x_int) (xv 1)))) (x_one (x_c (c_in gd (xv 1) (x_sub' gd (x_sub' gd (xv 0) x_int) (xv 2))))))))
abbrev N_all_pairings : List Str := ["hall", "found", "a", "late", "pairing", "free", "b"]
theorem sc_all_pairings : FnScope N_all_pairings ["hall"] (defScope (top 14)) := ⟨rfl, rfl, rfl, by decide +kernel, rfl, by decide +kernel, by decide +kernel⟩
theorem ok_all_pairings {f : Addr} {fd : FuncData} (F : FnP K "all_pairings" (top 14) f fd) (h_range : mg "range" = none) (h_sorted : mg "sorted" = none) (h_tuple : mg "tuple" = none) (C_partner_of : Cal P w K mg base 1 "partner_of" 2 [] f_partner_of) (C_do_want : Cal P w K mg base 1 "do_want" 3 [] f_do_want) : FnG P w K mg base CX0 2 f fd ["hall"] (spG K V0 1 f_all_pairings) := by
  refine fnG_T F sc_all_pairings fun cdv A outer s H E hr => ?_
  have sc := sc_all_pairings
  have gd := hr.gd (X := cxOf CX0 P w K mg base N_all_pairings "all_pairings" (defScope (top 14)) f cdv A outer s H E) rfl
  exact (ss_cons (s_asg (x_frz (xf_disp (xa_cons (x_tup xa_nil) xa_nil))) (gn 1 sc.nd)) (ss_cons (s_for gd own_pass (i_range1 rfl h_range (xa_cons (x_sub' gd (xv 0) x_int) xa_nil)) (gn 2 sc.nd) (ss_cons (s_asg (x_frz (xf_disp xa_nil)) (gn 3 sc.nd)) (ss_cons (s_for gd own_pass (i_seq (xv 1)) (gn 4 sc.nd) (ss_cons (s_lcF (i := 5) (own := [("b", 6)]) gd sc.nd rfl rfl (sw_true rfl rfl rfl (by decide +kernel)) (i_range2 rfl h_range (xa_cons (x_add (xv 2) x_int) (xa_cons (x_sub' gd (xv 0) x_int) xa_nil))) (blkOk_by (N := N_all_pairings) (sc := defScope (top 14)) (by decide +kernel)) (fun _ _ _ _ _ => ⟨(gn 6 sc.nd), (ts_one (PW.pt (t_and (t_v (x_cal C_do_want hr (by decide) rfl (xa_cons (xv 0) (xa_cons (xv 2) (xa_cons (xv 6) xa_nil))) (.c (.c (.c .n))) rfl)) (t_and1 (t_c (c_is (x_cal C_partner_of hr (by decide) rfl (xa_cons (xv 4) (xa_cons (xv 6) xa_nil)) (.c (.c .n)) rfl) x_non)))))), (xv 6)⟩)) (ss_one (s_if (t_c (c_is (x_cal C_partner_of hr (by decide) rfl (xa_cons (xv 4) (xa_cons (xv 2) xa_nil)) (.c (.c .n)) rfl) x_non)) (ss_one (s_asg (x_frz (xf_cat (xv 3) (x_frz (xf_lc (own := [("b", 6)]) gd sc.nd (i_seq (xv 5)) (blkOk_by (N := N_all_pairings) (sc := defScope (top 14)) (by decide +kernel)) (fun _ _ _ _ _ => ⟨(gn 6 sc.nd), ts_nil, (x_tup (xa_star (xv 4) (xa_cons (x_tup (xa_cons (xv 2) (xa_cons (xv 6) xa_nil))) xa_nil)))⟩))))) (gn 3 sc.nd))) ss_nil)))) (ss_one (s_asg (x_frz (xf_cat (xv 1) (xv 3))) (gn 1 sc.nd)))))) (ss_one (s_ret (x_callT call_tupleN opA_tuple rfl h_tuple bt_tuple (xa_cons (x_frz (xf_sortG gd rfl h_sorted bt_sorted (xa_cons (xv 1) xa_nil))) xa_nil))))))
abbrev N_law_rather : List Str := ["hall", "a", "b", "c", "row", "first"]
theorem sc_law_rather : FnScope N_law_rather ["hall", "a", "b", "c"] (defScope (top 23)) := ⟨rfl, rfl, rfl, by decide +kernel, rfl, by decide +kernel, by decide +kernel⟩
theorem ok_law_rather {f : Addr} {fd : FuncData} (F : FnP K "_law_rather" (top 23) f fd) (h_list : mg "list" = none) (h_len : mg "len" = none) : FnG P w K mg base CX0 1 f fd ["hall", "a", "b", "c"] (spG K V0 4 f_law_rather) := by
  refine fnG_T F sc_law_rather fun cdv A outer s H E hr => ?_
  have sc := sc_law_rather
  have gd := hr.gd (X := cxOf CX0 P w K mg base N_law_rather "_law_rather" (defScope (top 23)) f cdv A outer s H E) rfl
  exact (ss_cons (s_asg (x_frz (xf_cat (x_frz (xf_list rfl h_list bt_list (xa_cons (x_sub' gd (x_sub' gd (xv 0) x_int) (xv 1)) xa_nil))) (x_frz (xf_disp (xa_cons x_non xa_nil))))) (gn 4 sc.nd)) (ss_cons (s_asg (x_ite (t_c (c_in gd (xv 2) (xv 4))) (x_index (xv 4) (xa_cons (xv 2) xa_nil)) (x_callB call_len opA_len rfl h_len bt_len (xa_cons (xv 4) xa_nil))) (gn 5 sc.nd)) (ss_one (s_ret (x_c (c_lt (xv 5) (x_ite (t_c (c_in gd (xv 3) (xv 4))) (x_index (xv 4) (xa_cons (xv 3) xa_nil)) (x_callB call_len opA_len rfl h_len bt_len (xa_cons (xv 4) xa_nil)))))))))
abbrev N_law_breaking : List Str := ["hall", "pairing", "found", "a", "b"]
theorem sc_law_breaking : FnScope N_law_breaking ["hall", "pairing"] (defScope (top 25)) := ⟨rfl, rfl, rfl, by decide +kernel, rfl, by decide +kernel, by decide +kernel⟩
theorem ok_law_breaking {f : Addr} {fd : FuncData} (F : FnP K "_law_breaking" (top 25) f fd) (h_range : mg "range" = none) (h_int : mg "int" = none) (C_law_partner : Cal P w K mg base 1 "_law_partner" 2 [] f_law_partner) (C_law_rather : Cal P w K mg base 1 "_law_rather" 4 [] f_law_rather) (C_law_want : Cal P w K mg base 1 "_law_want" 3 [] f_law_want) : FnG P w K mg base CX0 2 f fd ["hall", "pairing"] (spG K V0 2 f_law_breaking) := by
  refine fnG_T F sc_law_breaking fun cdv A outer s H E hr => ?_
  have sc := sc_law_breaking
  have gd := hr.gd (X := cxOf CX0 P w K mg base N_law_breaking "_law_breaking" (defScope (top 25)) f cdv A outer s H E) rfl
  exact (ss_cons (s_asg (x_frz (xf_disp xa_nil)) (gn 2 sc.nd)) (ss_cons (s_for gd own_pass (i_range1 rfl h_range (xa_cons (x_sub' gd (xv 0) x_int) xa_nil)) (gn 3 sc.nd) (ss_one (s_for gd own_pass (i_range2 rfl h_range (xa_cons (x_add (xv 3) x_int) (xa_cons (x_sub' gd (xv 0) x_int) xa_nil))) (gn 4 sc.nd) (ss_one (s_if (PW.pt (t_and (t_v (x_cal C_law_want hr (by decide) rfl (xa_cons (xv 0) (xa_cons (xv 3) (xa_cons (xv 4) xa_nil))) (.c (.c (.c .n))) rfl)) (t_and1 (t_v (x_cal C_law_rather hr (by decide) rfl (xa_cons (xv 0) (xa_cons (xv 3) (xa_cons (xv 4) (xa_cons (x_cal C_law_partner hr (by decide) rfl (xa_cons (xv 1) (xa_cons (xv 3) xa_nil)) (.c (.c .n)) rfl) xa_nil)))) (.c (.c (.c (.c .n)))) rfl))))) (ss_one (s_asg (x_frz (xf_cat (xv 2) (x_frz (xf_rep (x_frz (xf_disp (xa_cons (x_tup (xa_cons (xv 3) (xa_cons (xv 4) xa_nil))) xa_nil))) (x_callT call_int1 opA_int rfl h_int bt_int (xa_cons (x_cal C_law_rather hr (by decide) rfl (xa_cons (xv 0) (xa_cons (xv 4) (xa_cons (xv 3) (xa_cons (x_cal C_law_partner hr (by decide) rfl (xa_cons (xv 1) (xa_cons (xv 4) xa_nil)) (.c (.c .n)) rfl) xa_nil)))) (.c (.c (.c (.c .n)))) rfl) xa_nil)))))) (gn 2 sc.nd))) ss_nil))))) (ss_one (s_ret (xv 2)))))
abbrev N_has_rather : List Str := ["hall", "a", "b", "c", "row"]
theorem sc_has_rather : FnScope N_has_rather ["hall", "a", "b", "c"] (defScope (top 8)) := ⟨rfl, rfl, rfl, by decide +kernel, rfl, by decide +kernel, by decide +kernel⟩
theorem ok_has_rather {f : Addr} {fd : FuncData} (F : FnP K "has_rather" (top 8) f fd)  : FnG P w K mg base CX0 1 f fd ["hall", "a", "b", "c"] (spG K V0 4 f_has_rather) := by
  refine fnG_T F sc_has_rather fun cdv A outer s H E hr => ?_
  have sc := sc_has_rather
  have gd := hr.gd (X := cxOf CX0 P w K mg base N_has_rather "has_rather" (defScope (top 8)) f cdv A outer s H E) rfl
  exact (ss_cons (s_asg (x_sub' gd (x_sub' gd (xv 0) x_int) (xv 1)) (gn 4 sc.nd)) (ss_cons (s_if (t_c (c_notIn gd (xv 2) (xv 4))) (ss_one (s_ret (x_and (x_c (c_is (xv 2) x_non)) (x_and (x_c (c_isNot (xv 3) x_non)) (x_one (x_c (c_notIn gd (xv 3) (xv 4)))))))) ss_nil) (ss_one (s_ret (x_or (x_c (c_notIn gd (xv 3) (xv 4))) (x_one (x_c (c_lt (x_index (xv 4) (xa_cons (xv 2) xa_nil)) (x_index (xv 4) (xa_cons (xv 3) xa_nil))))))))))
abbrev N_does_break : List Str := ["hall", "pairing", "a", "b"]
theorem sc_does_break : FnScope N_does_break ["hall", "pairing", "a", "b"] (defScope (top 11)) := ⟨rfl, rfl, rfl, by decide +kernel, rfl, by decide +kernel, by decide +kernel⟩
theorem ok_does_break {f : Addr} {fd : FuncData} (F : FnP K "does_break" (top 11) f fd)  (C_partner_of : Cal P w K mg base 1 "partner_of" 2 [] f_partner_of) (C_has_rather : Cal P w K mg base 1 "has_rather" 4 [] f_has_rather) : FnG P w K mg base CX0 2 f fd ["hall", "pairing", "a", "b"] (spG K V0 4 f_does_break) := by
  refine fnG_T F sc_does_break fun cdv A outer s H E hr => ?_
  have sc := sc_does_break
  have gd := hr.gd (X := cxOf CX0 P w K mg base N_does_break "does_break" (defScope (top 11)) f cdv A outer s H E) rfl
  exact (ss_one (s_ret (x_and (x_cal C_has_rather hr (by decide) rfl (xa_cons (xv 0) (xa_cons (xv 2) (xa_cons (xv 3) (xa_cons (x_cal C_partner_of hr (by decide) rfl (xa_cons (xv 1) (xa_cons (xv 2) xa_nil)) (.c (.c .n)) rfl) xa_nil)))) (.c (.c (.c (.c .n)))) rfl) (x_one (x_cal C_has_rather hr (by decide) rfl (xa_cons (xv 0) (xa_cons (xv 3) (xa_cons (xv 2) (xa_cons (x_cal C_partner_of hr (by decide) rfl (xa_cons (xv 1) (xa_cons (xv 3) xa_nil)) (.c (.c .n)) rfl) xa_nil)))) (.c (.c (.c (.c .n)))) rfl)))))
abbrev N_breaking_pairs : List Str := ["hall", "pairing", "found", "a", "some", "b"]
theorem sc_breaking_pairs : FnScope N_breaking_pairs ["hall", "pairing"] (defScope (top 12)) := ⟨rfl, rfl, rfl, by decide +kernel, rfl, by decide +kernel, by decide +kernel⟩
theorem ok_breaking_pairs {f : Addr} {fd : FuncData} (F : FnP K "breaking_pairs" (top 12) f fd) (h_range : mg "range" = none) (h_tuple : mg "tuple" = none) (C_do_want : Cal P w K mg base 1 "do_want" 3 [] f_do_want) (C_does_break : Cal P w K mg base 2 "does_break" 4 [] f_does_break) : FnG P w K mg base CX0 3 f fd ["hall", "pairing"] (spG K V0 2 f_breaking_pairs) := by
  refine fnG_T F sc_breaking_pairs fun cdv A outer s H E hr => ?_
  have sc := sc_breaking_pairs
  have gd := hr.gd (X := cxOf CX0 P w K mg base N_breaking_pairs "breaking_pairs" (defScope (top 12)) f cdv A outer s H E) rfl
  exact (ss_cons (s_asg (x_frz (xf_disp xa_nil)) (gn 2 sc.nd)) (ss_cons (s_for gd own_pass (i_range1 rfl h_range (xa_cons (x_sub' gd (xv 0) x_int) xa_nil)) (gn 3 sc.nd) (ss_cons (s_lcF (i := 4) (own := [("b", 5)]) gd sc.nd rfl rfl (sw_true rfl rfl rfl (by decide +kernel)) (i_range2 rfl h_range (xa_cons (x_add (xv 3) x_int) (xa_cons (x_sub' gd (xv 0) x_int) xa_nil))) (blkOk_by (N := N_breaking_pairs) (sc := defScope (top 12)) (by decide +kernel)) (fun _ _ _ _ _ => ⟨(gn 5 sc.nd), (ts_one (t_v (x_cal C_do_want hr (by decide) rfl (xa_cons (xv 0) (xa_cons (xv 3) (xa_cons (xv 5) xa_nil))) (.c (.c (.c .n))) rfl))), (xv 5)⟩)) (ss_one (s_asg (x_frz (xf_cat (xv 2) (x_frz (xf_lc (own := [("b", 5)]) gd sc.nd (i_seq (xv 4)) (blkOk_by (N := N_breaking_pairs) (sc := defScope (top 12)) (by decide +kernel)) (fun _ _ _ _ _ => ⟨(gn 5 sc.nd), (ts_one (t_v (x_cal C_does_break hr (by decide) rfl (xa_cons (xv 0) (xa_cons (xv 1) (xa_cons (xv 3) (xa_cons (xv 5) xa_nil)))) (.c (.c (.c (.c .n)))) rfl))), (x_tup (xa_cons (xv 3) (xa_cons (xv 5) xa_nil)))⟩))))) (gn 2 sc.nd))))) (ss_one (s_ret (x_callT call_tupleN opA_tuple rfl h_tuple bt_tuple (xa_cons (xv 2) xa_nil))))))
abbrev N_is_unbroken : List Str := ["hall", "pairing"]
theorem sc_is_unbroken : FnScope N_is_unbroken ["hall", "pairing"] (defScope (top 13)) := ⟨rfl, rfl, rfl, by decide +kernel, rfl, by decide +kernel, by decide +kernel⟩
theorem ok_is_unbroken {f : Addr} {fd : FuncData} (F : FnP K "is_unbroken" (top 13) f fd)  (C_breaking_pairs : Cal P w K mg base 3 "breaking_pairs" 2 [] f_breaking_pairs) : FnG P w K mg base CX0 4 f fd ["hall", "pairing"] (spG K V0 2 f_is_unbroken) := by
  refine fnG_T F sc_is_unbroken fun cdv A outer s H E hr => ?_
  have sc := sc_is_unbroken
  have gd := hr.gd (X := cxOf CX0 P w K mg base N_is_unbroken "is_unbroken" (defScope (top 13)) f cdv A outer s H E) rfl
  exact (ss_one (s_ret (x_c (c_eq gd (x_cal C_breaking_pairs hr (by decide) rfl (xa_cons (xv 0) (xa_cons (xv 1) xa_nil)) (.c (.c .n)) rfl) (x_tup xa_nil)))))
abbrev N_is_number : List Str := ["value"]
theorem sc_is_number : FnScope N_is_number ["value"] (defScope (top 5)) := ⟨rfl, rfl, rfl, by decide +kernel, rfl, by decide +kernel, by decide +kernel⟩
theorem ok_is_number {f : Addr} {fd : FuncData} (F : FnP K "is_number" (top 5) f fd) (h_isinstance : mg "isinstance" = none) (h_bool : mg "bool" = none) (h_int : mg "int" = none) : FnG P w K mg base CX0 1 f fd ["value"] (spG K V0 1 f_is_number) := by
  refine fnG_T F sc_is_number fun cdv A outer s H E hr => ?_
  have sc := sc_is_number
  have gd := hr.gd (X := cxOf CX0 P w K mg base N_is_number "is_number" (defScope (top 5)) f cdv A outer s H E) rfl
  exact (ss_one (s_ret (x_and (x_isi "int" rfl h_isinstance rfl h_int bt_int (xv 0)) (x_and (x_not (x_isi "bool" rfl h_isinstance rfl h_bool bt_bool (xv 0))) (x_one (x_c (c_ge (xv 0) x_int)))))))
abbrev N_place_in : List Str := ["hall", "a", "b", "row"]
theorem sc_place_in : FnScope N_place_in ["hall", "a", "b"] (defScope (top 7)) := ⟨rfl, rfl, rfl, by decide +kernel, rfl, by decide +kernel, by decide +kernel⟩
theorem ok_place_in {f : Addr} {fd : FuncData} (F : FnP K "place_in" (top 7) f fd) (h_len : mg "len" = none) (C_is_number : Cal P w K mg base 1 "is_number" 1 [] f_is_number) : FnG P w K mg base CX0 2 f fd ["hall", "a", "b"] (spG K V0 3 f_place_in) := by
  refine fnG_T F sc_place_in fun cdv A outer s H E hr => ?_
  have sc := sc_place_in
  have gd := hr.gd (X := cxOf CX0 P w K mg base N_place_in "place_in" (defScope (top 7)) f cdv A outer s H E) rfl
  exact (ss_cons (s_asg (x_sub' gd (x_sub' gd (xv 0) x_int) (xv 1)) (gn 3 sc.nd)) (ss_cons (s_if (t_c (c_is (xv 2) x_non)) (ss_one (s_ret (x_callB call_len opA_len rfl h_len bt_len (xa_cons (xv 3) xa_nil)))) ss_nil) (ss_cons (s_if (PW.pt (t_or (t_not (t_v (x_cal C_is_number hr (by decide) rfl (xa_cons (xv 2) xa_nil) (.c .n) rfl))) (t_or1 (t_c (c_notIn gd (xv 2) (xv 3)))))) (ss_one s_dead) ss_nil) (ss_one (s_ret (x_index (xv 3) (xa_cons (xv 2) xa_nil)))))))
abbrev N_who_likes_better : List Str := ["hall", "one", "other", "some", "a", "b", "c"]
theorem sc_who_likes_better : FnScope N_who_likes_better ["hall", "one", "other"] (defScope (top 15)) := ⟨rfl, rfl, rfl, by decide +kernel, rfl, by decide +kernel, by decide +kernel⟩
theorem ok_who_likes_better {f : Addr} {fd : FuncData} (F : FnP K "who_likes_better" (top 15) f fd) (h_range : mg "range" = none) (h_tuple : mg "tuple" = none) (C_partner_of : Cal P w K mg base 1 "partner_of" 2 [] f_partner_of) (C_has_rather : Cal P w K mg base 1 "has_rather" 4 [] f_has_rather) : FnG P w K mg base CX0 2 f fd ["hall", "one", "other"] (spG K V0 3 f_who_likes_better) := by
  refine fnG_T F sc_who_likes_better fun cdv A outer s H E hr => ?_
  have sc := sc_who_likes_better
  have gd := hr.gd (X := cxOf CX0 P w K mg base N_who_likes_better "who_likes_better" (defScope (top 15)) f cdv A outer s H E) rfl
  exact (ss_cons (s_lcF (i := 3) (own := [("a", 4)]) gd sc.nd rfl rfl (sw_true rfl rfl rfl (by decide +kernel)) (i_range1 rfl h_range (xa_cons (x_sub' gd (xv 0) x_int) xa_nil)) (blkOk_by (N := N_who_likes_better) (sc := defScope (top 15)) (by decide +kernel)) (fun _ _ _ _ _ => ⟨(gn 4 sc.nd), ts_nil, (x_tup (xa_cons (xv 4) (xa_cons (x_cal C_partner_of hr (by decide) rfl (xa_cons (xv 1) (xa_cons (xv 4) xa_nil)) (.c (.c .n)) rfl) (xa_cons (x_cal C_partner_of hr (by decide) rfl (xa_cons (xv 2) (xa_cons (xv 4) xa_nil)) (.c (.c .n)) rfl) xa_nil))))⟩)) (ss_one (s_ret (x_callT call_tupleN opA_tuple rfl h_tuple bt_tuple (xa_cons (x_frz (xf_lc (own := [("a", 4), ("b", 5), ("c", 6)]) gd sc.nd (i_seq (xv 3)) (blkOk_by (N := N_who_likes_better) (sc := defScope (top 15)) (by decide +kernel)) (fun _ _ _ _ _ => ⟨(g_tp gd.blk (gs_cons (gn 4 sc.nd) (gs_cons (gn 5 sc.nd) (gs_cons (gn 6 sc.nd) gs_nil)))), (ts_one (t_v (x_cal C_has_rather hr (by decide) rfl (xa_cons (xv 0) (xa_cons (xv 4) (xa_cons (xv 5) (xa_cons (xv 6) xa_nil)))) (.c (.c (.c (.c .n)))) rfl))), (xv 4)⟩))) xa_nil)))))
abbrev N_law : List Str := ["script", "source", "lap", "hall", "n", "held", "every", "good", "one", "alone", "a", "b", "turn", "other", "glad", "ring"]
theorem sc_law : FnScope N_law ["script"] (defScope (top 28)) := ⟨rfl, rfl, rfl, by decide +kernel, rfl, by decide +kernel, by decide +kernel⟩
theorem ok_law {f : Addr} {fd : FuncData} (F : FnP K "law" (top 28) f fd) (h_range : mg "range" = none) (h_repr : mg "repr" = none) (h_tuple : mg "tuple" = none) (C_law_source : Cal P w K mg base 1 "_law_source" 1 [] f_law_source) (C_law_hall : Cal P w K mg base 3 "_law_hall" 3 [] f_law_hall) (C_law_pairings : Cal P w K mg base 2 "_law_pairings" 1 [] f_law_pairings) (C_all_pairings : Cal P w K mg base 2 "all_pairings" 1 [] f_all_pairings) (C_law_breaking : Cal P w K mg base 2 "_law_breaking" 2 [] f_law_breaking) (C_is_unbroken : Cal P w K mg base 4 "is_unbroken" 2 [] f_is_unbroken) (C_partner_of : Cal P w K mg base 1 "partner_of" 2 [] f_partner_of) (C_do_want : Cal P w K mg base 1 "do_want" 3 [] f_do_want) (C_law_of : Cal P w K mg base 2 "_law_of" 2 [] f_law_of) (C_place_in : Cal P w K mg base 2 "place_in" 3 [] f_place_in) (C_who_likes_better : Cal P w K mg base 2 "who_likes_better" 3 [] f_who_likes_better) : FnG P w K mg base CX0 5 f fd ["script"] (spG K V0 1 f_law) := by
  refine fnG_T F sc_law fun cdv A outer s H E hr => ?_
  have sc := sc_law
  have gd := hr.gd (X := cxOf CX0 P w K mg base N_law "law" (defScope (top 28)) f cdv A outer s H E) rfl
  exact (ss_cons (s_asg (x_cal C_law_source hr (by decide) rfl (xa_cons (xv 0) xa_nil) (.c .n) rfl) (gn 1 sc.nd)) (ss_cons (s_for gd own_pass (i_range1 rfl h_range (xa_cons x_int xa_nil)) (gn 2 sc.nd) (ss_cons (s_asg (x_cal C_law_hall hr (by decide) rfl (xa_cons (xv 1) (xa_cons x_int (xa_cons x_int xa_nil))) (.c (.c (.c .n))) rfl) (gn 3 sc.nd)) (ss_cons (s_p3 gd sc.nd (xa_cons (x_sub' gd (xv 3) x_int) (xa_cons (x_callB (((call_reprN gd).or (call_reprK gd)).or (call_reprM gd)) opA_reprM rfl h_repr bt_repr (xa_cons (xv 3) xa_nil)) (xa_cons (x_cal C_law_pairings hr (by decide) rfl (xa_cons (xv 3) xa_nil) (.c .n) rfl) xa_nil)))) (ss_cons (s_if (t_c (c_ne gd (x_callB (((call_reprN gd).or (call_reprK gd)).or (call_reprM gd)) opA_reprM rfl h_repr bt_repr (xa_cons (x_cal C_all_pairings hr (by decide) rfl (xa_cons (xv 3) xa_nil) (.c .n) rfl) xa_nil)) (x_callB (((call_reprN gd).or (call_reprK gd)).or (call_reprM gd)) opA_reprM rfl h_repr bt_repr (xa_cons (x_callT call_tupleN opA_tuple rfl h_tuple bt_tuple (xa_cons (xv 6) xa_nil)) xa_nil)))) (ss_one (s_ret x_bl)) ss_nil) (ss_cons (s_lcF (i := 7) (own := [("one", 8)]) gd sc.nd rfl rfl (sw_true rfl rfl rfl (by decide +kernel)) (i_seq (xv 6)) (blkOk_by (N := N_law) (sc := defScope (top 28)) (by decide +kernel)) (fun _ _ _ _ _ => ⟨(gn 8 sc.nd), (ts_one (t_c (c_eq gd.blk (x_cal C_law_breaking hr (by decide) rfl (xa_cons (xv 3) (xa_cons (xv 8) xa_nil)) (.c (.c .n)) rfl) (x_frz (xf_disp xa_nil))))), (xv 8)⟩)) (ss_cons (s_if (t_c (c_ne gd (x_frz (xf_lc (own := [("one", 8)]) gd sc.nd (i_seq (xv 6)) (blkOk_by (N := N_law) (sc := defScope (top 28)) (by decide +kernel)) (fun _ _ _ _ _ => ⟨(gn 8 sc.nd), (ts_one (t_v (x_cal C_is_unbroken hr (by decide) rfl (xa_cons (xv 3) (xa_cons (xv 8) xa_nil)) (.c (.c .n)) rfl))), (xv 8)⟩))) (xv 7))) (ss_one (s_ret x_bl)) ss_nil) (ss_cons (s_for gd own_pass (i_seq (xv 7)) (gn 8 sc.nd) (ss_cons (s_asg (x_frz (xf_lc (own := [("a", 10)]) gd sc.nd (i_range1 rfl h_range (xa_cons (xv 4) xa_nil)) (blkOk_by (N := N_law) (sc := defScope (top 28)) (by decide +kernel)) (fun _ _ _ _ _ => ⟨(gn 10 sc.nd), (ts_one (t_c (c_is (x_cal C_partner_of hr (by decide) rfl (xa_cons (xv 8) (xa_cons (xv 10) xa_nil)) (.c (.c .n)) rfl) x_non))), (xv 10)⟩))) (gn 9 sc.nd)) (ss_one (s_if (t_c (c_ne gd (x_frz (xf_lc (own := [("a", 10)]) gd sc.nd (i_seq (xv 9)) (blkOk_by (N := N_law) (sc := defScope (top 28)) (by decide +kernel)) (fun _ _ _ _ _ => ⟨(gn 10 sc.nd), (ts_one (t_c (c_ne gd.blk (x_frz (xf_lc (own := [("b", 11)]) gd.blk sc.nd (i_seq (xv 9)) (blkOk_by (by kernel_rfl)) (fun _ _ _ _ _ => ⟨(gn 11 sc.nd), (ts_one (PW.pt (t_and (t_c (c_ne gd.blk.blk (xv 11) (xv 10))) (t_and1 (t_v (x_cal C_do_want hr (by decide) rfl (xa_cons (xv 3) (xa_cons (xv 10) (xa_cons (xv 11) xa_nil))) (.c (.c (.c .n))) rfl)))))), (xv 11)⟩))) (x_frz (xf_disp xa_nil))))), (xv 10)⟩))) (x_frz (xf_disp xa_nil)))) (ss_one (s_ret x_bl)) ss_nil)))) (ss_cons (s_for gd own_pass (i_range1 rfl h_range (xa_cons x_int xa_nil)) (gn 12 sc.nd) (ss_cons (s_pT gd (xa_cons (x_cal C_law_of hr (by decide) rfl (xa_cons (xv 1) (xa_cons (xv 6) xa_nil)) (.c (.c .n)) rfl) (xa_cons (x_cal C_law_of hr (by decide) rfl (xa_cons (xv 1) (xa_cons (xv 6) xa_nil)) (.c (.c .n)) rfl) xa_nil)) (gs_cons (gn 8 sc.nd) (gs_cons (gn 13 sc.nd) gs_nil))) (ss_cons (s_asg (x_new (xf_disp xa_nil)) (gn 14 sc.nd)) (ss_cons (s_for gd own_pass (i_range1 rfl h_range (xa_cons (xv 4) xa_nil)) (gn 10 sc.nd) (ss_one (s_if (t_c (c_lt (x_cal C_place_in hr (by decide) rfl (xa_cons (xv 3) (xa_cons (xv 10) (xa_cons (x_cal C_partner_of hr (by decide) rfl (xa_cons (xv 8) (xa_cons (xv 10) xa_nil)) (.c (.c .n)) rfl) xa_nil))) (.c (.c (.c .n))) rfl) (x_cal C_place_in hr (by decide) rfl (xa_cons (xv 3) (xa_cons (xv 10) (xa_cons (x_cal C_partner_of hr (by decide) rfl (xa_cons (xv 13) (xa_cons (xv 10) xa_nil)) (.c (.c .n)) rfl) xa_nil))) (.c (.c (.c .n))) rfl))) (ss_one (s_expr (x_m PySem.F.plainAttrs_list PySem.F.slot_list_append PySem.F.type_list_append mt_append opM_append (xv 14) (xa_cons (xv 10) xa_nil)))) ss_nil))) (ss_one (s_if (PW.pt (t_or (t_c (c_ne gd (x_callB (((call_reprN gd).or (call_reprK gd)).or (call_reprM gd)) opA_reprM rfl h_repr bt_repr (xa_cons (x_cal C_who_likes_better hr (by decide) rfl (xa_cons (xv 3) (xa_cons (xv 8) (xa_cons (xv 13) xa_nil))) (.c (.c (.c .n))) rfl) xa_nil)) (x_callB (((call_reprN gd).or (call_reprK gd)).or (call_reprM gd)) opA_reprM rfl h_repr bt_repr (xa_cons (x_callT call_tupleN opA_tuple rfl h_tuple bt_tuple (xa_cons (xv 14) xa_nil)) xa_nil)))) (t_or1 (t_c (c_ne gd (x_cal C_who_likes_better hr (by decide) rfl (xa_cons (xv 3) (xa_cons (xv 8) (xa_cons (xv 8) xa_nil))) (.c (.c (.c .n))) rfl) (x_tup xa_nil)))))) (ss_one (s_ret x_bl)) ss_nil)))))) (ss_one (s_if (t_c (c_ne gd (x_callB (((call_reprN gd).or (call_reprK gd)).or (call_reprM gd)) opA_reprM rfl h_repr bt_repr (xa_cons (xv 3) xa_nil)) (xv 5))) (ss_one (s_ret x_bl)) ss_nil)))))))))) (ss_cons (s_asg (x_tup (xa_cons x_int (xa_cons (x_tup (xa_cons (x_tup (xa_cons x_int (xa_cons x_int xa_nil))) (xa_cons (x_tup (xa_cons x_int (xa_cons x_int xa_nil))) (xa_cons (x_tup (xa_cons x_int (xa_cons x_int xa_nil))) xa_nil)))) xa_nil))) (gn 15 sc.nd)) (ss_one (s_ret (x_c (c_eq gd (x_frz (xf_lc (own := [("one", 8)]) gd sc.nd (i_seq (x_cal C_all_pairings hr (by decide) rfl (xa_cons (xv 15) xa_nil) (.c .n) rfl)) (blkOk_by (N := N_law) (sc := defScope (top 28)) (by decide +kernel)) (fun _ _ _ _ _ => ⟨(gn 8 sc.nd), ts_nil, (x_cal C_is_unbroken hr (by decide) rfl (xa_cons (xv 15) (xa_cons (xv 8) xa_nil)) (.c (.c .n)) rfl)⟩))) (x_frz (xf_rep (x_frz (xf_disp (xa_cons x_bl xa_nil))) x_int)))))))))
end
def d_law_source : He.DefD := ⟨("_law_source", none), "_law_source", "_law_source", defArgs (top 17), defBody (top 17), defScope (top 17), [], []⟩
def d_law_pick : He.DefD := ⟨("_law_pick", none), "_law_pick", "_law_pick", defArgs (top 18), defBody (top 18), defScope (top 18), [], []⟩
def d_law_mixed : He.DefD := ⟨("_law_mixed", none), "_law_mixed", "_law_mixed", defArgs (top 20), defBody (top 20), defScope (top 20), [], []⟩
def d_law_of : He.DefD := ⟨("_law_of", none), "_law_of", "_law_of", defArgs (top 19), defBody (top 19), defScope (top 19), [], []⟩
def d_law_hall : He.DefD := ⟨("_law_hall", none), "_law_hall", "_law_hall", defArgs (top 21), defBody (top 21), defScope (top 21), [], []⟩
def d_law_want : He.DefD := ⟨("_law_want", none), "_law_want", "_law_want", defArgs (top 22), defBody (top 22), defScope (top 22), [], []⟩
def d_law_partner : He.DefD := ⟨("_law_partner", none), "_law_partner", "_law_partner", defArgs (top 24), defBody (top 24), defScope (top 24), [], []⟩
def d_law_pairings : He.DefD := ⟨("_law_pairings", none), "_law_pairings", "_law_pairings", defArgs (top 26), defBody (top 26), defScope (top 26), [], []⟩
def d_partner_of : He.DefD := ⟨("partner_of", none), "partner_of", "partner_of", defArgs (top 10), defBody (top 10), defScope (top 10), [], []⟩
def d_do_want : He.DefD := ⟨("do_want", none), "do_want", "do_want", defArgs (top 6), defBody (top 6), defScope (top 6), [], []⟩
def d_all_pairings : He.DefD := ⟨("all_pairings", none), "all_pairings", "all_pairings", defArgs (top 14), defBody (top 14), defScope (top 14), [], []⟩
def d_law_rather : He.DefD := ⟨("_law_rather", none), "_law_rather", "_law_rather", defArgs (top 23), defBody (top 23), defScope (top 23), [], []⟩
def d_law_breaking : He.DefD := ⟨("_law_breaking", none), "_law_breaking", "_law_breaking", defArgs (top 25), defBody (top 25), defScope (top 25), [], []⟩
def d_has_rather : He.DefD := ⟨("has_rather", none), "has_rather", "has_rather", defArgs (top 8), defBody (top 8), defScope (top 8), [], []⟩
def d_does_break : He.DefD := ⟨("does_break", none), "does_break", "does_break", defArgs (top 11), defBody (top 11), defScope (top 11), [], []⟩
def d_breaking_pairs : He.DefD := ⟨("breaking_pairs", none), "breaking_pairs", "breaking_pairs", defArgs (top 12), defBody (top 12), defScope (top 12), [], []⟩
def d_is_unbroken : He.DefD := ⟨("is_unbroken", none), "is_unbroken", "is_unbroken", defArgs (top 13), defBody (top 13), defScope (top 13), [], []⟩
def d_is_number : He.DefD := ⟨("is_number", none), "is_number", "is_number", defArgs (top 5), defBody (top 5), defScope (top 5), [], []⟩
def d_place_in : He.DefD := ⟨("place_in", none), "place_in", "place_in", defArgs (top 7), defBody (top 7), defScope (top 7), [], []⟩
def d_who_likes_better : He.DefD := ⟨("who_likes_better", none), "who_likes_better", "who_likes_better", defArgs (top 15), defBody (top 15), defScope (top 15), [], []⟩
def d_law : He.DefD := ⟨("law", none), "law", "law", defArgs (top 28), defBody (top 28), defScope (top 28), [], []⟩
def fn : List He.DefD := [d_law_source, d_law_pick, d_law_mixed, d_law_of, d_law_hall, d_law_want, d_law_partner, d_law_pairings, d_partner_of, d_do_want, d_all_pairings, d_law_rather, d_law_breaking, d_has_rather, d_does_break, d_breaking_pairs, d_is_unbroken, d_is_number, d_place_in, d_who_likes_better, d_law]
def fa : List He.Fa := [.glo "_law_source", .glo "_law_pick", .glo "_law_mixed", .glo "_law_of", .glo "_law_hall", .glo "_law_want", .glo "_law_partner", .glo "_law_pairings", .glo "partner_of", .glo "do_want", .glo "all_pairings", .glo "_law_rather", .glo "_law_breaking", .glo "has_rather", .glo "does_break", .glo "breaking_pairs", .glo "is_unbroken", .glo "is_number", .glo "place_in", .glo "who_likes_better", .glo "law", .free "int", .free "abs", .free "len", .free "max", .free "list", .free "range", .free "tuple", .free "sorted", .free "sum", .free "isinstance", .free "bool", .free "repr"]
abbrev R : PySem.W.OpenRow := PySem.W.OpenLaw.row PySem.Challenge.rw_pairsandprices_k04_whole_pairings_of_sma
abbrev hk : PySem.W.Hook := He.hookD 4 fa fn
def ob (s : PySem.W.SharedT) : He.AlD := He.obsDG 4 fa fn (HandSHeadRun.getT s)
theorem ob_eq (s : PySem.W.SharedT) : ob s = hk.obs s.abs := He.obsDG_eq (HandSHeadRun.getT_eq s)
abbrev lo : List PySem.Str := ["NameMissing", "UnknownPerson", "copied", "is_number", "do_want", "place_in", "has_rather", "partner_of", "does_break", "breaking_pairs", "is_unbroken", "all_pairings", "who_likes_better", "_law_source", "_law_pick", "_law_of", "_law_mixed", "_law_hall", "_law_want", "_law_rather", "_law_partner", "_law_breaking", "_law_pairings", "_law_pairing"]
theorem run (w : World) : HandSHeadRun.RunEq R (PySem.W.view R.prog [28]) hk ob 1780 lo w := by
  intro os
  kernel_rfl
theorem facts {P : Program} {w : World} {K : PySem.W.Frag} {h : Heap} {mg : Str → Option Value} {f : Addr} (X : K.In h) (G : h.Ns mainGlobals mg) (hfa : mg ("law" : Str) = some (.ref f)) (c : He.SaysD fa fn K) :
    ∃ fd : FuncData, (∀ (s : Shared) (v : Value), BindsTo s fd ⟨[v], []⟩ [("script", v)]) ∧ ∀ base : Heap, K.In base → base.Ns mainGlobals mg → FnG P w K mg base CX0 5 f fd ["script"] (spG K V0 1 f_law) := by
  obtain ⟨fd0, F0⟩ := c.def_ 0 (d := d_law_source) rfl
  have m0 := He.glo_ok X G (c.fact 0 (f := .glo "_law_source") rfl)
  obtain ⟨fd1, F1⟩ := c.def_ 1 (d := d_law_pick) rfl
  have m1 := He.glo_ok X G (c.fact 1 (f := .glo "_law_pick") rfl)
  obtain ⟨fd2, F2⟩ := c.def_ 2 (d := d_law_mixed) rfl
  have m2 := He.glo_ok X G (c.fact 2 (f := .glo "_law_mixed") rfl)
  obtain ⟨fd3, F3⟩ := c.def_ 3 (d := d_law_of) rfl
  have m3 := He.glo_ok X G (c.fact 3 (f := .glo "_law_of") rfl)
  obtain ⟨fd4, F4⟩ := c.def_ 4 (d := d_law_hall) rfl
  have m4 := He.glo_ok X G (c.fact 4 (f := .glo "_law_hall") rfl)
  obtain ⟨fd5, F5⟩ := c.def_ 5 (d := d_law_want) rfl
  have m5 := He.glo_ok X G (c.fact 5 (f := .glo "_law_want") rfl)
  obtain ⟨fd6, F6⟩ := c.def_ 6 (d := d_law_partner) rfl
  have m6 := He.glo_ok X G (c.fact 6 (f := .glo "_law_partner") rfl)
  obtain ⟨fd7, F7⟩ := c.def_ 7 (d := d_law_pairings) rfl
  have m7 := He.glo_ok X G (c.fact 7 (f := .glo "_law_pairings") rfl)
  obtain ⟨fd8, F8⟩ := c.def_ 8 (d := d_partner_of) rfl
  have m8 := He.glo_ok X G (c.fact 8 (f := .glo "partner_of") rfl)
  obtain ⟨fd9, F9⟩ := c.def_ 9 (d := d_do_want) rfl
  have m9 := He.glo_ok X G (c.fact 9 (f := .glo "do_want") rfl)
  obtain ⟨fd10, F10⟩ := c.def_ 10 (d := d_all_pairings) rfl
  have m10 := He.glo_ok X G (c.fact 10 (f := .glo "all_pairings") rfl)
  obtain ⟨fd11, F11⟩ := c.def_ 11 (d := d_law_rather) rfl
  have m11 := He.glo_ok X G (c.fact 11 (f := .glo "_law_rather") rfl)
  obtain ⟨fd12, F12⟩ := c.def_ 12 (d := d_law_breaking) rfl
  have m12 := He.glo_ok X G (c.fact 12 (f := .glo "_law_breaking") rfl)
  obtain ⟨fd13, F13⟩ := c.def_ 13 (d := d_has_rather) rfl
  have m13 := He.glo_ok X G (c.fact 13 (f := .glo "has_rather") rfl)
  obtain ⟨fd14, F14⟩ := c.def_ 14 (d := d_does_break) rfl
  have m14 := He.glo_ok X G (c.fact 14 (f := .glo "does_break") rfl)
  obtain ⟨fd15, F15⟩ := c.def_ 15 (d := d_breaking_pairs) rfl
  have m15 := He.glo_ok X G (c.fact 15 (f := .glo "breaking_pairs") rfl)
  obtain ⟨fd16, F16⟩ := c.def_ 16 (d := d_is_unbroken) rfl
  have m16 := He.glo_ok X G (c.fact 16 (f := .glo "is_unbroken") rfl)
  obtain ⟨fd17, F17⟩ := c.def_ 17 (d := d_is_number) rfl
  have m17 := He.glo_ok X G (c.fact 17 (f := .glo "is_number") rfl)
  obtain ⟨fd18, F18⟩ := c.def_ 18 (d := d_place_in) rfl
  have m18 := He.glo_ok X G (c.fact 18 (f := .glo "place_in") rfl)
  obtain ⟨fd19, F19⟩ := c.def_ 19 (d := d_who_likes_better) rfl
  have m19 := He.glo_ok X G (c.fact 19 (f := .glo "who_likes_better") rfl)
  obtain ⟨fd20, F20⟩ := c.def_ 20 (d := d_law) rfl
  have m20 := He.glo_ok X G (c.fact 20 (f := .glo "law") rfl)
  have h_int := He.free_ok X G (c.fact 21 (f := .free "int") rfl)
  have h_abs := He.free_ok X G (c.fact 22 (f := .free "abs") rfl)
  have h_len := He.free_ok X G (c.fact 23 (f := .free "len") rfl)
  have h_max := He.free_ok X G (c.fact 24 (f := .free "max") rfl)
  have h_list := He.free_ok X G (c.fact 25 (f := .free "list") rfl)
  have h_range := He.free_ok X G (c.fact 26 (f := .free "range") rfl)
  have h_tuple := He.free_ok X G (c.fact 27 (f := .free "tuple") rfl)
  have h_sorted := He.free_ok X G (c.fact 28 (f := .free "sorted") rfl)
  have h_sum := He.free_ok X G (c.fact 29 (f := .free "sum") rfl)
  have h_isinstance := He.free_ok X G (c.fact 30 (f := .free "isinstance") rfl)
  have h_bool := He.free_ok X G (c.fact 31 (f := .free "bool") rfl)
  have h_repr := He.free_ok X G (c.fact 32 (f := .free "repr") rfl)
  have e := hfa.symm.trans m20
  cases e
  have b := FunD.bindsA (ps := ["script"]) F20 fun _ _ _ _ _ _ us hl => match us, hl with | [_], _ => rfl
  refine ⟨fd20, fun s v => b s [v] rfl, fun base _ _ => ?_⟩
  have C_law_source : Cal P w K mg base 1 "_law_source" 1 [] f_law_source := .mk0 F0 m0 (ok_law_source F0 h_int h_abs) fun _ _ _ _ _ _ us hl => match us, hl with | [_], _ => rfl
  have C_law_pick : Cal P w K mg base 1 "_law_pick" 2 [] f_law_pick := .mk0 F1 m1 (ok_law_pick F1 h_len h_max h_int) fun _ _ _ _ _ _ us hl => match us, hl with | [_, _], _ => rfl
  have C_law_mixed : Cal P w K mg base 2 "_law_mixed" 2 [] f_law_mixed := .mk0 F2 m2 (ok_law_mixed F2 h_list h_len h_range C_law_pick) fun _ _ _ _ _ _ us hl => match us, hl with | [_, _], _ => rfl
  have C_law_of : Cal P w K mg base 2 "_law_of" 2 [] f_law_of := .mk0 F3 m3 (ok_law_of F3 h_len C_law_pick) fun _ _ _ _ _ _ us hl => match us, hl with | [_, _], _ => rfl
  have C_law_hall : Cal P w K mg base 3 "_law_hall" 3 [] f_law_hall := .mk0 F4 m4 (ok_law_hall F4 h_range h_len h_tuple C_law_pick C_law_mixed C_law_of) fun _ _ _ _ _ _ us hl => match us, hl with | [_, _, _], _ => rfl
  have C_law_want : Cal P w K mg base 1 "_law_want" 3 [] f_law_want := .mk0 F5 m5 (ok_law_want F5 ) fun _ _ _ _ _ _ us hl => match us, hl with | [_, _, _], _ => rfl
  have C_law_partner : Cal P w K mg base 1 "_law_partner" 2 [] f_law_partner := .mk0 F6 m6 (ok_law_partner F6 ) fun _ _ _ _ _ _ us hl => match us, hl with | [_, _], _ => rfl
  have C_law_pairings : Cal P w K mg base 2 "_law_pairings" 1 [] f_law_pairings := .mk0 F7 m7 (ok_law_pairings F7 h_range h_sorted C_law_want C_law_partner) fun _ _ _ _ _ _ us hl => match us, hl with | [_], _ => rfl
  have C_partner_of : Cal P w K mg base 1 "partner_of" 2 [] f_partner_of := .mk0 F8 m8 (ok_partner_of F8 h_sum) fun _ _ _ _ _ _ us hl => match us, hl with | [_, _], _ => rfl
  have C_do_want : Cal P w K mg base 1 "do_want" 3 [] f_do_want := .mk0 F9 m9 (ok_do_want F9 ) fun _ _ _ _ _ _ us hl => match us, hl with | [_, _, _], _ => rfl
  have C_all_pairings : Cal P w K mg base 2 "all_pairings" 1 [] f_all_pairings := .mk0 F10 m10 (ok_all_pairings F10 h_range h_sorted h_tuple C_partner_of C_do_want) fun _ _ _ _ _ _ us hl => match us, hl with | [_], _ => rfl
  have C_law_rather : Cal P w K mg base 1 "_law_rather" 4 [] f_law_rather := .mk0 F11 m11 (ok_law_rather F11 h_list h_len) fun _ _ _ _ _ _ us hl => match us, hl with | [_, _, _, _], _ => rfl
  have C_law_breaking : Cal P w K mg base 2 "_law_breaking" 2 [] f_law_breaking := .mk0 F12 m12 (ok_law_breaking F12 h_range h_int C_law_partner C_law_rather C_law_want) fun _ _ _ _ _ _ us hl => match us, hl with | [_, _], _ => rfl
  have C_has_rather : Cal P w K mg base 1 "has_rather" 4 [] f_has_rather := .mk0 F13 m13 (ok_has_rather F13 ) fun _ _ _ _ _ _ us hl => match us, hl with | [_, _, _, _], _ => rfl
  have C_does_break : Cal P w K mg base 2 "does_break" 4 [] f_does_break := .mk0 F14 m14 (ok_does_break F14  C_partner_of C_has_rather) fun _ _ _ _ _ _ us hl => match us, hl with | [_, _, _, _], _ => rfl
  have C_breaking_pairs : Cal P w K mg base 3 "breaking_pairs" 2 [] f_breaking_pairs := .mk0 F15 m15 (ok_breaking_pairs F15 h_range h_tuple C_do_want C_does_break) fun _ _ _ _ _ _ us hl => match us, hl with | [_, _], _ => rfl
  have C_is_unbroken : Cal P w K mg base 4 "is_unbroken" 2 [] f_is_unbroken := .mk0 F16 m16 (ok_is_unbroken F16  C_breaking_pairs) fun _ _ _ _ _ _ us hl => match us, hl with | [_, _], _ => rfl
  have C_is_number : Cal P w K mg base 1 "is_number" 1 [] f_is_number := .mk0 F17 m17 (ok_is_number F17 h_isinstance h_bool h_int) fun _ _ _ _ _ _ us hl => match us, hl with | [_], _ => rfl
  have C_place_in : Cal P w K mg base 2 "place_in" 3 [] f_place_in := .mk0 F18 m18 (ok_place_in F18 h_len C_is_number) fun _ _ _ _ _ _ us hl => match us, hl with | [_, _, _], _ => rfl
  have C_who_likes_better : Cal P w K mg base 2 "who_likes_better" 3 [] f_who_likes_better := .mk0 F19 m19 (ok_who_likes_better F19 h_range h_tuple C_partner_of C_has_rather) fun _ _ _ _ _ _ us hl => match us, hl with | [_, _, _], _ => rfl
  exact ok_law F20 h_range h_repr h_tuple C_law_source C_law_hall C_law_pairings C_all_pairings C_law_breaking C_is_unbroken C_partner_of C_do_want C_law_of C_place_in C_who_likes_better
end Wk04
open PySem PySem.W PySem.Calls PyProof.Rows in
theorem Wk04.holds (law : ∀ ns : List Int, ns.length ≤ 63 → ∃ st, Wk04.f_law [.scr ns] [] = .ok (.v (.bool true)) st) : PySem.Challenge.rw_pairsandprices_k04_whole_pairings_of_sma.Holds := by
  w_on; o_law
  refine HandSHeadRun.head_any (r := OpenLaw.row PySem.Challenge.rw_pairsandprices_k04_whole_pairings_of_sma) (q := view (OpenLaw.row PySem.Challenge.rw_pairsandprices_k04_whole_pairings_of_sma).prog [28]) (H := Wk04.hk) (ob := Wk04.ob) (M := 1780) (loose := Wk04.lo) (d := HandSHeadRun.topDef (OpenLaw.row PySem.Challenge.rw_pairsandprices_k04_whole_pairings_of_sma).prog 28) (kwd := []) Wk04.ob_eq
    (by kernel_rfl) (fun s => by kernel_rfl) Wk04.run (by kernel_rfl) (by kernel_rfl) (by kernel_rfl) (by rfl) (by first | assumption | decide +kernel) (by decide +kernel) ⟨rfl, rfl, rfl, rfl, rfl, by decide +kernel⟩ ?hw ?hc
  case hw => w_witness2
  case hc =>
    refine Fw.walkG (l := PySem.Challenge.rw_pairsandprices_k04_whole_pairings_of_sma) (n := 63) (k := 5) (x := "script") (ff := Wk04.f_law) rfl (by decide) (by kernel_rfl) Fw.rm0 ?F law
    intro w mg fa h Y G hmg0
    obtain ⟨K, KX, c⟩ := Y
    have hmg : mg ("law" : PySem.Str) = some (.ref fa) := by
      have e : (HandSHeadRun.topDef (OpenLaw.row PySem.Challenge.rw_pairsandprices_k04_whole_pairings_of_sma).prog 28).name = ("law" : PySem.Str) := by kernel_rfl
      rw [← e]
      exact hmg0
    obtain ⟨fd, hb, hF⟩ := Wk04.facts (P := (PySem.Challenge.rw_pairsandprices_k04_whole_pairings_of_sma).prog) (w := w) KX G hmg c
    exact ⟨K, fd, KX, hb, hF⟩
namespace Fw.Hl
open PySem PySem.Spec PyProof.Rows L2 Fw
abbrev rowsD (rows : List (List Nat)) : PyData := .tuple (rows.map tNs)
abbrev hallD (rows : List (List Nat)) : PyData := .tuple [nI rows.length, rowsD rows]
abbrev pr (p : Nat × Nat) : PyData := tNs [p.1, p.2]
abbrev pairsD (ps : List (Nat × Nat)) : PyData := .tuple (ps.map pr)
def optD : Option Nat → PyData
  | none => .none
  | some b => nI b
def row (rows : List (List Nat)) (a : Nat) : List Nat := rows.getD a []
section
variable {rows : List (List Nat)} {a b k : Nat} {st : Sto} {ps : List (Nat × Nat)} {c : Option Nat}
theorem hall0 : subsD (.v (hallD rows)) (.v (.int 0)) st = .ok (.v (nI rows.length)) st := sub_tup (k := 0) rfl
theorem hall1 : subsD (.v (hallD rows)) (.v (.int 1)) st = .ok (.v (rowsD rows)) st := sub_tup (k := 1) rfl
theorem hall_row (h : a < rows.length) : subsD (.v (rowsD rows)) (.v (nI a)) st = .ok (.v (tNs (row rows a))) st := by
  refine sub_tup (k := a) ?_
  rw [List.getElem?_map, List.getElem?_eq_getElem h]
  unfold row
  rw [List.getD_eq_getElem?_getD, List.getElem?_eq_getElem h]
  rfl
def want (rows : List (List Nat)) (a b : Nat) : Bool := decide (b ∈ row rows a) && decide (a ∈ row rows b)
theorem want_eq (ha : a < rows.length) (hb : b < rows.length) : LC.f_do_want [.v (hallD rows), .v (nI a), .v (nI b)] st = .ok (.v (.bool (want rows a b))) st := by
  refine Out.Ok.is (fnT_ok ?_)
  unfold LC.S_do_want
  simp only [envE, so_seq, so_if, so_ret, so_retN, so_exp, so_nil, so_nx, so_rt, so_asg, so_asgG, so_par2, so_par3, ok_gNm, ok_gMore, ok_gNone, so_asgT, so_sub, so_for, ok_TB, ok_Tru, ok_notT, ok_andT, ok_orT, ok_andV, ok_orV, ok_notV, ok_iteE, ok_frz, ok_new, ok_mfArg, ok_mfBin, ok_lc, ok_M, ok_M0, ok_moNone, ok_moSome, ok_Sl,
  ok_bin, ok_un, ok_arg, ok_cons, ok_nil, ok_call, ok_var, ok_C, ok_ok, ok_stuck, ok_noX, bOf_bool, low_v, iOf_int, addD_int, subD_int, negD_int, ltD_int, leD_int, gtD_int, geD_int, fInt_int, isD_bool, isNotD_bool, tru_bool, List.map_cons, List.map_nil, List.length_cons, List.length_nil, List.replicate_succ, List.replicate_zero, List.cons_append, List.nil_append,
  List.append_nil, List.getElem?_cons_zero, List.getElem?_cons_succ, List.set_cons_zero, List.set_cons_succ, Option.some.injEq, exists_eq_left', exists_eq_left, true_and, and_true, true_implies, false_implies, implies_true, Bool.false_eq_true, reduceCtorEq, false_and, and_false, D.v.injEq, PyData.int.injEq, D.ref.injEq, p1i_int, p2_two, p3_three, decide_true, Bool.not_true, Bool.not_false, decide_eq_true_eq, decide_eq_false_iff_not, hall1, hall_row ha, hall_row hb, in_tup]
  unfold want
  by_cases h : b ∈ row rows a
  · simp [h]
  · simp [h]
theorem lwant_eq (ha : a < rows.length) (hb : b < rows.length) : LC.f_law_want [.v (hallD rows), .v (nI a), .v (nI b)] st = .ok (.v (.bool (want rows a b))) st := by
  refine Out.Ok.is (fnT_ok ?_)
  unfold LC.S_law_want
  simp only [envE, so_seq, so_if, so_ret, so_retN, so_exp, so_nil, so_nx, so_rt, so_asg, so_asgG, so_par2, so_par3, ok_gNm, ok_gMore, ok_gNone, so_asgT, so_sub, so_for, ok_TB, ok_Tru, ok_notT, ok_andT, ok_orT, ok_andV, ok_orV, ok_notV, ok_iteE, ok_frz, ok_new, ok_mfArg, ok_mfBin, ok_lc, ok_M, ok_M0, ok_moNone, ok_moSome, ok_Sl,
  ok_bin, ok_un, ok_arg, ok_cons, ok_nil, ok_call, ok_var, ok_C, ok_ok, ok_stuck, ok_noX, bOf_bool, low_v, iOf_int, addD_int, subD_int, negD_int, ltD_int, leD_int, gtD_int, geD_int, fInt_int, isD_bool, isNotD_bool, tru_bool, List.map_cons, List.map_nil, List.length_cons, List.length_nil, List.replicate_succ, List.replicate_zero, List.cons_append, List.nil_append,
  List.append_nil, List.getElem?_cons_zero, List.getElem?_cons_succ, List.set_cons_zero, List.set_cons_succ, Option.some.injEq, exists_eq_left', exists_eq_left, true_and, and_true, true_implies, false_implies, implies_true, Bool.false_eq_true, reduceCtorEq, false_and, and_false, D.v.injEq, PyData.int.injEq, D.ref.injEq, p1i_int, p2_two, p3_three, decide_true, Bool.not_true, Bool.not_false, decide_eq_true_eq, decide_eq_false_iff_not, hall1, hall_row ha, hall_row hb, in_tup]
  unfold want
  by_cases h : b ∈ row rows a
  · simp [h]
  · simp [h]
def place (rows : List (List Nat)) (a : Nat) : Option Nat → Nat
  | none => (row rows a).length
  | some b => if b ∈ row rows a then (row rows a).idxOf b else (row rows a).length + 1
theorem is_none {c : Option Nat} : isD (.v (optD c)) (.v .none) st = .ok (.v (.bool c.isNone)) st := by cases c <;> rfl
theorem isNot_none {c : Option Nat} : isNotD (.v (optD c)) (.v .none) st = .ok (.v (.bool (!c.isNone))) st := by cases c <;> rfl
def partner (ps : List (Nat × Nat)) (a : Nat) : Option Nat := (ps.find? fun p => decide (a = p.1 ∨ a = p.2)).map fun p => if a = p.1 then p.2 else p.1
theorem pair_in {p : Nat × Nat} : inU (.v (nI a)) (.v (pr p)) st = .ok (.v (.bool (decide (a = p.1 ∨ a = p.2)))) st := by
  rw [in_tup]
  congr 3
  exact decide_eq_decide.mpr (by simp)
theorem other_at {p : Nat × Nat} (h : a = p.1 ∨ a = p.2) : ((p.1 : Int) + (p.2 : Int) - (a : Int)) = ((if a = p.1 then p.2 else p.1 : Nat) : Int) := by
  split <;> omega
theorem head_partner : ∀ ps : List (Nat × Nat), (ps.filterMap fun p : Nat × Nat => if a = p.1 ∨ a = p.2 then some (if a = p.1 then p.2 else p.1) else none).head? = partner ps a
  | [] => rfl
  | p :: r => by
    have ih := head_partner r
    unfold partner at ih ⊢
    rw [List.filterMap_cons, List.find?_cons]
    by_cases h : a = p.1 ∨ a = p.2
    · rw [if_pos h, decide_eq_true h]
      rfl
    · rw [if_neg h, decide_eq_false h]
      exact ih
theorem pair_sum {p : Nat × Nat} : fSum [.v (pr p)] st = .ok (.v (.int ((p.1 : Int) + (p.2 : Int)))) st := by
  have h := sum_tup (is := [(p.1 : Int), (p.2 : Int)]) (st := st)
  simp only [List.sum_cons, List.sum_nil, Int.add_zero] at h
  exact h
theorem partner_eq : LC.f_partner_of [.v (pairsD ps), .v (nI a)] st = .ok (.v (optD (partner ps a))) st := by
  refine Out.Ok.is (fnT_ok ?_)
  unfold LC.S_partner_of LC.partner_of_E1 LC.partner_of_T1
  simp only [envE, so_seq, so_if, so_ret, so_retN, so_exp, so_nil, so_nx, so_rt, so_asg, so_asgG, so_par2, so_par3, ok_gNm, ok_gMore, ok_gNone, so_asgT, so_sub, so_for, ok_TB, ok_Tru, ok_notT, ok_andT, ok_orT, ok_andV, ok_orV, ok_notV, ok_iteE, ok_frz, ok_new, ok_mfArg, ok_mfBin, ok_lc, ok_M, ok_M0, ok_moNone, ok_moSome, ok_Sl,
  ok_bin, ok_un, ok_arg, ok_cons, ok_nil, ok_call, ok_var, ok_C, ok_ok, ok_stuck, ok_noX, bOf_bool, low_v, iOf_int, addD_int, subD_int, negD_int, ltD_int, leD_int, gtD_int, geD_int, fInt_int, isD_bool, isNotD_bool, tru_bool, List.map_cons, List.map_nil, List.length_cons, List.length_nil, List.replicate_succ, List.replicate_zero, List.cons_append, List.nil_append,
  List.append_nil, List.getElem?_cons_zero, List.getElem?_cons_succ, List.set_cons_zero, List.set_cons_succ, Option.some.injEq, exists_eq_left', exists_eq_left, true_and, and_true, true_implies, false_implies, implies_true, Bool.false_eq_true, reduceCtorEq, false_and, and_false, D.v.injEq, PyData.int.injEq, D.ref.injEq, p1i_int, p2_two, p3_three, decide_true, Bool.not_true, Bool.not_false, decide_eq_true_eq, decide_eq_false_iff_not, ok_seq, seqW_tup, List.map_map]
  rw [lcL_mapA _ (fun p : Nat × Nat => if a = p.1 ∨ a = p.2 then some (nI (if a = p.1 then p.2 else p.1)) else none)]
  rotate_left
  · intro p _
    unfold LC.partner_of_G1 LC.partner_of_M1
    show (gNm 3 (.one (.v (pr p))) _ st).Ok _
    simp only [envE, so_seq, so_if, so_ret, so_retN, so_exp, so_nil, so_nx, so_rt, so_asg, so_asgG, so_par2, so_par3, ok_gNm, ok_gMore, ok_gNone, so_asgT, so_sub, so_for, ok_TB, ok_Tru, ok_notT, ok_andT, ok_orT, ok_andV, ok_orV, ok_notV, ok_iteE, ok_frz, ok_new, ok_mfArg, ok_mfBin, ok_lc, ok_M, ok_M0, ok_moNone, ok_moSome, ok_Sl,
  ok_bin, ok_un, ok_arg, ok_cons, ok_nil, ok_call, ok_var, ok_C, ok_ok, ok_stuck, ok_noX, bOf_bool, low_v, iOf_int, addD_int, subD_int, negD_int, ltD_int, leD_int, gtD_int, geD_int, fInt_int, isD_bool, isNotD_bool, tru_bool, List.map_cons, List.map_nil, List.length_cons, List.length_nil, List.replicate_succ, List.replicate_zero, List.cons_append, List.nil_append,
  List.append_nil, List.getElem?_cons_zero, List.getElem?_cons_succ, List.set_cons_zero, List.set_cons_succ, Option.some.injEq, exists_eq_left', exists_eq_left, true_and, and_true, true_implies, false_implies, implies_true, Bool.false_eq_true, reduceCtorEq, false_and, and_false, D.v.injEq, PyData.int.injEq, D.ref.injEq, p1i_int, p2_two, p3_three, decide_true, Bool.not_true, Bool.not_false, decide_eq_true_eq, decide_eq_false_iff_not, wipeE, pair_in, pair_sum]
    refine ⟨fun h => ?_, fun h => by rw [if_neg h]⟩
    rw [other_at h, if_pos h]
  rw [ok_ok]
  unfold LC.S_partner_of_2
  simp only [envE, so_seq, so_if, so_ret, so_retN, so_exp, so_nil, so_nx, so_rt, so_asg, so_asgG, so_par2, so_par3, ok_gNm, ok_gMore, ok_gNone, so_asgT, so_sub, so_for, ok_TB, ok_Tru, ok_notT, ok_andT, ok_orT, ok_andV, ok_orV, ok_notV, ok_iteE, ok_frz, ok_new, ok_mfArg, ok_mfBin, ok_lc, ok_M, ok_M0, ok_moNone, ok_moSome, ok_Sl,
  ok_bin, ok_un, ok_arg, ok_cons, ok_nil, ok_call, ok_var, ok_C, ok_ok, ok_stuck, ok_noX, bOf_bool, low_v, iOf_int, addD_int, subD_int, negD_int, ltD_int, leD_int, gtD_int, geD_int, fInt_int, isD_bool, isNotD_bool, tru_bool, List.map_cons, List.map_nil, List.length_cons, List.length_nil, List.replicate_succ, List.replicate_zero, List.cons_append, List.nil_append,
  List.append_nil, List.getElem?_cons_zero, List.getElem?_cons_succ, List.set_cons_zero, List.set_cons_succ, Option.some.injEq, exists_eq_left', exists_eq_left, true_and, and_true, true_implies, false_implies, implies_true, Bool.false_eq_true, reduceCtorEq, false_and, and_false, D.v.injEq, PyData.int.injEq, D.ref.injEq, p1i_int, p2_two, p3_three, decide_true, Bool.not_true, Bool.not_false, decide_eq_true_eq, decide_eq_false_iff_not, disp0]
  have e : ps.filterMap (fun p : Nat × Nat => if a = p.1 ∨ a = p.2 then some (nI (if a = p.1 then p.2 else p.1)) else none) = (ps.filterMap fun p : Nat × Nat => if a = p.1 ∨ a = p.2 then some (if a = p.1 then p.2 else p.1) else none).map nI := by
    rw [List.map_filterMap]
    congr 1
    funext p
    split <;> rfl
  have h2 := head_partner (a := a) ps
  rw [e]
  generalize (ps.filterMap fun p : Nat × Nat => if a = p.1 ∨ a = p.2 then some (if a = p.1 then p.2 else p.1) else none) = l at h2 ⊢
  rw [ne_nilL (shaped_nats l)]
  simp only [envE, so_seq, so_if, so_ret, so_retN, so_exp, so_nil, so_nx, so_rt, so_asg, so_asgG, so_par2, so_par3, ok_gNm, ok_gMore, ok_gNone, so_asgT, so_sub, so_for, ok_TB, ok_Tru, ok_notT, ok_andT, ok_orT, ok_andV, ok_orV, ok_notV, ok_iteE, ok_frz, ok_new, ok_mfArg, ok_mfBin, ok_lc, ok_M, ok_M0, ok_moNone, ok_moSome, ok_Sl,
  ok_bin, ok_un, ok_arg, ok_cons, ok_nil, ok_call, ok_var, ok_C, ok_ok, ok_stuck, ok_noX, bOf_bool, low_v, iOf_int, addD_int, subD_int, negD_int, ltD_int, leD_int, gtD_int, geD_int, fInt_int, isD_bool, isNotD_bool, tru_bool, List.map_cons, List.map_nil, List.length_cons, List.length_nil, List.replicate_succ, List.replicate_zero, List.cons_append, List.nil_append,
  List.append_nil, List.getElem?_cons_zero, List.getElem?_cons_succ, List.set_cons_zero, List.set_cons_succ, Option.some.injEq, exists_eq_left', exists_eq_left, true_and, and_true, true_implies, false_implies, implies_true, Bool.false_eq_true, reduceCtorEq, false_and, and_false, D.v.injEq, PyData.int.injEq, D.ref.injEq, p1i_int, p2_two, p3_three, decide_true, Bool.not_true, Bool.not_false, decide_eq_true_eq, decide_eq_false_iff_not]
  rw [← h2]
  cases l with
  | nil => exact ⟨(fun z => nomatch z), fun _ => ⟨rfl, List.take_length⟩⟩
  | cons x r =>
    refine ⟨fun _ => ?_, (fun z => nomatch z)⟩
    rw [show subsD (.v (lNs (x :: r))) (.v (.int 0)) st = .ok (.v (nI x)) st from sub_list (k := 0) rfl, ok_ok]
    exact ⟨rfl, rfl, List.take_length⟩
def inO (l : List Nat) : Option Nat → Bool
  | none => false
  | some c => decide (c ∈ l)
theorem notIn_opt {l : List Nat} {c : Option Nat} : notInU (.v (optD c)) (.v (tNs l)) st = .ok (.v (.bool (!inO l c))) st := by
  cases c with
  | some c => exact notIn_tup
  | none =>
    show (match inS st (.v .none) (.v (tNs l)) with
      | some k => Out.ok (D.v (.bool (!k))) st
      | none => .stuck) = _
    have e : inS st (.v .none) (.v (tNs l)) = some false := by
      show (if flatP .none && (l.map nI).all flatP then some ((l.map nI).any fun y => PyData.eqv y .none) else _) = _
      rw [flat_nats]
      have z : ((l.map nI).any fun y => PyData.eqv y .none) = false := by
        rw [List.any_map]
        exact List.any_eq_false.mpr fun _ _ => by simp [PyData.eqv]
      rw [z]
      rfl
    rw [e]
    rfl
def ratherO (l : List Nat) (b : Nat) : Option Nat → Bool
  | none => true
  | some c => !decide (c ∈ l) || decide (l.idxOf b < l.idxOf c)
def rather (rows : List (List Nat)) (a b : Nat) (c : Option Nat) : Bool := decide (b ∈ row rows a) && ratherO (row rows a) b c
theorem rather_eq (ha : a < rows.length) : LC.f_has_rather [.v (hallD rows), .v (nI a), .v (nI b), .v (optD c)] st = .ok (.v (.bool (rather rows a b c))) st := by
  refine Out.Ok.is (fnT_ok ?_)
  unfold LC.S_has_rather LC.S_has_rather_2 LC.S_has_rather_3
  simp only [envE, so_seq, so_if, so_ret, so_retN, so_exp, so_nil, so_nx, so_rt, so_asg, so_asgG, so_par2, so_par3, ok_gNm, ok_gMore, ok_gNone, so_asgT, so_sub, so_for, ok_TB, ok_Tru, ok_notT, ok_andT, ok_orT, ok_andV, ok_orV, ok_notV, ok_iteE, ok_frz, ok_new, ok_mfArg, ok_mfBin, ok_lc, ok_M, ok_M0, ok_moNone, ok_moSome, ok_Sl,
  ok_bin, ok_un, ok_arg, ok_cons, ok_nil, ok_call, ok_var, ok_C, ok_ok, ok_stuck, ok_noX, bOf_bool, low_v, iOf_int, addD_int, subD_int, negD_int, ltD_int, leD_int, gtD_int, geD_int, fInt_int, isD_bool, isNotD_bool, tru_bool, List.map_cons, List.map_nil, List.length_cons, List.length_nil, List.replicate_succ, List.replicate_zero, List.cons_append, List.nil_append,
  List.append_nil, List.getElem?_cons_zero, List.getElem?_cons_succ, List.set_cons_zero, List.set_cons_succ, Option.some.injEq, exists_eq_left', exists_eq_left, true_and, and_true, true_implies, false_implies, implies_true, Bool.false_eq_true, reduceCtorEq, false_and, and_false, D.v.injEq, PyData.int.injEq, D.ref.injEq, p1i_int, p2_two, p3_three, decide_true, Bool.not_true, Bool.not_false, decide_eq_true_eq, decide_eq_false_iff_not, hall1, hall_row ha, notIn_tup, notIn_opt, isT_tup, ok_Index, Bool.or_true]
  have e1 : isD (.v (nI b)) (.v .none) st = .ok (.v (.bool false)) st := rfl
  simp only [e1, envE, so_seq, so_if, so_ret, so_retN, so_exp, so_nil, so_nx, so_rt, so_asg, so_asgG, so_par2, so_par3, ok_gNm, ok_gMore, ok_gNone, so_asgT, so_sub, so_for, ok_TB, ok_Tru, ok_notT, ok_andT, ok_orT, ok_andV, ok_orV, ok_notV, ok_iteE, ok_frz, ok_new, ok_mfArg, ok_mfBin, ok_lc, ok_M, ok_M0, ok_moNone, ok_moSome, ok_Sl,
  ok_bin, ok_un, ok_arg, ok_cons, ok_nil, ok_call, ok_var, ok_C, ok_ok, ok_stuck, ok_noX, bOf_bool, low_v, iOf_int, addD_int, subD_int, negD_int, ltD_int, leD_int, gtD_int, geD_int, fInt_int, isD_bool, isNotD_bool, tru_bool, List.map_cons, List.map_nil, List.length_cons, List.length_nil, List.replicate_succ, List.replicate_zero, List.cons_append, List.nil_append,
  List.append_nil, List.getElem?_cons_zero, List.getElem?_cons_succ, List.set_cons_zero, List.set_cons_succ, Option.some.injEq, exists_eq_left', exists_eq_left, true_and, and_true, true_implies, false_implies, implies_true, Bool.false_eq_true, reduceCtorEq, false_and, and_false, D.v.injEq, PyData.int.injEq, D.ref.injEq, p1i_int, p2_two, p3_three, decide_true, Bool.not_true, Bool.not_false, decide_eq_true_eq, decide_eq_false_iff_not]
  unfold rather
  by_cases hb : b ∈ row rows a
  · rw [decide_eq_true hb]
    refine ⟨(fun z => nomatch z), fun _ => ?_⟩
    cases c with
    | none =>
      refine ⟨fun _ => ⟨rfl, List.take_length⟩, (fun z => nomatch z)⟩
    | some c =>
      by_cases hc : c ∈ row rows a
      · have e2 : inO (row rows a) (some c) = true := decide_eq_true hc
        have e3 : ratherO (row rows a) b (some c) = decide ((row rows a).idxOf b < (row rows a).idxOf c) := by
          show (!decide (c ∈ row rows a) || decide ((row rows a).idxOf b < (row rows a).idxOf c)) = _
          rw [decide_eq_true hc]
          rfl
        rw [e2, e3]
        refine ⟨(fun z => nomatch z), fun _ => ?_⟩
        rw [index_tN hb, ok_ok, show optD (some c) = nI c from rfl, index_tN hc, ok_ok, ltD_int, ok_ok]
        refine ⟨rfl, ?_, List.take_length⟩
        congr 2
        simp
      · have e2 : inO (row rows a) (some c) = false := decide_eq_false hc
        have e3 : ratherO (row rows a) b (some c) = true := by
          show (!decide (c ∈ row rows a) || decide ((row rows a).idxOf b < (row rows a).idxOf c)) = _
          rw [decide_eq_false hc]
          rfl
        rw [e2, e3]
        exact ⟨fun _ => ⟨rfl, List.take_length⟩, (fun z => nomatch z)⟩
  · rw [decide_eq_false hb]
    exact ⟨fun _ => ⟨rfl, List.take_length⟩, (fun z => nomatch z)⟩
def brk (rows : List (List Nat)) (ps : List (Nat × Nat)) (a b : Nat) : Bool := rather rows a b (partner ps a) && rather rows b a (partner ps b)
theorem brk_eq (ha : a < rows.length) (hb : b < rows.length) : LC.f_does_break [.v (hallD rows), .v (pairsD ps), .v (nI a), .v (nI b)] st = .ok (.v (.bool (brk rows ps a b))) st := by
  refine Out.Ok.is (fnT_ok ?_)
  unfold LC.S_does_break
  simp only [envE, so_seq, so_if, so_ret, so_retN, so_exp, so_nil, so_nx, so_rt, so_asg, so_asgG, so_par2, so_par3, ok_gNm, ok_gMore, ok_gNone, so_asgT, so_sub, so_for, ok_TB, ok_Tru, ok_notT, ok_andT, ok_orT, ok_andV, ok_orV, ok_notV, ok_iteE, ok_frz, ok_new, ok_mfArg, ok_mfBin, ok_lc, ok_M, ok_M0, ok_moNone, ok_moSome, ok_Sl,
  ok_bin, ok_un, ok_arg, ok_cons, ok_nil, ok_call, ok_var, ok_C, ok_ok, ok_stuck, ok_noX, bOf_bool, low_v, iOf_int, addD_int, subD_int, negD_int, ltD_int, leD_int, gtD_int, geD_int, fInt_int, isD_bool, isNotD_bool, tru_bool, List.map_cons, List.map_nil, List.length_cons, List.length_nil, List.replicate_succ, List.replicate_zero, List.cons_append, List.nil_append,
  List.append_nil, List.getElem?_cons_zero, List.getElem?_cons_succ, List.set_cons_zero, List.set_cons_succ, Option.some.injEq, exists_eq_left', exists_eq_left, true_and, and_true, true_implies, false_implies, implies_true, Bool.false_eq_true, reduceCtorEq, false_and, and_false, D.v.injEq, PyData.int.injEq, D.ref.injEq, p1i_int, p2_two, p3_three, decide_true, Bool.not_true, Bool.not_false, decide_eq_true_eq, decide_eq_false_iff_not, partner_eq, rather_eq ha, rather_eq hb]
  unfold brk
  cases rather rows a b (partner ps a) with
  | true => exact ⟨fun _ => ⟨rfl, List.take_length⟩, (fun z => nomatch z)⟩
  | false => exact ⟨(fun z => nomatch z), fun _ => ⟨rfl, List.take_length⟩⟩
def brkOf (rows : List (List Nat)) (ps : List (Nat × Nat)) (a : Nat) : List (Nat × Nat) := (((ups (a + 1) rows.length).filter (want rows a)).filter (brk rows ps a)).map fun b => (a, b)
def breaking (rows : List (List Nat)) (ps : List (Nat × Nat)) : List (Nat × Nat) := (List.range rows.length).flatMap (brkOf rows ps)
theorem fm_filter {α β : Type} {p : α → Bool} {f : α → β} : ∀ l : List α, (l.filterMap fun b => if p b = true then some (f b) else none) = (l.filter p).map f
  | [] => rfl
  | x :: r => by
    rw [List.filterMap_cons, List.filter_cons]
    by_cases h : p x = true
    · rw [if_pos h, if_pos h, List.map_cons, ← fm_filter r]
    · rw [if_neg h, if_neg h, ← fm_filter r]
theorem brkOf_len {rows : List (List Nat)} {ps : List (Nat × Nat)} {a : Nat} : (brkOf rows ps a).length ≤ rows.length := by
  unfold brkOf
  rw [List.length_map]
  refine Nat.le_trans (List.length_filter_le _ _) (Nat.le_trans (List.length_filter_le _ _) ?_)
  unfold ups
  rw [List.length_map, List.length_range]
  omega
theorem brk_len {rows : List (List Nat)} {ps : List (Nat × Nat)} : ∀ i, ((List.range i).flatMap (brkOf rows ps)).length ≤ i * rows.length
  | 0 => by simp
  | i + 1 => by
    rw [List.range_succ, List.flatMap_append, List.length_append, Nat.succ_mul]
    have h1 := brk_len (rows := rows) (ps := ps) i
    have h2 := brkOf_len (rows := rows) (ps := ps) (a := i)
    simp only [List.flatMap_cons, List.flatMap_nil, List.append_nil]
    omega
theorem breaking_eq (hn : rows.length ≤ 50) : LC.f_breaking_pairs [.v (hallD rows), .v (pairsD ps)] st = .ok (.v (pairsD (breaking rows ps))) st := by
  refine Out.Ok.is (fnT_ok ?_)
  unfold LC.S_breaking_pairs LC.S_breaking_pairs_2 LC.breaking_pairs_E3
  simp only [envE, so_seq, so_if, so_ret, so_retN, so_exp, so_nil, so_nx, so_rt, so_asg, so_asgG, so_par2, so_par3, ok_gNm, ok_gMore, ok_gNone, so_asgT, so_sub, so_for, ok_TB, ok_Tru, ok_notT, ok_andT, ok_orT, ok_andV, ok_orV, ok_notV, ok_iteE, ok_frz, ok_new, ok_mfArg, ok_mfBin, ok_lc, ok_M, ok_M0, ok_moNone, ok_moSome, ok_Sl,
  ok_bin, ok_un, ok_arg, ok_cons, ok_nil, ok_call, ok_var, ok_C, ok_ok, ok_stuck, ok_noX, bOf_bool, low_v, iOf_int, addD_int, subD_int, negD_int, ltD_int, leD_int, gtD_int, geD_int, fInt_int, isD_bool, isNotD_bool, tru_bool, List.map_cons, List.map_nil, List.length_cons, List.length_nil, List.replicate_succ, List.replicate_zero, List.cons_append, List.nil_append,
  List.append_nil, List.getElem?_cons_zero, List.getElem?_cons_succ, List.set_cons_zero, List.set_cons_succ, Option.some.injEq, exists_eq_left', exists_eq_left, true_and, and_true, true_implies, false_implies, implies_true, Bool.false_eq_true, reduceCtorEq, false_and, and_false, D.v.injEq, PyData.int.injEq, D.ref.injEq, p1i_int, p2_two, p3_three, decide_true, Bool.not_true, Bool.not_false, decide_eq_true_eq, decide_eq_false_iff_not, disp0, ok_R1, hall0]
  refine ⟨⟨by omega, by omega⟩, ?_⟩
  rw [Int.toNat_natCast]
  refine forL_inv (fun i e s => s = st ∧ ∃ x3 x4 x5, e = [some (.v (hallD rows)), some (.v (pairsD ps)), some (.v (.list (((List.range i).flatMap (brkOf rows ps)).map pr))), x3, x4, x5]) _ _ _ 0 ?_ ?_ ⟨rfl, _, _, _, rfl⟩
  · rintro i d e s hd ⟨rfl, x3, x4, x5, rfl⟩
    obtain ⟨hi, rfl⟩ := rngI_get hd
    refine ⟨trivial, ?_⟩
    rw [Int.zero_add, Nat.zero_add]
    unfold LC.breaking_pairs_G3 LC.breaking_pairs_B1 LC.breaking_pairs_E1
    simp only [envE, so_seq, so_if, so_ret, so_retN, so_exp, so_nil, so_nx, so_rt, so_asg, so_asgG, so_par2, so_par3, ok_gNm, ok_gMore, ok_gNone, so_asgT, so_sub, so_for, ok_TB, ok_Tru, ok_notT, ok_andT, ok_orT, ok_andV, ok_orV, ok_notV, ok_iteE, ok_frz, ok_new, ok_mfArg, ok_mfBin, ok_lc, ok_M, ok_M0, ok_moNone, ok_moSome, ok_Sl,
  ok_bin, ok_un, ok_arg, ok_cons, ok_nil, ok_call, ok_var, ok_C, ok_ok, ok_stuck, ok_noX, bOf_bool, low_v, iOf_int, addD_int, subD_int, negD_int, ltD_int, leD_int, gtD_int, geD_int, fInt_int, isD_bool, isNotD_bool, tru_bool, List.map_cons, List.map_nil, List.length_cons, List.length_nil, List.replicate_succ, List.replicate_zero, List.cons_append, List.nil_append,
  List.append_nil, List.getElem?_cons_zero, List.getElem?_cons_succ, List.set_cons_zero, List.set_cons_succ, Option.some.injEq, exists_eq_left', exists_eq_left, true_and, and_true, true_implies, false_implies, implies_true, Bool.false_eq_true, reduceCtorEq, false_and, and_false, D.v.injEq, PyData.int.injEq, D.ref.injEq, p1i_int, p2_two, p3_three, decide_true, Bool.not_true, Bool.not_false, decide_eq_true_eq, decide_eq_false_iff_not, ok_R2, p2i_int, hall0]
    refine ⟨⟨by omega, by omega, by omega, by omega⟩, ?_⟩
    rw [show ((i : Int) + 1) = ((i + 1 : Nat) : Int) by omega, rng_ups]
    rw [lcL_mapA _ (fun b : Nat => if want rows i b = true then some (nI b) else none), fm_filter]
    rotate_left
    · intro b hb
      have hb2 := (mem_ups.mp hb).2
      unfold LC.breaking_pairs_G1 LC.breaking_pairs_T1 LC.breaking_pairs_M1
      simp only [envE, so_seq, so_if, so_ret, so_retN, so_exp, so_nil, so_nx, so_rt, so_asg, so_asgG, so_par2, so_par3, ok_gNm, ok_gMore, ok_gNone, so_asgT, so_sub, so_for, ok_TB, ok_Tru, ok_notT, ok_andT, ok_orT, ok_andV, ok_orV, ok_notV, ok_iteE, ok_frz, ok_new, ok_mfArg, ok_mfBin, ok_lc, ok_M, ok_M0, ok_moNone, ok_moSome, ok_Sl,
  ok_bin, ok_un, ok_arg, ok_cons, ok_nil, ok_call, ok_var, ok_C, ok_ok, ok_stuck, ok_noX, bOf_bool, low_v, iOf_int, addD_int, subD_int, negD_int, ltD_int, leD_int, gtD_int, geD_int, fInt_int, isD_bool, isNotD_bool, tru_bool, List.map_cons, List.map_nil, List.length_cons, List.length_nil, List.replicate_succ, List.replicate_zero, List.cons_append, List.nil_append,
  List.append_nil, List.getElem?_cons_zero, List.getElem?_cons_succ, List.set_cons_zero, List.set_cons_succ, Option.some.injEq, exists_eq_left', exists_eq_left, true_and, and_true, true_implies, false_implies, implies_true, Bool.false_eq_true, reduceCtorEq, false_and, and_false, D.v.injEq, PyData.int.injEq, D.ref.injEq, p1i_int, p2_two, p3_three, decide_true, Bool.not_true, Bool.not_false, decide_eq_true_eq, decide_eq_false_iff_not, wipeE, want_eq hi hb2]
      refine ⟨fun h => by rw [if_pos h], fun h => by rw [if_neg (by rw [h]; exact Bool.false_ne_true)]⟩
    rw [ok_ok]
    unfold LC.breaking_pairs_B1_2 LC.breaking_pairs_E2
    simp only [envE, so_seq, so_if, so_ret, so_retN, so_exp, so_nil, so_nx, so_rt, so_asg, so_asgG, so_par2, so_par3, ok_gNm, ok_gMore, ok_gNone, so_asgT, so_sub, so_for, ok_TB, ok_Tru, ok_notT, ok_andT, ok_orT, ok_andV, ok_orV, ok_notV, ok_iteE, ok_frz, ok_new, ok_mfArg, ok_mfBin, ok_lc, ok_M, ok_M0, ok_moNone, ok_moSome, ok_Sl,
  ok_bin, ok_un, ok_arg, ok_cons, ok_nil, ok_call, ok_var, ok_C, ok_ok, ok_stuck, ok_noX, bOf_bool, low_v, iOf_int, addD_int, subD_int, negD_int, ltD_int, leD_int, gtD_int, geD_int, fInt_int, isD_bool, isNotD_bool, tru_bool, List.map_cons, List.map_nil, List.length_cons, List.length_nil, List.replicate_succ, List.replicate_zero, List.cons_append, List.nil_append,
  List.append_nil, List.getElem?_cons_zero, List.getElem?_cons_succ, List.set_cons_zero, List.set_cons_succ, Option.some.injEq, exists_eq_left', exists_eq_left, true_and, and_true, true_implies, false_implies, implies_true, Bool.false_eq_true, reduceCtorEq, false_and, and_false, D.v.injEq, PyData.int.injEq, D.ref.injEq, p1i_int, p2_two, p3_three, decide_true, Bool.not_true, Bool.not_false, decide_eq_true_eq, decide_eq_false_iff_not, ok_seq, seqW_list, List.map_map]
    rw [lcL_mapA _ (fun b : Nat => if brk rows ps i b = true then some (pr (i, b)) else none), fm_filter]
    rotate_left
    · intro b hb
      have hb2 := (mem_ups.mp (List.mem_filter.mp hb).1).2
      unfold LC.breaking_pairs_G2 LC.breaking_pairs_T2 LC.breaking_pairs_M2
      show (gNm 5 (.one (.v (nI b))) _ s).Ok _
      simp only [envE, so_seq, so_if, so_ret, so_retN, so_exp, so_nil, so_nx, so_rt, so_asg, so_asgG, so_par2, so_par3, ok_gNm, ok_gMore, ok_gNone, so_asgT, so_sub, so_for, ok_TB, ok_Tru, ok_notT, ok_andT, ok_orT, ok_andV, ok_orV, ok_notV, ok_iteE, ok_frz, ok_new, ok_mfArg, ok_mfBin, ok_lc, ok_M, ok_M0, ok_moNone, ok_moSome, ok_Sl,
  ok_bin, ok_un, ok_arg, ok_cons, ok_nil, ok_call, ok_var, ok_C, ok_ok, ok_stuck, ok_noX, bOf_bool, low_v, iOf_int, addD_int, subD_int, negD_int, ltD_int, leD_int, gtD_int, geD_int, fInt_int, isD_bool, isNotD_bool, tru_bool, List.map_cons, List.map_nil, List.length_cons, List.length_nil, List.replicate_succ, List.replicate_zero, List.cons_append, List.nil_append,
  List.append_nil, List.getElem?_cons_zero, List.getElem?_cons_succ, List.set_cons_zero, List.set_cons_succ, Option.some.injEq, exists_eq_left', exists_eq_left, true_and, and_true, true_implies, false_implies, implies_true, Bool.false_eq_true, reduceCtorEq, false_and, and_false, D.v.injEq, PyData.int.injEq, D.ref.injEq, p1i_int, p2_two, p3_three, decide_true, Bool.not_true, Bool.not_false, decide_eq_true_eq, decide_eq_false_iff_not, wipeE, brk_eq hi hb2, tup2]
      refine ⟨fun h => by rw [if_pos h]; rfl, fun h => by rw [if_neg (by rw [h]; exact Bool.false_ne_true)]⟩
    have hlen := brk_len (rows := rows) (ps := ps) (i + 1)
    have hmul : (i + 1) * rows.length ≤ 50 * 50 := Nat.mul_le_mul (by omega) hn
    have he : ((List.range (i + 1)).flatMap (brkOf rows ps)).map pr = ((List.range i).flatMap (brkOf rows ps)).map pr ++ ((((ups (i + 1) rows.length).filter (want rows i)).filter (brk rows ps i)).map fun b => pr (i, b)) := by
      rw [List.range_succ, List.flatMap_append, List.map_append]
      congr 1
      simp only [List.flatMap_cons, List.flatMap_nil, List.append_nil]
      unfold brkOf
      rw [List.map_map]
      rfl
    have hl2 := congrArg List.length he
    rw [List.length_append, List.length_map] at hl2
    rw [ok_ok, cat_list (by omega), ok_ok, he]
    exact ⟨rfl, _, _, _, rfl⟩
  · rintro e s ⟨rfl, x3, x4, x5, rfl⟩
    refine ⟨trivial, ?_⟩
    unfold LC.S_breaking_pairs_3
    simp only [envE, so_seq, so_if, so_ret, so_retN, so_exp, so_nil, so_nx, so_rt, so_asg, so_asgG, so_par2, so_par3, ok_gNm, ok_gMore, ok_gNone, so_asgT, so_sub, so_for, ok_TB, ok_Tru, ok_notT, ok_andT, ok_orT, ok_andV, ok_orV, ok_notV, ok_iteE, ok_frz, ok_new, ok_mfArg, ok_mfBin, ok_lc, ok_M, ok_M0, ok_moNone, ok_moSome, ok_Sl,
  ok_bin, ok_un, ok_arg, ok_cons, ok_nil, ok_call, ok_var, ok_C, ok_ok, ok_stuck, ok_noX, bOf_bool, low_v, iOf_int, addD_int, subD_int, negD_int, ltD_int, leD_int, gtD_int, geD_int, fInt_int, isD_bool, isNotD_bool, tru_bool, List.map_cons, List.map_nil, List.length_cons, List.length_nil, List.replicate_succ, List.replicate_zero, List.cons_append, List.nil_append,
  List.append_nil, List.getElem?_cons_zero, List.getElem?_cons_succ, List.set_cons_zero, List.set_cons_succ, Option.some.injEq, exists_eq_left', exists_eq_left, true_and, and_true, true_implies, false_implies, implies_true, Bool.false_eq_true, reduceCtorEq, false_and, and_false, D.v.injEq, PyData.int.injEq, D.ref.injEq, p1i_int, p2_two, p3_three, decide_true, Bool.not_true, Bool.not_false, decide_eq_true_eq, decide_eq_false_iff_not, tup_list]
    refine ⟨?_, List.take_length⟩
    unfold breaking
    rw [show (rngI 0 rows.length).length = rows.length by unfold rngI; rw [List.length_map, List.length_range], Nat.zero_add]
theorem place_lt (hb : b ∈ row rows a) : decide ((place rows a (some b) : Int) < (place rows a c : Int)) = rather rows a b c := by
  have h1 := List.idxOf_lt_length_of_mem hb
  have e1 : place rows a (some b) = (row rows a).idxOf b := if_pos hb
  unfold rather
  rw [decide_eq_true hb, e1, Bool.true_and]
  cases c with
  | none =>
    have e2 : place rows a none = (row rows a).length := rfl
    rw [e2]
    exact decide_eq_true (by omega)
  | some c =>
    by_cases hc : c ∈ row rows a
    · have e2 : place rows a (some c) = (row rows a).idxOf c := if_pos hc
      rw [e2]
      show _ = (!decide (c ∈ row rows a) || decide ((row rows a).idxOf b < (row rows a).idxOf c))
      rw [decide_eq_true hc]
      simp
    · have e2 : place rows a (some c) = (row rows a).length + 1 := if_neg hc
      rw [e2]
      show _ = (!decide (c ∈ row rows a) || decide ((row rows a).idxOf b < (row rows a).idxOf c))
      rw [decide_eq_false hc]
      exact decide_eq_true (by omega)
theorem want_row (h : want rows a b = true) : b ∈ row rows a ∧ a ∈ row rows b := by
  unfold want at h
  simpa using h
end
def r2 (p : Nat × Nat) : List Int := [(p.1 : Int), (p.2 : Int)]
def insP (a : Nat × Nat) : List (Nat × Nat) → List (Nat × Nat)
  | [] => [a]
  | b :: r => if lexLe (r2 a) (r2 b) then a :: b :: r else b :: insP a r
def sortP : List (Nat × Nat) → List (Nat × Nat)
  | [] => []
  | a :: r => insP a (sortP r)
theorem insP_map (a : Nat × Nat) : ∀ l : List (Nat × Nat), insR (r2 a) (l.map r2) = (insP a l).map r2
  | [] => rfl
  | b :: r => by
    rw [List.map_cons]
    unfold insR insP
    split
    · rfl
    · rw [List.map_cons, insP_map a r]
theorem sortP_map : ∀ l : List (Nat × Nat), sortR (l.map r2) = (sortP l).map r2
  | [] => rfl
  | a :: r => by
    rw [List.map_cons]
    unfold sortR sortP
    rw [sortP_map r, insP_map]
section
variable {rows : List (List Nat)} {ps : List (Nat × Nat)} {p : Nat × Nat} {st : Sto}
end
end Fw.Hl
namespace Fw.Hl
open PySem PySem.Spec PyProof.Rows L2 Fw
structure Hall (rows : List (List Nat)) : Prop where
  pos : 1 ≤ rows.length
  nd : ∀ a, (row rows a).Nodup
  mem : ∀ {a b}, b ∈ row rows a → b < rows.length ∧ b ≠ a
def far (p q : Nat × Nat) : Prop := p.1 ≠ q.1 ∧ p.1 ≠ q.2 ∧ p.2 ≠ q.1 ∧ p.2 ≠ q.2
theorem far_symm {p q : Nat × Nat} (h : far p q) : far q p := ⟨h.1.symm, h.2.2.1.symm, h.2.1.symm, h.2.2.2.symm⟩
structure Prs (n : Nat) (ps : List (Nat × Nat)) : Prop where
  lt : ∀ p ∈ ps, p.1 < p.2 ∧ p.2 < n
  far : ps.Pairwise far
structure Prg (rows : List (List Nat)) (ps : List (Nat × Nat)) : Prop extends Prs rows.length ps where
  want : ∀ p ∈ ps, want rows p.1 p.2 = true
theorem sub_len {α : Type} [DecidableEq α] : ∀ {l m : List α}, l.Nodup → (∀ x ∈ l, x ∈ m) → l.length ≤ m.length
  | [], _, _, _ => Nat.zero_le _
  | a :: r, m, nd, h => by
    obtain ⟨h1, h2⟩ := List.nodup_cons.mp nd
    have ha := h a List.mem_cons_self
    have ih := sub_len (m := m.erase a) h2 fun x hx => (List.mem_erase_of_ne fun (e : x = a) => h1 (e ▸ hx)).mpr (h x (List.mem_cons_of_mem _ hx))
    have hp := List.length_pos_of_mem ha
    rw [List.length_erase_of_mem ha] at ih
    rw [List.length_cons]
    omega
theorem Prs.len {n : Nat} {ps : List (Nat × Nat)} (h : Prs n ps) : ps.length ≤ n := by
  have h1 : (ps.map (·.1)).Nodup := List.pairwise_map.mpr (h.far.imp fun h => h.1)
  have h2 := sub_len (m := List.range n) h1 fun x hx => by
    obtain ⟨p, hp, rfl⟩ := List.mem_map.mp hx
    have := h.lt p hp
    exact List.mem_range.mpr (by omega)
  rw [List.length_map, List.length_range] at h2
  exact h2
def wantOf (rows : List (List Nat)) (a : Nat) : List (Nat × Nat) := ((ups (a + 1) rows.length).filter (want rows a)).map fun b => (a, b)
def wanting (rows : List (List Nat)) : List (Nat × Nat) := (List.range rows.length).flatMap (wantOf rows)
theorem shaped_prs (ps : List (Nat × Nat)) : SeqAt.shaped (.list (ps.map pr)) = true ∧ SeqAt.shaped (pairsD ps) = true := by
  have key : ∀ l : List (Nat × Nat), PyData.canLayAll0 (l.map pr) = true ∧ PyData.depthAll (l.map pr) ≤ 1 := fun l => by
    induction l with
    | nil => exact ⟨rfl, by simp [PyData.depthAll]⟩
    | cons a r ih =>
      rw [List.map_cons, PyData.canLayAll0, PyData.depthAll, ih.1]
      refine ⟨by simp [PyData.canLay0, PyData.canLayAll0], Nat.max_le.mpr ⟨by simp [PyData.depth, PyData.depthAll], ih.2⟩⟩
  obtain ⟨k1, k2⟩ := key ps
  unfold SeqAt.shaped
  rw [PyData.canLay0, PyData.depth, PyData.canLay0, PyData.depth, k1]
  have h : PyData.depthAll (ps.map pr) + 1 ≤ 2 := by omega
  rw [Bool.true_and]
  exact ⟨decide_eq_true (Nat.le_trans h (by decide)), decide_eq_true (Nat.le_trans h (by decide))⟩
end Fw.Hl
namespace Fw.Hl
open Fw
section
variable {rows : List (List Nat)} {ps : List (Nat × Nat)} {a b c p q x n : Nat} {L : List Nat} {side : Nat → Bool}
def Br (rows : List (List Nat)) (ps : List (Nat × Nat)) (a b : Nat) : Prop := want rows a b = true ∧ rather rows a b (partner ps a) = true ∧ rather rows b a (partner ps b) = true
theorem want_symm : want rows a b = want rows b a := by
  unfold want
  rw [Bool.and_comm]
theorem Br.symm (h : Br rows ps a b) : Br rows ps b a := ⟨want_symm ▸ h.1, h.2.2, h.2.1⟩
theorem Br.row (h : Br rows ps a b) : b ∈ row rows a ∧ a ∈ row rows b := want_row h.1
theorem rather_iff {o : Option Nat} (hb : b ∈ row rows a) : rather rows a b o = true ↔ place rows a (some b) < place rows a o := by
  rw [← place_lt hb, decide_eq_true_eq]
  omega
theorem mem_brk : (a, b) ∈ breaking rows ps ↔ a < b ∧ b < rows.length ∧ Br rows ps a b := by
  unfold breaking
  rw [List.mem_flatMap]
  constructor
  · rintro ⟨a', ha', h⟩
    unfold brkOf at h
    obtain ⟨b', hb', e⟩ := List.mem_map.mp h
    cases e
    obtain ⟨h1, h2⟩ := List.mem_filter.mp hb'
    obtain ⟨h3, h4⟩ := List.mem_filter.mp h1
    have h5 := mem_ups.mp h3
    unfold brk at h2
    rw [Bool.and_eq_true] at h2
    exact ⟨by omega, h5.2, h4, h2.1, h2.2⟩
  · rintro ⟨h1, h2, h3, h4, h5⟩
    refine ⟨a, List.mem_range.mpr (by omega), List.mem_map.mpr ⟨b, List.mem_filter.mpr ⟨List.mem_filter.mpr ⟨mem_ups.mpr ⟨by omega, h2⟩, h3⟩, ?_⟩, rfl⟩⟩
    unfold brk
    rw [h4, h5]
    rfl
theorem far_of {l : List (Nat × Nat)} (h : l.Pairwise far) : ∀ {p q}, p ∈ l → q ∈ l → p = q ∨ far p q := by
  induction l with
  | nil => exact fun hp => nomatch hp
  | cons a r ih =>
    intro p q hp hq
    obtain ⟨h1, h2⟩ := List.pairwise_cons.mp h
    rcases List.mem_cons.mp hp with e1 | hp
    · rcases List.mem_cons.mp hq with e2 | hq
      · exact .inl (e1.trans e2.symm)
      · exact .inr (e1 ▸ h1 q hq)
    · rcases List.mem_cons.mp hq with e2 | hq
      · exact .inr (e2 ▸ far_symm (h1 p hp))
      · exact ih h2 hp hq
theorem partner_iff (h : Prs n ps) : partner ps a = some c ↔ (a, c) ∈ ps ∨ (c, a) ∈ ps := by
  unfold partner
  rw [Option.map_eq_some_iff]
  constructor
  · rintro ⟨p, hp, e⟩
    have hm := List.mem_of_find?_eq_some hp
    have ha : a = p.1 ∨ a = p.2 := by simpa using List.find?_some hp
    by_cases h1 : a = p.1
    · rw [if_pos h1] at e
      left
      rw [h1, ← e]
      exact hm
    · rw [if_neg h1] at e
      right
      rw [← e, ha.resolve_left h1]
      exact hm
  · intro hm
    have hex : ∃ q ∈ ps, decide (a = q.1 ∨ a = q.2) = true ∧ (q = (a, c) ∨ q = (c, a)) := by
      rcases hm with hm | hm
      · exact ⟨_, hm, by simp, .inl rfl⟩
      · exact ⟨_, hm, by simp, .inr rfl⟩
    obtain ⟨q, hq, hqa, hqe⟩ := hex
    cases hf : ps.find? (fun p => decide (a = p.1 ∨ a = p.2)) with
    | none => exact absurd hqa (List.find?_eq_none.mp hf q hq)
    | some r =>
      have hr := List.mem_of_find?_eq_some hf
      have hra : a = r.1 ∨ a = r.2 := by simpa using List.find?_some hf
      have hqa : a = q.1 ∨ a = q.2 := by simpa using hqa
      have hrq : r = q := by
        rcases far_of h.far hr hq with e | e
        · exact e
        · obtain ⟨e1, e2, e3, e4⟩ := e
          rcases hra with u | u <;> rcases hqa with w | w
          · exact absurd (u.symm.trans w) e1
          · exact absurd (u.symm.trans w) e2
          · exact absurd (u.symm.trans w) e3
          · exact absurd (u.symm.trans w) e4
      refine ⟨r, rfl, ?_⟩
      have hlt := h.lt q hq
      rw [hrq]
      rcases hqe with e | e
      · rw [e, if_pos rfl]
      · rw [e] at hlt ⊢
        rw [if_neg (by show ¬ a = c; have := hlt.1; have : c < a := this; omega)]
theorem partner_symm (h : Prs n ps) (e : partner ps a = some c) : partner ps c = some a := (partner_iff h).mpr ((partner_iff h).mp e).symm
theorem partner_want (h : Prg rows ps) (e : partner ps a = some c) : want rows a c = true := by
  rcases (partner_iff h.toPrs).mp e with m | m
  · exact h.want _ m
  · rw [want_symm]; exact h.want _ m
theorem row_len (H : Hall rows) : (row rows a).length ≤ rows.length := by
  have := sub_len (m := List.range rows.length) (H.nd a) fun x hx => List.mem_range.mpr (H.mem hx).1
  rw [List.length_range] at this
  exact this
end
end Fw.Hl
namespace Fw.Da
open Fw Fw.Hl
section
variable {rows : List (List Nat)} {μ : List (Nat × Nat)} {S : List Nat} {a b m w x y : Nat} {sd : Nat → Bool}
def wr (rows : List (List Nat)) (a : Nat) : List Nat := (row rows a).filter (want rows a)
theorem mem_wr : b ∈ wr rows a ↔ want rows a b = true := by
  unfold wr
  rw [List.mem_filter]
  exact ⟨fun h => h.2, fun h => ⟨(want_row h).1, h⟩⟩
theorem place_row (h : b ∈ row rows a) : place rows a (some b) = (row rows a).idxOf b := if_pos h
theorem up_idx : ∀ {l : List Nat}, l.Nodup → l.Pairwise fun x y => l.idxOf x < l.idxOf y
  | [], _ => .nil
  | c :: r, nd => by
    obtain ⟨h1, h2⟩ := List.nodup_cons.mp nd
    have ne : ∀ {z}, z ∈ r → (c :: r).idxOf z = r.idxOf z + 1 := fun {z} hz => by
      have hcz : c ≠ z := fun e => h1 (e ▸ hz)
      rw [List.idxOf_cons, show (c == z) = false by simpa using hcz]
      rfl
    refine List.pairwise_cons.mpr ⟨fun z hz => ?_, ?_⟩
    · rw [List.idxOf_cons_self, ne hz]
      exact Nat.succ_pos _
    · refine (up_idx h2).imp_of_mem fun {u v} hu hv huv => ?_
      rw [ne hu, ne hv]
      omega
theorem wr_up (H : Hall rows) : (wr rows a).Pairwise fun x y => place rows a (some x) < place rows a (some y) := by
  have h := (up_idx (H.nd a)).filter (want rows a)
  refine h.imp_of_mem fun {u v} hu hv huv => ?_
  rw [place_row (List.mem_filter.mp hu).1, place_row (List.mem_filter.mp hv).1]
  exact huv
theorem wr_at (H : Hall rows) {i j : Nat} {u v : Nat} (hi : (wr rows a)[i]? = some u) (hj : (wr rows a)[j]? = some v) (h : i < j) : place rows a (some u) < place rows a (some v) := by
  obtain ⟨h1, rfl⟩ := List.getElem?_eq_some_iff.mp hi
  obtain ⟨h2, rfl⟩ := List.getElem?_eq_some_iff.mp hj
  exact List.pairwise_iff_getElem.mp (wr_up H) i j h1 h2 h
theorem wr_idx (h : want rows a b = true) : ∃ i : Nat, (wr rows a)[i]? = some b := List.getElem?_of_mem (mem_wr.mpr h)
structure Two (rows : List (List Nat)) (sd : Nat → Bool) (S : List Nat) : Prop where
  hall : Hall rows
  two : ∀ {a b}, b ∈ row rows a → sd b = !sd a
  nd : S.Nodup
  mem : ∀ {a}, a ∈ S ↔ a < rows.length ∧ sd a = true
abbrev Held := List (Nat × Nat)
def Mild (rows : List (List Nat)) (S : List Nat) (μ : List (Nat × Nat)) : Prop := ∀ {h w}, h ∈ S → Br rows μ h w → partner μ w = none
structure St (rows : List (List Nat)) (S : List Nat) (ask : Nat → Nat) (hd : Held) (free : List Nat) : Prop where
  keys : (hd.map (·.1)).Nodup
  fnd : free.Nodup
  fin : ∀ {m}, m ∈ free → m ∈ S
  held : ∀ {w m}, (w, m) ∈ hd → m ∈ S ∧ ¬ m ∈ free ∧ 0 < ask m ∧ (wr rows m)[ask m - 1]? = some w
  done : ∀ {m}, m ∈ S → ¬ m ∈ free → (∃ w, (w, m) ∈ hd) ∨ (wr rows m).length ≤ ask m
  le : ∀ {m}, ask m ≤ (wr rows m).length
  asked : ∀ {m}, m ∈ S → ∀ {j w}, j < ask m → (wr rows m)[j]? = some w → ∃ m', (w, m') ∈ hd ∧ (m' = m ∨ place rows w (some m') < place rows w (some m))
  opt : ∀ {μ}, Prg rows μ → Mild rows S μ → ∀ {m}, m ∈ S → ∀ {j w}, j < ask m → (wr rows m)[j]? = some w → ¬ (w, m) ∈ hd → partner μ m ≠ some w
theorem start (nd : S.Nodup) : St rows S (fun _ => 0) [] S :=
  ⟨.nil, nd, id, (fun h => nomatch h), fun h1 h2 => absurd h1 h2, Nat.zero_le _, (by intro m _ j w h; exact absurd h (Nat.not_lt_zero _)), (by intro μ _ _ m _ j w h; exact absurd h (Nat.not_lt_zero _))⟩
def inc (ask : Nat → Nat) (a : Nat) : Nat → Nat := fun x => if x = a then ask x + 1 else ask x
theorem inc_same {ask : Nat → Nat} : inc ask a a = ask a + 1 := if_pos rfl
theorem inc_ne {ask : Nat → Nat} (h : x ≠ a) : inc ask a x = ask x := if_neg h
variable {ask : Nat → Nat} {hd : Held} {free : List Nat}
theorem let_go (T : Two rows sd S) {h r : Nat} (hs : h ∈ S) (k : Nat) (hk : (wr rows h)[k]? = some w) (before : ∀ {μ}, Prg rows μ → Mild rows S μ → ∀ {j v}, j < k → (wr rows h)[j]? = some v → partner μ h ≠ some v)
    (better : place rows w (some h) < place rows w (some r)) (pμ : Prg rows μ) (bμ : Mild rows S μ) : partner μ r ≠ some w := fun e => by
  have e2 := partner_symm pμ.toPrs e
  have hwant : want rows h w = true := mem_wr.mp (List.mem_of_getElem? hk)
  have hrow := want_row hwant
  have hrw := want_row (partner_want pμ e2)
  have hne : h ≠ r := fun z => by rw [z] at better; exact Nat.lt_irrefl _ better
  have h1 : rather rows w h (partner μ w) = true := by rw [e2]; exact (rather_iff hrow.2).mpr better
  have h2 : rather rows h w (partner μ h) = true := by
    refine (rather_iff hrow.1).mpr ?_
    cases q : partner μ h with
    | none =>
      rw [place_row hrow.1]
      exact List.idxOf_lt_length_of_mem hrow.1
    | some v =>
      have hwv := partner_want pμ q
      obtain ⟨j, hj⟩ := wr_idx hwv
      rcases Nat.lt_trichotomy j k with c | c | c
      · exact absurd q (before pμ bμ c hj)
      · subst c
        rw [hk] at hj
        cases hj
        have := partner_symm pμ.toPrs q
        rw [e2] at this
        exact absurd (Option.some.inj this) (fun z => hne z.symm)
      · exact wr_at T.hall hk hj c
  have hB : Br rows μ h w := ⟨hwant, h2, h1⟩
  have := bμ hs hB
  rw [e2] at this
  cases this
structure Ask (rows : List (List Nat)) (S : List Nat) (ask : Nat → Nat) (hd : Held) (free : List Nat) (a w : Nat) : Prop where
  st : St rows S ask hd (free ++ [a])
  ask : (wr rows a)[ask a]? = some w
theorem keep (T : Two rows sd S) (A : Ask rows S ask hd free a w) {h : Nat} (hh : (w, h) ∈ hd) (hb : place rows w (some h) < place rows w (some a)) : St rows S (inc ask a) hd (free ++ [a]) := by
  have s := A.st
  have aS : a ∈ S := s.fin (List.mem_append_right _ (List.mem_singleton_self _))
  have hlt := (List.getElem?_eq_some_iff.mp A.ask).1
  have nah : ∀ {v}, ¬ (v, a) ∈ hd := fun h => (s.held h).2.1 (List.mem_append_right _ (List.mem_singleton_self _))
  have old : ∀ {m j}, j < inc ask a m → (m = a ∧ j = ask a) ∨ j < ask m := fun {m j} h => by
    by_cases e : m = a
    · subst e; rw [inc_same] at h; by_cases q : j = ask m
      · exact .inl ⟨rfl, q⟩
      · exact .inr (by omega)
    · rw [inc_ne e] at h; exact .inr h
  refine ⟨s.keys, s.fnd, s.fin, fun {v m} h => ?_, fun {m} hm hf => ?_, fun {m} => ?_, fun {m} hm {j v} hj hv => ?_, fun {μ} pμ bμ {m} hm {j v} hj hv hn => ?_⟩
  · have hma : m ≠ a := fun e => nah (e ▸ h)
    rw [inc_ne hma]
    exact s.held h
  · have e : m ≠ a := fun e => hf (e ▸ List.mem_append_right _ (List.mem_singleton_self _))
    rw [inc_ne e]
    exact s.done hm hf
  · by_cases e : m = a
    · subst e; rw [inc_same]; omega
    · rw [inc_ne e]; exact s.le
  · rcases old hj with ⟨rfl, rfl⟩ | hj
    · rw [A.ask] at hv; cases hv
      exact ⟨h, hh, .inr hb⟩
    · exact s.asked hm hj hv
  · rcases old hj with ⟨rfl, rfl⟩ | hj
    · rw [A.ask] at hv; cases hv
      obtain ⟨h1, h2, h3, h4⟩ := s.held hh
      refine let_go T h1 (ask h - 1) h4 (fun {μ} pμ bμ {j v} hj hv => s.opt pμ bμ h1 (by omega) hv fun z => ?_) hb pμ bμ
      have e := (s.held z).2.2.2
      have hnd := wr_at T.hall hv e hj
      exact Nat.lt_irrefl _ hnd
    · exact s.opt pμ bμ hm hj hv hn
def swap (hd : Held) (w a : Nat) : Held := hd.map fun p => if p.1 = w then (w, a) else p
end
end Fw.Da
namespace Fw.Da
open Fw Fw.Hl
section
variable {rows : List (List Nat)} {μ : List (Nat × Nat)} {S : List Nat} {a b m w x y : Nat} {sd : Nat → Bool} {ask : Nat → Nat} {hd : Held} {free : List Nat}
def mm (p : Nat × Nat) : Nat × Nat := (min p.1 p.2, max p.1 p.2)
theorem St.one (s : St rows S ask hd free) {v : Nat} (h1 : (w, m) ∈ hd) (h2 : (v, m) ∈ hd) : w = v := by
  have e1 := (s.held h1).2.2.2
  have e2 := (s.held h2).2.2.2
  rw [e1] at e2
  exact Option.some.inj e2
end
end Fw.Da
namespace Fw.Da
open Fw Fw.Hl
section
variable {rows : List (List Nat)} {μ ν : List (Nat × Nat)} {S : List Nat} {a b m w : Nat} {sd : Nat → Bool}
end
end Fw.Da
namespace Fw.Da
open PySem PySem.Spec PyProof.Rows L2 Fw Fw.Hl
section
variable {rows : List (List Nat)} {μ : List (Nat × Nat)} {S : List Nat} {a b m w x y n : Nat} {sd : Nat → Bool} {ask : Nat → Nat} {hd : Held} {free : List Nat} {st : Sto} {kvs : List (PyData × D)}
def bst (st : Sto) (A B : List (PyData × D)) (F : List PyData) : Sto := st ++ [O.dct false A, O.dct false B, O.lst F]
variable {A A' B B' : List (PyData × D)} {F F' : List PyData}
theorem b1 : (bst st A B F)[st.length + 1]? = some (O.dct false B) := by unfold bst; rw [List.getElem?_append_right (by omega), show st.length + 1 - st.length = 1 by omega]; rfl
theorem b2 : (bst st A B F)[st.length + 2]? = some (O.lst F) := by unfold bst; rw [List.getElem?_append_right (by omega), show st.length + 2 - st.length = 2 by omega]; rfl
end
end Fw.Da
namespace Fw.Da
open PySem PySem.Spec PyProof.Rows L2 Fw Fw.Hl
section
variable {rows : List (List Nat)} {S : List Nat} {sd : Nat → Bool} {st : Sto}
end
end Fw.Da
namespace Fw.Da
open PySem PySem.Spec PyProof.Rows L2 Fw Fw.Hl
section
variable {rows : List (List Nat)} {ps qs μ ν : List (Nat × Nat)} {a b n i : Nat} {st : Sto}
theorem row_ok {p : Nat × Nat} (h : p.1 < 1000000 ∧ p.2 < 1000000) : RowOk 2 (r2 p) := by
  refine rowB_ok ?_
  unfold rowB
  rw [Bool.and_eq_true]
  refine ⟨rfl, List.all_eq_true.mpr fun m hm => decide_eq_true ?_⟩
  simp only [r2, List.mem_cons, List.not_mem_nil, or_false] at hm
  rcases hm with rfl | rfl
  · exact ⟨by omega, show (p.1 : Int) < 1000000 by omega⟩
  · exact ⟨by omega, show (p.2 : Int) < 1000000 by omega⟩
theorem r2_inj {p q : Nat × Nat} (h : r2 p = r2 q) : p = q := by
  unfold r2 at h
  simp only [List.cons.injEq, and_true] at h
  exact Prod.ext (by omega) (by omega)
theorem map_r2 : ∀ {l m : List (Nat × Nat)}, l.map r2 = m.map r2 → l = m
  | [], [], _ => rfl
  | [], _ :: _, h => nomatch h
  | _ :: _, [], h => nomatch h
  | a :: r, b :: s, h => by
    rw [List.map_cons, List.map_cons] at h
    have h1 := List.head_eq_of_cons_eq h
    have h2 := List.tail_eq_of_cons_eq h
    rw [r2_inj h1, map_r2 h2]
theorem sortP_eq (hp : ps.Perm qs) (h : ∀ p ∈ qs, p.1 < 1000000 ∧ p.2 < 1000000) : sortP ps = sortP qs := by
  apply map_r2
  rw [← sortP_map, ← sortP_map]
  have h1 : ∀ r ∈ qs.map r2, RowOk 2 r := fun r hr => by
    obtain ⟨p, hp, rfl⟩ := List.mem_map.mp hr
    exact row_ok (h p hp)
  have h2 : ∀ r ∈ ps.map r2, RowOk 2 r := fun r hr => h1 r ((hp.map r2).mem_iff.mp hr)
  exact sortR_uniq h1 ((sortR_perm _).trans (hp.map r2)) (sortR_sorted h2)
def Srt (ps : List (Nat × Nat)) : Prop := ps = sortP ps
theorem prs_bd (h : Prs n ps) (hn : n ≤ 50) : ∀ p ∈ ps, p.1 < 1000000 ∧ p.2 < 1000000 := fun p hp => by have := h.lt p hp; omega
theorem srt_same (hn : n ≤ 50) (h1 : Prs n ps) (h2 : Prs n qs) (s1 : Srt ps) (s2 : Srt qs) (h : ∀ p, p ∈ ps ↔ p ∈ qs) : ps = qs := by
  have nd : ∀ {l : List (Nat × Nat)}, Prs n l → l.Nodup := fun {l} hl => hl.far.imp fun {a b} hf e => hf.1 (by rw [e])
  have hperm : ps.Perm qs := (List.perm_ext_iff_of_nodup (nd h1) (nd h2)).mpr h
  rw [s1, s2]
  exact sortP_eq hperm (prs_bd h2 hn)
def more (rows : List (List Nat)) (a : Nat) (ps : List (Nat × Nat)) : List (List (Nat × Nat)) := if partner ps a = none then (((ups (a + 1) rows.length).filter (want rows a)).filter fun b => decide (partner ps b = none)).map fun b => sortP (ps ++ [(a, b)]) else []
theorem flat_len {α β : Type} {f : α → List β} {k : Nat} (h : ∀ x, (f x).length ≤ k) : ∀ l : List α, (l.flatMap f).length ≤ l.length * k
  | [] => by simp
  | x :: r => by
    rw [List.flatMap_cons, List.length_append, List.length_cons, Nat.succ_mul]
    have := flat_len h r
    have := h x
    omega
def cnt (n : Nat) : Nat → Nat
  | 0 => 1
  | a + 1 => cnt n a * (1 + (n - (a + 1)))
end
end Fw.Da
namespace Fw.Da
open PySem PySem.Spec PyProof.Rows L2 Fw Fw.Hl
section
variable {rows : List (List Nat)} {ps qs μ ν : List (Nat × Nat)} {a b n i : Nat} {st : Sto}
theorem add_tupD {xs ys : List PyData} (h : xs.length + ys.length ≤ 1000000) : addD (.v (.tuple xs)) (.v (.tuple ys)) st = .ok (.v (.tuple (xs ++ ys))) st := by
  show (if xs.length + ys.length ≤ lim then Out.ok (D.v (.tuple (xs ++ ys))) st else .stuck) = _
  rw [if_pos (show xs.length + ys.length ≤ lim from h)]
end
end Fw.Da
namespace Fw.Aq
open PySem PySem.Spec PyProof.Rows L2 Fw Fw.Hl Fw.Da
section
variable {rows : List (List Nat)} {S lot : List Nat} {a b m w n k : Nat} {st : Sto} {ask : Nat → Nat} {hd : Held} {sd : Nat → Bool} {side : Bool}
def holder (hd : Held) (a : Nat) : Option Nat := ((hd.filter fun p => decide (p.2 = a)).map (·.1)).head?
def freeOf (rows : List (List Nat)) (S : List Nat) (ask : Nat → Nat) (hd : Held) : List Nat := S.filter fun a => decide (ask a < (wr rows a).length) && (holder hd a).isNone
def put (rows : List (List Nat)) (hd : Held) (b a : Nat) : Held := match hd.find? fun p => decide (p.1 = b) with
  | none => hd ++ [(b, a)]
  | some p => if rather rows b a (some p.2) then swap hd b a else hd
end
end Fw.Aq
namespace Fw.Aq
open PySem PySem.Spec PyProof.Rows L2 Fw Fw.Hl Fw.Da
structure AS where
  ask : Nat → Nat
  hd : Held
  out : List (Nat × Nat)
def nxt (rows : List (List Nat)) (S : List Nat) (s : AS) : Option AS := match freeOf rows S s.ask s.hd with
  | [] => none
  | a :: _ => match (wr rows a)[s.ask a]? with
    | none => none
    | some b => some ⟨inc s.ask a, put rows s.hd b a, s.out ++ [(a, b)]⟩
section
variable {rows : List (List Nat)} {S lot : List Nat} {a b m w n k : Nat} {st : Sto} {ask : Nat → Nat} {hd : Held} {sd : Nat → Bool} {side : Bool} {free : List Nat} {s t u : AS}
def left (rows : List (List Nat)) (S : List Nat) (s : AS) : Nat := (S.map fun a => (wr rows a).length - s.ask a).sum
def ast (st : Sto) (F : List PyData) (B A : List (PyData × D)) : Sto := st ++ [O.lst F, O.dct false B, O.dct false A]
variable {A A' B B' : List (PyData × D)} {F F' : List PyData} {more : Sto}
theorem a1 : (ast st F B A ++ more)[st.length + 1]? = some (O.dct false B) := by unfold ast; rw [List.append_assoc, List.getElem?_append_right (by omega), show st.length + 1 - st.length = 1 by omega]; rfl
theorem a2 : (ast st F B A ++ more)[st.length + 2]? = some (O.dct false A) := by unfold ast; rw [List.append_assoc, List.getElem?_append_right (by omega), show st.length + 2 - st.length = 2 by omega]; rfl
end
end Fw.Aq
namespace Fw.Aq
open PySem PySem.Spec PyProof.Rows L2 Fw Fw.Hl Fw.Da
section
variable {rows : List (List Nat)} {S lot : List Nat} {a b m w n k : Nat} {st : Sto} {ps qs μ ν : List (Nat × Nat)}
end
end Fw.Aq
namespace Fw.Aq
open PySem PySem.Spec PyProof.Rows L2 Fw Fw.Hl Fw.Da
section
variable {rows : List (List Nat)} {S lot : List Nat} {a b m w n k : Nat} {st : Sto} {ps qs μ ν : List (Nat × Nat)} {c o : Option Nat}
def InR (rows : List (List Nat)) (a : Nat) (c : Option Nat) : Prop := ∀ v, c = some v → v ∈ row rows a
theorem idx_last {l : List Nat} (h : b ∈ l) : idxP (nI b) (l.map nI ++ [.none]) = some (l.idxOf b) := by
  induction l with
  | nil => cases h
  | cons a r ih =>
    rw [List.map_cons, List.cons_append]
    unfold idxP
    rw [eqv_nat]
    by_cases e : a = b
    · subst e
      simp
    · have hb : b ∈ r := (List.mem_cons.mp h).resolve_left fun z => e z.symm
      rw [if_neg (by simpa using e), ih hb, List.idxOf_cons]
      have e2 : (a == b) = false := by simpa using e
      rw [e2]
      rfl
theorem idx_none {l : List Nat} : idxP .none (l.map nI ++ [.none]) = some l.length := by
  induction l with
  | nil => rfl
  | cons a r ih =>
    rw [List.map_cons, List.cons_append]
    unfold idxP
    rw [ih]
    rfl
theorem flat_last {l : List Nat} : (l.map nI ++ [PyData.none]).all flatP = true := by rw [List.all_append, flat_nats]; rfl
theorem index_last (h : InR rows a c) : fmIndex (.v (.list ((row rows a).map nI ++ [.none]))) [.v (optD c)] st = .ok (.v (nI (place rows a c))) st := by
  show (if flatP (optD c) && ((row rows a).map nI ++ [PyData.none]).all flatP then _ else _ : Out D) = _
  have e : (flatP (optD c) && ((row rows a).map nI ++ [PyData.none]).all flatP) = true := by rw [flat_last]; cases c <;> rfl
  rw [if_pos e]
  cases c with
  | none =>
    show (match idxP .none ((row rows a).map nI ++ [.none]) with
      | some j => Out.ok (D.v (.int (j : Nat))) st
      | none => _) = _
    rw [idx_none]
    rfl
  | some v =>
    show (match idxP (nI v) ((row rows a).map nI ++ [.none]) with
      | some j => Out.ok (D.v (.int (j : Nat))) st
      | none => _) = _
    rw [idx_last (h v rfl), place_row (h v rfl)]
end
end Fw.Aq
namespace Fw.Aq
open PySem PySem.Spec PyProof.Rows L2 Fw Fw.Hl Fw.Da
section
variable {rows : List (List Nat)} {S lot : List Nat} {a b m w n k : Nat} {st : Sto} {ps qs μ ν : List (Nat × Nat)} {c o : Option Nat}
theorem eqv_prs : ∀ {ps qs : List (Nat × Nat)}, PyData.eqv (pairsD ps) (pairsD qs) = decide (ps = qs) := by
  have one : ∀ {p q : Nat × Nat}, PyData.eqv (pr q) (pr p) = decide (q = p) := fun {p q} => by
    have e : PyData.eqv (pr q) (pr p) = (PyData.eqv (nI q.1) (nI p.1) && PyData.eqv (nI q.2) (nI p.2)) := by simp [PyData.eqv, PyData.eqvAll]
    rw [e, eqv_nat, eqv_nat, ← Bool.decide_and]
    exact decide_eq_decide.mpr Prod.ext_iff.symm
  have all : ∀ {ps qs : List (Nat × Nat)}, PyData.eqvAll (ps.map pr) (qs.map pr) = decide (ps = qs) := fun {ps} => by
    induction ps with
    | nil => intro qs; cases qs <;> simp [PyData.eqvAll]
    | cons p r ih =>
      intro qs
      cases qs with
      | nil => simp [PyData.eqvAll]
      | cons q t =>
        rw [List.map_cons, List.map_cons, PyData.eqvAll, one, ih, ← Bool.decide_and]
        exact decide_eq_decide.mpr (by rw [List.cons.injEq])
  intro ps qs
  show PyData.eqv (.tuple (ps.map pr)) (.tuple (qs.map pr)) = _
  rw [PyData.eqv]
  exact all
theorem eq_prs : eqD (.v (pairsD μ)) (.v (pairsD ν)) st = .ok (.v (.bool (decide (μ = ν)))) st := by
  unfold eqD
  have e : eqS st (.v (pairsD μ)) (.v (pairsD ν)) = some (decide (μ = ν)) := (eqT_of (st := st) (shaped_prs μ).2 (shaped_prs ν).2).trans (by rw [eqv_prs])
  rw [e]
theorem rep_hall (H : Hall rows) (hn : rows.length ≤ 50) : Rep (hallD rows) (2 * (50 * (50 + 1) + 1)) 3 := by
  have r1 : ∀ x ∈ rows.map tNs, Rep x 50 1 := fun x hx => by
    obtain ⟨l, hl, rfl⟩ := List.mem_map.mp hx
    obtain ⟨i, hi, rfl⟩ := List.getElem_of_mem hl
    have e : row rows i = rows[i] := by
      unfold row
      rw [List.getD_eq_getElem?_getD, List.getElem?_eq_getElem hi]
      rfl
    rw [← e]
    refine rep_tNs (fun k hk => ?_) ?_
    · have := (H.mem hk).1
      omega
    · exact Nat.le_trans (row_len H) hn
  have r2 := rep_tup r1 (w' := 50) (by rw [List.length_map]; exact hn)
  exact rep_tup (w' := 2) (fun x hx => by
    simp only [List.mem_cons, List.not_mem_nil, or_false] at hx
    rcases hx with rfl | rfl
    · exact rep_int (by omega)
    · exact r2) (Nat.le_refl _)
end
end Fw.Aq
namespace Fw.Aq
open PySem PySem.Spec PyProof.Rows L2 Fw Fw.Hl Fw.Da
section
variable {rows : List (List Nat)} {S lot : List Nat} {a b m w n k : Nat} {st : Sto} {ps qs μ ν : List (Nat × Nat)} {c o : Option Nat} {side : Bool} {t : AS}
def go (rows : List (List Nat)) (S : List Nat) : Nat → AS → AS
  | 0, s => s
  | k + 1, s => match nxt rows S s with
    | none => s
    | some u => go rows S k u
theorem row_out (h : ¬ a < rows.length) : row rows a = [] := by
  unfold row
  rw [List.getD_eq_getElem?_getD, List.getElem?_eq_none (by omega)]
  rfl
theorem hall_dec (h1 : 1 ≤ rows.length) (key : ∀ a, a < rows.length → (row rows a).Nodup ∧ ∀ b ∈ row rows a, b < rows.length ∧ b ≠ a) : Hall rows := by
  refine ⟨h1, fun a => ?_, fun {a b} hb => ?_⟩
  · by_cases h : a < rows.length
    · exact (key a h).1
    · rw [row_out h]; exact List.nodup_nil
  · by_cases h : a < rows.length
    · exact (key a h).2 b hb
    · rw [row_out h] at hb; cases hb
end
end Fw.Aq
namespace Fw.Aq
open PySem PySem.Spec PyProof.Rows L2 Fw Fw.Hl Fw.Da
section
variable {rows : List (List Nat)} {S lot : List Nat} {a b m w n k : Nat} {st : Sto} {ps qs μ ν L O : List (Nat × Nat)} {c o : Option Nat} {side : Bool} {t : AS}
def bs (lot : List Nat) (L O : List (Nat × Nat)) (a : Nat) : Option Nat := if a ∈ lot then partner L a else partner O a
def ws (lot : List Nat) (L O : List (Nat × Nat)) (a : Nat) : Option Nat := if a ∈ lot then partner O a else partner L a
def bnd (lot : List Nat) (L O : List (Nat × Nat)) (a : Nat) : PyData := .tuple [optD (bs lot L O a), optD (ws lot L O a)]
def okA (rows : List (List Nat)) (lot : List Nat) (L O μ : List (Nat × Nat)) (a : Nat) : Prop := place rows a (bs lot L O a) ≤ place rows a (partner μ a) ∧ place rows a (partner μ a) ≤ place rows a (ws lot L O a)
instance : Decidable (okA rows lot L O μ a) := by unfold okA; infer_instance
end
end Fw.Aq
namespace Fw.Aq
open PySem PySem.Spec PyProof.Rows L2 Fw Fw.Hl Fw.Da
section
variable {rows : List (List Nat)} {S lot : List Nat} {a b m w n k : Nat} {st : Sto} {ps qs μ ν L O : List (Nat × Nat)} {c o : Option Nat} {side : Bool} {t : AS}
abbrev Up (ps : List (Nat × Nat)) : Prop := ps.Pairwise fun p q => p.1 < q.1
theorem sortP_up (h : Up ps) : sortP ps = ps := by
  induction ps with
  | nil => rfl
  | cons p r ih =>
    obtain ⟨h1, h2⟩ := List.pairwise_cons.mp h
    show insP p (sortP r) = p :: r
    rw [ih h2]
    cases r with
    | nil => rfl
    | cons q t =>
      have := h1 q List.mem_cons_self
      show (if lexLe (r2 p) (r2 q) = true then p :: q :: t else q :: insP p t) = _
      rw [if_pos]
      unfold r2 lexLe
      simp
      omega
theorem rep_prs (h : Prs n ps) (hn : n ≤ 50) : Rep (pairsD ps) (50 * (2 + 1)) 2 := by
  refine rep_tup (fun x hx => ?_) (by rw [List.length_map]; have := h.len; omega)
  obtain ⟨p, hp, rfl⟩ := List.mem_map.mp hx
  refine rep_tNs (fun k hk => ?_) (Nat.le_refl _)
  have := h.lt p hp
  simp only [List.mem_cons, List.not_mem_nil, or_false] at hk
  omega
end
end Fw.Aq
namespace Fw.An
open PySem PySem.Spec PyProof.Rows L2 Fw Fw.Hl Fw.Da Fw.Aq
inductive AV (B : Nat) : PyData → Prop
  | non : AV B .none
  | bl (b : Bool) : AV B (.bool b)
  | int (i : Int) (h : i.natAbs ≤ B) : AV B (.int i)
  | str (x : Str) (h : (x.cps.toList.all fun c => decide (c < 16 ^ 8)) = true) : AV B (.str x)
  | lst (xs : List PyData) (h : ∀ x ∈ xs, AV B x) : AV B (.list xs)
  | tup (xs : List PyData) (h : ∀ x ∈ xs, AV B x) : AV B (.tuple xs)
  | dct : AV B (.dict [])
section
variable {B C w k w' k' : Nat} {d : PyData} {xs ys : List PyData} {st : Sto}
theorem AV.mono (h : AV B d) (hc : B ≤ C) : AV C d := by
  induction h with
  | non => exact .non
  | bl b => exact .bl b
  | int i h => exact .int i (Nat.le_trans h hc)
  | str x h => exact .str x h
  | lst xs h ih => exact .lst xs ih
  | tup xs h ih => exact .tup xs ih
  | dct => exact .dct
theorem AV.all (h : AV B (.tuple xs)) : ∀ x ∈ xs, AV B x := by cases h with | tup _ h => exact h
theorem AV.ok (h : AV B d) (hB : B < 10 ^ 38) : kOk d = true ∧ d.showable = true ∧ d.leavesShort 40 = true ∧ tyB d = true := by
  have all : ∀ xs : List PyData, (∀ x ∈ xs, kOk x = true ∧ x.showable = true ∧ x.leavesShort 40 = true ∧ tyB x = true) → kOkA xs = true ∧ PyData.showableAll xs = true ∧ PyData.leavesShortAll 40 xs = true := fun xs => by
    induction xs with
    | nil => intro _; exact ⟨rfl, rfl, rfl⟩
    | cons x r ih =>
      intro h
      obtain ⟨a, b, c⟩ := ih fun y hy => h y (List.mem_cons_of_mem _ hy)
      obtain ⟨a1, b1, c1, _⟩ := h x List.mem_cons_self
      exact ⟨by rw [kOkA, a1, a]; rfl, by rw [PyData.showableAll, b1, b]; rfl, by rw [PyData.leavesShortAll, c1, c]; rfl⟩
  induction h with
  | non => exact ⟨rfl, rfl, rfl, rfl⟩
  | bl b => exact ⟨rfl, rfl, rfl, rfl⟩
  | int i h =>
    refine ⟨rfl, ?_, ?_, rfl⟩
    · rw [PyData.showable, decide_eq_true_eq]
      by_cases h0 : i.natAbs = 0
      · rw [h0]; decide
      · have h2 : i.natAbs < 2 ^ 200 := Nat.lt_of_le_of_lt h (Nat.lt_trans hB (by decide))
        have := (Nat.log2_lt h0 (k := 200)).mpr h2
        omega
    · rw [PyData.leavesShort, decide_eq_true_eq]
      have e := int_text_length_le10 (k := 38) (by decide) (show i.natAbs < 10 ^ 38 by omega)
      show (Str.ofString (toString i)).length ≤ 40
      rw [PySem.ofString_length]
      omega
  | str x h => exact ⟨rfl, rfl, by rw [PyData.leavesShort]; exact h, rfl⟩
  | lst xs h ih =>
    obtain ⟨a, b, c⟩ := all xs ih
    exact ⟨by rw [kOk]; exact a, by rw [PyData.showable]; exact b, by rw [PyData.leavesShort]; exact c, rfl⟩
  | tup xs h ih =>
    obtain ⟨a, b, c⟩ := all xs ih
    exact ⟨by rw [kOk]; exact a, by rw [PyData.showable]; exact b, by rw [PyData.leavesShort]; exact c, rfl⟩
  | dct => exact ⟨rfl, rfl, rfl, rfl⟩
structure An (B w k : Nat) (d : PyData) : Prop where
  av : AV B d
  bulk : d.bulk ≤ w
  dep : d.depth ≤ k
theorem An.mono (h : An B w k d) (h1 : w ≤ w') (h2 : k ≤ k') (h3 : B ≤ C) : An C w' k' d := ⟨h.av.mono h3, Nat.le_trans h.bulk h1, Nat.le_trans h.dep h2⟩
theorem An.repr (h : An B w k d) (hB : B < 10 ^ 38 := by decide) (hw : w ≤ 20000 := by decide) (hk : k ≤ 60 := by decide) : fReprM [.v d] st = .ok (.v (.str d.shown)) st := by
  obtain ⟨a, b, c, _⟩ := h.av.ok hB
  have hl := PyData.shown_le_bulk 40 (by decide) d c
  have h1 := h.bulk
  show (if kOk d && d.showable && decide (d.depth ≤ 60) && decide (d.shown.length ≤ lim) then Out.ok (D.v (.str d.shown)) st else fReprK [.v d] st) = _
  rw [if_pos]
  simp only [Bool.and_eq_true, decide_eq_true_eq]
  refine ⟨⟨⟨a, b⟩, Nat.le_trans h.dep hk⟩, ?_⟩
  show _ ≤ 1000000
  omega
theorem An.ty (h : AV B d) (hB : B < 10 ^ 38 := by decide) : tyB d = true := (h.ok hB).2.2.2
theorem depA_le {k : Nat} : ∀ {xs : List PyData}, (∀ x ∈ xs, x.depth ≤ k) ↔ PyData.depthAll xs ≤ k
  | [] => by simp [PyData.depthAll]
  | x :: r => by
    rw [PyData.depthAll, Nat.max_le, ← depA_le (xs := r)]
    simp
theorem bulkA_len : ∀ xs : List PyData, xs.length ≤ PyData.bulkAll xs
  | [] => Nat.zero_le _
  | x :: r => by
    have := bulkA_len r
    rw [PyData.bulkAll, List.length_cons]
    omega
theorem bulk_tup : (PyData.tuple xs).bulk = PyData.bulkAll xs := by rw [PyData.bulk]
theorem dep_tup : (PyData.tuple xs).depth = PyData.depthAll xs + 1 := by rw [PyData.depth]
theorem An.tup (h : ∀ x ∈ xs, AV B x ∧ x.depth ≤ k) (hb : PyData.bulkAll xs ≤ w) : An B w (k + 1) (.tuple xs) :=
  ⟨.tup xs fun x hx => (h x hx).1, by rw [bulk_tup]; exact hb, by rw [dep_tup]; exact Nat.succ_le_succ (depA_le.mp fun x hx => (h x hx).2)⟩
theorem An.parts (h : An B w k (.tuple xs)) : ∀ x ∈ xs, AV B x ∧ x.depth + 1 ≤ k := fun x hx => by
  have h1 := h.dep
  rw [dep_tup] at h1
  exact ⟨h.av.all x hx, by have := depA_le.mpr (Nat.le_refl (PyData.depthAll xs)) x hx; omega⟩
theorem An.len (h : An B w k (.tuple xs)) : xs.length ≤ w := by
  have := h.bulk
  rw [bulk_tup] at this
  exact Nat.le_trans (bulkA_len xs) this
end
section
variable {rest : Sto}
end
section
variable {B w k w' : Nat} {xs ys : List PyData} {st : Sto} {G : List (Nat × Nat)}
theorem bulkA_sub (h : ys.Sublist xs) : PyData.bulkAll ys ≤ PyData.bulkAll xs := by
  induction h with
  | slnil => exact Nat.le_refl _
  | cons a _ ih => rw [PyData.bulkAll]; omega
  | cons_cons a _ ih => rw [PyData.bulkAll, PyData.bulkAll]; omega
theorem An.mk2 (h : An B w k (.tuple xs)) (hm : ∀ x ∈ ys, x ∈ xs) (hb : PyData.bulkAll ys ≤ w') : An B w' k (.tuple ys) := by
  cases k with
  | zero => have := h.dep; rw [dep_tup] at this; exact absurd this (Nat.not_succ_le_zero _)
  | succ k =>
    refine An.tup (fun x hx => ?_) hb
    obtain ⟨a, b⟩ := h.parts x (hm x hx)
    exact ⟨a, by omega⟩
theorem An.sub (h : An B w k (.tuple xs)) (hs : ys.Sublist xs) : An B w k (.tuple ys) := h.mk2 (fun _ hx => hs.mem hx) (by have := h.bulk; rw [bulk_tup] at this; exact Nat.le_trans (bulkA_sub hs) this)
theorem An.lst (h : An B w k (.tuple xs)) : An B w k (.list xs) := ⟨.lst xs h.av.all, by rw [PyData.bulk]; have := h.bulk; rw [bulk_tup] at this; exact this, by rw [PyData.depth]; have := h.dep; rw [dep_tup] at this; exact this⟩
theorem an_pr {p : Nat × Nat} (h : p.1 ≤ B ∧ p.2 ≤ B) : An B 2 1 (pr p) := ⟨.tup [nI p.1, nI p.2] fun x hx => by
  simp only [List.mem_cons, List.mem_nil_iff, or_false] at hx
  rcases hx with rfl | rfl
  · exact .int _ h.1
  · exact .int _ h.2, by simp [pr, PyData.bulk, PyData.bulkAll], by simp [pr, PyData.depth, PyData.depthAll]⟩
theorem an_prs : ∀ {G : List (Nat × Nat)}, (∀ p ∈ G, p.1 ≤ B ∧ p.2 ≤ B) → An B (3 * G.length) 2 (pairsD G) := fun {G} h => by
  refine An.tup (fun x hx => ?_) ?_
  · obtain ⟨p, hp, rfl⟩ := List.mem_map.mp hx
    have := an_pr (h p hp)
    exact ⟨this.av, this.dep⟩
  · induction G with
    | nil => exact Nat.le_refl _
    | cons p r ih =>
      have e := (an_pr (h p List.mem_cons_self)).bulk
      have := ih fun q hq => h q (List.mem_cons_of_mem _ hq)
      rw [List.map_cons, PyData.bulkAll, List.length_cons]
      omega
end
section
variable {st : Sto}
theorem ok_fSl {m : ME} {lo hi : MO} {env : Ev} {P : List PyData → Sto → Prop} : (mfSl m lo hi env st).Ok P ↔ (m env st).Ok fun a s1 => (lo env s1).Ok fun l s2 => (hi env s2).Ok fun h s3 => ∃ xs, viewL s3 a = some xs ∧ P (cutP xs l h) s3 := by
  unfold mfSl
  rw [ok_bind]
  have e : ∀ a l h s3, (match viewL s3 a with
      | some xs => Out.ok (cutP xs l h) s3
      | none => .stuck).Ok P ↔ ∃ xs, viewL s3 a = some xs ∧ P (cutP xs l h) s3 := fun a l h s3 => by
    cases viewL s3 a with
    | none => exact ⟨fun z => z.elim, fun ⟨_, z, _⟩ => nomatch z⟩
    | some xs => exact ⟨fun z => ⟨xs, rfl, z⟩, fun ⟨_, z, q⟩ => by cases z; exact q⟩
  constructor
  · intro z
    refine z.mono fun a s1 q => ?_
    rw [ok_bind] at q
    refine q.mono fun l s2 q => ?_
    rw [ok_bind] at q
    exact q.mono fun h s3 q => (e a l h s3).mp q
  · intro z
    refine z.mono fun a s1 q => ?_
    rw [ok_bind]
    refine q.mono fun l s2 q => ?_
    rw [ok_bind]
    exact q.mono fun h s3 q => (e a l h s3).mpr q
end
theorem reprM_of {d : PyData} {st : Sto} {w k : Nat} (r : Rep d w k) (h1 : w ≤ 60000 := by decide) (h2 : k ≤ 60 := by decide) : fReprM [.v d] st = .ok (.v (.str d.shown)) st := by
  show (if kOk d && d.showable && decide (d.depth ≤ 60) && decide (d.shown.length ≤ lim) then Out.ok (D.v (.str d.shown)) st else fReprK [.v d] st) = _
  split
  · rfl
  · exact repr_of r h1 h2
section
variable {rows : List (List Nat)} {st : Sto} {B : Nat} {x : PyData} {xs : List PyData}
theorem lcL_auto {α : Type} {g : MG} {t : MT} {m : ME} {env0 : Ev} {f : α → Itm} (p : α → Bool) (F : α → PyData) (l : List α) (h : ∀ a ∈ l, (g (f a) env0 st).Ok fun e1 s1 => s1 = st ∧ (t e1 st).Ok fun k s2 => s2 = st ∧ k = p a ∧ (p a = true → (m e1 st).Ok fun v s3 => s3 = st ∧ v = .v (F a))) :
    lcL none g t m env0 (l.map f) st = .ok ((l.filter p).map F) st := by
  rw [lcL_mapA f (fun a => if p a = true then some (F a) else none), fm_filter]
  intro a ha
  refine (h a ha).mono ?_
  rintro e1 s1 ⟨rfl, h⟩
  refine ⟨rfl, h.mono ?_⟩
  rintro k s2 ⟨rfl, rfl, h⟩
  refine ⟨rfl, fun hk => (h hk).mono ?_, fun hk => by rw [if_neg (by rw [hk]; exact Bool.false_ne_true)]⟩
  rintro v s3 ⟨rfl, rfl⟩
  exact ⟨rfl, _, rfl, by rw [if_pos hk]⟩
end
end Fw.An
namespace Fw.Tl
open PySem PySem.Spec PyProof.Rows L2 Fw Fw.Hl Fw.Da
section
variable {rows : List (List Nat)} {S : List Nat} {sd : Nat → Bool} {st : Sto} {a b m w n : Nat} {ask : Nat → Nat} {hd : Held} {free : List Nat}
def key2 (a b : Nat) : NestedKey := .tup [.num a, .num b]
def pst (st : Sto) (B T : List (PyData × D)) (F : List PyData) : Sto := st ++ [O.dct false B, O.tab T, O.lst F]
variable {B B' T T' : List (PyData × D)} {F F' : List PyData}
theorem p1 : (pst st B T F)[st.length + 1]? = some (O.tab T) := by unfold pst; rw [List.getElem?_append_right (by omega), show st.length + 1 - st.length = 1 by omega]; rfl
theorem p2 : (pst st B T F)[st.length + 2]? = some (O.lst F) := by unfold pst; rw [List.getElem?_append_right (by omega), show st.length + 2 - st.length = 2 by omega]; rfl
end
end Fw.Tl
namespace Fw.Tl
open PySem PySem.Spec PyProof.Rows L2 Fw Fw.Hl Fw.Da
section
variable {rows : List (List Nat)} {S : List Nat} {sd : Nat → Bool} {st : Sto} {a b m w n : Nat} {ask : Nat → Nat} {hd : Held} {free : List Nat}
end
end Fw.Tl
namespace Fw.Tl
open PySem PySem.Spec PyProof.Rows L2 Fw Fw.Hl Fw.Da Fw.Aq
section
variable {rows : List (List Nat)} {S lot : List Nat} {sd : Nat → Bool} {st : Sto} {a b m w n k : Nat} {ask : Nat → Nat} {hd : Held} {free : List Nat} {s t u : AS} {μ : List (Nat × Nat)}
theorem in_last {l : List Nat} {o : Option Nat} : inU (.v (optD o)) (.v (.list (l.map nI ++ [.none]))) st = .ok (.v (.bool (match o with
    | none => true
    | some b => decide (b ∈ l)))) st := by
  have e : (flatP (optD o) && (l.map nI ++ [PyData.none]).all flatP) = true := by rw [flat_last]; cases o <;> rfl
  show (match (if flatP (optD o) && (l.map nI ++ [PyData.none]).all flatP then some ((l.map nI ++ [PyData.none]).any fun y => PyData.eqv y (optD o)) else _) with
    | some k => Out.ok (D.v (.bool k)) st
    | none => .stuck) = _
  rw [if_pos e]
  show Out.ok (D.v (.bool ((l.map nI ++ [PyData.none]).any fun y => PyData.eqv y (optD o)))) st = _
  rw [List.any_append]
  cases o with
  | none =>
    have e2 : ([PyData.none].any fun y => PyData.eqv y (optD none)) = true := rfl
    rw [e2, Bool.or_true]
  | some b =>
    have e2 : ([PyData.none].any fun y => PyData.eqv y (optD (some b))) = false := rfl
    rw [e2, Bool.or_false, show optD (some b) = nI b from rfl, any_nat]
theorem lrat_eq (H : Hall rows) (hn : rows.length ≤ 50) (ha : a < rows.length) {o c : Option Nat} :
    LH.f_law_rather [.v (hallD rows), .v (nI a), .v (optD o), .v (optD c)] st = .ok (.v (.bool (decide (place rows a o < place rows a c)))) st := by
  refine Out.Ok.is (fnT_ok ?_)
  unfold LH.S_law_rather LH.S_law_rather_2 LH.S_law_rather_3
  have hl := row_len (a := a) H
  simp only [envE, so_seq, so_if, so_ret, so_retN, so_exp, so_nil, so_nx, so_rt, so_asg, so_asgG, so_par2, so_par3, ok_gNm, ok_gMore, ok_gNone, so_asgT, so_sub, so_for, ok_TB, ok_Tru, ok_notT, ok_andT, ok_orT, ok_andV, ok_orV, ok_notV, ok_iteE, ok_frz, ok_new, ok_mfArg, ok_mfBin, ok_lc, ok_M, ok_M0, ok_moNone, ok_moSome, ok_Sl,
  ok_bin, ok_un, ok_arg, ok_cons, ok_nil, ok_call, ok_var, ok_C, ok_ok, ok_stuck, ok_noX, bOf_bool, low_v, iOf_int, addD_int, subD_int, negD_int, ltD_int, leD_int, gtD_int, geD_int, fInt_int, isD_bool, isNotD_bool, tru_bool, List.map_cons, List.map_nil, List.length_cons, List.length_nil, List.replicate_succ, List.replicate_zero, List.cons_append, List.nil_append,
  List.append_nil, List.getElem?_cons_zero, List.getElem?_cons_succ, List.set_cons_zero, List.set_cons_succ, Option.some.injEq, exists_eq_left', exists_eq_left, true_and, and_true, true_implies, false_implies, implies_true, Bool.false_eq_true, reduceCtorEq, false_and, and_false, D.v.injEq, PyData.int.injEq, D.ref.injEq, p1i_int, p2_two, p3_three, decide_true, Bool.not_true, Bool.not_false, decide_eq_true_eq, decide_eq_false_iff_not, hall1, hall_row ha, list_tup, disp1]
  rw [cat_list (by rw [List.length_map, List.length_singleton]; omega), ok_ok]
  simp only [envE, so_seq, so_if, so_ret, so_retN, so_exp, so_nil, so_nx, so_rt, so_asg, so_asgG, so_par2, so_par3, ok_gNm, ok_gMore, ok_gNone, so_asgT, so_sub, so_for, ok_TB, ok_Tru, ok_notT, ok_andT, ok_orT, ok_andV, ok_orV, ok_notV, ok_iteE, ok_frz, ok_new, ok_mfArg, ok_mfBin, ok_lc, ok_M, ok_M0, ok_moNone, ok_moSome, ok_Sl,
  ok_bin, ok_un, ok_arg, ok_cons, ok_nil, ok_call, ok_var, ok_C, ok_ok, ok_stuck, ok_noX, bOf_bool, low_v, iOf_int, addD_int, subD_int, negD_int, ltD_int, leD_int, gtD_int, geD_int, fInt_int, isD_bool, isNotD_bool, tru_bool, List.map_cons, List.map_nil, List.length_cons, List.length_nil, List.replicate_succ, List.replicate_zero, List.cons_append, List.nil_append,
  List.append_nil, List.getElem?_cons_zero, List.getElem?_cons_succ, List.set_cons_zero, List.set_cons_succ, Option.some.injEq, exists_eq_left', exists_eq_left, true_and, and_true, true_implies, false_implies, implies_true, Bool.false_eq_true, reduceCtorEq, false_and, and_false, D.v.injEq, PyData.int.injEq, D.ref.injEq, p1i_int, p2_two, p3_three, decide_true, Bool.not_true, Bool.not_false, decide_eq_true_eq, decide_eq_false_iff_not, in_last]
  have hin : ∀ {o : Option Nat}, (match o with | none => true | some b => decide (b ∈ row rows a)) = true → InR rows a o := fun {o} h v e => by
    subst e
    exact of_decide_eq_true h
  have hout : ∀ {o : Option Nat}, (match o with | none => true | some b => decide (b ∈ row rows a)) = false → place rows a o = (row rows a).length + 1 := fun {o} h => by
    cases o with
    | none => cases h
    | some v => exact if_neg (of_decide_eq_false h)
  have hlen : ∀ st, fLen [.v (.list ((row rows a).map nI ++ [.none]))] st = .ok (.v (nI ((row rows a).length + 1))) st := fun st => by
    rw [Fw.len_list, List.length_append, List.length_map]
    rfl
  have hix : ∀ {o : Option Nat} (st : Sto), (match o with | none => true | some b => decide (b ∈ row rows a)) = true → fmIndex (.v (.list ((row rows a).map nI ++ [.none]))) [.v (optD o)] st = .ok (.v (nI (place rows a o))) st := fun st h => index_last (hin h)
  refine ⟨fun h1 => ?_, fun h1 => ?_⟩
  · simp only [envE, so_seq, so_if, so_ret, so_retN, so_exp, so_nil, so_nx, so_rt, so_asg, so_asgG, so_par2, so_par3, ok_gNm, ok_gMore, ok_gNone, so_asgT, so_sub, so_for, ok_TB, ok_Tru, ok_notT, ok_andT, ok_orT, ok_andV, ok_orV, ok_notV, ok_iteE, ok_frz, ok_new, ok_mfArg, ok_mfBin, ok_lc, ok_M, ok_M0, ok_moNone, ok_moSome, ok_Sl,
  ok_bin, ok_un, ok_arg, ok_cons, ok_nil, ok_call, ok_var, ok_C, ok_ok, ok_stuck, ok_noX, bOf_bool, low_v, iOf_int, addD_int, subD_int, negD_int, ltD_int, leD_int, gtD_int, geD_int, fInt_int, isD_bool, isNotD_bool, tru_bool, List.map_cons, List.map_nil, List.length_cons, List.length_nil, List.replicate_succ, List.replicate_zero, List.cons_append, List.nil_append,
  List.append_nil, List.getElem?_cons_zero, List.getElem?_cons_succ, List.set_cons_zero, List.set_cons_succ, Option.some.injEq, exists_eq_left', exists_eq_left, true_and, and_true, true_implies, false_implies, implies_true, Bool.false_eq_true, reduceCtorEq, false_and, and_false, D.v.injEq, PyData.int.injEq, D.ref.injEq, p1i_int, p2_two, p3_three, decide_true, Bool.not_true, Bool.not_false, decide_eq_true_eq, decide_eq_false_iff_not, ok_Index, hix _ h1, hlen]
    refine ⟨rfl, fun h2 => ?_, fun h2 => ?_⟩
    · simp only [envE, so_seq, so_if, so_ret, so_retN, so_exp, so_nil, so_nx, so_rt, so_asg, so_asgG, so_par2, so_par3, ok_gNm, ok_gMore, ok_gNone, so_asgT, so_sub, so_for, ok_TB, ok_Tru, ok_notT, ok_andT, ok_orT, ok_andV, ok_orV, ok_notV, ok_iteE, ok_frz, ok_new, ok_mfArg, ok_mfBin, ok_lc, ok_M, ok_M0, ok_moNone, ok_moSome, ok_Sl,
  ok_bin, ok_un, ok_arg, ok_cons, ok_nil, ok_call, ok_var, ok_C, ok_ok, ok_stuck, ok_noX, bOf_bool, low_v, iOf_int, addD_int, subD_int, negD_int, ltD_int, leD_int, gtD_int, geD_int, fInt_int, isD_bool, isNotD_bool, tru_bool, List.map_cons, List.map_nil, List.length_cons, List.length_nil, List.replicate_succ, List.replicate_zero, List.cons_append, List.nil_append,
  List.append_nil, List.getElem?_cons_zero, List.getElem?_cons_succ, List.set_cons_zero, List.set_cons_succ, Option.some.injEq, exists_eq_left', exists_eq_left, true_and, and_true, true_implies, false_implies, implies_true, Bool.false_eq_true, reduceCtorEq, false_and, and_false, D.v.injEq, PyData.int.injEq, D.ref.injEq, p1i_int, p2_two, p3_three, decide_true, Bool.not_true, Bool.not_false, decide_eq_true_eq, decide_eq_false_iff_not, hix _ h2]
      exact ⟨rfl, by congr 1; exact decide_eq_decide.mpr (by omega), List.take_length⟩
    · rw [hout h2]
      exact ⟨by congr 1; exact decide_eq_decide.mpr (by omega), List.take_length⟩
  · simp only [envE, so_seq, so_if, so_ret, so_retN, so_exp, so_nil, so_nx, so_rt, so_asg, so_asgG, so_par2, so_par3, ok_gNm, ok_gMore, ok_gNone, so_asgT, so_sub, so_for, ok_TB, ok_Tru, ok_notT, ok_andT, ok_orT, ok_andV, ok_orV, ok_notV, ok_iteE, ok_frz, ok_new, ok_mfArg, ok_mfBin, ok_lc, ok_M, ok_M0, ok_moNone, ok_moSome, ok_Sl,
  ok_bin, ok_un, ok_arg, ok_cons, ok_nil, ok_call, ok_var, ok_C, ok_ok, ok_stuck, ok_noX, bOf_bool, low_v, iOf_int, addD_int, subD_int, negD_int, ltD_int, leD_int, gtD_int, geD_int, fInt_int, isD_bool, isNotD_bool, tru_bool, List.map_cons, List.map_nil, List.length_cons, List.length_nil, List.replicate_succ, List.replicate_zero, List.cons_append, List.nil_append,
  List.append_nil, List.getElem?_cons_zero, List.getElem?_cons_succ, List.set_cons_zero, List.set_cons_succ, Option.some.injEq, exists_eq_left', exists_eq_left, true_and, and_true, true_implies, false_implies, implies_true, Bool.false_eq_true, reduceCtorEq, false_and, and_false, D.v.injEq, PyData.int.injEq, D.ref.injEq, p1i_int, p2_two, p3_three, decide_true, Bool.not_true, Bool.not_false, decide_eq_true_eq, decide_eq_false_iff_not, ok_Index, hlen, hout h1]
    refine ⟨fun h2 => ?_, fun h2 => ?_⟩
    · simp only [envE, so_seq, so_if, so_ret, so_retN, so_exp, so_nil, so_nx, so_rt, so_asg, so_asgG, so_par2, so_par3, ok_gNm, ok_gMore, ok_gNone, so_asgT, so_sub, so_for, ok_TB, ok_Tru, ok_notT, ok_andT, ok_orT, ok_andV, ok_orV, ok_notV, ok_iteE, ok_frz, ok_new, ok_mfArg, ok_mfBin, ok_lc, ok_M, ok_M0, ok_moNone, ok_moSome, ok_Sl,
  ok_bin, ok_un, ok_arg, ok_cons, ok_nil, ok_call, ok_var, ok_C, ok_ok, ok_stuck, ok_noX, bOf_bool, low_v, iOf_int, addD_int, subD_int, negD_int, ltD_int, leD_int, gtD_int, geD_int, fInt_int, isD_bool, isNotD_bool, tru_bool, List.map_cons, List.map_nil, List.length_cons, List.length_nil, List.replicate_succ, List.replicate_zero, List.cons_append, List.nil_append,
  List.append_nil, List.getElem?_cons_zero, List.getElem?_cons_succ, List.set_cons_zero, List.set_cons_succ, Option.some.injEq, exists_eq_left', exists_eq_left, true_and, and_true, true_implies, false_implies, implies_true, Bool.false_eq_true, reduceCtorEq, false_and, and_false, D.v.injEq, PyData.int.injEq, D.ref.injEq, p1i_int, p2_two, p3_three, decide_true, Bool.not_true, Bool.not_false, decide_eq_true_eq, decide_eq_false_iff_not, hix _ h2]
      exact ⟨rfl, by congr 1; exact decide_eq_decide.mpr (by omega), List.take_length⟩
    · rw [hout h2]
      exact ⟨by congr 1; exact decide_eq_decide.mpr (by omega), List.take_length⟩
theorem lpart_gen {d : D} (hd : ∀ (xs : List PyData), seqW d st = .ok (xs.map fun z => Itm.one (.v z), none) st → True) {ps : List (Nat × Nat)} (hs : ∀ {P : List Itm × Wt → Sto → Prop}, (seqW d st).Ok P ↔ P ((ps.map pr).map fun z => Itm.one (.v z), none) st) :
    LH.f_law_partner [d, .v (nI a)] st = .ok (.v (optD (partner ps a))) st := by
  refine Out.Ok.is (fnT_ok ?_)
  unfold LH.S_law_partner LH.law_partner_E1 LH.law_partner_T1
  simp only [envE, so_seq, so_if, so_ret, so_retN, so_exp, so_nil, so_nx, so_rt, so_asg, so_asgG, so_par2, so_par3, ok_gNm, ok_gMore, ok_gNone, so_asgT, so_sub, so_for, ok_TB, ok_Tru, ok_notT, ok_andT, ok_orT, ok_andV, ok_orV, ok_notV, ok_iteE, ok_frz, ok_new, ok_mfArg, ok_mfBin, ok_lc, ok_M, ok_M0, ok_moNone, ok_moSome, ok_Sl,
  ok_bin, ok_un, ok_arg, ok_cons, ok_nil, ok_call, ok_var, ok_C, ok_ok, ok_stuck, ok_noX, bOf_bool, low_v, iOf_int, addD_int, subD_int, negD_int, ltD_int, leD_int, gtD_int, geD_int, fInt_int, isD_bool, isNotD_bool, tru_bool, List.map_cons, List.map_nil, List.length_cons, List.length_nil, List.replicate_succ, List.replicate_zero, List.cons_append, List.nil_append,
  List.append_nil, List.getElem?_cons_zero, List.getElem?_cons_succ, List.set_cons_zero, List.set_cons_succ, Option.some.injEq, exists_eq_left', exists_eq_left, true_and, and_true, true_implies, false_implies, implies_true, Bool.false_eq_true, reduceCtorEq, false_and, and_false, D.v.injEq, PyData.int.injEq, D.ref.injEq, p1i_int, p2_two, p3_three, decide_true, Bool.not_true, Bool.not_false, decide_eq_true_eq, decide_eq_false_iff_not, ok_seq]
  rw [hs, List.map_map]
  rw [lcL_mapA _ (fun p : Nat × Nat => if a = p.1 ∨ a = p.2 then some (nI (if a = p.1 then p.2 else p.1)) else none)]
  rotate_left
  · intro p _
    unfold LH.law_partner_G1 LH.law_partner_M1
    show (gTp 2 (gMore (gNm 3) (gMore (gNm 4) gNone)) (.one (.v (.tuple [nI p.1, nI p.2]))) _ _).Ok _
    rw [ok_gTpT]
    have hin : ∀ s, inU (.v (nI a)) (.v (.tuple [nI p.1, nI p.2])) s = .ok (.v (.bool (decide (a = p.1 ∨ a = p.2)))) s := fun s => pair_in (p := p)
    simp only [envE, so_seq, so_if, so_ret, so_retN, so_exp, so_nil, so_nx, so_rt, so_asg, so_asgG, so_par2, so_par3, ok_gNm, ok_gMore, ok_gNone, so_asgT, so_sub, so_for, ok_TB, ok_Tru, ok_notT, ok_andT, ok_orT, ok_andV, ok_orV, ok_notV, ok_iteE, ok_frz, ok_new, ok_mfArg, ok_mfBin, ok_lc, ok_M, ok_M0, ok_moNone, ok_moSome, ok_Sl,
  ok_bin, ok_un, ok_arg, ok_cons, ok_nil, ok_call, ok_var, ok_C, ok_ok, ok_stuck, ok_noX, bOf_bool, low_v, iOf_int, addD_int, subD_int, negD_int, ltD_int, leD_int, gtD_int, geD_int, fInt_int, isD_bool, isNotD_bool, tru_bool, List.map_cons, List.map_nil, List.length_cons, List.length_nil, List.replicate_succ, List.replicate_zero, List.cons_append, List.nil_append,
  List.append_nil, List.getElem?_cons_zero, List.getElem?_cons_succ, List.set_cons_zero, List.set_cons_succ, Option.some.injEq, exists_eq_left', exists_eq_left, true_and, and_true, true_implies, false_implies, implies_true, Bool.false_eq_true, reduceCtorEq, false_and, and_false, D.v.injEq, PyData.int.injEq, D.ref.injEq, p1i_int, p2_two, p3_three, decide_true, Bool.not_true, Bool.not_false, decide_eq_true_eq, decide_eq_false_iff_not, wipeE, tup2, hin]
    refine ⟨fun h => ?_, fun h => by rw [if_neg h]⟩
    rw [other_at h, if_pos h]
  rw [ok_ok]
  unfold LH.S_law_partner_2
  simp only [envE, so_seq, so_if, so_ret, so_retN, so_exp, so_nil, so_nx, so_rt, so_asg, so_asgG, so_par2, so_par3, ok_gNm, ok_gMore, ok_gNone, so_asgT, so_sub, so_for, ok_TB, ok_Tru, ok_notT, ok_andT, ok_orT, ok_andV, ok_orV, ok_notV, ok_iteE, ok_frz, ok_new, ok_mfArg, ok_mfBin, ok_lc, ok_M, ok_M0, ok_moNone, ok_moSome, ok_Sl,
  ok_bin, ok_un, ok_arg, ok_cons, ok_nil, ok_call, ok_var, ok_C, ok_ok, ok_stuck, ok_noX, bOf_bool, low_v, iOf_int, addD_int, subD_int, negD_int, ltD_int, leD_int, gtD_int, geD_int, fInt_int, isD_bool, isNotD_bool, tru_bool, List.map_cons, List.map_nil, List.length_cons, List.length_nil, List.replicate_succ, List.replicate_zero, List.cons_append, List.nil_append,
  List.append_nil, List.getElem?_cons_zero, List.getElem?_cons_succ, List.set_cons_zero, List.set_cons_succ, Option.some.injEq, exists_eq_left', exists_eq_left, true_and, and_true, true_implies, false_implies, implies_true, Bool.false_eq_true, reduceCtorEq, false_and, and_false, D.v.injEq, PyData.int.injEq, D.ref.injEq, p1i_int, p2_two, p3_three, decide_true, Bool.not_true, Bool.not_false, decide_eq_true_eq, decide_eq_false_iff_not, disp0]
  have e : ps.filterMap (fun p : Nat × Nat => if a = p.1 ∨ a = p.2 then some (nI (if a = p.1 then p.2 else p.1)) else none) = (ps.filterMap fun p : Nat × Nat => if a = p.1 ∨ a = p.2 then some (if a = p.1 then p.2 else p.1) else none).map nI := by
    rw [List.map_filterMap]
    congr 1
    funext p
    split <;> rfl
  have h2 := head_partner (a := a) ps
  rw [e]
  generalize (ps.filterMap fun p : Nat × Nat => if a = p.1 ∨ a = p.2 then some (if a = p.1 then p.2 else p.1) else none) = l at h2 ⊢
  rw [ne_nilL (shaped_nats l)]
  simp only [envE, so_seq, so_if, so_ret, so_retN, so_exp, so_nil, so_nx, so_rt, so_asg, so_asgG, so_par2, so_par3, ok_gNm, ok_gMore, ok_gNone, so_asgT, so_sub, so_for, ok_TB, ok_Tru, ok_notT, ok_andT, ok_orT, ok_andV, ok_orV, ok_notV, ok_iteE, ok_frz, ok_new, ok_mfArg, ok_mfBin, ok_lc, ok_M, ok_M0, ok_moNone, ok_moSome, ok_Sl,
  ok_bin, ok_un, ok_arg, ok_cons, ok_nil, ok_call, ok_var, ok_C, ok_ok, ok_stuck, ok_noX, bOf_bool, low_v, iOf_int, addD_int, subD_int, negD_int, ltD_int, leD_int, gtD_int, geD_int, fInt_int, isD_bool, isNotD_bool, tru_bool, List.map_cons, List.map_nil, List.length_cons, List.length_nil, List.replicate_succ, List.replicate_zero, List.cons_append, List.nil_append,
  List.append_nil, List.getElem?_cons_zero, List.getElem?_cons_succ, List.set_cons_zero, List.set_cons_succ, Option.some.injEq, exists_eq_left', exists_eq_left, true_and, and_true, true_implies, false_implies, implies_true, Bool.false_eq_true, reduceCtorEq, false_and, and_false, D.v.injEq, PyData.int.injEq, D.ref.injEq, p1i_int, p2_two, p3_three, decide_true, Bool.not_true, Bool.not_false, decide_eq_true_eq, decide_eq_false_iff_not]
  rw [← h2]
  cases l with
  | nil => exact ⟨(fun z => nomatch z), fun _ => ⟨rfl, List.take_length⟩⟩
  | cons x r =>
    refine ⟨fun _ => ?_, (fun z => nomatch z)⟩
    rw [show subsD (.v (lNs (x :: r))) (.v (.int 0)) st = .ok (.v (nI x)) st from sub_list (k := 0) rfl, ok_ok]
    exact ⟨rfl, rfl, List.take_length⟩
theorem lpart_eq {ps : List (Nat × Nat)} : LH.f_law_partner [.v (pairsD ps), .v (nI a)] st = .ok (.v (optD (partner ps a))) st :=
  lpart_gen (fun _ _ => trivial) fun {P} => by
    rw [show pairsD ps = .tuple (ps.map pr) from rfl, seqW_tup, ok_ok]
theorem lwant_eq' (ha : a < rows.length) (hb : b < rows.length) : LH.f_law_want [.v (hallD rows), .v (nI a), .v (nI b)] st = .ok (.v (.bool (want rows a b))) st := lwant_eq ha hb
end
end Fw.Tl
namespace Fw.Tl
open PySem PySem.Spec PyProof.Rows L2 Fw Fw.Hl Fw.Da Fw.Aq
section
variable {rows : List (List Nat)} {S lot : List Nat} {sd : Nat → Bool} {st : Sto} {a b m w n k : Nat} {ask : Nat → Nat} {hd : Held} {free : List Nat} {s t u : AS} {μ : List (Nat × Nat)}
def asksK (n : Nat) (l : List Nat) : List (PyData × D) := (l.zipIdx n).map fun p => (nI p.1, D.ref p.2)
def lst0 (rows : List (List Nat)) (S : List Nat) (ask : Nat → Nat) : List O := S.map fun a => O.lst (((wr rows a).drop (ask a)).map nI)
def qst (st : Sto) (rows : List (List Nat)) (S : List Nat) (ask : Nat → Nat) (B : List (PyData × D)) : Sto := st ++ lst0 rows S ask ++ [O.dct false (asksK st.length S), O.dct false B]
variable {B B' : List (PyData × D)}
theorem lst0_len : (lst0 rows S ask).length = S.length := by unfold lst0; rw [List.length_map]
theorem q0 : (qst st rows S ask B)[st.length + S.length]? = some (O.dct false (asksK st.length S)) := by
  unfold qst
  rw [List.getElem?_append_right (by rw [List.length_append, lst0_len]; exact Nat.le_refl _), List.length_append, lst0_len, Nat.sub_self]
  rfl
theorem q1 : (qst st rows S ask B)[st.length + S.length + 1]? = some (O.dct false B) := by
  unfold qst
  rw [List.getElem?_append_right (by rw [List.length_append, lst0_len]; omega), List.length_append, lst0_len, show st.length + S.length + 1 - (st.length + S.length) = 1 by omega]
  rfl
end
end Fw.Tl
namespace Fw.Tl
open PySem PySem.Spec PyProof.Rows L2 Fw Fw.Hl Fw.Da Fw.Aq
section
variable {rows : List (List Nat)} {S lot : List Nat} {sd : Nat → Bool} {st : Sto} {a b m w n k : Nat} {ask : Nat → Nat} {hd : Held} {free : List Nat} {s t u : AS} {μ : List (Nat × Nat)}
end
end Fw.Tl
namespace Fw.Tl
open PySem PySem.Spec PyProof.Rows L2 Fw Fw.Hl Fw.Da Fw.Aq
section
variable {rows : List (List Nat)} {S lot : List Nat} {sd : Nat → Bool} {st : Sto} {a b m w n k : Nat} {ask : Nat → Nat} {hd : Held} {free : List Nat} {s t u : AS} {μ ν : List (Nat × Nat)}
end
end Fw.Tl
namespace Fw.Tl
open PySem PySem.Spec PyProof.Rows L2 Fw Fw.Hl Fw.Da Fw.Aq
section
variable {rows : List (List Nat)} {S lot : List Nat} {sd : Nat → Bool} {a b m w n k : Nat} {s t u : AS} {μ ν : List (Nat × Nat)}
def glad (rows : List (List Nat)) (μ ν : List (Nat × Nat)) (m : Nat) : Prop := place rows m (partner ν m) < place rows m (partner μ m)
end
end Fw.Tl
namespace Fw.Tl
open PySem PySem.Spec PyProof.Rows L2 Fw Fw.Hl Fw.Da Fw.Aq
section
variable {rows : List (List Nat)} {S lot l : List Nat} {sd : Nat → Bool} {st : Sto} {a b m w n k : Nat} {μ ν : List (Nat × Nat)}
theorem rat_gen (ha : a < rows.length) {o c : Option Nat} : LC.f_has_rather [.v (hallD rows), .v (nI a), .v (optD o), .v (optD c)] st = .ok (.v (.bool (decide (place rows a o < place rows a c)))) st := by
  cases o with
  | some b =>
    have e : LC.f_has_rather [.v (hallD rows), .v (nI a), .v (optD (some b)), .v (optD c)] st = .ok (.v (.bool (rather rows a b c))) st := rather_eq ha
    rw [e]
    congr 3
    rw [Bool.eq_iff_iff, decide_eq_true_eq]
    by_cases hb : b ∈ row rows a
    · exact rather_iff hb
    · constructor
      · intro h
        unfold rather at h
        rw [decide_eq_false hb] at h
        cases h
      · intro h
        have h1 : place rows a (some b) = (row rows a).length + 1 := if_neg hb
        have h2 : place rows a c ≤ (row rows a).length + 1 := by
          unfold place
          cases c with
          | none => exact Nat.le_succ _
          | some v =>
            show (if v ∈ row rows a then _ else _) ≤ _
            split
            · rename_i hv
              exact Nat.le_of_lt (Nat.lt_succ_of_lt (List.idxOf_lt_length_of_mem hv))
            · exact Nat.le_refl _
        omega
  | none =>
    refine Out.Ok.is (fnT_ok ?_)
    unfold LC.S_has_rather LC.S_has_rather_2
    have h0 : ∀ s, notInU (.v .none) (.v (tNs (row rows a))) s = .ok (.v (.bool true)) s := fun s => notIn_opt (c := none)
    have h1 : ∀ s, isD (.v .none) (.v .none) s = .ok (.v (.bool true)) s := fun s => rfl
    simp only [envE, so_seq, so_if, so_ret, so_retN, so_exp, so_nil, so_nx, so_rt, so_asg, so_asgG, so_par2, so_par3, ok_gNm, ok_gMore, ok_gNone, so_asgT, so_sub, so_for, ok_TB, ok_Tru, ok_notT, ok_andT, ok_orT, ok_andV, ok_orV, ok_notV, ok_iteE, ok_frz, ok_new, ok_mfArg, ok_mfBin, ok_lc, ok_M, ok_M0, ok_moNone, ok_moSome, ok_Sl,
  ok_bin, ok_un, ok_arg, ok_cons, ok_nil, ok_call, ok_var, ok_C, ok_ok, ok_stuck, ok_noX, bOf_bool, low_v, iOf_int, addD_int, subD_int, negD_int, ltD_int, leD_int, gtD_int, geD_int, fInt_int, isD_bool, isNotD_bool, tru_bool, List.map_cons, List.map_nil, List.length_cons, List.length_nil, List.replicate_succ, List.replicate_zero, List.cons_append, List.nil_append,
  List.append_nil, List.getElem?_cons_zero, List.getElem?_cons_succ, List.set_cons_zero, List.set_cons_succ, Option.some.injEq, exists_eq_left', exists_eq_left, true_and, and_true, true_implies, false_implies, implies_true, Bool.false_eq_true, reduceCtorEq, false_and, and_false, D.v.injEq, PyData.int.injEq, D.ref.injEq, p1i_int, p2_two, p3_three, decide_true, Bool.not_true, Bool.not_false, decide_eq_true_eq, decide_eq_false_iff_not, hall1, hall_row ha, show optD none = PyData.none from rfl, h0, h1, Hl.isNot_none, notIn_opt]
    cases c with
    | none =>
      refine ⟨(fun z => nomatch z), fun _ => ⟨?_, List.take_length⟩⟩
      rw [decide_eq_false (Nat.lt_irrefl _)]
      rfl
    | some v =>
      refine ⟨fun _ => ⟨?_, List.take_length⟩, (fun z => nomatch z)⟩
      congr 1
      show (!decide (v ∈ row rows a)) = decide ((row rows a).length < if v ∈ row rows a then (row rows a).idxOf v else (row rows a).length + 1)
      by_cases hv : v ∈ row rows a
      · rw [if_pos hv, decide_eq_true hv, decide_eq_false (Nat.not_lt.mpr (Nat.le_of_lt (List.idxOf_lt_length_of_mem hv)))]
        rfl
      · rw [if_neg hv, decide_eq_false hv, decide_eq_true (Nat.lt_succ_self _)]
        rfl
end
end Fw.Tl
namespace Fw.Tl
open PySem PySem.Spec PyProof.Rows L2 Fw Fw.Hl Fw.Da Fw.Aq
section
variable {rows : List (List Nat)} {S lot l : List Nat} {sd : Nat → Bool} {st : Sto} {a b m w n k : Nat} {μ ν : List (Nat × Nat)}
end
end Fw.Tl
namespace Fw.Tl
open PySem PySem.Spec PyProof.Rows L2 Fw Fw.Hl Fw.Da Fw.Aq
section
variable {rows R : List (List Nat)} {S G lot l : List Nat} {sd : Nat → Bool} {a b m w n k : Nat} {μ ν : List (Nat × Nat)}
end
end Fw.Tl
namespace Fw.Tl
open PySem PySem.Spec PyProof.Rows L2 Fw Fw.Hl Fw.Da Fw.Aq
section
variable {rows R : List (List Nat)} {S G lot l C : List Nat} {sd : Nat → Bool} {a b m w n k x y q : Nat} {μ ν Q ξ h : List (Nat × Nat)}
def cutR (l : List Nat) : Option Nat → List Nat
  | none => []
  | some q => l.take (l.idxOf q + 1)
theorem idx_take : ∀ {l : List Nat} {k : Nat}, y ∈ l.take k → (l.take k).idxOf y = l.idxOf y
  | [], k, h => by rw [List.take_nil] at h; cases h
  | a :: l, 0, h => by cases h
  | a :: l, k + 1, h => by
    rw [List.take_succ_cons, List.idxOf_cons, List.idxOf_cons]
    by_cases e : a = y
    · rw [e]; simp
    · rw [List.take_succ_cons] at h
      rcases List.mem_cons.mp h with z | z
      · exact absurd z.symm e
      · rw [idx_take z]
theorem mem_cutR {o : Option Nat} (hy : y ∈ cutR l o) : y ∈ l ∧ ∃ q, o = some q ∧ l.idxOf y ≤ l.idxOf q ∧ (cutR l o).idxOf y = l.idxOf y := by
  cases o with
  | none => cases hy
  | some q =>
    have hy : y ∈ l.take (l.idxOf q + 1) := hy
    have h1 := List.idxOf_lt_length_of_mem hy
    rw [List.length_take] at h1
    have h2 := idx_take hy
    exact ⟨List.mem_of_mem_take hy, q, rfl, by omega, h2⟩
theorem in_cutR (hq : y ∈ l) : y ∈ cutR l (some y) := by
  show y ∈ l.take (l.idxOf y + 1)
  have h1 := List.idxOf_lt_length_of_mem hq
  rw [List.mem_take_iff_getElem]
  exact ⟨l.idxOf y, by omega, List.getElem_idxOf h1⟩
structure Cut (rows R : List (List Nat)) (C : List Nat) (Q : List (Nat × Nat)) : Prop where
  len : R.length = rows.length
  cut : ∀ x, x ∈ C → row R x = cutR (row rows x) (partner Q x)
  same : ∀ x, ¬ x ∈ C → row R x = row rows x
theorem Cut.sub (c : Cut rows R C Q) (h : y ∈ row R x) : y ∈ row rows x := by
  by_cases z : x ∈ C
  · rw [c.cut x z] at h; exact (mem_cutR h).1
  · rw [c.same x z] at h; exact h
theorem Cut.has (c : Cut rows R C Q) (p : Prg rows Q) (e : partner Q x = some y) : y ∈ row R x := by
  have hr := (want_row (partner_want p e)).1
  by_cases z : x ∈ C
  · rw [c.cut x z, e]; exact in_cutR hr
  · rw [c.same x z]; exact hr
theorem Cut.le (c : Cut rows R C Q) (h : y ∈ row R x) (z : x ∈ C) : place rows x (some y) ≤ place rows x (partner Q x) ∧ partner Q x ≠ none := by
  have hs := c.sub h
  rw [c.cut x z] at h
  obtain ⟨q, e, h1, _⟩ := (mem_cutR h).2
  rw [e, place_row hs]
  refine ⟨?_, fun z => nomatch z⟩
  show _ ≤ if q ∈ row rows x then (row rows x).idxOf q else (row rows x).length + 1
  split
  · exact h1
  · have := List.idxOf_lt_length_of_mem hs
    omega
end
end Fw.Tl
namespace Fw.Tl
open PySem PySem.Spec PyProof.Rows L2 Fw Fw.Hl Fw.Da Fw.Aq
section
variable {rows : List (List Nat)} {S lot l : List Nat} {sd : Nat → Bool} {st : Sto} {a b m w n k : Nat} {μ ν ps : List (Nat × Nat)}
theorem fInt_bool {b : Bool} : fInt [.v (.bool b)] st = .ok (.v (.int (if b then 1 else 0 : Nat))) st := by cases b <;> rfl
theorem brk_take (hw : want rows a b = true) : brk rows ps a b = (decide (place rows a (some b) < place rows a (partner ps a)) && decide (place rows b (some a) < place rows b (partner ps b))) := by
  obtain ⟨w1, w2⟩ := want_row hw
  unfold brk
  rw [Bool.eq_iff_iff, Bool.and_eq_true, Bool.and_eq_true, decide_eq_true_eq, decide_eq_true_eq, rather_iff w1, rather_iff w2]
theorem lbreak_eq (H : Hall rows) (hn : rows.length ≤ 50) : LH.f_law_breaking [.v (hallD rows), .v (pairsD ps)] st = .ok (.v (.list ((breaking rows ps).map pr))) st := by
  refine Out.Ok.is (fnT_ok ?_)
  unfold LH.S_law_breaking LH.S_law_breaking_2 LH.law_breaking_E2
  simp only [envE, so_seq, so_if, so_ret, so_retN, so_exp, so_nil, so_nx, so_rt, so_asg, so_asgG, so_par2, so_par3, ok_gNm, ok_gMore, ok_gNone, so_asgT, so_sub, so_for, ok_TB, ok_Tru, ok_notT, ok_andT, ok_orT, ok_andV, ok_orV, ok_notV, ok_iteE, ok_frz, ok_new, ok_mfArg, ok_mfBin, ok_lc, ok_M, ok_M0, ok_moNone, ok_moSome, ok_Sl,
  ok_bin, ok_un, ok_arg, ok_cons, ok_nil, ok_call, ok_var, ok_C, ok_ok, ok_stuck, ok_noX, bOf_bool, low_v, iOf_int, addD_int, subD_int, negD_int, ltD_int, leD_int, gtD_int, geD_int, fInt_int, isD_bool, isNotD_bool, tru_bool, List.map_cons, List.map_nil, List.length_cons, List.length_nil, List.replicate_succ, List.replicate_zero, List.cons_append, List.nil_append,
  List.append_nil, List.getElem?_cons_zero, List.getElem?_cons_succ, List.set_cons_zero, List.set_cons_succ, Option.some.injEq, exists_eq_left', exists_eq_left, true_and, and_true, true_implies, false_implies, implies_true, Bool.false_eq_true, reduceCtorEq, false_and, and_false, D.v.injEq, PyData.int.injEq, D.ref.injEq, p1i_int, p2_two, p3_three, decide_true, Bool.not_true, Bool.not_false, decide_eq_true_eq, decide_eq_false_iff_not, disp0, ok_R1, hall0]
  refine ⟨⟨by omega, by omega⟩, ?_⟩
  rw [Int.toNat_natCast]
  refine forL_inv (fun i e s => s = st ∧ ∃ x3 x4, e = [some (.v (hallD rows)), some (.v (pairsD ps)), some (.v (.list (((List.range i).flatMap (brkOf rows ps)).map pr))), x3, x4]) _ _ _ 0 ?_ ?_ ⟨rfl, _, _, rfl⟩
  · rintro i d e s hd ⟨rfl, x3, x4, rfl⟩
    obtain ⟨hi, rfl⟩ := rngI_get hd
    refine ⟨trivial, ?_⟩
    rw [Int.zero_add, Nat.zero_add]
    unfold LH.law_breaking_G2 LH.law_breaking_B1 LH.law_breaking_E1
    show (gNm 3 (.one (.v (nI i))) _ _).Ok _
    have hadd : ∀ s, addD (.v (nI i)) (.v (.int 1)) s = .ok (.v (.int ((i : Int) + 1))) s := fun s => by rw [addD_int]
    simp only [envE, so_seq, so_if, so_ret, so_retN, so_exp, so_nil, so_nx, so_rt, so_asg, so_asgG, so_par2, so_par3, ok_gNm, ok_gMore, ok_gNone, so_asgT, so_sub, so_for, ok_TB, ok_Tru, ok_notT, ok_andT, ok_orT, ok_andV, ok_orV, ok_notV, ok_iteE, ok_frz, ok_new, ok_mfArg, ok_mfBin, ok_lc, ok_M, ok_M0, ok_moNone, ok_moSome, ok_Sl,
  ok_bin, ok_un, ok_arg, ok_cons, ok_nil, ok_call, ok_var, ok_C, ok_ok, ok_stuck, ok_noX, bOf_bool, low_v, iOf_int, addD_int, subD_int, negD_int, ltD_int, leD_int, gtD_int, geD_int, fInt_int, isD_bool, isNotD_bool, tru_bool, List.map_cons, List.map_nil, List.length_cons, List.length_nil, List.replicate_succ, List.replicate_zero, List.cons_append, List.nil_append,
  List.append_nil, List.getElem?_cons_zero, List.getElem?_cons_succ, List.set_cons_zero, List.set_cons_succ, Option.some.injEq, exists_eq_left', exists_eq_left, true_and, and_true, true_implies, false_implies, implies_true, Bool.false_eq_true, reduceCtorEq, false_and, and_false, D.v.injEq, PyData.int.injEq, D.ref.injEq, p1i_int, p2_two, p3_three, decide_true, Bool.not_true, Bool.not_false, decide_eq_true_eq, decide_eq_false_iff_not, ok_seq, ok_R2, p2i_int, hall0, hadd]
    refine ⟨⟨by omega, by omega, by omega, by omega⟩, ?_⟩
    rw [show ((i : Int) + 1) = ((i + 1 : Nat) : Int) by omega, rng_ups]
    generalize hc : ups (i + 1) rows.length = cs
    have hcs : ∀ b ∈ cs, b < rows.length := fun b hb => by
      rw [← hc] at hb
      exact (mem_ups.mp hb).2
    have hcl : cs.length ≤ rows.length := by
      rw [← hc]
      unfold ups
      rw [List.length_map, List.length_range]
      omega
    have hb0 := brk_len (rows := rows) (ps := ps) i
    have hmul : i * rows.length ≤ 50 * 50 := Nat.mul_le_mul (by omega) hn
    refine forL_inv (fun j e s' => s' = s ∧ ∃ x4, e = [some (.v (hallD rows)), some (.v (pairsD ps)), some (.v (.list ((((List.range i).flatMap (brkOf rows ps)) ++ (((cs.take j).filter (want rows i)).filter (brk rows ps i)).map fun b => (i, b)).map pr))), some (.v (nI i)), x4]) _ _ _ 0 ?_ ?_
      ⟨rfl, x4, by simp⟩
    · rintro j d e s' hd ⟨rfl, x4, rfl⟩
      rw [List.getElem?_map] at hd
      obtain ⟨b, hb, rfl⟩ := Option.map_eq_some_iff.mp hd
      have hbn := hcs b (List.mem_of_getElem? hb)
      refine ⟨trivial, ?_⟩
      rw [Nat.zero_add]
      unfold LH.law_breaking_G1 LH.law_breaking_B2
      show (gNm 4 (.one (.v (nI b))) _ _).Ok _
      have h4 : ∀ x s, LH.f_law_partner [.v (pairsD ps), .v (nI x)] s = .ok (.v (optD (partner ps x))) s := fun x s => lpart_eq
      have h5 : ∀ s, LH.f_law_rather [.v (hallD rows), .v (nI i), .v (nI b), .v (optD (partner ps i))] s = .ok (.v (.bool (decide (place rows i (some b) < place rows i (partner ps i))))) s := fun s => lrat_eq (o := some b) H hn hi
      have h6 : ∀ s, LH.f_law_rather [.v (hallD rows), .v (nI b), .v (nI i), .v (optD (partner ps b))] s = .ok (.v (.bool (decide (place rows b (some i) < place rows b (partner ps b))))) s := fun s => lrat_eq (o := some i) H hn hbn
      have ht : ((cs.take (j + 1)).filter (want rows i)).filter (brk rows ps i) = ((cs.take j).filter (want rows i)).filter (brk rows ps i) ++ ([b].filter (want rows i)).filter (brk rows ps i) := by
        rw [List.take_add_one, hb, List.filter_append, List.filter_append]
        rfl
      have hlt : (((cs.take j).filter (want rows i)).filter (brk rows ps i)).length ≤ rows.length := by
        refine Nat.le_trans (List.length_filter_le _ _) (Nat.le_trans (List.length_filter_le _ _) ?_)
        rw [List.length_take]
        omega
      simp only [envE, so_seq, so_if, so_ret, so_retN, so_exp, so_nil, so_nx, so_rt, so_asg, so_asgG, so_par2, so_par3, ok_gNm, ok_gMore, ok_gNone, so_asgT, so_sub, so_for, ok_TB, ok_Tru, ok_notT, ok_andT, ok_orT, ok_andV, ok_orV, ok_notV, ok_iteE, ok_frz, ok_new, ok_mfArg, ok_mfBin, ok_lc, ok_M, ok_M0, ok_moNone, ok_moSome, ok_Sl,
  ok_bin, ok_un, ok_arg, ok_cons, ok_nil, ok_call, ok_var, ok_C, ok_ok, ok_stuck, ok_noX, bOf_bool, low_v, iOf_int, addD_int, subD_int, negD_int, ltD_int, leD_int, gtD_int, geD_int, fInt_int, isD_bool, isNotD_bool, tru_bool, List.map_cons, List.map_nil, List.length_cons, List.length_nil, List.replicate_succ, List.replicate_zero, List.cons_append, List.nil_append,
  List.append_nil, List.getElem?_cons_zero, List.getElem?_cons_succ, List.set_cons_zero, List.set_cons_succ, Option.some.injEq, exists_eq_left', exists_eq_left, true_and, and_true, true_implies, false_implies, implies_true, Bool.false_eq_true, reduceCtorEq, false_and, and_false, D.v.injEq, PyData.int.injEq, D.ref.injEq, p1i_int, p2_two, p3_three, decide_true, Bool.not_true, Bool.not_false, decide_eq_true_eq, decide_eq_false_iff_not, lwant_eq' hi hbn, h4, h5]
      refine ⟨fun h1 => ⟨fun h2 => ?_, fun h2 => ?_⟩, fun h1 => ?_⟩
      · simp only [envE, so_seq, so_if, so_ret, so_retN, so_exp, so_nil, so_nx, so_rt, so_asg, so_asgG, so_par2, so_par3, ok_gNm, ok_gMore, ok_gNone, so_asgT, so_sub, so_for, ok_TB, ok_Tru, ok_notT, ok_andT, ok_orT, ok_andV, ok_orV, ok_notV, ok_iteE, ok_frz, ok_new, ok_mfArg, ok_mfBin, ok_lc, ok_M, ok_M0, ok_moNone, ok_moSome, ok_Sl,
  ok_bin, ok_un, ok_arg, ok_cons, ok_nil, ok_call, ok_var, ok_C, ok_ok, ok_stuck, ok_noX, bOf_bool, low_v, iOf_int, addD_int, subD_int, negD_int, ltD_int, leD_int, gtD_int, geD_int, fInt_int, isD_bool, isNotD_bool, tru_bool, List.map_cons, List.map_nil, List.length_cons, List.length_nil, List.replicate_succ, List.replicate_zero, List.cons_append, List.nil_append,
  List.append_nil, List.getElem?_cons_zero, List.getElem?_cons_succ, List.set_cons_zero, List.set_cons_succ, Option.some.injEq, exists_eq_left', exists_eq_left, true_and, and_true, true_implies, false_implies, implies_true, Bool.false_eq_true, reduceCtorEq, false_and, and_false, D.v.injEq, PyData.int.injEq, D.ref.injEq, p1i_int, p2_two, p3_three, decide_true, Bool.not_true, Bool.not_false, decide_eq_true_eq, decide_eq_false_iff_not, disp1, tup2, h4, h6, fInt_bool]
        have hr : ∀ s, gRep (.v (.list [.tuple [nI i, nI b]])) (.v (.int (if place rows b (some i) < place rows b (partner ps b) then 1 else 0 : Nat))) s = .ok (List.replicate (if place rows b (some i) < place rows b (partner ps b) then 1 else 0) (.tuple [nI i, nI b])) s := fun s => rep_one (by split <;> omega)
        rw [hr, ok_ok, cat_list (by rw [List.length_map, List.length_append, List.length_map, List.length_replicate]; split <;> omega), ok_ok, ht, List.filter_cons, if_pos h1, List.filter_nil, List.filter_cons, brk_take h1, decide_eq_true h2, Bool.true_and]
        refine ⟨rfl, some (.v (nI b)), ?_⟩
        by_cases h3 : place rows b (some i) < place rows b (partner ps b)
        · rw [decide_eq_true h3, if_pos h3, if_pos rfl]
          simp
        · rw [decide_eq_false h3, if_neg h3, if_neg Bool.false_ne_true]
          simp
      · rw [ht, List.filter_cons, if_pos h1, List.filter_nil, List.filter_cons, brk_take h1, decide_eq_false h2]
        exact ⟨_, by simp; rfl⟩
      · rw [ht, List.filter_cons, if_neg (by rw [h1]; exact Bool.false_ne_true), List.filter_nil, List.filter_nil, List.append_nil]
        exact ⟨_, rfl⟩
    · rintro e s' ⟨rfl, x4, rfl⟩
      refine ⟨trivial, ?_⟩
      rw [Nat.zero_add, List.length_map, List.take_of_length_le (Nat.le_refl _)]
      refine ⟨rfl, some (.v (nI i)), x4, ?_⟩
      rw [List.range_succ, List.flatMap_append, List.flatMap_singleton, ← hc]
      rfl
  · rintro e s ⟨rfl, x3, x4, rfl⟩
    refine ⟨trivial, ?_⟩
    unfold LH.S_law_breaking_3
    rw [show (rngI 0 rows.length).length = rows.length by unfold rngI; rw [List.length_map, List.length_range], Nat.zero_add]
    simp only [envE, so_seq, so_if, so_ret, so_retN, so_exp, so_nil, so_nx, so_rt, so_asg, so_asgG, so_par2, so_par3, ok_gNm, ok_gMore, ok_gNone, so_asgT, so_sub, so_for, ok_TB, ok_Tru, ok_notT, ok_andT, ok_orT, ok_andV, ok_orV, ok_notV, ok_iteE, ok_frz, ok_new, ok_mfArg, ok_mfBin, ok_lc, ok_M, ok_M0, ok_moNone, ok_moSome, ok_Sl,
  ok_bin, ok_un, ok_arg, ok_cons, ok_nil, ok_call, ok_var, ok_C, ok_ok, ok_stuck, ok_noX, bOf_bool, low_v, iOf_int, addD_int, subD_int, negD_int, ltD_int, leD_int, gtD_int, geD_int, fInt_int, isD_bool, isNotD_bool, tru_bool, List.map_cons, List.map_nil, List.length_cons, List.length_nil, List.replicate_succ, List.replicate_zero, List.cons_append, List.nil_append,
  List.append_nil, List.getElem?_cons_zero, List.getElem?_cons_succ, List.set_cons_zero, List.set_cons_succ, Option.some.injEq, exists_eq_left', exists_eq_left, true_and, and_true, true_implies, false_implies, implies_true, Bool.false_eq_true, reduceCtorEq, false_and, and_false, D.v.injEq, PyData.int.injEq, D.ref.injEq, p1i_int, p2_two, p3_three, decide_true, Bool.not_true, Bool.not_false, decide_eq_true_eq, decide_eq_false_iff_not]
    exact ⟨rfl, List.take_length⟩
def fre (p : Nat × Nat) (one : List (Nat × Nat)) : Bool := (partner one p.1).isNone && (partner one p.2).isNone
def stp (F : List (List (Nat × Nat))) (p : Nat × Nat) : List (List (Nat × Nat)) := F ++ (F.filter (fre p)).map fun one => one ++ [p]
def allp (L : List (Nat × Nat)) : List (List (Nat × Nat)) := L.foldl stp [[]]
theorem allp_snoc {L : List (Nat × Nat)} {p : Nat × Nat} : allp (L ++ [p]) = stp (allp L) p := by unfold allp; rw [List.foldl_append]; rfl
theorem partner_none : (partner ps a).isNone = true ↔ ∀ q ∈ ps, a ≠ q.1 ∧ a ≠ q.2 := by
  unfold partner
  rw [Option.isNone_map, Option.isNone_iff_eq_none, List.find?_eq_none]
  constructor
  · intro h q hq
    have := h q hq
    simp at this
    exact this
  · intro h q hq
    have := h q hq
    simp [this]
theorem fre_far {p : Nat × Nat} : fre p ps = true ↔ ∀ q ∈ ps, far q p := by
  unfold fre
  rw [Bool.and_eq_true, partner_none, partner_none]
  exact ⟨fun h q hq => ⟨fun e => (h.1 q hq).1 e.symm, fun e => (h.2 q hq).1 e.symm, fun e => (h.1 q hq).2 e.symm, fun e => (h.2 q hq).2 e.symm⟩,
    fun h => ⟨fun q hq => ⟨fun e => (h q hq).1 e.symm, fun e => (h q hq).2.2.1 e.symm⟩, fun q hq => ⟨fun e => (h q hq).2.1 e.symm, fun e => (h q hq).2.2.2 e.symm⟩⟩⟩
theorem mem_allp : ∀ {k : Nat} {L : List (Nat × Nat)}, L.length = k → ∀ {μ : List (Nat × Nat)}, (μ ∈ allp L ↔ μ.Sublist L ∧ μ.Pairwise far)
  | 0, L, hk, μ => by
    have : L = [] := List.length_eq_zero_iff.mp hk
    subst this
    show μ ∈ [[]] ↔ _
    rw [List.mem_singleton, List.sublist_nil]
    exact ⟨fun h => ⟨h, by rw [h]; exact .nil⟩, fun h => h.1⟩
  | k + 1, L, hk, μ => by
    have hne : L ≠ [] := fun e => by rw [e] at hk; cases hk
    obtain ⟨L', p, rfl⟩ : ∃ L' p, L = L' ++ [p] := ⟨L.dropLast, L.getLast hne, (List.dropLast_concat_getLast hne).symm⟩
    have hk' : L'.length = k := by rw [List.length_append, List.length_singleton] at hk; omega
    have ih := fun μ => mem_allp (k := k) (L := L') hk' (μ := μ)
    rw [allp_snoc]
    unfold stp
    rw [List.mem_append, ih, List.mem_map, List.sublist_append_iff]
    constructor
    · rintro (⟨h1, h2⟩ | ⟨one, h, rfl⟩)
      · exact ⟨⟨μ, [], (List.append_nil μ).symm, h1, List.nil_sublist _⟩, h2⟩
      · obtain ⟨h1, h2⟩ := List.mem_filter.mp h
        obtain ⟨h3, h4⟩ := (ih one).mp h1
        refine ⟨⟨one, [p], rfl, h3, List.Sublist.refl _⟩, List.pairwise_append.mpr ⟨h4, List.pairwise_singleton _ _, fun q hq r hr => ?_⟩⟩
        rw [List.mem_singleton.mp hr]
        exact fre_far.mp h2 q hq
    · rintro ⟨⟨l1, l2, rfl, h1, h2⟩, h3⟩
      obtain ⟨h4, _, h5⟩ := List.pairwise_append.mp h3
      cases l2 with
      | nil =>
        rw [List.append_nil]
        exact .inl ⟨h1, h4⟩
      | cons q r =>
        have hr : r = [] ∧ q = p := by
          have := h2.length_le
          rw [List.length_cons, List.length_singleton] at this
          have hr : r = [] := List.length_eq_zero_iff.mp (by omega)
          subst hr
          exact ⟨rfl, List.mem_singleton.mp (h2.subset List.mem_cons_self)⟩
        obtain ⟨rfl, rfl⟩ := hr
        exact .inr ⟨l1, List.mem_filter.mpr ⟨(ih l1).mpr ⟨h1, h4⟩, fre_far.mpr fun x hx => h5 x hx q (List.mem_singleton_self _)⟩, rfl⟩
theorem wanting_mem {p : Nat × Nat} : p ∈ wanting rows ↔ p.1 < p.2 ∧ p.2 < rows.length ∧ want rows p.1 p.2 = true := by
  unfold wanting wantOf
  rw [List.mem_flatMap]
  constructor
  · rintro ⟨a, ha, h⟩
    obtain ⟨b, hb, rfl⟩ := List.mem_map.mp h
    obtain ⟨h1, h2⟩ := List.mem_filter.mp hb
    have := mem_ups.mp h1
    exact ⟨by show a < b; omega, this.2, h2⟩
  · rintro ⟨h1, h2, h3⟩
    exact ⟨p.1, List.mem_range.mpr (by omega), List.mem_map.mpr ⟨p.2, List.mem_filter.mpr ⟨mem_ups.mpr ⟨by omega, h2⟩, h3⟩, rfl⟩⟩
theorem wanting_up : (wanting rows).Pairwise fun p q => p.1 ≤ q.1 := by
  unfold wanting
  refine List.pairwise_flatMap.mpr ⟨fun a _ => ?_, ?_⟩
  · unfold wantOf
    exact List.pairwise_map.mpr (List.pairwise_of_forall fun _ _ => Nat.le_refl _)
  · refine List.pairwise_lt_range.imp fun {x y} h p hp q hq => ?_
    obtain ⟨b, _, rfl⟩ := List.mem_map.mp hp
    obtain ⟨c, _, rfl⟩ := List.mem_map.mp hq
    exact Nat.le_of_lt h
theorem up_of (h1 : μ.Sublist (wanting rows)) (h2 : μ.Pairwise far) : Up μ :=
  ((wanting_up.sublist h1).and h2).imp fun ⟨h, f⟩ => Nat.lt_of_le_of_ne h f.1
theorem far_mem : ∀ {l : List (Nat × Nat)}, l.Pairwise far → ∀ {p q : Nat × Nat}, p ∈ l → q ∈ l → p ≠ q → far p q
  | x :: l, h, p, q, hp, hq, hne => by
    obtain ⟨h1, h2⟩ := List.pairwise_cons.mp h
    rcases List.mem_cons.mp hp with e1 | hp'
    · rcases List.mem_cons.mp hq with e2 | hq'
      · exact absurd (e1.trans e2.symm) hne
      · rw [e1]
        exact h1 q hq'
    · rcases List.mem_cons.mp hq with e2 | hq'
      · rw [e2]
        exact far_symm (h1 p hp')
      · exact far_mem h2 hp' hq' hne
theorem ups_nd {i : Nat} : (ups i n).Nodup := by
  unfold ups
  exact List.pairwise_map.mpr (List.nodup_range.imp fun h e => h (by omega))
theorem mem_pairs (hn : rows.length ≤ 50) : μ ∈ allp (wanting rows) ↔ Prg rows μ ∧ Srt μ := by
  rw [mem_allp rfl]
  constructor
  · rintro ⟨h1, h2⟩
    refine ⟨⟨⟨fun p hp => ?_, h2⟩, fun p hp => (wanting_mem.mp (h1.subset hp)).2.2⟩, (sortP_up (up_of h1 h2)).symm⟩
    have := wanting_mem.mp (h1.subset hp)
    exact ⟨this.1, this.2.1⟩
  · rintro ⟨h1, h2⟩
    have hf : ((wanting rows).filter fun p => decide (p ∈ μ)).Sublist (wanting rows) := List.filter_sublist
    have hfar : ((wanting rows).filter fun p => decide (p ∈ μ)).Pairwise far := by
      have hnd : ((wanting rows).filter fun p => decide (p ∈ μ)).Nodup := by
        have hw : (wanting rows).Nodup := by
          unfold wanting
          refine List.pairwise_flatMap.mpr ⟨fun a _ => ?_, ?_⟩
          · unfold wantOf
            exact List.pairwise_map.mpr (((List.Pairwise.filter _ (show (ups (a + 1) rows.length).Nodup from ups_nd)).imp fun h e => h (congrArg (·.2) e)))
          · refine List.pairwise_lt_range.imp fun {x y} h p hp q hq e => ?_
            obtain ⟨b, _, rfl⟩ := List.mem_map.mp hp
            obtain ⟨c, _, rfl⟩ := List.mem_map.mp hq
            have := congrArg (·.1) e
            have this : x = y := this
            omega
        exact hw.filter _
      refine hnd.imp_of_mem fun {p q} hp hq hne => ?_
      have hp := of_decide_eq_true (List.mem_filter.mp hp).2
      have hq := of_decide_eq_true (List.mem_filter.mp hq).2
      exact far_mem h1.far hp hq hne
    have e : ((wanting rows).filter fun p => decide (p ∈ μ)) = μ := by
      have hP : Prs rows.length ((wanting rows).filter fun p => decide (p ∈ μ)) := ⟨fun p hp => h1.lt p (of_decide_eq_true (List.mem_filter.mp hp).2), hfar⟩
      refine srt_same hn hP h1.toPrs (sortP_up (up_of hf hfar)).symm h2 fun p => ?_
      rw [List.mem_filter, decide_eq_true_eq]
      exact ⟨fun h => h.2, fun h => ⟨wanting_mem.mpr ⟨(h1.lt p h).1, (h1.lt p h).2, h1.want p h⟩, h⟩⟩
    rw [← e]
    exact ⟨hf, hfar⟩
end
end Fw.Tl
namespace Fw.Sg
open PySem PySem.Spec PyProof.Rows L2 Fw Fw.Hl
section
variable {st : Sto}
theorem sort_same {xs ys : List PyData} (hp : xs.Perm ys) (inj : ∀ d ∈ xs, ∀ e ∈ xs, PySem.W.keyToks d = PySem.W.keyToks e → d = e) : xs.mergeSort (PySem.W.dataLe false id) = ys.mergeSort (PySem.W.dataLe false id) := by
  have T := PySem.W.sortLe_total (listOrd itemOrd) false (fun b : PyData => PySem.W.keyToks (id b))
  refine List.Perm.eq_of_pairwise (le := fun a b => PySem.W.dataLe false id a b = true) ?_ (List.pairwise_mergeSort T.trans (fun a b => (Bool.or_eq_true _ _).mpr (T.total a b)) xs) (List.pairwise_mergeSort T.trans (fun a b => (Bool.or_eq_true _ _).mpr (T.total a b)) ys) ((List.mergeSort_perm _ _).trans (hp.trans (List.mergeSort_perm _ _).symm))
  intro a b ha hb h1 h2
  have h1 : (!(PyProof.Rows.lexLt itemOrd (PySem.W.keyToks b) (PySem.W.keyToks a))) = true := h1
  have h2 : (!(PyProof.Rows.lexLt itemOrd (PySem.W.keyToks a) (PySem.W.keyToks b))) = true := h2
  rw [Bool.not_eq_true'] at h1 h2
  exact inj a ((List.mergeSort_perm _ _).mem_iff.mp ha) b (hp.mem_iff.mpr ((List.mergeSort_perm _ _).mem_iff.mp hb)) (lex_total _ _ h2 h1)
theorem toks_pr (p : Nat × Nat) : PySem.W.keyToks (pr p) = [.inl 1, .inl (p.1 : Int), .inl 1, .inl (p.2 : Int), .inl 0] := rfl
theorem prs_toks : ∀ {G G' : List (Nat × Nat)}, PySem.W.keyToksAll (G.map pr) = PySem.W.keyToksAll (G'.map pr) → G = G'
  | [], [], _ => rfl
  | [], p :: r, h => by
    rw [List.map_cons, PySem.W.toks_all_cons] at h
    cases h
  | p :: r, [], h => by
    rw [List.map_cons, PySem.W.toks_all_cons] at h
    cases h
  | p :: r, q :: t, h => by
    rw [List.map_cons, List.map_cons, PySem.W.toks_all_cons, PySem.W.toks_all_cons, toks_pr, toks_pr] at h
    simp only [List.cons_append, List.nil_append, List.cons.injEq, Sum.inl.injEq, true_and] at h
    obtain ⟨h1, h2, h3⟩ := h
    rw [prs_toks h3]
    congr 1
    exact Prod.ext (Int.ofNat_inj.mp h1) (Int.ofNat_inj.mp h2)
theorem prs_alike : ∀ G G' : List (Nat × Nat), PySem.W.alikeAll (G.map pr) (G'.map pr) = true
  | [], _ => by rw [List.map_nil]; cases (List.map pr _) <;> rfl
  | p :: r, [] => rfl
  | p :: r, q :: t => by
    rw [List.map_cons, List.map_cons]
    show (PySem.W.alike (pr p) (pr q) && PySem.W.alikeAll (r.map pr) (t.map pr)) = true
    rw [prs_alike r t]
    rfl
theorem prs_sor (L : List (List (Nat × Nat))) : sorB (L.map pairsD) = true := by
  have h1 : alikeB (L.map pairsD) = true := by
    unfold alikeB
    rw [List.all_eq_true]
    intro x hx
    rw [List.all_eq_true]
    intro y hy
    obtain ⟨G, _, rfl⟩ := List.mem_map.mp hx
    obtain ⟨G', _, rfl⟩ := List.mem_map.mp hy
    exact prs_alike G G'
  have h2 : sortB (L.map pairsD) = true := by
    unfold sortB
    rw [Bool.or_eq_true]
    refine .inl (List.all_eq_true.mpr fun x hx => ?_)
    obtain ⟨G, _, rfl⟩ := List.mem_map.mp hx
    rfl
  have h3 : ((L.map pairsD).all fun d => decide (d.depth ≤ 50)) = true := by
    refine List.all_eq_true.mpr fun x hx => ?_
    obtain ⟨G, _, rfl⟩ := List.mem_map.mp hx
    have key : ∀ G : List (Nat × Nat), PyData.depthAll (G.map pr) ≤ 2 := fun G => by
      induction G with
      | nil => simp [PyData.depthAll]
      | cons p r ih =>
        rw [List.map_cons, PyData.depthAll]
        have : (pr p).depth = 1 := by simp [pr, PyData.depth, PyData.depthAll]
        omega
    have := key G
    refine decide_eq_true ?_
    show (PyData.tuple (G.map pr)).depth ≤ 50
    rw [PyData.depth]
    omega
  have h4 : PyData.hasDictAll (L.map pairsD) = false := by
    have key : ∀ G : List (Nat × Nat), PyData.hasDictAll (G.map pr) = false := fun G => by
      induction G with
      | nil => simp [PyData.hasDictAll]
      | cons p r ih =>
        rw [List.map_cons, PyData.hasDictAll, ih]
        simp [pr, PyData.hasDict, PyData.hasDictAll]
    have key2 : ∀ L : List (List (Nat × Nat)), PyData.hasDictAll (L.map pairsD) = false := fun L => by
      induction L with
      | nil => simp [PyData.hasDictAll]
      | cons p r ih =>
        rw [List.map_cons, PyData.hasDictAll, ih]
        show (PyData.hasDict (.tuple (p.map pr)) || false) = false
        rw [PyData.hasDict, key]
        rfl
    exact key2 L
  unfold sorB
  rw [h1, h2, h3, h4]
  rfl
theorem sort_givs {L : List (List (Nat × Nat))} : gSortG [.v (.list (L.map pairsD))] st = .ok ((L.map pairsD).mergeSort (PySem.W.dataLe false id)) st := by
  show (if sorB (L.map pairsD) then Out.ok ((L.map pairsD).mergeSort (PySem.W.dataLe false id)) st else .stuck) = _
  exact if_pos (prs_sor L)
end
end Fw.Sg
namespace Fw.Tl
open PySem PySem.Spec PyProof.Rows L2 Fw Fw.Hl Fw.Da Fw.Aq
section
variable {rows : List (List Nat)} {S lot l : List Nat} {sd : Nat → Bool} {st : Sto} {a b m w n k : Nat} {μ ν ps : List (Nat × Nat)} {L : List (Nat × Nat)}
theorem allp_len : ∀ {k : Nat} {L : List (Nat × Nat)}, L.length = k → (allp L).length ≤ 2 ^ k
  | 0, L, hk => by
    have : L = [] := List.length_eq_zero_iff.mp hk
    subst this
    exact Nat.le_refl _
  | k + 1, L, hk => by
    have hne : L ≠ [] := fun e => by rw [e] at hk; cases hk
    obtain ⟨L', p, rfl⟩ : ∃ L' p, L = L' ++ [p] := ⟨L.dropLast, L.getLast hne, (List.dropLast_concat_getLast hne).symm⟩
    have ih := allp_len (k := k) (L := L') (by rw [List.length_append, List.length_singleton] at hk; omega)
    rw [allp_snoc]
    unfold stp
    rw [List.length_append, List.length_map]
    have := List.length_filter_le (fre p) (allp L')
    rw [Nat.pow_succ]
    omega
theorem wanting_len (hn : rows.length ≤ 6) : (wanting rows).length ≤ 15 := by
  have hw : (wanting rows).Nodup := by
    unfold wanting
    refine List.pairwise_flatMap.mpr ⟨fun a _ => ?_, ?_⟩
    · unfold wantOf
      exact List.pairwise_map.mpr (((List.Pairwise.filter _ (show (ups (a + 1) rows.length).Nodup from ups_nd)).imp fun h e => h (congrArg (·.2) e)))
    · refine List.pairwise_lt_range.imp fun {x y} h p hp q hq e => ?_
      obtain ⟨b, _, rfl⟩ := List.mem_map.mp hp
      obtain ⟨c, _, rfl⟩ := List.mem_map.mp hq
      have this : x = y := congrArg (·.1) e
      omega
  have := sub_len hw (m := (List.range 6).flatMap fun a => (ups (a + 1) 6).map fun b => (a, b)) fun p hp => by
    have h := wanting_mem.mp hp
    exact List.mem_flatMap.mpr ⟨p.1, List.mem_range.mpr (by omega), List.mem_map.mpr ⟨p.2, mem_ups.mpr ⟨by omega, by omega⟩, rfl⟩⟩
  exact Nat.le_trans this (by decide)
theorem prefix_len {L M : List (Nat × Nat)} (h : L ++ M = wanting rows) (hn : rows.length ≤ 6) : L.length ≤ 15 := by
  have := wanting_len hn
  rw [← h, List.length_append] at this
  omega
def frt (rows : List (List Nat)) (i j : Nat) : List (Nat × Nat) := (List.range i).flatMap (wantOf rows) ++ (((ups (i + 1) rows.length).take j).filter (want rows i)).map fun b => (i, b)
theorem frt_full {i : Nat} : frt rows i (ups (i + 1) rows.length).length = frt rows (i + 1) 0 := by
  unfold frt
  rw [List.take_of_length_le (Nat.le_refl _), List.range_succ, List.flatMap_append, List.flatMap_singleton]
  simp [wantOf]
theorem frt_pre {i j : Nat} (hi : i < rows.length) : ∃ M, frt rows i j ++ M = wanting rows := by
  have h1 : (List.range rows.length) = List.range i ++ i :: (List.range rows.length).drop (i + 1) := by
    have h2 := List.take_append_drop i (List.range rows.length)
    rw [List.take_range, Nat.min_eq_left (Nat.le_of_lt hi)] at h2
    have h3 : (List.range rows.length).drop i = i :: (List.range rows.length).drop (i + 1) := by
      rw [List.drop_eq_getElem_cons (by rw [List.length_range]; exact hi), List.getElem_range]
    rw [← h3]
    exact h2.symm
  unfold wanting frt
  conv => enter [1, M]; rw [h1]
  rw [List.flatMap_append, List.flatMap_cons]
  have h3 : wantOf rows i = (((ups (i + 1) rows.length).take j).filter (want rows i)).map (fun b => (i, b)) ++ (((ups (i + 1) rows.length).drop j).filter (want rows i)).map fun b => (i, b) := by
    unfold wantOf
    rw [← List.map_append, ← List.filter_append, List.take_append_drop]
  rw [h3]
  exact ⟨(((ups (i + 1) rows.length).drop j).filter (want rows i)).map (fun b => (i, b)) ++ ((List.range rows.length).drop (i + 1)).flatMap (wantOf rows), by simp [List.append_assoc]⟩
theorem lpairs_srt (hn : rows.length ≤ 6) (H : Hall rows) : ∃ E : List (List (Nat × Nat)), ((allp (wanting rows)).map pairsD).mergeSort (PySem.W.dataLe false id) = E.map pairsD ∧ E.Perm (allp (wanting rows)) ∧ ∀ st, LH.f_law_pairings [.v (hallD rows)] st = .ok (.v (.list (E.map pairsD))) st := by
  obtain ⟨E, hE, hp⟩ := perm_unmap (List.mergeSort_perm ((allp (wanting rows)).map pairsD) (PySem.W.dataLe false id)) rfl
  refine ⟨E, hE, hp, fun st => Out.Ok.is (fnT_ok ?_)⟩
  unfold LH.S_law_pairings
  simp only [envE, so_seq, so_if, so_ret, so_retN, so_exp, so_nil, so_nx, so_rt, so_asg, so_asgG, so_par2, so_par3, ok_gNm, ok_gMore, ok_gNone, so_asgT, so_sub, so_for, ok_TB, ok_Tru, ok_notT, ok_andT, ok_orT, ok_andV, ok_orV, ok_notV, ok_iteE, ok_frz, ok_new, ok_mfArg, ok_mfBin, ok_lc, ok_M, ok_M0, ok_moNone, ok_moSome, ok_Sl,
  ok_bin, ok_un, ok_arg, ok_cons, ok_nil, ok_call, ok_var, ok_C, ok_ok, ok_stuck, ok_noX, bOf_bool, low_v, iOf_int, addD_int, subD_int, negD_int, ltD_int, leD_int, gtD_int, geD_int, fInt_int, isD_bool, isNotD_bool, tru_bool, List.map_cons, List.map_nil, List.length_cons, List.length_nil, List.replicate_succ, List.replicate_zero, List.cons_append, List.nil_append,
  List.append_nil, List.getElem?_cons_zero, List.getElem?_cons_succ, List.set_cons_zero, List.set_cons_succ, Option.some.injEq, exists_eq_left', exists_eq_left, true_and, and_true, true_implies, false_implies, implies_true, Bool.false_eq_true, reduceCtorEq, false_and, and_false, D.v.injEq, PyData.int.injEq, D.ref.injEq, p1i_int, p2_two, p3_three, decide_true, Bool.not_true, Bool.not_false, decide_eq_true_eq, decide_eq_false_iff_not, tup0, disp1]
  unfold LH.S_law_pairings_2 LH.law_pairings_E4
  simp only [envE, so_seq, so_if, so_ret, so_retN, so_exp, so_nil, so_nx, so_rt, so_asg, so_asgG, so_par2, so_par3, ok_gNm, ok_gMore, ok_gNone, so_asgT, so_sub, so_for, ok_TB, ok_Tru, ok_notT, ok_andT, ok_orT, ok_andV, ok_orV, ok_notV, ok_iteE, ok_frz, ok_new, ok_mfArg, ok_mfBin, ok_lc, ok_M, ok_M0, ok_moNone, ok_moSome, ok_Sl,
  ok_bin, ok_un, ok_arg, ok_cons, ok_nil, ok_call, ok_var, ok_C, ok_ok, ok_stuck, ok_noX, bOf_bool, low_v, iOf_int, addD_int, subD_int, negD_int, ltD_int, leD_int, gtD_int, geD_int, fInt_int, isD_bool, isNotD_bool, tru_bool, List.map_cons, List.map_nil, List.length_cons, List.length_nil, List.replicate_succ, List.replicate_zero, List.cons_append, List.nil_append,
  List.append_nil, List.getElem?_cons_zero, List.getElem?_cons_succ, List.set_cons_zero, List.set_cons_succ, Option.some.injEq, exists_eq_left', exists_eq_left, true_and, and_true, true_implies, false_implies, implies_true, Bool.false_eq_true, reduceCtorEq, false_and, and_false, D.v.injEq, PyData.int.injEq, D.ref.injEq, p1i_int, p2_two, p3_three, decide_true, Bool.not_true, Bool.not_false, decide_eq_true_eq, decide_eq_false_iff_not, ok_R1, hall0]
  refine ⟨⟨by omega, by omega⟩, ?_⟩
  rw [Int.toNat_natCast]
  refine forL_inv (fun i e s => s = st ∧ ∃ x2 x3 x4 x5, e = [some (.v (hallD rows)), some (.v (.list ((allp (frt rows i 0)).map pairsD))), x2, x3, x4, x5]) _ _ _ 0 ?_ ?_ ⟨rfl, _, _, _, _, rfl⟩
  · rintro i d e s hd ⟨rfl, x2, x3, x4, x5, rfl⟩
    obtain ⟨hi, rfl⟩ := rngI_get hd
    refine ⟨trivial, ?_⟩
    rw [Int.zero_add, Nat.zero_add]
    unfold LH.law_pairings_G4 LH.law_pairings_B1 LH.law_pairings_E3
    show (gNm 2 (.one (.v (nI i))) _ _).Ok _
    have hadd : ∀ s, addD (.v (nI i)) (.v (.int 1)) s = .ok (.v (.int ((i : Int) + 1))) s := fun s => by rw [addD_int]
    simp only [envE, so_seq, so_if, so_ret, so_retN, so_exp, so_nil, so_nx, so_rt, so_asg, so_asgG, so_par2, so_par3, ok_gNm, ok_gMore, ok_gNone, so_asgT, so_sub, so_for, ok_TB, ok_Tru, ok_notT, ok_andT, ok_orT, ok_andV, ok_orV, ok_notV, ok_iteE, ok_frz, ok_new, ok_mfArg, ok_mfBin, ok_lc, ok_M, ok_M0, ok_moNone, ok_moSome, ok_Sl,
  ok_bin, ok_un, ok_arg, ok_cons, ok_nil, ok_call, ok_var, ok_C, ok_ok, ok_stuck, ok_noX, bOf_bool, low_v, iOf_int, addD_int, subD_int, negD_int, ltD_int, leD_int, gtD_int, geD_int, fInt_int, isD_bool, isNotD_bool, tru_bool, List.map_cons, List.map_nil, List.length_cons, List.length_nil, List.replicate_succ, List.replicate_zero, List.cons_append, List.nil_append,
  List.append_nil, List.getElem?_cons_zero, List.getElem?_cons_succ, List.set_cons_zero, List.set_cons_succ, Option.some.injEq, exists_eq_left', exists_eq_left, true_and, and_true, true_implies, false_implies, implies_true, Bool.false_eq_true, reduceCtorEq, false_and, and_false, D.v.injEq, PyData.int.injEq, D.ref.injEq, p1i_int, p2_two, p3_three, decide_true, Bool.not_true, Bool.not_false, decide_eq_true_eq, decide_eq_false_iff_not, ok_seq, ok_R2, p2i_int, hall0, hadd]
    refine ⟨⟨by omega, by omega, by omega, by omega⟩, ?_⟩
    rw [show ((i : Int) + 1) = ((i + 1 : Nat) : Int) by omega, rng_ups]
    refine forL_inv (fun j e s' => s' = s ∧ ∃ x3 x4 x5, e = [some (.v (hallD rows)), some (.v (.list ((allp (frt rows i j)).map pairsD))), some (.v (nI i)), x3, x4, x5]) _ _ _ 0 ?_ ?_ ⟨rfl, x3, x4, x5, rfl⟩
    · rintro j d e s' hd ⟨rfl, x3, x4, x5, rfl⟩
      rw [List.getElem?_map] at hd
      obtain ⟨b, hb, rfl⟩ := Option.map_eq_some_iff.mp hd
      have hbn := (mem_ups.mp (List.mem_of_getElem? hb)).2
      refine ⟨trivial, ?_⟩
      rw [Nat.zero_add]
      unfold LH.law_pairings_G3 LH.law_pairings_B2
      show (gNm 3 (.one (.v (nI b))) _ _).Ok _
      simp only [envE, so_seq, so_if, so_ret, so_retN, so_exp, so_nil, so_nx, so_rt, so_asg, so_asgG, so_par2, so_par3, ok_gNm, ok_gMore, ok_gNone, so_asgT, so_sub, so_for, ok_TB, ok_Tru, ok_notT, ok_andT, ok_orT, ok_andV, ok_orV, ok_notV, ok_iteE, ok_frz, ok_new, ok_mfArg, ok_mfBin, ok_lc, ok_M, ok_M0, ok_moNone, ok_moSome, ok_Sl,
  ok_bin, ok_un, ok_arg, ok_cons, ok_nil, ok_call, ok_var, ok_C, ok_ok, ok_stuck, ok_noX, bOf_bool, low_v, iOf_int, addD_int, subD_int, negD_int, ltD_int, leD_int, gtD_int, geD_int, fInt_int, isD_bool, isNotD_bool, tru_bool, List.map_cons, List.map_nil, List.length_cons, List.length_nil, List.replicate_succ, List.replicate_zero, List.cons_append, List.nil_append,
  List.append_nil, List.getElem?_cons_zero, List.getElem?_cons_succ, List.set_cons_zero, List.set_cons_succ, Option.some.injEq, exists_eq_left', exists_eq_left, true_and, and_true, true_implies, false_implies, implies_true, Bool.false_eq_true, reduceCtorEq, false_and, and_false, D.v.injEq, PyData.int.injEq, D.ref.injEq, p1i_int, p2_two, p3_three, decide_true, Bool.not_true, Bool.not_false, decide_eq_true_eq, decide_eq_false_iff_not, lwant_eq' hi hbn]
      have hnext : frt rows i (j + 1) = frt rows i j ++ ([b].filter (want rows i)).map fun b => (i, b) := by
        unfold frt
        rw [List.take_add_one, hb, List.filter_append, List.map_append, List.append_assoc]
        rfl
      obtain ⟨M, hM⟩ := frt_pre (j := j) hi
      have hL := prefix_len hM hn
      have hA : (allp (frt rows i j)).length ≤ 2 ^ 15 := Nat.le_trans (allp_len rfl) (Nat.pow_le_pow_right (by decide) hL)
      refine ⟨fun h1 => ?_, fun h1 => ?_⟩
      · unfold LH.law_pairings_E1 LH.law_pairings_E2 LH.law_pairings_T2
        simp only [envE, so_seq, so_if, so_ret, so_retN, so_exp, so_nil, so_nx, so_rt, so_asg, so_asgG, so_par2, so_par3, ok_gNm, ok_gMore, ok_gNone, so_asgT, so_sub, so_for, ok_TB, ok_Tru, ok_notT, ok_andT, ok_orT, ok_andV, ok_orV, ok_notV, ok_iteE, ok_frz, ok_new, ok_mfArg, ok_mfBin, ok_lc, ok_M, ok_M0, ok_moNone, ok_moSome, ok_Sl,
  ok_bin, ok_un, ok_arg, ok_cons, ok_nil, ok_call, ok_var, ok_C, ok_ok, ok_stuck, ok_noX, bOf_bool, low_v, iOf_int, addD_int, subD_int, negD_int, ltD_int, leD_int, gtD_int, geD_int, fInt_int, isD_bool, isNotD_bool, tru_bool, List.map_cons, List.map_nil, List.length_cons, List.length_nil, List.replicate_succ, List.replicate_zero, List.cons_append, List.nil_append,
  List.append_nil, List.getElem?_cons_zero, List.getElem?_cons_succ, List.set_cons_zero, List.set_cons_succ, Option.some.injEq, exists_eq_left', exists_eq_left, true_and, and_true, true_implies, false_implies, implies_true, Bool.false_eq_true, reduceCtorEq, false_and, and_false, D.v.injEq, PyData.int.injEq, D.ref.injEq, p1i_int, p2_two, p3_three, decide_true, Bool.not_true, Bool.not_false, decide_eq_true_eq, decide_eq_false_iff_not, ok_seq, seqW_list, List.map_map]
        rw [lcL_mapA _ (fun one : List (Nat × Nat) => if fre (i, b) one = true then some (pairsD one) else none), fm_filter]
        rotate_left
        · intro one hone
          unfold LH.law_pairings_G1 LH.law_pairings_T1 LH.law_pairings_M1
          show (gNm 5 (.one (.v (pairsD one))) _ _).Ok _
          have h4 : ∀ x s, LH.f_law_partner [.v (pairsD one), .v (nI x)] s = .ok (.v (optD (partner one x))) s := fun x s => lpart_eq
          simp only [envE, so_seq, so_if, so_ret, so_retN, so_exp, so_nil, so_nx, so_rt, so_asg, so_asgG, so_par2, so_par3, ok_gNm, ok_gMore, ok_gNone, so_asgT, so_sub, so_for, ok_TB, ok_Tru, ok_notT, ok_andT, ok_orT, ok_andV, ok_orV, ok_notV, ok_iteE, ok_frz, ok_new, ok_mfArg, ok_mfBin, ok_lc, ok_M, ok_M0, ok_moNone, ok_moSome, ok_Sl,
  ok_bin, ok_un, ok_arg, ok_cons, ok_nil, ok_call, ok_var, ok_C, ok_ok, ok_stuck, ok_noX, bOf_bool, low_v, iOf_int, addD_int, subD_int, negD_int, ltD_int, leD_int, gtD_int, geD_int, fInt_int, isD_bool, isNotD_bool, tru_bool, List.map_cons, List.map_nil, List.length_cons, List.length_nil, List.replicate_succ, List.replicate_zero, List.cons_append, List.nil_append,
  List.append_nil, List.getElem?_cons_zero, List.getElem?_cons_succ, List.set_cons_zero, List.set_cons_succ, Option.some.injEq, exists_eq_left', exists_eq_left, true_and, and_true, true_implies, false_implies, implies_true, Bool.false_eq_true, reduceCtorEq, false_and, and_false, D.v.injEq, PyData.int.injEq, D.ref.injEq, p1i_int, p2_two, p3_three, decide_true, Bool.not_true, Bool.not_false, decide_eq_true_eq, decide_eq_false_iff_not, wipeE, h4, Hl.is_none]
          unfold fre
          refine ⟨fun h5 => ⟨fun h6 => ?_, fun h6 => ?_⟩, fun h5 => ?_⟩
          · rw [h5, h6]; rfl
          · rw [h5, h6]; rfl
          · rw [h5]; rfl
        rw [ok_ok, List.map_map]
        rw [lcL_all _ (fun one : List (Nat × Nat) => pairsD (one ++ [(i, b)]))]
        rotate_left
        · intro one hone
          unfold LH.law_pairings_G2 LH.law_pairings_M2
          show (gNm 5 (.one (.v (pairsD one))) _ _).Ok _
          have hol : one.length ≤ 15 := Nat.le_trans ((mem_allp rfl).mp (List.mem_filter.mp hone).1).1.length_le hL
          simp only [envE, so_seq, so_if, so_ret, so_retN, so_exp, so_nil, so_nx, so_rt, so_asg, so_asgG, so_par2, so_par3, ok_gNm, ok_gMore, ok_gNone, so_asgT, so_sub, so_for, ok_TB, ok_Tru, ok_notT, ok_andT, ok_orT, ok_andV, ok_orV, ok_notV, ok_iteE, ok_frz, ok_new, ok_mfArg, ok_mfBin, ok_lc, ok_M, ok_M0, ok_moNone, ok_moSome, ok_Sl,
  ok_bin, ok_un, ok_arg, ok_cons, ok_nil, ok_call, ok_var, ok_C, ok_ok, ok_stuck, ok_noX, bOf_bool, low_v, iOf_int, addD_int, subD_int, negD_int, ltD_int, leD_int, gtD_int, geD_int, fInt_int, isD_bool, isNotD_bool, tru_bool, List.map_cons, List.map_nil, List.length_cons, List.length_nil, List.replicate_succ, List.replicate_zero, List.cons_append, List.nil_append,
  List.append_nil, List.getElem?_cons_zero, List.getElem?_cons_succ, List.set_cons_zero, List.set_cons_succ, Option.some.injEq, exists_eq_left', exists_eq_left, true_and, and_true, true_implies, false_implies, implies_true, Bool.false_eq_true, reduceCtorEq, false_and, and_false, D.v.injEq, PyData.int.injEq, D.ref.injEq, p1i_int, p2_two, p3_three, decide_true, Bool.not_true, Bool.not_false, decide_eq_true_eq, decide_eq_false_iff_not, wipeE, tup2, tup1]
          rw [show pairsD one = .tuple (one.map pr) from rfl, add_tupD (by rw [List.length_map, List.length_singleton]; omega), ok_ok]
          refine ⟨rfl, ?_⟩
          show D.v (.tuple (one.map pr ++ [pr (i, b)])) = D.v (.tuple ((one ++ [(i, b)]).map pr))
          rw [List.map_append]
          rfl
        rw [ok_ok]
        have hfl := List.length_filter_le (fre (i, b)) (allp (frt rows i j))
        rw [cat_list (by rw [List.length_map, List.length_map]; omega), ok_ok]
        refine ⟨rfl, some (.v (nI b)), some (.v (.list (((allp (frt rows i j)).filter (fre (i, b))).map pairsD))), x5, ?_⟩
        rw [hnext, List.filter_cons, if_pos h1, List.filter_nil, List.map_singleton, allp_snoc]
        unfold stp
        rw [List.map_append, List.map_map]
        rfl
      · rw [hnext, List.filter_cons, if_neg (by rw [h1]; exact Bool.false_ne_true), List.filter_nil, List.map_nil, List.append_nil]
        exact ⟨_, _, _, rfl⟩
    · rintro e s' ⟨rfl, x3, x4, x5, rfl⟩
      refine ⟨trivial, rfl, some (.v (nI i)), x3, x4, x5, ?_⟩
      rw [Nat.zero_add, List.length_map, frt_full]
  · rintro e s ⟨rfl, x2, x3, x4, x5, rfl⟩
    refine ⟨trivial, ?_⟩
    unfold LH.S_law_pairings_3
    rw [show (rngI 0 rows.length).length = rows.length by unfold rngI; rw [List.length_map, List.length_range], Nat.zero_add]
    have hw : frt rows rows.length 0 = wanting rows := by unfold frt wanting; simp
    rw [hw]
    simp only [envE, so_seq, so_if, so_ret, so_retN, so_exp, so_nil, so_nx, so_rt, so_asg, so_asgG, so_par2, so_par3, ok_gNm, ok_gMore, ok_gNone, so_asgT, so_sub, so_for, ok_TB, ok_Tru, ok_notT, ok_andT, ok_orT, ok_andV, ok_orV, ok_notV, ok_iteE, ok_frz, ok_new, ok_mfArg, ok_mfBin, ok_lc, ok_M, ok_M0, ok_moNone, ok_moSome, ok_Sl,
  ok_bin, ok_un, ok_arg, ok_cons, ok_nil, ok_call, ok_var, ok_C, ok_ok, ok_stuck, ok_noX, bOf_bool, low_v, iOf_int, addD_int, subD_int, negD_int, ltD_int, leD_int, gtD_int, geD_int, fInt_int, isD_bool, isNotD_bool, tru_bool, List.map_cons, List.map_nil, List.length_cons, List.length_nil, List.replicate_succ, List.replicate_zero, List.cons_append, List.nil_append,
  List.append_nil, List.getElem?_cons_zero, List.getElem?_cons_succ, List.set_cons_zero, List.set_cons_succ, Option.some.injEq, exists_eq_left', exists_eq_left, true_and, and_true, true_implies, false_implies, implies_true, Bool.false_eq_true, reduceCtorEq, false_and, and_false, D.v.injEq, PyData.int.injEq, D.ref.injEq, p1i_int, p2_two, p3_three, decide_true, Bool.not_true, Bool.not_false, decide_eq_true_eq, decide_eq_false_iff_not]
    rw [Sg.sort_givs, ok_ok, hE]
    exact ⟨rfl, List.take_length⟩
end
end Fw.Tl
namespace Wk04
open PySem PySem.Spec PyProof.Rows L2 Fw Fw.Hl Fw.Da Fw.Aq Fw.Tl Fw.An
section
variable {rows : List (List Nat)} {a b c n k m i j : Nat} {μ ν ps : List (Nat × Nat)} {st : Sto}
theorem fm_app {α β : Type} [DecidableEq β] (f g : α → List β) : ∀ m : List α, (m.flatMap fun b => f b ++ g b).Perm (m.flatMap f ++ m.flatMap g)
  | [] => .refl _
  | b :: r => by
    rw [List.flatMap_cons, List.flatMap_cons, List.flatMap_cons]
    refine List.perm_iff_count.mpr fun x => ?_
    have := List.perm_iff_count.mp (fm_app f g r) x
    simp only [List.count_append] at this ⊢
    omega
theorem fm_swap {α β γ : Type} [DecidableEq γ] (f : α → β → List γ) (m : List β) : ∀ l : List α, (l.flatMap fun a => m.flatMap fun b => f a b).Perm (m.flatMap fun b => l.flatMap fun a => f a b)
  | [] => by
    have : (m.flatMap fun b => ([] : List α).flatMap fun a => f a b) = [] := by
      rw [List.flatMap_eq_nil_iff]
      exact fun _ _ => rfl
    rw [this]
    exact .refl _
  | a :: r => by
    rw [List.flatMap_cons]
    have h : (m.flatMap fun b => (a :: r).flatMap fun a => f a b) = m.flatMap fun b => f a b ++ r.flatMap fun a => f a b := rfl
    rw [h]
    exact ((fm_swap f m r).append_left _).trans (fm_app _ _ m).symm
def apm (rows : List (List Nat)) (i : Nat) (μ : List (Nat × Nat)) : List (List (Nat × Nat)) :=
  if (partner μ i).isNone then ((ups (i + 1) rows.length).filter fun b => want rows i b && (partner μ b).isNone).map fun b => μ ++ [(i, b)] else []
def ap (rows : List (List Nat)) : Nat → List (List (Nat × Nat))
  | 0 => [[]]
  | i + 1 => ap rows i ++ (ap rows i).flatMap (apm rows i)
theorem apm_fm : apm rows i μ = (wantOf rows i).flatMap fun p => if fre p μ = true then [μ ++ [p]] else [] := by
  unfold apm wantOf
  have key : ∀ l : List Nat, (if (partner μ i).isNone then (l.filter fun b => want rows i b && (partner μ b).isNone).map fun b => μ ++ [(i, b)] else []) = ((l.filter (want rows i)).map fun b => (i, b)).flatMap fun p => if fre p μ = true then [μ ++ [p]] else [] := fun l => by
    induction l with
    | nil => split <;> rfl
    | cons b r ih =>
      rw [List.filter_cons, List.filter_cons]
      cases hw : want rows i b with
      | false =>
        simp only [Bool.false_and, Bool.false_eq_true, if_false]
        exact ih
      | true =>
        simp only [Bool.true_and, if_true]
        rw [List.map_cons, List.flatMap_cons, ← ih]
        show _ = (if ((partner μ i).isNone && (partner μ b).isNone) = true then [μ ++ [(i, b)]] else []) ++ _
        cases h1 : (partner μ i).isNone <;> cases h2 : (partner μ b).isNone <;> rfl
  exact key _
theorem blk_fold (hA : True) : ∀ (B : List (Nat × Nat)) (A C : List (List (Nat × Nat))), (∀ p ∈ B, p.1 = i) → (∀ μ ∈ C, (partner μ i).isNone = false) → B.foldl Tl.stp (A ++ C) = A ++ (C ++ B.flatMap fun p => (A.filter (fre p)).map (· ++ [p]))
  | [], A, C, _, _ => by rw [List.foldl_nil, List.flatMap_nil, List.append_nil]
  | p :: r, A, C, h1, h2 => by
    have hp : p.1 = i := h1 p (.head _)
    have hC : C.filter (fre p) = [] := List.filter_eq_nil_iff.mpr fun μ hμ => by
      unfold fre
      rw [hp, h2 μ hμ]
      exact Bool.false_ne_true
    have e : Tl.stp (A ++ C) p = A ++ (C ++ (A.filter (fre p)).map (· ++ [p])) := by
      unfold Tl.stp
      rw [List.filter_append, hC, List.append_nil, List.append_assoc]
    rw [List.foldl_cons, e, blk_fold hA r A _ (fun q hq => h1 q (.tail _ hq)), List.flatMap_cons, List.append_assoc]
    intro μ hμ
    rcases List.mem_append.mp hμ with hμ | hμ
    · exact h2 μ hμ
    · obtain ⟨ν, _, rfl⟩ := List.mem_map.mp hμ
      refine (Bool.not_eq_true _).mp fun z => ?_
      have := (partner_none.mp z) p (List.mem_append_right _ (.head _))
      exact this.1 hp.symm
theorem ap_perm (hn : rows.length ≤ 50) : ∀ i, i ≤ rows.length → (ap rows i).Perm (allp (frt rows i 0))
  | 0, _ => by
    have : frt rows 0 0 = [] := rfl
    rw [this]
    exact .refl _
  | i + 1, hi => by
    have ih := ap_perm hn i (by omega)
    have e : frt rows (i + 1) 0 = frt rows i 0 ++ wantOf rows i := by
      unfold frt
      rw [List.take_zero, List.filter_nil, List.map_nil, List.append_nil, List.take_zero, List.filter_nil, List.map_nil, List.append_nil, List.range_succ, List.flatMap_append, List.flatMap_singleton]
    have e2 : allp (frt rows (i + 1) 0) = allp (frt rows i 0) ++ (wantOf rows i).flatMap fun p => ((allp (frt rows i 0)).filter (fre p)).map (· ++ [p]) := by
      rw [e]
      unfold allp
      rw [List.foldl_append]
      have := blk_fold (i := i) trivial (wantOf rows i) (List.foldl Tl.stp [[]] (frt rows i 0)) [] (fun p hp => by
        unfold wantOf at hp
        obtain ⟨b, _, rfl⟩ := List.mem_map.mp hp
        rfl) (fun _ h => nomatch h)
      rw [List.append_nil, List.nil_append] at this
      exact this
    rw [e2]
    show (ap rows i ++ (ap rows i).flatMap (apm rows i)).Perm _
    refine ih.append ((ih.flatMap_right _).trans ?_)
    have e3 : (allp (frt rows i 0)).flatMap (apm rows i) = (allp (frt rows i 0)).flatMap fun μ => (wantOf rows i).flatMap fun p => if fre p μ = true then [μ ++ [p]] else [] := by
      congr 1
      funext μ
      exact apm_fm
    rw [e3]
    refine (fm_swap _ _ _).trans (List.Perm.of_eq ?_)
    congr 1
    funext p
    induction allp (frt rows i 0) with
    | nil => rfl
    | cons x r ih =>
      rw [List.flatMap_cons, ih, List.filter_cons]
      by_cases h : fre p x = true
      · rw [if_pos h, if_pos h]; rfl
      · rw [if_neg h, if_neg h]; rfl
theorem ap_len : ∀ i, i ≤ rows.length → (ap rows i).length ≤ cnt rows.length i
  | 0, _ => Nat.le_refl _
  | i + 1, hi => by
    have ih := ap_len i (by omega)
    have h : ∀ μ, (apm rows i μ).length ≤ rows.length - (i + 1) := fun μ => by
      unfold apm
      split
      · rw [List.length_map]
        have h1 := List.length_filter_le (fun b => want rows i b && (partner μ b).isNone) (ups (i + 1) rows.length)
        have h2 : (ups (i + 1) rows.length).length = rows.length - (i + 1) := by simp [ups]
        omega
      · exact Nat.zero_le _
    have h2 := flat_len h (ap rows i)
    show (ap rows i ++ (ap rows i).flatMap (apm rows i)).length ≤ cnt rows.length i * (1 + (rows.length - (i + 1)))
    rw [List.length_append, Nat.mul_add, Nat.mul_one]
    have h3 := Nat.mul_le_mul_right (rows.length - (i + 1)) ih
    omega
theorem ap_all (hn : rows.length ≤ 50) : (ap rows rows.length).Perm (allp (wanting rows)) := by
  have hw : frt rows rows.length 0 = wanting rows := by unfold frt wanting; simp
  rw [← hw]
  exact ap_perm hn _ (Nat.le_refl _)
theorem cnt6 : ∀ n, n ≤ 6 → ∀ a, a ≤ n → Da.cnt n a ≤ 720 := by decide
theorem all_len (hn : rows.length ≤ 6) : (allp (wanting rows)).length ≤ 720 := by
  rw [← (ap_all (by omega)).length_eq]
  exact Nat.le_trans (ap_len _ (Nat.le_refl _)) (cnt6 _ hn _ (Nat.le_refl _))
end
end Wk04
namespace Wk04
open PySem PySem.Spec PyProof.Rows L2 Fw Fw.Hl Fw.Da Fw.Aq Fw.Tl Fw.An
section
variable {rows : List (List Nat)} {a b c n k m i j : Nat} {μ ν ps : List (Nat × Nat)} {st : Sto} {o : Option Nat}
theorem unb_eq (hn : rows.length ≤ 50) : f_is_unbroken [.v (hallD rows), .v (pairsD ps)] st = .ok (.v (.bool (decide (breaking rows ps = [])))) st := by
  refine Out.Ok.is (fnT_ok ?_)
  unfold S_is_unbroken
  have hb : ∀ s, f_breaking_pairs [.v (hallD rows), .v (pairsD ps)] s = .ok (.v (pairsD (breaking rows ps))) s := fun s => breaking_eq hn
  have he : ∀ s, eqD (.v (pairsD (breaking rows ps))) (.v (.tuple [])) s = .ok (.v (.bool (decide (breaking rows ps = [])))) s := fun s => eq_prs (ν := [])
  simp only [envE, so_seq, so_if, so_ret, so_retN, so_exp, so_nil, so_nx, so_rt, so_asg, so_asgG, so_par2, so_par3, ok_gNm, ok_gMore, ok_gNone, so_asgT, so_sub, so_for, ok_TB, ok_Tru, ok_notT, ok_andT, ok_orT, ok_andV, ok_orV, ok_notV, ok_iteE, ok_frz, ok_new, ok_mfArg, ok_mfBin, ok_lc, ok_M, ok_M0, ok_moNone, ok_moSome, ok_Sl,
  ok_bin, ok_un, ok_arg, ok_cons, ok_nil, ok_call, ok_var, ok_C, ok_ok, ok_stuck, ok_noX, bOf_bool, low_v, iOf_int, addD_int, subD_int, negD_int, ltD_int, leD_int, gtD_int, geD_int, fInt_int, isD_bool, isNotD_bool, tru_bool, List.map_cons, List.map_nil, List.length_cons, List.length_nil, List.replicate_succ, List.replicate_zero, List.cons_append, List.nil_append,
  List.append_nil, List.getElem?_cons_zero, List.getElem?_cons_succ, List.set_cons_zero, List.set_cons_succ, Option.some.injEq, exists_eq_left', exists_eq_left, true_and, and_true, true_implies, false_implies, implies_true, Bool.false_eq_true, reduceCtorEq, false_and, and_false, D.v.injEq, PyData.int.injEq, D.ref.injEq, p1i_int, p2_two, p3_three, decide_true, Bool.not_true, Bool.not_false, decide_eq_true_eq, decide_eq_false_iff_not, hb, tup0, he]
  exact List.take_length
theorem isnum_eq {b : Nat} : f_is_number [.v (nI b)] st = .ok (.v (.bool true)) st := by
  refine Out.Ok.is (fnT_ok ?_)
  unfold S_is_number
  have h1 : ∀ s, isiD "int" (.v (nI b)) s = .ok (.v (.bool true)) s := fun s => isi_by rfl rfl
  have h2 : ∀ s, isiD "bool" (.v (nI b)) s = .ok (.v (.bool false)) s := fun s => isi_by rfl rfl
  have h3 : ∀ s, geD (.v (nI b)) (.v (.int 0)) s = .ok (.v (.bool true)) s := fun s => by
    rw [show geD (.v (nI b)) (.v (.int 0)) s = _ from geD_int, decide_eq_true (by omega)]
  simp only [envE, so_seq, so_if, so_ret, so_retN, so_exp, so_nil, so_nx, so_rt, so_asg, so_asgG, so_par2, so_par3, ok_gNm, ok_gMore, ok_gNone, so_asgT, so_sub, so_for, ok_TB, ok_Tru, ok_notT, ok_andT, ok_orT, ok_andV, ok_orV, ok_notV, ok_iteE, ok_frz, ok_new, ok_mfArg, ok_mfBin, ok_lc, ok_M, ok_M0, ok_moNone, ok_moSome, ok_Sl,
  ok_bin, ok_un, ok_arg, ok_cons, ok_nil, ok_call, ok_var, ok_C, ok_ok, ok_stuck, ok_noX, bOf_bool, low_v, iOf_int, addD_int, subD_int, negD_int, ltD_int, leD_int, gtD_int, geD_int, fInt_int, isD_bool, isNotD_bool, tru_bool, List.map_cons, List.map_nil, List.length_cons, List.length_nil, List.replicate_succ, List.replicate_zero, List.cons_append, List.nil_append,
  List.append_nil, List.getElem?_cons_zero, List.getElem?_cons_succ, List.set_cons_zero, List.set_cons_succ, Option.some.injEq, exists_eq_left', exists_eq_left, true_and, and_true, true_implies, false_implies, implies_true, Bool.false_eq_true, reduceCtorEq, false_and, and_false, D.v.injEq, PyData.int.injEq, D.ref.injEq, p1i_int, p2_two, p3_three, decide_true, Bool.not_true, Bool.not_false, decide_eq_true_eq, decide_eq_false_iff_not, h1, h2, h3]
  exact List.take_length
theorem place_eq' (hn : rows.length ≤ 50) (H : Hall rows) (ha : a < rows.length) (ho : ∀ b, o = some b → b ∈ row rows a) : f_place_in [.v (hallD rows), .v (nI a), .v (optD o)] st = .ok (.v (nI (place rows a o))) st := by
  refine Out.Ok.is (fnT_ok ?_)
  have hr : ∀ s, subsD (.v (.tuple (rows.map tNs))) (.v (nI a)) s = .ok (.v (tNs (row rows a))) s := fun s => hall_row ha
  unfold S_place_in S_place_in_2
  simp only [envE, so_seq, so_if, so_ret, so_retN, so_exp, so_nil, so_nx, so_rt, so_asg, so_asgG, so_par2, so_par3, ok_gNm, ok_gMore, ok_gNone, so_asgT, so_sub, so_for, ok_TB, ok_Tru, ok_notT, ok_andT, ok_orT, ok_andV, ok_orV, ok_notV, ok_iteE, ok_frz, ok_new, ok_mfArg, ok_mfBin, ok_lc, ok_M, ok_M0, ok_moNone, ok_moSome, ok_Sl,
  ok_bin, ok_un, ok_arg, ok_cons, ok_nil, ok_call, ok_var, ok_C, ok_ok, ok_stuck, ok_noX, bOf_bool, low_v, iOf_int, addD_int, subD_int, negD_int, ltD_int, leD_int, gtD_int, geD_int, fInt_int, isD_bool, isNotD_bool, tru_bool, List.map_cons, List.map_nil, List.length_cons, List.length_nil, List.replicate_succ, List.replicate_zero, List.cons_append, List.nil_append,
  List.append_nil, List.getElem?_cons_zero, List.getElem?_cons_succ, List.set_cons_zero, List.set_cons_succ, Option.some.injEq, exists_eq_left', exists_eq_left, true_and, and_true, true_implies, false_implies, implies_true, Bool.false_eq_true, reduceCtorEq, false_and, and_false, D.v.injEq, PyData.int.injEq, D.ref.injEq, p1i_int, p2_two, p3_three, decide_true, Bool.not_true, Bool.not_false, decide_eq_true_eq, decide_eq_false_iff_not, hall1, hr]
  cases o with
  | none =>
    have h0 : ∀ s, isD (.v (optD none)) (.v .none) s = .ok (.v (.bool true)) s := fun s => rfl
    simp only [envE, so_seq, so_if, so_ret, so_retN, so_exp, so_nil, so_nx, so_rt, so_asg, so_asgG, so_par2, so_par3, ok_gNm, ok_gMore, ok_gNone, so_asgT, so_sub, so_for, ok_TB, ok_Tru, ok_notT, ok_andT, ok_orT, ok_andV, ok_orV, ok_notV, ok_iteE, ok_frz, ok_new, ok_mfArg, ok_mfBin, ok_lc, ok_M, ok_M0, ok_moNone, ok_moSome, ok_Sl,
  ok_bin, ok_un, ok_arg, ok_cons, ok_nil, ok_call, ok_var, ok_C, ok_ok, ok_stuck, ok_noX, bOf_bool, low_v, iOf_int, addD_int, subD_int, negD_int, ltD_int, leD_int, gtD_int, geD_int, fInt_int, isD_bool, isNotD_bool, tru_bool, List.map_cons, List.map_nil, List.length_cons, List.length_nil, List.replicate_succ, List.replicate_zero, List.cons_append, List.nil_append,
  List.append_nil, List.getElem?_cons_zero, List.getElem?_cons_succ, List.set_cons_zero, List.set_cons_succ, Option.some.injEq, exists_eq_left', exists_eq_left, true_and, and_true, true_implies, false_implies, implies_true, Bool.false_eq_true, reduceCtorEq, false_and, and_false, D.v.injEq, PyData.int.injEq, D.ref.injEq, p1i_int, p2_two, p3_three, decide_true, Bool.not_true, Bool.not_false, decide_eq_true_eq, decide_eq_false_iff_not, h0, len_tup, List.length_map]
    exact ⟨rfl, List.take_length⟩
  | some b =>
    have h0 : ∀ s, isD (.v (optD (some b))) (.v .none) s = .ok (.v (.bool false)) s := fun s => rfl
    have h1 : ∀ s, f_is_number [.v (optD (some b))] s = .ok (.v (.bool true)) s := fun s => isnum_eq
    unfold S_place_in_3 S_place_in_4
    have hb : b ∈ row rows a := ho b rfl
    have hni : ∀ s, notInU (.v (optD (some b))) (.v (tNs (row rows a))) s = .ok (.v (.bool false)) s := fun s => by
      show (match inS s (.v (nI b)) (.v (tNs (row rows a))) with
        | some k => Out.ok (D.v (.bool !k)) s
        | none => .stuck) = _
      rw [inS_tup, decide_eq_true hb]
      rfl
    have hp : place rows a (some b) = if b ∈ row rows a then (row rows a).idxOf b else (row rows a).length + 1 := rfl
    simp only [envE, so_seq, so_if, so_ret, so_retN, so_exp, so_nil, so_nx, so_rt, so_asg, so_asgG, so_par2, so_par3, ok_gNm, ok_gMore, ok_gNone, so_asgT, so_sub, so_for, ok_TB, ok_Tru, ok_notT, ok_andT, ok_orT, ok_andV, ok_orV, ok_notV, ok_iteE, ok_frz, ok_new, ok_mfArg, ok_mfBin, ok_lc, ok_M, ok_M0, ok_moNone, ok_moSome, ok_Sl,
  ok_bin, ok_un, ok_arg, ok_cons, ok_nil, ok_call, ok_var, ok_C, ok_ok, ok_stuck, ok_noX, bOf_bool, low_v, iOf_int, addD_int, subD_int, negD_int, ltD_int, leD_int, gtD_int, geD_int, fInt_int, isD_bool, isNotD_bool, tru_bool, List.map_cons, List.map_nil, List.length_cons, List.length_nil, List.replicate_succ, List.replicate_zero, List.cons_append, List.nil_append,
  List.append_nil, List.getElem?_cons_zero, List.getElem?_cons_succ, List.set_cons_zero, List.set_cons_succ, Option.some.injEq, exists_eq_left', exists_eq_left, true_and, and_true, true_implies, false_implies, implies_true, Bool.false_eq_true, reduceCtorEq, false_and, and_false, D.v.injEq, PyData.int.injEq, D.ref.injEq, p1i_int, p2_two, p3_three, decide_true, Bool.not_true, Bool.not_false, decide_eq_true_eq, decide_eq_false_iff_not, h0, h1, hni, ok_Index, isT_tup, Bool.or_true]
    rw [show optD (some b) = nI b from rfl, index_tN hb, ok_ok, hp, if_pos hb]
    exact ⟨rfl, rfl, List.take_length⟩
theorem vals_v : ∀ zs : List PyData, valsOf (zs.map D.v) = some zs
  | [] => rfl
  | z :: r => by
    rw [List.map_cons]
    show (valsOf (r.map D.v)).map (z :: ·) = _
    rw [vals_v r]
    rfl
theorem tup_any {zs : List PyData} (h : zs.length ≤ 1000) : fTup (zs.map D.v) st = .ok (.v (.tuple zs)) st := by
  unfold fTup
  rw [vals_v]
  exact if_pos h
theorem who_eq (hn : rows.length ≤ 50) : f_who_likes_better [.v (hallD rows), .v (pairsD μ), .v (pairsD ν)] st = .ok (.v (tNs ((List.range rows.length).filter fun a => decide (place rows a (partner μ a) < place rows a (partner ν a))))) st := by
  refine Out.Ok.is (fnT_ok ?_)
  unfold S_who_likes_better who_likes_better_E1 who_likes_better_T1
  have h4 : ∀ ps x s, f_partner_of [.v (pairsD ps), .v (nI x)] s = .ok (.v (optD (partner ps x))) s := fun ps x s => partner_eq
  have t3 : ∀ {x y z : PyData} {s}, fTup [.v x, .v y, .v z] s = .ok (.v (.tuple [x, y, z])) s := fun {_ _ _ _} => rfl
  simp only [envE, so_seq, so_if, so_ret, so_retN, so_exp, so_nil, so_nx, so_rt, so_asg, so_asgG, so_par2, so_par3, ok_gNm, ok_gMore, ok_gNone, so_asgT, so_sub, so_for, ok_TB, ok_Tru, ok_notT, ok_andT, ok_orT, ok_andV, ok_orV, ok_notV, ok_iteE, ok_frz, ok_new, ok_mfArg, ok_mfBin, ok_lc, ok_M, ok_M0, ok_moNone, ok_moSome, ok_Sl,
  ok_bin, ok_un, ok_arg, ok_cons, ok_nil, ok_call, ok_var, ok_C, ok_ok, ok_stuck, ok_noX, bOf_bool, low_v, iOf_int, addD_int, subD_int, negD_int, ltD_int, leD_int, gtD_int, geD_int, fInt_int, isD_bool, isNotD_bool, tru_bool, List.map_cons, List.map_nil, List.length_cons, List.length_nil, List.replicate_succ, List.replicate_zero, List.cons_append, List.nil_append,
  List.append_nil, List.getElem?_cons_zero, List.getElem?_cons_succ, List.set_cons_zero, List.set_cons_succ, Option.some.injEq, exists_eq_left', exists_eq_left, true_and, and_true, true_implies, false_implies, implies_true, Bool.false_eq_true, reduceCtorEq, false_and, and_false, D.v.injEq, PyData.int.injEq, D.ref.injEq, p1i_int, p2_two, p3_three, decide_true, Bool.not_true, Bool.not_false, decide_eq_true_eq, decide_eq_false_iff_not, ok_R1, hall0]
  refine ⟨⟨by omega, by omega⟩, ?_⟩
  rw [Int.toNat_natCast, rngI_nat]
  rw [lcL_all _ (fun a : Nat => PyData.tuple [nI a, optD (partner μ a), optD (partner ν a)])]
  rotate_left
  · intro a _
    unfold who_likes_better_G1 who_likes_better_M1
    show (gNm 4 (.one (.v (nI a))) _ _).Ok _
    simp only [envE, so_seq, so_if, so_ret, so_retN, so_exp, so_nil, so_nx, so_rt, so_asg, so_asgG, so_par2, so_par3, ok_gNm, ok_gMore, ok_gNone, so_asgT, so_sub, so_for, ok_TB, ok_Tru, ok_notT, ok_andT, ok_orT, ok_andV, ok_orV, ok_notV, ok_iteE, ok_frz, ok_new, ok_mfArg, ok_mfBin, ok_lc, ok_M, ok_M0, ok_moNone, ok_moSome, ok_Sl,
  ok_bin, ok_un, ok_arg, ok_cons, ok_nil, ok_call, ok_var, ok_C, ok_ok, ok_stuck, ok_noX, bOf_bool, low_v, iOf_int, addD_int, subD_int, negD_int, ltD_int, leD_int, gtD_int, geD_int, fInt_int, isD_bool, isNotD_bool, tru_bool, List.map_cons, List.map_nil, List.length_cons, List.length_nil, List.replicate_succ, List.replicate_zero, List.cons_append, List.nil_append,
  List.append_nil, List.getElem?_cons_zero, List.getElem?_cons_succ, List.set_cons_zero, List.set_cons_succ, Option.some.injEq, exists_eq_left', exists_eq_left, true_and, and_true, true_implies, false_implies, implies_true, Bool.false_eq_true, reduceCtorEq, false_and, and_false, D.v.injEq, PyData.int.injEq, D.ref.injEq, p1i_int, p2_two, p3_three, decide_true, Bool.not_true, Bool.not_false, decide_eq_true_eq, decide_eq_false_iff_not, wipeE, h4, t3]
  rw [ok_ok]
  unfold S_who_likes_better_2 who_likes_better_E2
  simp only [envE, so_seq, so_if, so_ret, so_retN, so_exp, so_nil, so_nx, so_rt, so_asg, so_asgG, so_par2, so_par3, ok_gNm, ok_gMore, ok_gNone, so_asgT, so_sub, so_for, ok_TB, ok_Tru, ok_notT, ok_andT, ok_orT, ok_andV, ok_orV, ok_notV, ok_iteE, ok_frz, ok_new, ok_mfArg, ok_mfBin, ok_lc, ok_M, ok_M0, ok_moNone, ok_moSome, ok_Sl,
  ok_bin, ok_un, ok_arg, ok_cons, ok_nil, ok_call, ok_var, ok_C, ok_ok, ok_stuck, ok_noX, bOf_bool, low_v, iOf_int, addD_int, subD_int, negD_int, ltD_int, leD_int, gtD_int, geD_int, fInt_int, isD_bool, isNotD_bool, tru_bool, List.map_cons, List.map_nil, List.length_cons, List.length_nil, List.replicate_succ, List.replicate_zero, List.cons_append, List.nil_append,
  List.append_nil, List.getElem?_cons_zero, List.getElem?_cons_succ, List.set_cons_zero, List.set_cons_succ, Option.some.injEq, exists_eq_left', exists_eq_left, true_and, and_true, true_implies, false_implies, implies_true, Bool.false_eq_true, reduceCtorEq, false_and, and_false, D.v.injEq, PyData.int.injEq, D.ref.injEq, p1i_int, p2_two, p3_three, decide_true, Bool.not_true, Bool.not_false, decide_eq_true_eq, decide_eq_false_iff_not, ok_seq, seqW_list, List.map_map]
  rw [lcL_auto (fun a : Nat => decide (place rows a (partner μ a) < place rows a (partner ν a))) nI]
  rotate_left
  · intro a ha
    have han := List.mem_range.mp ha
    unfold who_likes_better_G2 who_likes_better_T2 who_likes_better_M2
    have hr : ∀ s, f_has_rather [.v (hallD rows), .v (nI a), .v (optD (partner μ a)), .v (optD (partner ν a))] s = .ok (.v (.bool (decide (place rows a (partner μ a) < place rows a (partner ν a))))) s := fun s => rat_gen han
    show ((gTp 3 (gMore (gNm 4) (gMore (gNm 5) (gMore (gNm 6) gNone)))) (.one (.v (.tuple [nI a, optD (partner μ a), optD (partner ν a)]))) _ _).Ok _
    have hg : ∀ {env : Ev} {P : Ev → Sto → Prop} {s : Sto}, (gTp 3 (gMore (gNm 4) (gMore (gNm 5) (gMore (gNm 6) gNone))) (.one (.v (.tuple [nI a, optD (partner μ a), optD (partner ν a)]))) env s).Ok P ↔ P (((env.set 4 (some (.v (nI a)))).set 5 (some (.v (optD (partner μ a))))).set 6 (some (.v (optD (partner ν a))))) s := Iff.rfl
    rw [hg]
    simp only [envE, so_seq, so_if, so_ret, so_retN, so_exp, so_nil, so_nx, so_rt, so_asg, so_asgG, so_par2, so_par3, ok_gNm, ok_gMore, ok_gNone, so_asgT, so_sub, so_for, ok_TB, ok_Tru, ok_notT, ok_andT, ok_orT, ok_andV, ok_orV, ok_notV, ok_iteE, ok_frz, ok_new, ok_mfArg, ok_mfBin, ok_lc, ok_M, ok_M0, ok_moNone, ok_moSome, ok_Sl,
  ok_bin, ok_un, ok_arg, ok_cons, ok_nil, ok_call, ok_var, ok_C, ok_ok, ok_stuck, ok_noX, bOf_bool, low_v, iOf_int, addD_int, subD_int, negD_int, ltD_int, leD_int, gtD_int, geD_int, fInt_int, isD_bool, isNotD_bool, tru_bool, List.map_cons, List.map_nil, List.length_cons, List.length_nil, List.replicate_succ, List.replicate_zero, List.cons_append, List.nil_append,
  List.append_nil, List.getElem?_cons_zero, List.getElem?_cons_succ, List.set_cons_zero, List.set_cons_succ, Option.some.injEq, exists_eq_left', exists_eq_left, true_and, and_true, true_implies, false_implies, implies_true, Bool.false_eq_true, reduceCtorEq, false_and, and_false, D.v.injEq, PyData.int.injEq, D.ref.injEq, p1i_int, p2_two, p3_three, decide_true, Bool.not_true, Bool.not_false, decide_eq_true_eq, decide_eq_false_iff_not, wipeE, hr]
  rw [ok_ok, tup_list, ok_ok]
  exact ⟨low_v, rfl, List.take_length⟩
theorem all_eq (hn : rows.length ≤ 6) (H : Hall rows) : ∃ E : List (List (Nat × Nat)), E.Perm (allp (wanting rows)) ∧ (∀ st, LH.f_law_pairings [.v (hallD rows)] st = .ok (.v (.list (E.map pairsD))) st) ∧ ∀ st, f_all_pairings [.v (hallD rows)] st = .ok (.v (.tuple (E.map pairsD))) st := by
  obtain ⟨E, hE, hp, hl⟩ := lpairs_srt hn H
  refine ⟨E, hp, hl, fun st => Out.Ok.is (fnT_ok ?_)⟩
  have hn50 : rows.length ≤ 50 := by omega
  have bnd : ∀ i, i ≤ rows.length → (ap rows i).length ≤ 720 := fun i hi => Nat.le_trans (ap_len i hi) (cnt6 _ hn _ hi)
  have plen : ∀ i, i ≤ rows.length → ∀ μ ∈ ap rows i, μ.length ≤ 15 := fun i hi μ hμ => by
    have h1 := (mem_allp rfl).mp ((ap_perm hn50 i hi).mem_iff.mp hμ)
    have h2 := h1.1.length_le
    have h3 : (frt rows i 0).length ≤ 15 := by
      by_cases h : i < rows.length
      · obtain ⟨M, hM⟩ := frt_pre (j := 0) h
        exact prefix_len hM hn
      · have : i = rows.length := by omega
        subst this
        have hw : frt rows rows.length 0 = wanting rows := by unfold frt wanting; simp
        rw [hw]
        exact wanting_len hn
    omega
  unfold S_all_pairings
  have disp1 : ∀ {x : PyData} {s}, gDisp [.v x] s = .ok [x] s := fun {_ _} => rfl
  simp only [envE, so_seq, so_if, so_ret, so_retN, so_exp, so_nil, so_nx, so_rt, so_asg, so_asgG, so_par2, so_par3, ok_gNm, ok_gMore, ok_gNone, so_asgT, so_sub, so_for, ok_TB, ok_Tru, ok_notT, ok_andT, ok_orT, ok_andV, ok_orV, ok_notV, ok_iteE, ok_frz, ok_new, ok_mfArg, ok_mfBin, ok_lc, ok_M, ok_M0, ok_moNone, ok_moSome, ok_Sl,
  ok_bin, ok_un, ok_arg, ok_cons, ok_nil, ok_call, ok_var, ok_C, ok_ok, ok_stuck, ok_noX, bOf_bool, low_v, iOf_int, addD_int, subD_int, negD_int, ltD_int, leD_int, gtD_int, geD_int, fInt_int, isD_bool, isNotD_bool, tru_bool, List.map_cons, List.map_nil, List.length_cons, List.length_nil, List.replicate_succ, List.replicate_zero, List.cons_append, List.nil_append,
  List.append_nil, List.getElem?_cons_zero, List.getElem?_cons_succ, List.set_cons_zero, List.set_cons_succ, Option.some.injEq, exists_eq_left', exists_eq_left, true_and, and_true, true_implies, false_implies, implies_true, Bool.false_eq_true, reduceCtorEq, false_and, and_false, D.v.injEq, PyData.int.injEq, D.ref.injEq, p1i_int, p2_two, p3_three, decide_true, Bool.not_true, Bool.not_false, decide_eq_true_eq, decide_eq_false_iff_not, tup0, disp1]
  unfold S_all_pairings_2 all_pairings_E4
  simp only [envE, so_seq, so_if, so_ret, so_retN, so_exp, so_nil, so_nx, so_rt, so_asg, so_asgG, so_par2, so_par3, ok_gNm, ok_gMore, ok_gNone, so_asgT, so_sub, so_for, ok_TB, ok_Tru, ok_notT, ok_andT, ok_orT, ok_andV, ok_orV, ok_notV, ok_iteE, ok_frz, ok_new, ok_mfArg, ok_mfBin, ok_lc, ok_M, ok_M0, ok_moNone, ok_moSome, ok_Sl,
  ok_bin, ok_un, ok_arg, ok_cons, ok_nil, ok_call, ok_var, ok_C, ok_ok, ok_stuck, ok_noX, bOf_bool, low_v, iOf_int, addD_int, subD_int, negD_int, ltD_int, leD_int, gtD_int, geD_int, fInt_int, isD_bool, isNotD_bool, tru_bool, List.map_cons, List.map_nil, List.length_cons, List.length_nil, List.replicate_succ, List.replicate_zero, List.cons_append, List.nil_append,
  List.append_nil, List.getElem?_cons_zero, List.getElem?_cons_succ, List.set_cons_zero, List.set_cons_succ, Option.some.injEq, exists_eq_left', exists_eq_left, true_and, and_true, true_implies, false_implies, implies_true, Bool.false_eq_true, reduceCtorEq, false_and, and_false, D.v.injEq, PyData.int.injEq, D.ref.injEq, p1i_int, p2_two, p3_three, decide_true, Bool.not_true, Bool.not_false, decide_eq_true_eq, decide_eq_false_iff_not, ok_R1, hall0]
  refine ⟨⟨by omega, by omega⟩, ?_⟩
  rw [Int.toNat_natCast]
  refine forL_inv (fun i e s => s = st ∧ ∃ x2 x3 x4 x5 x6, e = [some (.v (hallD rows)), some (.v (.list ((ap rows i).map pairsD))), x2, x3, x4, x5, x6]) _ _ _ 0 ?_ ?_ ⟨rfl, _, _, _, _, _, rfl⟩
  · rintro i d e s hd ⟨rfl, x2, x3, x4, x5, x6, rfl⟩
    obtain ⟨hi, rfl⟩ := rngI_get hd
    refine ⟨trivial, ?_⟩
    rw [Int.zero_add, Nat.zero_add]
    unfold all_pairings_G4 all_pairings_B1
    show (gNm 2 (.one (.v (nI i))) _ _).Ok _
    simp only [envE, so_seq, so_if, so_ret, so_retN, so_exp, so_nil, so_nx, so_rt, so_asg, so_asgG, so_par2, so_par3, ok_gNm, ok_gMore, ok_gNone, so_asgT, so_sub, so_for, ok_TB, ok_Tru, ok_notT, ok_andT, ok_orT, ok_andV, ok_orV, ok_notV, ok_iteE, ok_frz, ok_new, ok_mfArg, ok_mfBin, ok_lc, ok_M, ok_M0, ok_moNone, ok_moSome, ok_Sl,
  ok_bin, ok_un, ok_arg, ok_cons, ok_nil, ok_call, ok_var, ok_C, ok_ok, ok_stuck, ok_noX, bOf_bool, low_v, iOf_int, addD_int, subD_int, negD_int, ltD_int, leD_int, gtD_int, geD_int, fInt_int, isD_bool, isNotD_bool, tru_bool, List.map_cons, List.map_nil, List.length_cons, List.length_nil, List.replicate_succ, List.replicate_zero, List.cons_append, List.nil_append,
  List.append_nil, List.getElem?_cons_zero, List.getElem?_cons_succ, List.set_cons_zero, List.set_cons_succ, Option.some.injEq, exists_eq_left', exists_eq_left, true_and, and_true, true_implies, false_implies, implies_true, Bool.false_eq_true, reduceCtorEq, false_and, and_false, D.v.injEq, PyData.int.injEq, D.ref.injEq, p1i_int, p2_two, p3_three, decide_true, Bool.not_true, Bool.not_false, decide_eq_true_eq, decide_eq_false_iff_not, disp0]
    unfold all_pairings_B1_2 all_pairings_E3
    simp only [envE, so_seq, so_if, so_ret, so_retN, so_exp, so_nil, so_nx, so_rt, so_asg, so_asgG, so_par2, so_par3, ok_gNm, ok_gMore, ok_gNone, so_asgT, so_sub, so_for, ok_TB, ok_Tru, ok_notT, ok_andT, ok_orT, ok_andV, ok_orV, ok_notV, ok_iteE, ok_frz, ok_new, ok_mfArg, ok_mfBin, ok_lc, ok_M, ok_M0, ok_moNone, ok_moSome, ok_Sl,
  ok_bin, ok_un, ok_arg, ok_cons, ok_nil, ok_call, ok_var, ok_C, ok_ok, ok_stuck, ok_noX, bOf_bool, low_v, iOf_int, addD_int, subD_int, negD_int, ltD_int, leD_int, gtD_int, geD_int, fInt_int, isD_bool, isNotD_bool, tru_bool, List.map_cons, List.map_nil, List.length_cons, List.length_nil, List.replicate_succ, List.replicate_zero, List.cons_append, List.nil_append,
  List.append_nil, List.getElem?_cons_zero, List.getElem?_cons_succ, List.set_cons_zero, List.set_cons_succ, Option.some.injEq, exists_eq_left', exists_eq_left, true_and, and_true, true_implies, false_implies, implies_true, Bool.false_eq_true, reduceCtorEq, false_and, and_false, D.v.injEq, PyData.int.injEq, D.ref.injEq, p1i_int, p2_two, p3_three, decide_true, Bool.not_true, Bool.not_false, decide_eq_true_eq, decide_eq_false_iff_not, ok_seq, seqW_list, List.map_map]
    have hb := bnd i (by omega)
    have hb1 := bnd (i + 1) (by omega)
    have hpre : ∀ j, (((ap rows i).take j).flatMap (apm rows i)).length ≤ 720 := fun j => by
      have h1 : (((ap rows i).take j).flatMap (apm rows i)).length ≤ ((ap rows i).flatMap (apm rows i)).length := by
        conv => rhs; rw [← List.take_append_drop j (ap rows i)]
        rw [List.flatMap_append, List.length_append]
        omega
      have h2 : (ap rows (i + 1)).length = (ap rows i).length + ((ap rows i).flatMap (apm rows i)).length := by
        show (ap rows i ++ (ap rows i).flatMap (apm rows i)).length = _
        rw [List.length_append]
      omega
    refine forL_inv (fun j e s' => s' = s ∧ ∃ x4 x5 x6, e = [some (.v (hallD rows)), some (.v (.list ((ap rows i).map pairsD))), some (.v (nI i)), some (.v (.list ((((ap rows i).take j).flatMap (apm rows i)).map pairsD))), x4, x5, x6]) _ _ _ 0 ?_ ?_ ⟨rfl, x4, x5, x6, rfl⟩
    · rintro j d e s' hd ⟨rfl, x4, x5, x6, rfl⟩
      rw [List.getElem?_map] at hd
      obtain ⟨μ, hμ, rfl⟩ := Option.map_eq_some_iff.mp hd
      have hμl := plen i (by omega) μ (List.mem_of_getElem? hμ)
      refine ⟨trivial, ?_⟩
      rw [Nat.zero_add]
      have h4 : ∀ x s, f_partner_of [.v (pairsD μ), .v (nI x)] s = .ok (.v (optD (partner μ x))) s := fun x s => partner_eq
      have hadd : ∀ s, addD (.v (nI i)) (.v (.int 1)) s = .ok (.v (.int ((i : Int) + 1))) s := fun s => by rw [addD_int]
      unfold all_pairings_G3 all_pairings_B2 all_pairings_E1
      show (gNm 4 (.one (.v (pairsD μ))) _ _).Ok _
      simp only [envE, so_seq, so_if, so_ret, so_retN, so_exp, so_nil, so_nx, so_rt, so_asg, so_asgG, so_par2, so_par3, ok_gNm, ok_gMore, ok_gNone, so_asgT, so_sub, so_for, ok_TB, ok_Tru, ok_notT, ok_andT, ok_orT, ok_andV, ok_orV, ok_notV, ok_iteE, ok_frz, ok_new, ok_mfArg, ok_mfBin, ok_lc, ok_M, ok_M0, ok_moNone, ok_moSome, ok_Sl,
  ok_bin, ok_un, ok_arg, ok_cons, ok_nil, ok_call, ok_var, ok_C, ok_ok, ok_stuck, ok_noX, bOf_bool, low_v, iOf_int, addD_int, subD_int, negD_int, ltD_int, leD_int, gtD_int, geD_int, fInt_int, isD_bool, isNotD_bool, tru_bool, List.map_cons, List.map_nil, List.length_cons, List.length_nil, List.replicate_succ, List.replicate_zero, List.cons_append, List.nil_append,
  List.append_nil, List.getElem?_cons_zero, List.getElem?_cons_succ, List.set_cons_zero, List.set_cons_succ, Option.some.injEq, exists_eq_left', exists_eq_left, true_and, and_true, true_implies, false_implies, implies_true, Bool.false_eq_true, reduceCtorEq, false_and, and_false, D.v.injEq, PyData.int.injEq, D.ref.injEq, p1i_int, p2_two, p3_three, decide_true, Bool.not_true, Bool.not_false, decide_eq_true_eq, decide_eq_false_iff_not, ok_R2, p2i_int, hall0, hadd]
      refine ⟨⟨by omega, by omega, by omega, by omega⟩, ?_⟩
      rw [show ((i : Int) + 1) = ((i + 1 : Nat) : Int) by omega, rng_ups]
      rw [lcL_auto (fun b : Nat => want rows i b && (partner μ b).isNone) nI]
      rotate_left
      · intro b hb
        have hbn := (mem_ups.mp hb).2
        have hw : ∀ s, f_do_want [.v (hallD rows), .v (nI i), .v (nI b)] s = .ok (.v (.bool (want rows i b))) s := fun s => want_eq hi hbn
        unfold all_pairings_G1 all_pairings_T1 all_pairings_M1
        show (gNm 6 (.one (.v (nI b))) _ _).Ok _
        simp only [envE, so_seq, so_if, so_ret, so_retN, so_exp, so_nil, so_nx, so_rt, so_asg, so_asgG, so_par2, so_par3, ok_gNm, ok_gMore, ok_gNone, so_asgT, so_sub, so_for, ok_TB, ok_Tru, ok_notT, ok_andT, ok_orT, ok_andV, ok_orV, ok_notV, ok_iteE, ok_frz, ok_new, ok_mfArg, ok_mfBin, ok_lc, ok_M, ok_M0, ok_moNone, ok_moSome, ok_Sl,
  ok_bin, ok_un, ok_arg, ok_cons, ok_nil, ok_call, ok_var, ok_C, ok_ok, ok_stuck, ok_noX, bOf_bool, low_v, iOf_int, addD_int, subD_int, negD_int, ltD_int, leD_int, gtD_int, geD_int, fInt_int, isD_bool, isNotD_bool, tru_bool, List.map_cons, List.map_nil, List.length_cons, List.length_nil, List.replicate_succ, List.replicate_zero, List.cons_append, List.nil_append,
  List.append_nil, List.getElem?_cons_zero, List.getElem?_cons_succ, List.set_cons_zero, List.set_cons_succ, Option.some.injEq, exists_eq_left', exists_eq_left, true_and, and_true, true_implies, false_implies, implies_true, Bool.false_eq_true, reduceCtorEq, false_and, and_false, D.v.injEq, PyData.int.injEq, D.ref.injEq, p1i_int, p2_two, p3_three, decide_true, Bool.not_true, Bool.not_false, decide_eq_true_eq, decide_eq_false_iff_not, wipeE, hw, h4, Hl.is_none]
        cases want rows i b <;> simp
      rw [ok_ok]
      unfold all_pairings_B2_2
      have htk : ((ap rows i).take (j + 1)).flatMap (apm rows i) = ((ap rows i).take j).flatMap (apm rows i) ++ apm rows i μ := by
        rw [List.take_add_one, hμ, List.flatMap_append]
        simp
      simp only [envE, so_seq, so_if, so_ret, so_retN, so_exp, so_nil, so_nx, so_rt, so_asg, so_asgG, so_par2, so_par3, ok_gNm, ok_gMore, ok_gNone, so_asgT, so_sub, so_for, ok_TB, ok_Tru, ok_notT, ok_andT, ok_orT, ok_andV, ok_orV, ok_notV, ok_iteE, ok_frz, ok_new, ok_mfArg, ok_mfBin, ok_lc, ok_M, ok_M0, ok_moNone, ok_moSome, ok_Sl,
  ok_bin, ok_un, ok_arg, ok_cons, ok_nil, ok_call, ok_var, ok_C, ok_ok, ok_stuck, ok_noX, bOf_bool, low_v, iOf_int, addD_int, subD_int, negD_int, ltD_int, leD_int, gtD_int, geD_int, fInt_int, isD_bool, isNotD_bool, tru_bool, List.map_cons, List.map_nil, List.length_cons, List.length_nil, List.replicate_succ, List.replicate_zero, List.cons_append, List.nil_append,
  List.append_nil, List.getElem?_cons_zero, List.getElem?_cons_succ, List.set_cons_zero, List.set_cons_succ, Option.some.injEq, exists_eq_left', exists_eq_left, true_and, and_true, true_implies, false_implies, implies_true, Bool.false_eq_true, reduceCtorEq, false_and, and_false, D.v.injEq, PyData.int.injEq, D.ref.injEq, p1i_int, p2_two, p3_three, decide_true, Bool.not_true, Bool.not_false, decide_eq_true_eq, decide_eq_false_iff_not, h4, Hl.is_none]
      refine ⟨fun h => ?_, fun h => ?_⟩
      · unfold all_pairings_E2 all_pairings_T2
        simp only [envE, so_seq, so_if, so_ret, so_retN, so_exp, so_nil, so_nx, so_rt, so_asg, so_asgG, so_par2, so_par3, ok_gNm, ok_gMore, ok_gNone, so_asgT, so_sub, so_for, ok_TB, ok_Tru, ok_notT, ok_andT, ok_orT, ok_andV, ok_orV, ok_notV, ok_iteE, ok_frz, ok_new, ok_mfArg, ok_mfBin, ok_lc, ok_M, ok_M0, ok_moNone, ok_moSome, ok_Sl,
  ok_bin, ok_un, ok_arg, ok_cons, ok_nil, ok_call, ok_var, ok_C, ok_ok, ok_stuck, ok_noX, bOf_bool, low_v, iOf_int, addD_int, subD_int, negD_int, ltD_int, leD_int, gtD_int, geD_int, fInt_int, isD_bool, isNotD_bool, tru_bool, List.map_cons, List.map_nil, List.length_cons, List.length_nil, List.replicate_succ, List.replicate_zero, List.cons_append, List.nil_append,
  List.append_nil, List.getElem?_cons_zero, List.getElem?_cons_succ, List.set_cons_zero, List.set_cons_succ, Option.some.injEq, exists_eq_left', exists_eq_left, true_and, and_true, true_implies, false_implies, implies_true, Bool.false_eq_true, reduceCtorEq, false_and, and_false, D.v.injEq, PyData.int.injEq, D.ref.injEq, p1i_int, p2_two, p3_three, decide_true, Bool.not_true, Bool.not_false, decide_eq_true_eq, decide_eq_false_iff_not, ok_seq, seqW_list, List.map_map]
        rw [lcL_all _ (fun b : Nat => pairsD (μ ++ [(i, b)]))]
        rotate_left
        · intro b _
          unfold all_pairings_G2 all_pairings_M2
          show (gNm 6 (.one (.v (nI b))) _ _).Ok _
          simp only [envE, so_seq, so_if, so_ret, so_retN, so_exp, so_nil, so_nx, so_rt, so_asg, so_asgG, so_par2, so_par3, ok_gNm, ok_gMore, ok_gNone, so_asgT, so_sub, so_for, ok_TB, ok_Tru, ok_notT, ok_andT, ok_orT, ok_andV, ok_orV, ok_notV, ok_iteE, ok_frz, ok_new, ok_mfArg, ok_mfBin, ok_lc, ok_M, ok_M0, ok_moNone, ok_moSome, ok_Sl,
  ok_bin, ok_un, ok_arg, ok_cons, ok_nil, ok_call, ok_var, ok_C, ok_ok, ok_stuck, ok_noX, bOf_bool, low_v, iOf_int, addD_int, subD_int, negD_int, ltD_int, leD_int, gtD_int, geD_int, fInt_int, isD_bool, isNotD_bool, tru_bool, List.map_cons, List.map_nil, List.length_cons, List.length_nil, List.replicate_succ, List.replicate_zero, List.cons_append, List.nil_append,
  List.append_nil, List.getElem?_cons_zero, List.getElem?_cons_succ, List.set_cons_zero, List.set_cons_succ, Option.some.injEq, exists_eq_left', exists_eq_left, true_and, and_true, true_implies, false_implies, implies_true, Bool.false_eq_true, reduceCtorEq, false_and, and_false, D.v.injEq, PyData.int.injEq, D.ref.injEq, p1i_int, p2_two, p3_three, decide_true, Bool.not_true, Bool.not_false, decide_eq_true_eq, decide_eq_false_iff_not, wipeE, ok_star, tup2]
          refine ⟨_, show viewS s' (.v (pairsD μ)) = some (μ.map pr) from rfl, ?_⟩
          rw [show (μ.map pr).map D.v ++ [D.v (.tuple [nI i, nI b])] = ((μ ++ [(i, b)]).map pr).map D.v by rw [List.map_append, List.map_append]; rfl]
          rw [tup_any (by rw [List.length_map, List.length_append, List.length_singleton]; omega), ok_ok]
          exact ⟨rfl, rfl⟩
        rw [ok_ok]
        have hap : apm rows i μ = ((ups (i + 1) rows.length).filter fun b => want rows i b && (partner μ b).isNone).map fun b => μ ++ [(i, b)] := by
          unfold apm
          rw [if_pos h]
        have hlen := hpre (j + 1)
        rw [htk, List.length_append, hap, List.length_map] at hlen
        rw [cat_list (by rw [List.length_map, List.length_map]; omega), ok_ok]
        refine ⟨rfl, some (.v (pairsD μ)), some (.v (lNs ((ups (i + 1) rows.length).filter fun b => want rows i b && (partner μ b).isNone))), x6, ?_⟩
        rw [htk, hap, List.map_append, List.map_map]
        rfl
      · have hap : apm rows i μ = [] := by
          unfold apm
          rw [if_neg (by rw [h]; exact Bool.false_ne_true)]
        rw [htk, hap, List.append_nil]
        exact ⟨_, _, _, rfl⟩
    · rintro e s' ⟨rfl, x4, x5, x6, rfl⟩
      refine ⟨trivial, ?_⟩
      rw [Nat.zero_add, List.length_map, List.take_length]
      unfold all_pairings_B1_3
      simp only [envE, so_seq, so_if, so_ret, so_retN, so_exp, so_nil, so_nx, so_rt, so_asg, so_asgG, so_par2, so_par3, ok_gNm, ok_gMore, ok_gNone, so_asgT, so_sub, so_for, ok_TB, ok_Tru, ok_notT, ok_andT, ok_orT, ok_andV, ok_orV, ok_notV, ok_iteE, ok_frz, ok_new, ok_mfArg, ok_mfBin, ok_lc, ok_M, ok_M0, ok_moNone, ok_moSome, ok_Sl,
  ok_bin, ok_un, ok_arg, ok_cons, ok_nil, ok_call, ok_var, ok_C, ok_ok, ok_stuck, ok_noX, bOf_bool, low_v, iOf_int, addD_int, subD_int, negD_int, ltD_int, leD_int, gtD_int, geD_int, fInt_int, isD_bool, isNotD_bool, tru_bool, List.map_cons, List.map_nil, List.length_cons, List.length_nil, List.replicate_succ, List.replicate_zero, List.cons_append, List.nil_append,
  List.append_nil, List.getElem?_cons_zero, List.getElem?_cons_succ, List.set_cons_zero, List.set_cons_succ, Option.some.injEq, exists_eq_left', exists_eq_left, true_and, and_true, true_implies, false_implies, implies_true, Bool.false_eq_true, reduceCtorEq, false_and, and_false, D.v.injEq, PyData.int.injEq, D.ref.injEq, p1i_int, p2_two, p3_three, decide_true, Bool.not_true, Bool.not_false, decide_eq_true_eq, decide_eq_false_iff_not]
      have := hpre (ap rows i).length
      rw [List.take_length] at this
      rw [cat_list (by rw [List.length_map, List.length_map]; omega), ok_ok, ← List.map_append]
      exact ⟨rfl, _, _, _, _, _, rfl⟩
  · rintro e s ⟨rfl, x2, x3, x4, x5, x6, rfl⟩
    refine ⟨trivial, ?_⟩
    unfold S_all_pairings_3
    rw [show (rngI 0 rows.length).length = rows.length by unfold rngI; rw [List.length_map, List.length_range], Nat.zero_add]
    simp only [envE, so_seq, so_if, so_ret, so_retN, so_exp, so_nil, so_nx, so_rt, so_asg, so_asgG, so_par2, so_par3, ok_gNm, ok_gMore, ok_gNone, so_asgT, so_sub, so_for, ok_TB, ok_Tru, ok_notT, ok_andT, ok_orT, ok_andV, ok_orV, ok_notV, ok_iteE, ok_frz, ok_new, ok_mfArg, ok_mfBin, ok_lc, ok_M, ok_M0, ok_moNone, ok_moSome, ok_Sl,
  ok_bin, ok_un, ok_arg, ok_cons, ok_nil, ok_call, ok_var, ok_C, ok_ok, ok_stuck, ok_noX, bOf_bool, low_v, iOf_int, addD_int, subD_int, negD_int, ltD_int, leD_int, gtD_int, geD_int, fInt_int, isD_bool, isNotD_bool, tru_bool, List.map_cons, List.map_nil, List.length_cons, List.length_nil, List.replicate_succ, List.replicate_zero, List.cons_append, List.nil_append,
  List.append_nil, List.getElem?_cons_zero, List.getElem?_cons_succ, List.set_cons_zero, List.set_cons_succ, Option.some.injEq, exists_eq_left', exists_eq_left, true_and, and_true, true_implies, false_implies, implies_true, Bool.false_eq_true, reduceCtorEq, false_and, and_false, D.v.injEq, PyData.int.injEq, D.ref.injEq, p1i_int, p2_two, p3_three, decide_true, Bool.not_true, Bool.not_false, decide_eq_true_eq, decide_eq_false_iff_not]
    rw [Sg.sort_givs, ok_ok, tup_list, ok_ok]
    have hs : ((ap rows rows.length).map pairsD).mergeSort (PySem.W.dataLe false id) = E.map pairsD := by
      rw [← hE]
      refine Sg.sort_same ((ap_all hn50).map pairsD) fun d hd e he z => ?_
      obtain ⟨μ, _, rfl⟩ := List.mem_map.mp hd
      obtain ⟨ν, _, rfl⟩ := List.mem_map.mp he
      exact congrArg _ (Sg.prs_toks z)
    rw [hs]
    exact ⟨low_v, rfl, List.take_length⟩
end
end Wk04
namespace Wk04
open PySem PySem.Spec PyProof.Rows L2 Fw Fw.Hl Fw.Da Fw.Aq Fw.Tl Fw.An
section
variable {rows : List (List Nat)} {lot : List Nat} {a b c n k m i j : Nat} {μ ν ps : List (Nat × Nat)} {st : Sto} {o : Option Nat} {s : Src} {rest : Sto}
theorem hall_ok (ok : s.ok) : (f_law_hall [.ref 1, .v (.int 1), .v (.int 6)] (s.sto rest)).Ok fun d st => ∃ (rows : List (List Nat)) (s' : Src), d = .v (hallD rows) ∧ st = s'.sto rest ∧ s'.ok ∧ Hall rows ∧ rows.length ≤ 6 := by
  refine fnT_ok ?_
  unfold S_law_hall
  simp only [envE, so_seq, so_if, so_ret, so_retN, so_exp, so_nil, so_nx, so_rt, so_asg, so_asgG, so_par2, so_par3, ok_gNm, ok_gMore, ok_gNone, so_asgT, so_sub, so_for, ok_TB, ok_Tru, ok_notT, ok_andT, ok_orT, ok_andV, ok_orV, ok_notV, ok_iteE, ok_frz, ok_new, ok_mfArg, ok_mfBin, ok_lc, ok_M, ok_M0, ok_moNone, ok_moSome, ok_Sl,
  ok_bin, ok_un, ok_arg, ok_cons, ok_nil, ok_call, ok_var, ok_C, ok_ok, ok_stuck, ok_noX, bOf_bool, low_v, iOf_int, addD_int, subD_int, negD_int, ltD_int, leD_int, gtD_int, geD_int, fInt_int, isD_bool, isNotD_bool, tru_bool, List.map_cons, List.map_nil, List.length_cons, List.length_nil, List.replicate_succ, List.replicate_zero, List.cons_append, List.nil_append,
  List.append_nil, List.getElem?_cons_zero, List.getElem?_cons_succ, List.set_cons_zero, List.set_cons_succ, Option.some.injEq, exists_eq_left', exists_eq_left, true_and, and_true, true_implies, false_implies, implies_true, Bool.false_eq_true, reduceCtorEq, false_and, and_false, D.v.injEq, PyData.int.injEq, D.ref.injEq, p1i_int, p2_two, p3_three, decide_true, Bool.not_true, Bool.not_false, decide_eq_true_eq, decide_eq_false_iff_not]
  have dr1 := pickB_ok s rest 6 (by omega) ok
  refine dr1.mono ?_
  rintro _ _ ⟨r1, s1, rfl, rfl, ok1, h10, h11, _⟩
  have h11 := h11 (by omega)
  obtain ⟨n, hn⟩ : ∃ n : Nat, 1 + r1 = (n : Int) := ⟨(1 + r1).toNat, by omega⟩
  have hn1 : 1 ≤ n := by omega
  have hn2 : n ≤ 6 := by omega
  simp only [envE, so_seq, so_if, so_ret, so_retN, so_exp, so_nil, so_nx, so_rt, so_asg, so_asgG, so_par2, so_par3, ok_gNm, ok_gMore, ok_gNone, so_asgT, so_sub, so_for, ok_TB, ok_Tru, ok_notT, ok_andT, ok_orT, ok_andV, ok_orV, ok_notV, ok_iteE, ok_frz, ok_new, ok_mfArg, ok_mfBin, ok_lc, ok_M, ok_M0, ok_moNone, ok_moSome, ok_Sl,
  ok_bin, ok_un, ok_arg, ok_cons, ok_nil, ok_call, ok_var, ok_C, ok_ok, ok_stuck, ok_noX, bOf_bool, low_v, iOf_int, addD_int, subD_int, negD_int, ltD_int, leD_int, gtD_int, geD_int, fInt_int, isD_bool, isNotD_bool, tru_bool, List.map_cons, List.map_nil, List.length_cons, List.length_nil, List.replicate_succ, List.replicate_zero, List.cons_append, List.nil_append,
  List.append_nil, List.getElem?_cons_zero, List.getElem?_cons_succ, List.set_cons_zero, List.set_cons_succ, Option.some.injEq, exists_eq_left', exists_eq_left, true_and, and_true, true_implies, false_implies, implies_true, Bool.false_eq_true, reduceCtorEq, false_and, and_false, D.v.injEq, PyData.int.injEq, D.ref.injEq, p1i_int, p2_two, p3_three, decide_true, Bool.not_true, Bool.not_false, decide_eq_true_eq, decide_eq_false_iff_not, hn]
  have dr2 := pickB_ok s1 rest 4 (by omega) ok1
  refine dr2.mono ?_
  rintro _ _ ⟨w, s2, rfl, rfl, ok2, _, _, _⟩
  refine ⟨by decide, ?_⟩
  unfold S_law_hall_2 law_hall_E1
  simp only [envE, so_seq, so_if, so_ret, so_retN, so_exp, so_nil, so_nx, so_rt, so_asg, so_asgG, so_par2, so_par3, ok_gNm, ok_gMore, ok_gNone, so_asgT, so_sub, so_for, ok_TB, ok_Tru, ok_notT, ok_andT, ok_orT, ok_andV, ok_orV, ok_notV, ok_iteE, ok_frz, ok_new, ok_mfArg, ok_mfBin, ok_lc, ok_M, ok_M0, ok_moNone, ok_moSome, ok_Sl,
  ok_bin, ok_un, ok_arg, ok_cons, ok_nil, ok_call, ok_var, ok_C, ok_ok, ok_stuck, ok_noX, bOf_bool, low_v, iOf_int, addD_int, subD_int, negD_int, ltD_int, leD_int, gtD_int, geD_int, fInt_int, isD_bool, isNotD_bool, tru_bool, List.map_cons, List.map_nil, List.length_cons, List.length_nil, List.replicate_succ, List.replicate_zero, List.cons_append, List.nil_append,
  List.append_nil, List.getElem?_cons_zero, List.getElem?_cons_succ, List.set_cons_zero, List.set_cons_succ, Option.some.injEq, exists_eq_left', exists_eq_left, true_and, and_true, true_implies, false_implies, implies_true, Bool.false_eq_true, reduceCtorEq, false_and, and_false, D.v.injEq, PyData.int.injEq, D.ref.injEq, p1i_int, p2_two, p3_three, decide_true, Bool.not_true, Bool.not_false, decide_eq_true_eq, decide_eq_false_iff_not, ok_R1]
  refine ⟨⟨by omega, by omega⟩, ?_⟩
  rw [Int.toNat_natCast, rngI_nat]
  refine (lcL_some (fun x : Nat => .one (.v (nI x))) nI (List.range n) s2 ok2 ?_).mono ?_
  · intro x hx s hs
    unfold law_hall_G1 law_hall_T1 law_hall_M1
    simp only [envE, so_seq, so_if, so_ret, so_retN, so_exp, so_nil, so_nx, so_rt, so_asg, so_asgG, so_par2, so_par3, ok_gNm, ok_gMore, ok_gNone, so_asgT, so_sub, so_for, ok_TB, ok_Tru, ok_notT, ok_andT, ok_orT, ok_andV, ok_orV, ok_notV, ok_iteE, ok_frz, ok_new, ok_mfArg, ok_mfBin, ok_lc, ok_M, ok_M0, ok_moNone, ok_moSome, ok_Sl,
  ok_bin, ok_un, ok_arg, ok_cons, ok_nil, ok_call, ok_var, ok_C, ok_ok, ok_stuck, ok_noX, bOf_bool, low_v, iOf_int, addD_int, subD_int, negD_int, ltD_int, leD_int, gtD_int, geD_int, fInt_int, isD_bool, isNotD_bool, tru_bool, List.map_cons, List.map_nil, List.length_cons, List.length_nil, List.replicate_succ, List.replicate_zero, List.cons_append, List.nil_append,
  List.append_nil, List.getElem?_cons_zero, List.getElem?_cons_succ, List.set_cons_zero, List.set_cons_succ, Option.some.injEq, exists_eq_left', exists_eq_left, true_and, and_true, true_implies, false_implies, implies_true, Bool.false_eq_true, reduceCtorEq, false_and, and_false, D.v.injEq, PyData.int.injEq, D.ref.injEq, p1i_int, p2_two, p3_three, decide_true, Bool.not_true, Bool.not_false, decide_eq_true_eq, decide_eq_false_iff_not, wipeE]
    have dr3 := pickB_ok s rest 2 (by omega) hs
    refine dr3.mono ?_
    rintro _ _ ⟨r, s', rfl, rfl, ok', _, _, _⟩
    simp only [envE, so_seq, so_if, so_ret, so_retN, so_exp, so_nil, so_nx, so_rt, so_asg, so_asgG, so_par2, so_par3, ok_gNm, ok_gMore, ok_gNone, so_asgT, so_sub, so_for, ok_TB, ok_Tru, ok_notT, ok_andT, ok_orT, ok_andV, ok_orV, ok_notV, ok_iteE, ok_frz, ok_new, ok_mfArg, ok_mfBin, ok_lc, ok_M, ok_M0, ok_moNone, ok_moSome, ok_Sl,
  ok_bin, ok_un, ok_arg, ok_cons, ok_nil, ok_call, ok_var, ok_C, ok_ok, ok_stuck, ok_noX, bOf_bool, low_v, iOf_int, addD_int, subD_int, negD_int, ltD_int, leD_int, gtD_int, geD_int, fInt_int, isD_bool, isNotD_bool, tru_bool, List.map_cons, List.map_nil, List.length_cons, List.length_nil, List.replicate_succ, List.replicate_zero, List.cons_append, List.nil_append,
  List.append_nil, List.getElem?_cons_zero, List.getElem?_cons_succ, List.set_cons_zero, List.set_cons_succ, Option.some.injEq, exists_eq_left', exists_eq_left, true_and, and_true, true_implies, false_implies, implies_true, Bool.false_eq_true, reduceCtorEq, false_and, and_false, D.v.injEq, PyData.int.injEq, D.ref.injEq, p1i_int, p2_two, p3_three, decide_true, Bool.not_true, Bool.not_false, decide_eq_true_eq, decide_eq_false_iff_not, eqD_int]
    exact ⟨s', rfl, ok'⟩
  rintro _ _ ⟨s3, lot, rfl, ok3, hsub, rfl⟩
  simp only [envE, so_seq, so_if, so_ret, so_retN, so_exp, so_nil, so_nx, so_rt, so_asg, so_asgG, so_par2, so_par3, ok_gNm, ok_gMore, ok_gNone, so_asgT, so_sub, so_for, ok_TB, ok_Tru, ok_notT, ok_andT, ok_orT, ok_andV, ok_orV, ok_notV, ok_iteE, ok_frz, ok_new, ok_mfArg, ok_mfBin, ok_lc, ok_M, ok_M0, ok_moNone, ok_moSome, ok_Sl,
  ok_bin, ok_un, ok_arg, ok_cons, ok_nil, ok_call, ok_var, ok_C, ok_ok, ok_stuck, ok_noX, bOf_bool, low_v, iOf_int, addD_int, subD_int, negD_int, ltD_int, leD_int, gtD_int, geD_int, fInt_int, isD_bool, isNotD_bool, tru_bool, List.map_cons, List.map_nil, List.length_cons, List.length_nil, List.replicate_succ, List.replicate_zero, List.cons_append, List.nil_append,
  List.append_nil, List.getElem?_cons_zero, List.getElem?_cons_succ, List.set_cons_zero, List.set_cons_succ, Option.some.injEq, exists_eq_left', exists_eq_left, true_and, and_true, true_implies, false_implies, implies_true, Bool.false_eq_true, reduceCtorEq, false_and, and_false, D.v.injEq, PyData.int.injEq, D.ref.injEq, p1i_int, p2_two, p3_three, decide_true, Bool.not_true, Bool.not_false, decide_eq_true_eq, decide_eq_false_iff_not, disp0]
  refine ⟨by decide, ?_⟩
  unfold S_law_hall_3 law_hall_E3
  have hlen : ∀ s : Src, List.length (s.sto rest) = rest.length + 2 := fun _ => rfl
  simp only [envE, so_seq, so_if, so_ret, so_retN, so_exp, so_nil, so_nx, so_rt, so_asg, so_asgG, so_par2, so_par3, ok_gNm, ok_gMore, ok_gNone, so_asgT, so_sub, so_for, ok_TB, ok_Tru, ok_notT, ok_andT, ok_orT, ok_andV, ok_orV, ok_notV, ok_iteE, ok_frz, ok_new, ok_mfArg, ok_mfBin, ok_lc, ok_M, ok_M0, ok_moNone, ok_moSome, ok_Sl,
  ok_bin, ok_un, ok_arg, ok_cons, ok_nil, ok_call, ok_var, ok_C, ok_ok, ok_stuck, ok_noX, bOf_bool, low_v, iOf_int, addD_int, subD_int, negD_int, ltD_int, leD_int, gtD_int, geD_int, fInt_int, isD_bool, isNotD_bool, tru_bool, List.map_cons, List.map_nil, List.length_cons, List.length_nil, List.replicate_succ, List.replicate_zero, List.cons_append, List.nil_append,
  List.append_nil, List.getElem?_cons_zero, List.getElem?_cons_succ, List.set_cons_zero, List.set_cons_succ, Option.some.injEq, exists_eq_left', exists_eq_left, true_and, and_true, true_implies, false_implies, implies_true, Bool.false_eq_true, reduceCtorEq, false_and, and_false, D.v.injEq, PyData.int.injEq, D.ref.injEq, p1i_int, p2_two, p3_three, decide_true, Bool.not_true, Bool.not_false, decide_eq_true_eq, decide_eq_false_iff_not, ok_R1, hlen]
  refine ⟨⟨by omega, by omega⟩, ?_⟩
  rw [Int.toNat_natCast]
  refine forL_inv (fun i e st => ∃ (s7 : Src) (lists : List (List Nat)), s7.ok ∧ st = s7.sto (rest ++ [.lst (lists.map tNs)]) ∧ lists.length = i ∧ (∀ j l, lists[j]? = some l → l.Nodup ∧ ∀ b ∈ l, b < n ∧ b ≠ j) ∧
      ∃ x7 x8 x9, e = [some (.ref 1), some (.v (.int 1)), some (.v (.int 6)), some (.v (nI n)), some (.v (.int w)), some (.v (lNs lot)), some (.ref (rest.length + 2)), x7, x8, x9]) _ _ _ 0 ?_ ?_
      ⟨s3, [], ok3, rfl, rfl, (fun j l z => nomatch z), _, _, _, rfl⟩
  · rintro i d e st hd ⟨s7, lists, ok7, rfl, hll, hg, x7, x8, x9, rfl⟩
    obtain ⟨hi, rfl⟩ := rngI_get hd
    refine ⟨trivial, ?_⟩
    rw [Int.zero_add, Nat.zero_add] at *
    unfold law_hall_G3 law_hall_B1 law_hall_E2
    simp only [envE, so_seq, so_if, so_ret, so_retN, so_exp, so_nil, so_nx, so_rt, so_asg, so_asgG, so_par2, so_par3, ok_gNm, ok_gMore, ok_gNone, so_asgT, so_sub, so_for, ok_TB, ok_Tru, ok_notT, ok_andT, ok_orT, ok_andV, ok_orV, ok_notV, ok_iteE, ok_frz, ok_new, ok_mfArg, ok_mfBin, ok_lc, ok_M, ok_M0, ok_moNone, ok_moSome, ok_Sl,
  ok_bin, ok_un, ok_arg, ok_cons, ok_nil, ok_call, ok_var, ok_C, ok_ok, ok_stuck, ok_noX, bOf_bool, low_v, iOf_int, addD_int, subD_int, negD_int, ltD_int, leD_int, gtD_int, geD_int, fInt_int, isD_bool, isNotD_bool, tru_bool, List.map_cons, List.map_nil, List.length_cons, List.length_nil, List.replicate_succ, List.replicate_zero, List.cons_append, List.nil_append,
  List.append_nil, List.getElem?_cons_zero, List.getElem?_cons_succ, List.set_cons_zero, List.set_cons_succ, Option.some.injEq, exists_eq_left', exists_eq_left, true_and, and_true, true_implies, false_implies, implies_true, Bool.false_eq_true, reduceCtorEq, false_and, and_false, D.v.injEq, PyData.int.injEq, D.ref.injEq, p1i_int, p2_two, p3_three, decide_true, Bool.not_true, Bool.not_false, decide_eq_true_eq, decide_eq_false_iff_not, ok_R1]
    refine ⟨⟨by omega, by omega⟩, ?_⟩
    rw [Int.toNat_natCast, rngI_nat]
    rw [lcL_auto (fun x : Nat => !decide (x = i) && (decide (w = 0) || (decide (i ∈ lot) != decide (x ∈ lot)))) nI]
    rotate_left
    · intro x hx
      unfold law_hall_G2 law_hall_T2 law_hall_M2
      simp only [envE, so_seq, so_if, so_ret, so_retN, so_exp, so_nil, so_nx, so_rt, so_asg, so_asgG, so_par2, so_par3, ok_gNm, ok_gMore, ok_gNone, so_asgT, so_sub, so_for, ok_TB, ok_Tru, ok_notT, ok_andT, ok_orT, ok_andV, ok_orV, ok_notV, ok_iteE, ok_frz, ok_new, ok_mfArg, ok_mfBin, ok_lc, ok_M, ok_M0, ok_moNone, ok_moSome, ok_Sl,
  ok_bin, ok_un, ok_arg, ok_cons, ok_nil, ok_call, ok_var, ok_C, ok_ok, ok_stuck, ok_noX, bOf_bool, low_v, iOf_int, addD_int, subD_int, negD_int, ltD_int, leD_int, gtD_int, geD_int, fInt_int, isD_bool, isNotD_bool, tru_bool, List.map_cons, List.map_nil, List.length_cons, List.length_nil, List.replicate_succ, List.replicate_zero, List.cons_append, List.nil_append,
  List.append_nil, List.getElem?_cons_zero, List.getElem?_cons_succ, List.set_cons_zero, List.set_cons_succ, Option.some.injEq, exists_eq_left', exists_eq_left, true_and, and_true, true_implies, false_implies, implies_true, Bool.false_eq_true, reduceCtorEq, false_and, and_false, D.v.injEq, PyData.int.injEq, D.ref.injEq, p1i_int, p2_two, p3_three, decide_true, Bool.not_true, Bool.not_false, decide_eq_true_eq, decide_eq_false_iff_not, wipeE, in_list, neD_int, Fw.ne_bool, eqD_int]
      have e : decide ((x : Int) = (i : Int)) = decide (x = i) := decide_eq_decide.mpr (by omega)
      rw [e]
      by_cases hw : w = 0 <;> cases decide (x = i) <;> cases decide (x ∈ lot) <;> cases decide (i ∈ lot) <;> simp [hw]
    rw [ok_ok]
    generalize ho : (List.range n).filter (fun x : Nat => !decide (x = i) && (decide (w = 0) || (decide (i ∈ lot) != decide (x ∈ lot)))) = others
    have hon : others.Nodup := by rw [← ho]; exact List.nodup_range.filter _
    have hom : ∀ b ∈ others, b < n ∧ b ≠ i := fun b hb => by
      rw [← ho] at hb
      obtain ⟨h1, h2⟩ := List.mem_filter.mp hb
      rw [Bool.and_eq_true] at h2
      exact ⟨List.mem_range.mp h1, by simpa using h2.1⟩
    have hol : others.length ≤ n := by
      rw [← ho]
      refine Nat.le_trans (List.length_filter_le _ _) ?_
      rw [List.length_range]
      exact Nat.le_refl _
    unfold law_hall_B1_2
    simp only [envE, so_seq, so_if, so_ret, so_retN, so_exp, so_nil, so_nx, so_rt, so_asg, so_asgG, so_par2, so_par3, ok_gNm, ok_gMore, ok_gNone, so_asgT, so_sub, so_for, ok_TB, ok_Tru, ok_notT, ok_andT, ok_orT, ok_andV, ok_orV, ok_notV, ok_iteE, ok_frz, ok_new, ok_mfArg, ok_mfBin, ok_lc, ok_M, ok_M0, ok_moNone, ok_moSome, ok_Sl,
  ok_bin, ok_un, ok_arg, ok_cons, ok_nil, ok_call, ok_var, ok_C, ok_ok, ok_stuck, ok_noX, bOf_bool, low_v, iOf_int, addD_int, subD_int, negD_int, ltD_int, leD_int, gtD_int, geD_int, fInt_int, isD_bool, isNotD_bool, tru_bool, List.map_cons, List.map_nil, List.length_cons, List.length_nil, List.replicate_succ, List.replicate_zero, List.cons_append, List.nil_append,
  List.append_nil, List.getElem?_cons_zero, List.getElem?_cons_succ, List.set_cons_zero, List.set_cons_succ, Option.some.injEq, exists_eq_left', exists_eq_left, true_and, and_true, true_implies, false_implies, implies_true, Bool.false_eq_true, reduceCtorEq, false_and, and_false, D.v.injEq, PyData.int.injEq, D.ref.injEq, p1i_int, p2_two, p3_three, decide_true, Bool.not_true, Bool.not_false, decide_eq_true_eq, decide_eq_false_iff_not]
    have dr4 := shufB s7 (rest ++ [.lst (lists.map tNs)]) (.v (.list (others.map nI))) (others.map nI) ok7 viewS_list (by rw [List.length_map]; omega)
    refine dr4.mono ?_
    rintro _ _ ⟨zs, s8, rfl, rfl, ok8, hq⟩
    obtain ⟨l, rfl, hq2⟩ := perm_unmap hq rfl
    have hll2 : l.length ≤ 6 := by rw [hq2.length_eq]; omega
    unfold law_hall_B1_3
    have hlen2 : ∀ s, fLen [.v (.list (l.map nI))] s = .ok (.v (.int (l.length : Nat))) s := fun s => by
      show Out.ok (D.v (.int ((l.map nI).length : Nat))) s = _
      rw [List.length_map]
    have d5 : ∀ {a b c d e : PyData} {s}, gDisp [.v a, .v b, .v c, .v d, .v e] s = .ok [a, b, c, d, e] s := fun {_ _ _ _ _ _} => rfl
    simp only [envE, so_seq, so_if, so_ret, so_retN, so_exp, so_nil, so_nx, so_rt, so_asg, so_asgG, so_par2, so_par3, ok_gNm, ok_gMore, ok_gNone, so_asgT, so_sub, so_for, ok_TB, ok_Tru, ok_notT, ok_andT, ok_orT, ok_andV, ok_orV, ok_notV, ok_iteE, ok_frz, ok_new, ok_mfArg, ok_mfBin, ok_lc, ok_M, ok_M0, ok_moNone, ok_moSome, ok_Sl,
  ok_bin, ok_un, ok_arg, ok_cons, ok_nil, ok_call, ok_var, ok_C, ok_ok, ok_stuck, ok_noX, bOf_bool, low_v, iOf_int, addD_int, subD_int, negD_int, ltD_int, leD_int, gtD_int, geD_int, fInt_int, isD_bool, isNotD_bool, tru_bool, List.map_cons, List.map_nil, List.length_cons, List.length_nil, List.replicate_succ, List.replicate_zero, List.cons_append, List.nil_append,
  List.append_nil, List.getElem?_cons_zero, List.getElem?_cons_succ, List.set_cons_zero, List.set_cons_succ, Option.some.injEq, exists_eq_left', exists_eq_left, true_and, and_true, true_implies, false_implies, implies_true, Bool.false_eq_true, reduceCtorEq, false_and, and_false, D.v.injEq, PyData.int.injEq, D.ref.injEq, p1i_int, p2_two, p3_three, decide_true, Bool.not_true, Bool.not_false, decide_eq_true_eq, decide_eq_false_iff_not, hlen2, d5]
    have fin : ∀ (s9 : Src) (l' : List Nat), s9.ok → l'.Sublist l → ∃ (s7 : Src) (lists_1 : List (List Nat)), s7.ok ∧ s9.sto (rest ++ [O.lst (lists.map tNs ++ [tNs l'])]) = s7.sto (rest ++ [O.lst (lists_1.map tNs)]) ∧ lists_1.length = i + 1 ∧ (∀ (j : Nat) (l : List Nat), lists_1[j]? = some l → l.Nodup ∧ ∀ (b : Nat), b ∈ l → b < n ∧ b ≠ j) := fun s9 l' ok9 hs => by
      refine ⟨s9, lists ++ [l'], ok9, by rw [List.map_append]; rfl, by rw [List.length_append, hll]; rfl, fun j m hm => ?_⟩
      by_cases hj : j < lists.length
      · rw [List.getElem?_append_left hj] at hm
        exact hg j m hm
      · rw [List.getElem?_append_right (by omega)] at hm
        have hj2 : j = i := by
          obtain ⟨h0, _⟩ := List.getElem?_eq_some_iff.mp hm
          rw [List.length_singleton] at h0
          omega
        subst hj2
        rw [hll, Nat.sub_self] at hm
        cases hm
        exact ⟨(hq2.nodup_iff.mpr hon).sublist hs, fun b hb => hom b (hq2.mem_iff.mp (hs.subset hb))⟩
    refine ⟨isL_ref sto_at, fun h => ?_, fun h => ?_⟩
    · simp only [envE, so_seq, so_if, so_ret, so_retN, so_exp, so_nil, so_nx, so_rt, so_asg, so_asgG, so_par2, so_par3, ok_gNm, ok_gMore, ok_gNone, so_asgT, so_sub, so_for, ok_TB, ok_Tru, ok_notT, ok_andT, ok_orT, ok_andV, ok_orV, ok_notV, ok_iteE, ok_frz, ok_new, ok_mfArg, ok_mfBin, ok_lc, ok_M, ok_M0, ok_moNone, ok_moSome, ok_Sl,
  ok_bin, ok_un, ok_arg, ok_cons, ok_nil, ok_call, ok_var, ok_C, ok_ok, ok_stuck, ok_noX, bOf_bool, low_v, iOf_int, addD_int, subD_int, negD_int, ltD_int, leD_int, gtD_int, geD_int, fInt_int, isD_bool, isNotD_bool, tru_bool, List.map_cons, List.map_nil, List.length_cons, List.length_nil, List.replicate_succ, List.replicate_zero, List.cons_append, List.nil_append,
  List.append_nil, List.getElem?_cons_zero, List.getElem?_cons_succ, List.set_cons_zero, List.set_cons_succ, Option.some.injEq, exists_eq_left', exists_eq_left, true_and, and_true, true_implies, false_implies, implies_true, Bool.false_eq_true, reduceCtorEq, false_and, and_false, D.v.injEq, PyData.int.injEq, D.ref.injEq, p1i_int, p2_two, p3_three, decide_true, Bool.not_true, Bool.not_false, decide_eq_true_eq, decide_eq_false_iff_not, An.ok_fSl, hlen2, d5]
      have dr5 := oneOfB s8 (rest ++ [.lst (lists.map tNs)]) [.int 0, .int 0, .int 0, .int 1, .int 2] ok8 (by decide) (by decide)
      refine dr5.mono ?_
      rintro _ _ ⟨z, s9, rfl, hz, rfl, ok9⟩
      obtain ⟨c, rfl, hc⟩ : ∃ c : Nat, z = nI c ∧ c ≤ 2 := by
        simp only [List.mem_cons, List.not_mem_nil, or_false] at hz
        rcases hz with rfl | rfl | rfl | rfl | rfl
        · exact ⟨0, rfl, by decide⟩
        · exact ⟨0, rfl, by decide⟩
        · exact ⟨0, rfl, by decide⟩
        · exact ⟨1, rfl, by decide⟩
        · exact ⟨2, rfl, by decide⟩
      have hsub : ∀ s, subD (.v (.int (l.length : Nat))) (.v (nI c)) s = .ok (.v (.int ((l.length - c : Nat) : Int))) s := fun s => by
        rw [show subD (.v (.int (l.length : Nat))) (.v (nI c)) s = _ from subD_int]
        congr 3
        have : (2 : Int) < l.length := by simpa using h
        omega
      simp only [envE, so_seq, so_if, so_ret, so_retN, so_exp, so_nil, so_nx, so_rt, so_asg, so_asgG, so_par2, so_par3, ok_gNm, ok_gMore, ok_gNone, so_asgT, so_sub, so_for, ok_TB, ok_Tru, ok_notT, ok_andT, ok_orT, ok_andV, ok_orV, ok_notV, ok_iteE, ok_frz, ok_new, ok_mfArg, ok_mfBin, ok_lc, ok_M, ok_M0, ok_moNone, ok_moSome, ok_Sl,
  ok_bin, ok_un, ok_arg, ok_cons, ok_nil, ok_call, ok_var, ok_C, ok_ok, ok_stuck, ok_noX, bOf_bool, low_v, iOf_int, addD_int, subD_int, negD_int, ltD_int, leD_int, gtD_int, geD_int, fInt_int, isD_bool, isNotD_bool, tru_bool, List.map_cons, List.map_nil, List.length_cons, List.length_nil, List.replicate_succ, List.replicate_zero, List.cons_append, List.nil_append,
  List.append_nil, List.getElem?_cons_zero, List.getElem?_cons_succ, List.set_cons_zero, List.set_cons_succ, Option.some.injEq, exists_eq_left', exists_eq_left, true_and, and_true, true_implies, false_implies, implies_true, Bool.false_eq_true, reduceCtorEq, false_and, and_false, D.v.injEq, PyData.int.injEq, D.ref.injEq, p1i_int, p2_two, p3_three, decide_true, Bool.not_true, Bool.not_false, decide_eq_true_eq, decide_eq_false_iff_not, hsub]
      refine ⟨_, rfl, ?_⟩
      rw [cut_take, ← List.map_take, tup_list, ok_ok, append_at sto_at (by rw [List.length_map]; omega), ok_ok, sto_set]
      obtain ⟨s7', li, a1, a2, a3, a4⟩ := fin s9 (l.take (l.length - c)) ok9 (List.take_sublist _ _)
      exact ⟨s7', li, a1, a2, a3, a4, _, _, _, rfl⟩
    · rw [tup_list, ok_ok, append_at sto_at (by rw [List.length_map]; omega), ok_ok, sto_set]
      obtain ⟨s7', li, a1, a2, a3, a4⟩ := fin s8 l ok8 (List.Sublist.refl _)
      exact ⟨s7', li, a1, a2, a3, a4, _, _, _, rfl⟩
  · rintro e st ⟨s7, lists, ok7, rfl, hll, hg, x7, x8, x9, rfl⟩
    refine ⟨trivial, ?_⟩
    unfold S_law_hall_4
    have hl : lists.length = n := by rw [hll]; unfold rngI; rw [List.length_map, List.length_range, Nat.zero_add]
    subst hl
    simp only [envE, so_seq, so_if, so_ret, so_retN, so_exp, so_nil, so_nx, so_rt, so_asg, so_asgG, so_par2, so_par3, ok_gNm, ok_gMore, ok_gNone, so_asgT, so_sub, so_for, ok_TB, ok_Tru, ok_notT, ok_andT, ok_orT, ok_andV, ok_orV, ok_notV, ok_iteE, ok_frz, ok_new, ok_mfArg, ok_mfBin, ok_lc, ok_M, ok_M0, ok_moNone, ok_moSome, ok_Sl,
  ok_bin, ok_un, ok_arg, ok_cons, ok_nil, ok_call, ok_var, ok_C, ok_ok, ok_stuck, ok_noX, bOf_bool, low_v, iOf_int, addD_int, subD_int, negD_int, ltD_int, leD_int, gtD_int, geD_int, fInt_int, isD_bool, isNotD_bool, tru_bool, List.map_cons, List.map_nil, List.length_cons, List.length_nil, List.replicate_succ, List.replicate_zero, List.cons_append, List.nil_append,
  List.append_nil, List.getElem?_cons_zero, List.getElem?_cons_succ, List.set_cons_zero, List.set_cons_succ, Option.some.injEq, exists_eq_left', exists_eq_left, true_and, and_true, true_implies, false_implies, implies_true, Bool.false_eq_true, reduceCtorEq, false_and, and_false, D.v.injEq, PyData.int.injEq, D.ref.injEq, p1i_int, p2_two, p3_three, decide_true, Bool.not_true, Bool.not_false, decide_eq_true_eq, decide_eq_false_iff_not, tup_of sto_at, tup2]
    refine ⟨lists, s7, rfl, sto_take (more := [.lst (lists.map tNs)]), ok7, ?_, hn2⟩
    have key : ∀ a, (row lists a).Nodup ∧ ∀ b ∈ row lists a, b < lists.length ∧ b ≠ a := fun a => by
      unfold row
      rw [List.getD_eq_getElem?_getD]
      cases h : lists[a]? with
      | none => exact ⟨List.nodup_nil, fun b z => nomatch z⟩
      | some l => exact hg a l h
    exact ⟨hn1, fun a => (key a).1, fun {a b} hb => (key a).2 b hb⟩
end
end Wk04
namespace Wk04
open PySem PySem.Spec PyProof.Rows L2 Fw Fw.Hl Fw.Da Fw.Aq Fw.Tl Fw.An
section
variable {rows : List (List Nat)} {lot : List Nat} {a b c n k m i j : Nat} {μ ν ps : List (Nat × Nat)} {st : Sto} {o : Option Nat} {s : Src} {rest : Sto}
theorem bulkA_le {N : Nat} : ∀ {xs : List PyData}, (∀ x ∈ xs, x.bulk ≤ N) → PyData.bulkAll xs ≤ (N + 1) * xs.length
  | [], _ => by simp [PyData.bulkAll]
  | x :: r, h => by
    have h1 := h x (.head _)
    have h2 := bulkA_le (xs := r) fun y hy => h y (.tail _ hy)
    rw [PyData.bulkAll, List.length_cons, Nat.mul_add, Nat.mul_one]
    omega
theorem an_all {E : List (List (Nat × Nat))} (hn : rows.length ≤ 6) (h : ∀ μ ∈ E, Prg rows μ) (hl : E.length ≤ 720) : An 100 14000 3 (.tuple (E.map pairsD)) := by
  have one : ∀ μ ∈ E, An 100 18 2 (pairsD μ) := fun μ hμ => by
    have := (h μ hμ).toPrs.len
    exact (an_prs fun p hp => by have := (h μ hμ).lt p hp; omega).mono (by omega) (Nat.le_refl _) (Nat.le_refl _)
  refine An.tup (k := 2) (fun x hx => ?_) ?_
  · obtain ⟨μ, hμ, rfl⟩ := List.mem_map.mp hx
    exact ⟨(one μ hμ).av, (one μ hμ).dep⟩
  · have : ∀ F : List (List (Nat × Nat)), (∀ μ ∈ F, An 100 18 2 (pairsD μ)) → PyData.bulkAll (F.map pairsD) ≤ 19 * F.length := fun F hF => by
      induction F with
      | nil => simp [PyData.bulkAll]
      | cons x r ih =>
        have h1 := ih fun y hy => hF y (.tail _ hy)
        have h2 := (hF x (.head _)).bulk
        rw [List.map_cons, PyData.bulkAll, List.length_cons]
        omega
    have := this E one
    omega
theorem rep_all {E : List (List (Nat × Nat))} (hn : rows.length ≤ 6) (h : ∀ μ ∈ E, Prg rows μ) : ∃ w, Rep (.list (E.map pairsD)) w 3 :=
  ⟨_, rep_list (w := 150) (k := 2) (w' := E.length) (fun x hx => by
    obtain ⟨μ, hμ, rfl⟩ := List.mem_map.mp hx
    exact rep_prs (h μ hμ).toPrs (by omega)) (by rw [List.length_map]; exact Nat.le_refl _)⟩
theorem alone_calm (H : Hall rows) (hb : breaking rows μ = []) (p : Prg rows μ) (ha : a < rows.length) (hbn : b < rows.length) (h1 : partner μ a = none) (h2 : partner μ b = none) (hne : b ≠ a) : want rows a b = false := by
  refine (Bool.not_eq_true _).mp fun hw => ?_
  have key : ∀ {x y : Nat}, x < y → y < rows.length → want rows x y = true → partner μ x = none → partner μ y = none → False := fun {x y} hlt hyn hw e1 e2 => by
    have hw' : want rows y x = true := by rw [want_symm]; exact hw
    have m1 := (want_row hw).1
    have m2 := (want_row hw').1
    have pl : ∀ {u v : Nat}, v ∈ row rows u → place rows u (some v) < place rows u none := fun {u v} hm => by
      show (if v ∈ row rows u then (row rows u).idxOf v else (row rows u).length + 1) < (row rows u).length
      rw [if_pos hm]
      exact List.idxOf_lt_length_of_mem hm
    have : (x, y) ∈ breaking rows μ := mem_brk.mpr ⟨hlt, hyn, hw, by rw [e1]; exact (rather_iff m1).mpr (pl m1), by rw [e2]; exact (rather_iff m2).mpr (pl m2)⟩
    rw [hb] at this
    cases this
  rcases Nat.lt_or_ge a b with q | q
  · exact key q hbn hw h1 h2
  · exact key (by omega) ha (by rw [want_symm]; exact hw) h2 h1
theorem law_ok : ∀ ns : List Int, ns.length ≤ 63 → ∃ st, f_law [.scr ns] [] = .ok (.v (.bool true)) st := by
  intro ns hns
  have key : (f_law [.scr ns] []).Ok fun d _ => d = .v (.bool true) := by
    refine fnT_ok ?_
    unfold S_law
    simp only [envE, so_seq, so_if, so_ret, so_retN, so_exp, so_nil, so_nx, so_rt, so_asg, so_asgG, so_par2, so_par3, ok_gNm, ok_gMore, ok_gNone, so_asgT, so_sub, so_for, ok_TB, ok_Tru, ok_notT, ok_andT, ok_orT, ok_andV, ok_orV, ok_notV, ok_iteE, ok_frz, ok_new, ok_mfArg, ok_mfBin, ok_lc, ok_M, ok_M0, ok_moNone, ok_moSome, ok_Sl,
  ok_bin, ok_un, ok_arg, ok_cons, ok_nil, ok_call, ok_var, ok_C, ok_ok, ok_stuck, ok_noX, bOf_bool, low_v, iOf_int, addD_int, subD_int, negD_int, ltD_int, leD_int, gtD_int, geD_int, fInt_int, isD_bool, isNotD_bool, tru_bool, List.map_cons, List.map_nil, List.length_cons, List.length_nil, List.replicate_succ, List.replicate_zero, List.cons_append, List.nil_append,
  List.append_nil, List.getElem?_cons_zero, List.getElem?_cons_succ, List.set_cons_zero, List.set_cons_succ, Option.some.injEq, exists_eq_left', exists_eq_left, true_and, and_true, true_implies, false_implies, implies_true, Bool.false_eq_true, reduceCtorEq, false_and, and_false, D.v.injEq, PyData.int.injEq, D.ref.injEq, p1i_int, p2_two, p3_three, decide_true, Bool.not_true, Bool.not_false, decide_eq_true_eq, decide_eq_false_iff_not]
    refine (opensB ns (by omega)).mono ?_
    rintro _ _ ⟨s, rfl, rfl, ok⟩
    unfold S_law_2 law_E9
    simp only [envE, so_seq, so_if, so_ret, so_retN, so_exp, so_nil, so_nx, so_rt, so_asg, so_asgG, so_par2, so_par3, ok_gNm, ok_gMore, ok_gNone, so_asgT, so_sub, so_for, ok_TB, ok_Tru, ok_notT, ok_andT, ok_orT, ok_andV, ok_orV, ok_notV, ok_iteE, ok_frz, ok_new, ok_mfArg, ok_mfBin, ok_lc, ok_M, ok_M0, ok_moNone, ok_moSome, ok_Sl,
  ok_bin, ok_un, ok_arg, ok_cons, ok_nil, ok_call, ok_var, ok_C, ok_ok, ok_stuck, ok_noX, bOf_bool, low_v, iOf_int, addD_int, subD_int, negD_int, ltD_int, leD_int, gtD_int, geD_int, fInt_int, isD_bool, isNotD_bool, tru_bool, List.map_cons, List.map_nil, List.length_cons, List.length_nil, List.replicate_succ, List.replicate_zero, List.cons_append, List.nil_append,
  List.append_nil, List.getElem?_cons_zero, List.getElem?_cons_succ, List.set_cons_zero, List.set_cons_succ, Option.some.injEq, exists_eq_left', exists_eq_left, true_and, and_true, true_implies, false_implies, implies_true, Bool.false_eq_true, reduceCtorEq, false_and, and_false, D.v.injEq, PyData.int.injEq, D.ref.injEq, p1i_int, p2_two, p3_three, decide_true, Bool.not_true, Bool.not_false, decide_eq_true_eq, decide_eq_false_iff_not, ok_R1]
    refine ⟨⟨by decide, by decide⟩, ?_⟩
    have hn0 : ∀ t, neD (.v (.list [])) (.v (.list [])) t = .ok (.v (.bool false)) t := fun t => ne_nilL (xs := []) (shaped_prs []).1
    have h4 : ∀ ps x s, f_partner_of [.v (pairsD ps), .v (nI x)] s = .ok (.v (optD (partner ps x))) s := fun ps x s => partner_eq
    refine forL_inv (fun i e st => ∃ (s : Src) (rest : Sto), st = s.sto rest ∧ s.ok ∧ ∃ x2 x3 x4 x5 x6 x7 x8 x9 x10 x11 x12 x13 x14 x15, e = [some (.scr ns), some (.ref 1), x2, x3, x4, x5, x6, x7, x8, x9, x10, x11, x12, x13, x14, x15]) _ _ _ 0 ?_ ?_ ⟨s, [], rfl, ok, _, _, _, _, _, _, _, _, _, _, _, _, _, _, rfl⟩
    · rintro i d e st hd ⟨s, rest, rfl, ok, x2, x3, x4, x5, x6, x7, x8, x9, x10, x11, x12, x13, x14, x15, rfl⟩
      obtain ⟨hi, rfl⟩ := rngI_get hd
      refine ⟨trivial, ?_⟩
      rw [Int.zero_add]
      unfold law_G9 law_B1
      simp only [envE, so_seq, so_if, so_ret, so_retN, so_exp, so_nil, so_nx, so_rt, so_asg, so_asgG, so_par2, so_par3, ok_gNm, ok_gMore, ok_gNone, so_asgT, so_sub, so_for, ok_TB, ok_Tru, ok_notT, ok_andT, ok_orT, ok_andV, ok_orV, ok_notV, ok_iteE, ok_frz, ok_new, ok_mfArg, ok_mfBin, ok_lc, ok_M, ok_M0, ok_moNone, ok_moSome, ok_Sl,
  ok_bin, ok_un, ok_arg, ok_cons, ok_nil, ok_call, ok_var, ok_C, ok_ok, ok_stuck, ok_noX, bOf_bool, low_v, iOf_int, addD_int, subD_int, negD_int, ltD_int, leD_int, gtD_int, geD_int, fInt_int, isD_bool, isNotD_bool, tru_bool, List.map_cons, List.map_nil, List.length_cons, List.length_nil, List.replicate_succ, List.replicate_zero, List.cons_append, List.nil_append,
  List.append_nil, List.getElem?_cons_zero, List.getElem?_cons_succ, List.set_cons_zero, List.set_cons_succ, Option.some.injEq, exists_eq_left', exists_eq_left, true_and, and_true, true_implies, false_implies, implies_true, Bool.false_eq_true, reduceCtorEq, false_and, and_false, D.v.injEq, PyData.int.injEq, D.ref.injEq, p1i_int, p2_two, p3_three, decide_true, Bool.not_true, Bool.not_false, decide_eq_true_eq, decide_eq_false_iff_not]
      have hh := hall_ok (s := s) (rest := rest) ok
      refine hh.mono ?_
      rintro _ _ ⟨rows, s1, rfl, rfl, ok1, H, hn⟩
      have hn50 : rows.length ≤ 50 := by omega
      obtain ⟨E, hEp, hlp, hap⟩ := all_eq hn H
      have hEm : ∀ μ ∈ E, Prg rows μ := fun μ hμ => ((mem_pairs hn50).mp (hEp.mem_iff.mp hμ)).1
      have hEl : E.length ≤ 720 := by rw [hEp.length_eq]; exact all_len hn
      have hE0 : 0 < E.length := by
        rw [hEp.length_eq]
        exact List.length_pos_of_mem ((mem_allp rfl).mpr ⟨List.nil_sublist _, List.Pairwise.nil⟩)
      have rH : ∀ s, fReprM [.v (hallD rows)] s = .ok (.v (.str (hallD rows).shown)) s := fun s => reprM_of (rep_hall H hn50)
      have hss : ∀ (x : Str) s, neD (.v (.str x)) (.v (.str x)) s = .ok (.v (.bool false)) s := fun x s => by rw [neD_str, decide_eq_true rfl]; rfl
      have rA : ∀ s, fReprM [.v (.tuple (E.map pairsD))] s = .ok (.v (.str (PyData.tuple (E.map pairsD)).shown)) s := fun s => (an_all hn hEm hEl).repr
      unfold law_B1_2
      simp only [envE, so_seq, so_if, so_ret, so_retN, so_exp, so_nil, so_nx, so_rt, so_asg, so_asgG, so_par2, so_par3, ok_gNm, ok_gMore, ok_gNone, so_asgT, so_sub, so_for, ok_TB, ok_Tru, ok_notT, ok_andT, ok_orT, ok_andV, ok_orV, ok_notV, ok_iteE, ok_frz, ok_new, ok_mfArg, ok_mfBin, ok_lc, ok_M, ok_M0, ok_moNone, ok_moSome, ok_Sl,
  ok_bin, ok_un, ok_arg, ok_cons, ok_nil, ok_call, ok_var, ok_C, ok_ok, ok_stuck, ok_noX, bOf_bool, low_v, iOf_int, addD_int, subD_int, negD_int, ltD_int, leD_int, gtD_int, geD_int, fInt_int, isD_bool, isNotD_bool, tru_bool, List.map_cons, List.map_nil, List.length_cons, List.length_nil, List.replicate_succ, List.replicate_zero, List.cons_append, List.nil_append,
  List.append_nil, List.getElem?_cons_zero, List.getElem?_cons_succ, List.set_cons_zero, List.set_cons_succ, Option.some.injEq, exists_eq_left', exists_eq_left, true_and, and_true, true_implies, false_implies, implies_true, Bool.false_eq_true, reduceCtorEq, false_and, and_false, D.v.injEq, PyData.int.injEq, D.ref.injEq, p1i_int, p2_two, p3_three, decide_true, Bool.not_true, Bool.not_false, decide_eq_true_eq, decide_eq_false_iff_not, hall0, rH, hlp]
      unfold law_B1_3
      simp only [envE, so_seq, so_if, so_ret, so_retN, so_exp, so_nil, so_nx, so_rt, so_asg, so_asgG, so_par2, so_par3, ok_gNm, ok_gMore, ok_gNone, so_asgT, so_sub, so_for, ok_TB, ok_Tru, ok_notT, ok_andT, ok_orT, ok_andV, ok_orV, ok_notV, ok_iteE, ok_frz, ok_new, ok_mfArg, ok_mfBin, ok_lc, ok_M, ok_M0, ok_moNone, ok_moSome, ok_Sl,
  ok_bin, ok_un, ok_arg, ok_cons, ok_nil, ok_call, ok_var, ok_C, ok_ok, ok_stuck, ok_noX, bOf_bool, low_v, iOf_int, addD_int, subD_int, negD_int, ltD_int, leD_int, gtD_int, geD_int, fInt_int, isD_bool, isNotD_bool, tru_bool, List.map_cons, List.map_nil, List.length_cons, List.length_nil, List.replicate_succ, List.replicate_zero, List.cons_append, List.nil_append,
  List.append_nil, List.getElem?_cons_zero, List.getElem?_cons_succ, List.set_cons_zero, List.set_cons_succ, Option.some.injEq, exists_eq_left', exists_eq_left, true_and, and_true, true_implies, false_implies, implies_true, Bool.false_eq_true, reduceCtorEq, false_and, and_false, D.v.injEq, PyData.int.injEq, D.ref.injEq, p1i_int, p2_two, p3_three, decide_true, Bool.not_true, Bool.not_false, decide_eq_true_eq, decide_eq_false_iff_not, hap, rA, tup_list, hss]
      unfold law_B1_4 law_E1
      simp only [envE, so_seq, so_if, so_ret, so_retN, so_exp, so_nil, so_nx, so_rt, so_asg, so_asgG, so_par2, so_par3, ok_gNm, ok_gMore, ok_gNone, so_asgT, so_sub, so_for, ok_TB, ok_Tru, ok_notT, ok_andT, ok_orT, ok_andV, ok_orV, ok_notV, ok_iteE, ok_frz, ok_new, ok_mfArg, ok_mfBin, ok_lc, ok_M, ok_M0, ok_moNone, ok_moSome, ok_Sl,
  ok_bin, ok_un, ok_arg, ok_cons, ok_nil, ok_call, ok_var, ok_C, ok_ok, ok_stuck, ok_noX, bOf_bool, low_v, iOf_int, addD_int, subD_int, negD_int, ltD_int, leD_int, gtD_int, geD_int, fInt_int, isD_bool, isNotD_bool, tru_bool, List.map_cons, List.map_nil, List.length_cons, List.length_nil, List.replicate_succ, List.replicate_zero, List.cons_append, List.nil_append,
  List.append_nil, List.getElem?_cons_zero, List.getElem?_cons_succ, List.set_cons_zero, List.set_cons_succ, Option.some.injEq, exists_eq_left', exists_eq_left, true_and, and_true, true_implies, false_implies, implies_true, Bool.false_eq_true, reduceCtorEq, false_and, and_false, D.v.injEq, PyData.int.injEq, D.ref.injEq, p1i_int, p2_two, p3_three, decide_true, Bool.not_true, Bool.not_false, decide_eq_true_eq, decide_eq_false_iff_not, ok_seq, seqW_list, List.map_map]
      rw [lcL_auto (fun μ : List (Nat × Nat) => decide (breaking rows μ = [])) pairsD]
      rotate_left
      · intro μ hμ
        unfold law_G1 law_T1 law_M1
        show (gNm 8 (.one (.v (pairsD μ))) _ _).Ok _
        have hb : ∀ s, f_law_breaking [.v (hallD rows), .v (pairsD μ)] s = .ok (.v (.list ((breaking rows μ).map pr))) s := fun s => lbreak_eq H hn50
        have he0 : ∀ s, eqD (.v (.list ((breaking rows μ).map pr))) (.v (.list [])) s = .ok (.v (.bool (decide (breaking rows μ = [])))) s := fun s => by
          rw [eq_nilL (shaped_prs _).1]
          cases breaking rows μ <;> rfl
        simp only [envE, so_seq, so_if, so_ret, so_retN, so_exp, so_nil, so_nx, so_rt, so_asg, so_asgG, so_par2, so_par3, ok_gNm, ok_gMore, ok_gNone, so_asgT, so_sub, so_for, ok_TB, ok_Tru, ok_notT, ok_andT, ok_orT, ok_andV, ok_orV, ok_notV, ok_iteE, ok_frz, ok_new, ok_mfArg, ok_mfBin, ok_lc, ok_M, ok_M0, ok_moNone, ok_moSome, ok_Sl,
  ok_bin, ok_un, ok_arg, ok_cons, ok_nil, ok_call, ok_var, ok_C, ok_ok, ok_stuck, ok_noX, bOf_bool, low_v, iOf_int, addD_int, subD_int, negD_int, ltD_int, leD_int, gtD_int, geD_int, fInt_int, isD_bool, isNotD_bool, tru_bool, List.map_cons, List.map_nil, List.length_cons, List.length_nil, List.replicate_succ, List.replicate_zero, List.cons_append, List.nil_append,
  List.append_nil, List.getElem?_cons_zero, List.getElem?_cons_succ, List.set_cons_zero, List.set_cons_succ, Option.some.injEq, exists_eq_left', exists_eq_left, true_and, and_true, true_implies, false_implies, implies_true, Bool.false_eq_true, reduceCtorEq, false_and, and_false, D.v.injEq, PyData.int.injEq, D.ref.injEq, p1i_int, p2_two, p3_three, decide_true, Bool.not_true, Bool.not_false, decide_eq_true_eq, decide_eq_false_iff_not, wipeE, hb, disp0, he0]
      rw [ok_ok]
      generalize hG : E.filter (fun μ => decide (breaking rows μ = [])) = G
      have hGm : ∀ μ ∈ G, Prg rows μ ∧ breaking rows μ = [] := fun μ hμ => by
        rw [← hG] at hμ
        obtain ⟨h1, h2⟩ := List.mem_filter.mp hμ
        exact ⟨hEm μ h1, of_decide_eq_true h2⟩
      unfold law_B1_5 law_E2
      simp only [envE, so_seq, so_if, so_ret, so_retN, so_exp, so_nil, so_nx, so_rt, so_asg, so_asgG, so_par2, so_par3, ok_gNm, ok_gMore, ok_gNone, so_asgT, so_sub, so_for, ok_TB, ok_Tru, ok_notT, ok_andT, ok_orT, ok_andV, ok_orV, ok_notV, ok_iteE, ok_frz, ok_new, ok_mfArg, ok_mfBin, ok_lc, ok_M, ok_M0, ok_moNone, ok_moSome, ok_Sl,
  ok_bin, ok_un, ok_arg, ok_cons, ok_nil, ok_call, ok_var, ok_C, ok_ok, ok_stuck, ok_noX, bOf_bool, low_v, iOf_int, addD_int, subD_int, negD_int, ltD_int, leD_int, gtD_int, geD_int, fInt_int, isD_bool, isNotD_bool, tru_bool, List.map_cons, List.map_nil, List.length_cons, List.length_nil, List.replicate_succ, List.replicate_zero, List.cons_append, List.nil_append,
  List.append_nil, List.getElem?_cons_zero, List.getElem?_cons_succ, List.set_cons_zero, List.set_cons_succ, Option.some.injEq, exists_eq_left', exists_eq_left, true_and, and_true, true_implies, false_implies, implies_true, Bool.false_eq_true, reduceCtorEq, false_and, and_false, D.v.injEq, PyData.int.injEq, D.ref.injEq, p1i_int, p2_two, p3_three, decide_true, Bool.not_true, Bool.not_false, decide_eq_true_eq, decide_eq_false_iff_not, ok_seq, seqW_list, List.map_map]
      rw [lcL_auto (fun μ : List (Nat × Nat) => decide (breaking rows μ = [])) pairsD]
      rotate_left
      · intro μ hμ
        unfold law_G2 law_T2 law_M2
        show (gNm 8 (.one (.v (pairsD μ))) _ _).Ok _
        have hu : ∀ s, f_is_unbroken [.v (hallD rows), .v (pairsD μ)] s = .ok (.v (.bool (decide (breaking rows μ = [])))) s := fun s => unb_eq hn50
        simp only [envE, so_seq, so_if, so_ret, so_retN, so_exp, so_nil, so_nx, so_rt, so_asg, so_asgG, so_par2, so_par3, ok_gNm, ok_gMore, ok_gNone, so_asgT, so_sub, so_for, ok_TB, ok_Tru, ok_notT, ok_andT, ok_orT, ok_andV, ok_orV, ok_notV, ok_iteE, ok_frz, ok_new, ok_mfArg, ok_mfBin, ok_lc, ok_M, ok_M0, ok_moNone, ok_moSome, ok_Sl,
  ok_bin, ok_un, ok_arg, ok_cons, ok_nil, ok_call, ok_var, ok_C, ok_ok, ok_stuck, ok_noX, bOf_bool, low_v, iOf_int, addD_int, subD_int, negD_int, ltD_int, leD_int, gtD_int, geD_int, fInt_int, isD_bool, isNotD_bool, tru_bool, List.map_cons, List.map_nil, List.length_cons, List.length_nil, List.replicate_succ, List.replicate_zero, List.cons_append, List.nil_append,
  List.append_nil, List.getElem?_cons_zero, List.getElem?_cons_succ, List.set_cons_zero, List.set_cons_succ, Option.some.injEq, exists_eq_left', exists_eq_left, true_and, and_true, true_implies, false_implies, implies_true, Bool.false_eq_true, reduceCtorEq, false_and, and_false, D.v.injEq, PyData.int.injEq, D.ref.injEq, p1i_int, p2_two, p3_three, decide_true, Bool.not_true, Bool.not_false, decide_eq_true_eq, decide_eq_false_iff_not, wipeE, hu]
      rw [ok_ok, hG]
      obtain ⟨w, rG⟩ := rep_all (E := G) hn fun μ hμ => (hGm μ hμ).1
      have hGG : ∀ s, neD (.v (.list (G.map pairsD))) (.v (.list (G.map pairsD))) s = .ok (.v (.bool false)) s := fun s => ne_same rG
      simp only [envE, so_seq, so_if, so_ret, so_retN, so_exp, so_nil, so_nx, so_rt, so_asg, so_asgG, so_par2, so_par3, ok_gNm, ok_gMore, ok_gNone, so_asgT, so_sub, so_for, ok_TB, ok_Tru, ok_notT, ok_andT, ok_orT, ok_andV, ok_orV, ok_notV, ok_iteE, ok_frz, ok_new, ok_mfArg, ok_mfBin, ok_lc, ok_M, ok_M0, ok_moNone, ok_moSome, ok_Sl,
  ok_bin, ok_un, ok_arg, ok_cons, ok_nil, ok_call, ok_var, ok_C, ok_ok, ok_stuck, ok_noX, bOf_bool, low_v, iOf_int, addD_int, subD_int, negD_int, ltD_int, leD_int, gtD_int, geD_int, fInt_int, isD_bool, isNotD_bool, tru_bool, List.map_cons, List.map_nil, List.length_cons, List.length_nil, List.replicate_succ, List.replicate_zero, List.cons_append, List.nil_append,
  List.append_nil, List.getElem?_cons_zero, List.getElem?_cons_succ, List.set_cons_zero, List.set_cons_succ, Option.some.injEq, exists_eq_left', exists_eq_left, true_and, and_true, true_implies, false_implies, implies_true, Bool.false_eq_true, reduceCtorEq, false_and, and_false, D.v.injEq, PyData.int.injEq, D.ref.injEq, p1i_int, p2_two, p3_three, decide_true, Bool.not_true, Bool.not_false, decide_eq_true_eq, decide_eq_false_iff_not, hGG]
      unfold law_B1_6 law_E6
      simp only [envE, so_seq, so_if, so_ret, so_retN, so_exp, so_nil, so_nx, so_rt, so_asg, so_asgG, so_par2, so_par3, ok_gNm, ok_gMore, ok_gNone, so_asgT, so_sub, so_for, ok_TB, ok_Tru, ok_notT, ok_andT, ok_orT, ok_andV, ok_orV, ok_notV, ok_iteE, ok_frz, ok_new, ok_mfArg, ok_mfBin, ok_lc, ok_M, ok_M0, ok_moNone, ok_moSome, ok_Sl,
  ok_bin, ok_un, ok_arg, ok_cons, ok_nil, ok_call, ok_var, ok_C, ok_ok, ok_stuck, ok_noX, bOf_bool, low_v, iOf_int, addD_int, subD_int, negD_int, ltD_int, leD_int, gtD_int, geD_int, fInt_int, isD_bool, isNotD_bool, tru_bool, List.map_cons, List.map_nil, List.length_cons, List.length_nil, List.replicate_succ, List.replicate_zero, List.cons_append, List.nil_append,
  List.append_nil, List.getElem?_cons_zero, List.getElem?_cons_succ, List.set_cons_zero, List.set_cons_succ, Option.some.injEq, exists_eq_left', exists_eq_left, true_and, and_true, true_implies, false_implies, implies_true, Bool.false_eq_true, reduceCtorEq, false_and, and_false, D.v.injEq, PyData.int.injEq, D.ref.injEq, p1i_int, p2_two, p3_three, decide_true, Bool.not_true, Bool.not_false, decide_eq_true_eq, decide_eq_false_iff_not, ok_seq, seqW_list, List.map_map]
      refine forL_inv (fun _ e st => st = s1.sto rest ∧ ∃ x8 x9 x10 x11, e = [some (.scr ns), some (.ref 1), some (.v (.int (i : Int))), some (.v (hallD rows)), some (.v (nI rows.length)), some (.v (.str (hallD rows).shown)), some (.v (.list (E.map pairsD))), some (.v (.list (G.map pairsD))), x8, x9, x10, x11, x12, x13, x14, x15]) _ _ _ 0 ?_ ?_ ⟨rfl, _, _, _, _, rfl⟩
      · rintro j d e st hd ⟨rfl, y8, y9, y10, y11, rfl⟩
        obtain ⟨μ, hμ, rfl⟩ : ∃ μ ∈ G, d = .one (.v (pairsD μ)) := by
          rw [List.getElem?_map] at hd
          obtain ⟨μ, h1, rfl⟩ := Option.map_eq_some_iff.mp hd
          exact ⟨μ, List.mem_of_getElem? h1, rfl⟩
        obtain ⟨pμ, bμ⟩ := hGm μ hμ
        refine ⟨trivial, ?_⟩
        unfold law_G6 law_B2 law_E3
        show (gNm 8 (.one (.v (pairsD μ))) _ _).Ok _
        simp only [envE, so_seq, so_if, so_ret, so_retN, so_exp, so_nil, so_nx, so_rt, so_asg, so_asgG, so_par2, so_par3, ok_gNm, ok_gMore, ok_gNone, so_asgT, so_sub, so_for, ok_TB, ok_Tru, ok_notT, ok_andT, ok_orT, ok_andV, ok_orV, ok_notV, ok_iteE, ok_frz, ok_new, ok_mfArg, ok_mfBin, ok_lc, ok_M, ok_M0, ok_moNone, ok_moSome, ok_Sl,
  ok_bin, ok_un, ok_arg, ok_cons, ok_nil, ok_call, ok_var, ok_C, ok_ok, ok_stuck, ok_noX, bOf_bool, low_v, iOf_int, addD_int, subD_int, negD_int, ltD_int, leD_int, gtD_int, geD_int, fInt_int, isD_bool, isNotD_bool, tru_bool, List.map_cons, List.map_nil, List.length_cons, List.length_nil, List.replicate_succ, List.replicate_zero, List.cons_append, List.nil_append,
  List.append_nil, List.getElem?_cons_zero, List.getElem?_cons_succ, List.set_cons_zero, List.set_cons_succ, Option.some.injEq, exists_eq_left', exists_eq_left, true_and, and_true, true_implies, false_implies, implies_true, Bool.false_eq_true, reduceCtorEq, false_and, and_false, D.v.injEq, PyData.int.injEq, D.ref.injEq, p1i_int, p2_two, p3_three, decide_true, Bool.not_true, Bool.not_false, decide_eq_true_eq, decide_eq_false_iff_not, ok_R1]
        refine ⟨⟨by omega, by omega⟩, ?_⟩
        rw [Int.toNat_natCast, rngI_nat]
        rw [lcL_auto (fun a : Nat => (partner μ a).isNone) nI]
        rotate_left
        · intro a ha
          unfold law_G3 law_T3 law_M3
          show (gNm 10 (.one (.v (nI a))) _ _).Ok _
          simp only [envE, so_seq, so_if, so_ret, so_retN, so_exp, so_nil, so_nx, so_rt, so_asg, so_asgG, so_par2, so_par3, ok_gNm, ok_gMore, ok_gNone, so_asgT, so_sub, so_for, ok_TB, ok_Tru, ok_notT, ok_andT, ok_orT, ok_andV, ok_orV, ok_notV, ok_iteE, ok_frz, ok_new, ok_mfArg, ok_mfBin, ok_lc, ok_M, ok_M0, ok_moNone, ok_moSome, ok_Sl,
  ok_bin, ok_un, ok_arg, ok_cons, ok_nil, ok_call, ok_var, ok_C, ok_ok, ok_stuck, ok_noX, bOf_bool, low_v, iOf_int, addD_int, subD_int, negD_int, ltD_int, leD_int, gtD_int, geD_int, fInt_int, isD_bool, isNotD_bool, tru_bool, List.map_cons, List.map_nil, List.length_cons, List.length_nil, List.replicate_succ, List.replicate_zero, List.cons_append, List.nil_append,
  List.append_nil, List.getElem?_cons_zero, List.getElem?_cons_succ, List.set_cons_zero, List.set_cons_succ, Option.some.injEq, exists_eq_left', exists_eq_left, true_and, and_true, true_implies, false_implies, implies_true, Bool.false_eq_true, reduceCtorEq, false_and, and_false, D.v.injEq, PyData.int.injEq, D.ref.injEq, p1i_int, p2_two, p3_three, decide_true, Bool.not_true, Bool.not_false, decide_eq_true_eq, decide_eq_false_iff_not, wipeE, h4, Hl.is_none]
        rw [ok_ok]
        generalize hL : (List.range rows.length).filter (fun a : Nat => (partner μ a).isNone) = L
        have hLm : ∀ a ∈ L, a < rows.length ∧ partner μ a = none := fun a ha => by
          rw [← hL] at ha
          obtain ⟨h1, h2⟩ := List.mem_filter.mp ha
          exact ⟨List.mem_range.mp h1, Option.isNone_iff_eq_none.mp h2⟩
        unfold law_B2_2 law_E5
        simp only [envE, so_seq, so_if, so_ret, so_retN, so_exp, so_nil, so_nx, so_rt, so_asg, so_asgG, so_par2, so_par3, ok_gNm, ok_gMore, ok_gNone, so_asgT, so_sub, so_for, ok_TB, ok_Tru, ok_notT, ok_andT, ok_orT, ok_andV, ok_orV, ok_notV, ok_iteE, ok_frz, ok_new, ok_mfArg, ok_mfBin, ok_lc, ok_M, ok_M0, ok_moNone, ok_moSome, ok_Sl,
  ok_bin, ok_un, ok_arg, ok_cons, ok_nil, ok_call, ok_var, ok_C, ok_ok, ok_stuck, ok_noX, bOf_bool, low_v, iOf_int, addD_int, subD_int, negD_int, ltD_int, leD_int, gtD_int, geD_int, fInt_int, isD_bool, isNotD_bool, tru_bool, List.map_cons, List.map_nil, List.length_cons, List.length_nil, List.replicate_succ, List.replicate_zero, List.cons_append, List.nil_append,
  List.append_nil, List.getElem?_cons_zero, List.getElem?_cons_succ, List.set_cons_zero, List.set_cons_succ, Option.some.injEq, exists_eq_left', exists_eq_left, true_and, and_true, true_implies, false_implies, implies_true, Bool.false_eq_true, reduceCtorEq, false_and, and_false, D.v.injEq, PyData.int.injEq, D.ref.injEq, p1i_int, p2_two, p3_three, decide_true, Bool.not_true, Bool.not_false, decide_eq_true_eq, decide_eq_false_iff_not, ok_seq, seqW_list, List.map_map]
        rw [lcL_auto (fun a : Nat => false) nI]
        rotate_left
        · intro a ha
          obtain ⟨han, hao⟩ := hLm a ha
          unfold law_G5 law_T5 law_M5 law_E4
          show (gNm 10 (.one (.v (nI a))) _ _).Ok _
          simp only [envE, so_seq, so_if, so_ret, so_retN, so_exp, so_nil, so_nx, so_rt, so_asg, so_asgG, so_par2, so_par3, ok_gNm, ok_gMore, ok_gNone, so_asgT, so_sub, so_for, ok_TB, ok_Tru, ok_notT, ok_andT, ok_orT, ok_andV, ok_orV, ok_notV, ok_iteE, ok_frz, ok_new, ok_mfArg, ok_mfBin, ok_lc, ok_M, ok_M0, ok_moNone, ok_moSome, ok_Sl,
  ok_bin, ok_un, ok_arg, ok_cons, ok_nil, ok_call, ok_var, ok_C, ok_ok, ok_stuck, ok_noX, bOf_bool, low_v, iOf_int, addD_int, subD_int, negD_int, ltD_int, leD_int, gtD_int, geD_int, fInt_int, isD_bool, isNotD_bool, tru_bool, List.map_cons, List.map_nil, List.length_cons, List.length_nil, List.replicate_succ, List.replicate_zero, List.cons_append, List.nil_append,
  List.append_nil, List.getElem?_cons_zero, List.getElem?_cons_succ, List.set_cons_zero, List.set_cons_succ, Option.some.injEq, exists_eq_left', exists_eq_left, true_and, and_true, true_implies, false_implies, implies_true, Bool.false_eq_true, reduceCtorEq, false_and, and_false, D.v.injEq, PyData.int.injEq, D.ref.injEq, p1i_int, p2_two, p3_three, decide_true, Bool.not_true, Bool.not_false, decide_eq_true_eq, decide_eq_false_iff_not, ok_seq, seqW_list, List.map_map, wipeE]
          rw [lcL_auto (fun b : Nat => false) nI]
          rotate_left
          · intro b hb
            obtain ⟨hbn, hbo⟩ := hLm b hb
            have hw : ∀ s, f_do_want [.v (hallD rows), .v (nI a), .v (nI b)] s = .ok (.v (.bool (want rows a b))) s := fun s => want_eq han hbn
            unfold law_G4 law_T4 law_M4
            show (gNm 11 (.one (.v (nI b))) _ _).Ok _
            simp only [envE, so_seq, so_if, so_ret, so_retN, so_exp, so_nil, so_nx, so_rt, so_asg, so_asgG, so_par2, so_par3, ok_gNm, ok_gMore, ok_gNone, so_asgT, so_sub, so_for, ok_TB, ok_Tru, ok_notT, ok_andT, ok_orT, ok_andV, ok_orV, ok_notV, ok_iteE, ok_frz, ok_new, ok_mfArg, ok_mfBin, ok_lc, ok_M, ok_M0, ok_moNone, ok_moSome, ok_Sl,
  ok_bin, ok_un, ok_arg, ok_cons, ok_nil, ok_call, ok_var, ok_C, ok_ok, ok_stuck, ok_noX, bOf_bool, low_v, iOf_int, addD_int, subD_int, negD_int, ltD_int, leD_int, gtD_int, geD_int, fInt_int, isD_bool, isNotD_bool, tru_bool, List.map_cons, List.map_nil, List.length_cons, List.length_nil, List.replicate_succ, List.replicate_zero, List.cons_append, List.nil_append,
  List.append_nil, List.getElem?_cons_zero, List.getElem?_cons_succ, List.set_cons_zero, List.set_cons_succ, Option.some.injEq, exists_eq_left', exists_eq_left, true_and, and_true, true_implies, false_implies, implies_true, Bool.false_eq_true, reduceCtorEq, false_and, and_false, D.v.injEq, PyData.int.injEq, D.ref.injEq, p1i_int, p2_two, p3_three, decide_true, Bool.not_true, Bool.not_false, decide_eq_true_eq, decide_eq_false_iff_not, wipeE, neD_int, hw]
            refine fun hne => ?_
            have hne' : b ≠ a := fun z => by subst z; simp at hne
            exact alone_calm H bμ pμ han hbn hao hbo hne'
          rw [ok_ok, List.filter_eq_nil_iff.mpr (fun _ _ => Bool.false_ne_true)]
          simp only [envE, so_seq, so_if, so_ret, so_retN, so_exp, so_nil, so_nx, so_rt, so_asg, so_asgG, so_par2, so_par3, ok_gNm, ok_gMore, ok_gNone, so_asgT, so_sub, so_for, ok_TB, ok_Tru, ok_notT, ok_andT, ok_orT, ok_andV, ok_orV, ok_notV, ok_iteE, ok_frz, ok_new, ok_mfArg, ok_mfBin, ok_lc, ok_M, ok_M0, ok_moNone, ok_moSome, ok_Sl,
  ok_bin, ok_un, ok_arg, ok_cons, ok_nil, ok_call, ok_var, ok_C, ok_ok, ok_stuck, ok_noX, bOf_bool, low_v, iOf_int, addD_int, subD_int, negD_int, ltD_int, leD_int, gtD_int, geD_int, fInt_int, isD_bool, isNotD_bool, tru_bool, List.map_cons, List.map_nil, List.length_cons, List.length_nil, List.replicate_succ, List.replicate_zero, List.cons_append, List.nil_append,
  List.append_nil, List.getElem?_cons_zero, List.getElem?_cons_succ, List.set_cons_zero, List.set_cons_succ, Option.some.injEq, exists_eq_left', exists_eq_left, true_and, and_true, true_implies, false_implies, implies_true, Bool.false_eq_true, reduceCtorEq, false_and, and_false, D.v.injEq, PyData.int.injEq, D.ref.injEq, p1i_int, p2_two, p3_three, decide_true, Bool.not_true, Bool.not_false, decide_eq_true_eq, decide_eq_false_iff_not, disp0, hn0]
        rw [ok_ok, List.filter_eq_nil_iff.mpr (fun _ _ => Bool.false_ne_true)]
        simp only [envE, so_seq, so_if, so_ret, so_retN, so_exp, so_nil, so_nx, so_rt, so_asg, so_asgG, so_par2, so_par3, ok_gNm, ok_gMore, ok_gNone, so_asgT, so_sub, so_for, ok_TB, ok_Tru, ok_notT, ok_andT, ok_orT, ok_andV, ok_orV, ok_notV, ok_iteE, ok_frz, ok_new, ok_mfArg, ok_mfBin, ok_lc, ok_M, ok_M0, ok_moNone, ok_moSome, ok_Sl,
  ok_bin, ok_un, ok_arg, ok_cons, ok_nil, ok_call, ok_var, ok_C, ok_ok, ok_stuck, ok_noX, bOf_bool, low_v, iOf_int, addD_int, subD_int, negD_int, ltD_int, leD_int, gtD_int, geD_int, fInt_int, isD_bool, isNotD_bool, tru_bool, List.map_cons, List.map_nil, List.length_cons, List.length_nil, List.replicate_succ, List.replicate_zero, List.cons_append, List.nil_append,
  List.append_nil, List.getElem?_cons_zero, List.getElem?_cons_succ, List.set_cons_zero, List.set_cons_succ, Option.some.injEq, exists_eq_left', exists_eq_left, true_and, and_true, true_implies, false_implies, implies_true, Bool.false_eq_true, reduceCtorEq, false_and, and_false, D.v.injEq, PyData.int.injEq, D.ref.injEq, p1i_int, p2_two, p3_three, decide_true, Bool.not_true, Bool.not_false, decide_eq_true_eq, decide_eq_false_iff_not, disp0, hn0]
        exact ⟨_, _, _, _, rfl⟩
      · rintro e st ⟨rfl, y8, y9, y10, y11, rfl⟩
        refine ⟨trivial, ?_⟩
        unfold law_B1_7 law_E8
        simp only [envE, so_seq, so_if, so_ret, so_retN, so_exp, so_nil, so_nx, so_rt, so_asg, so_asgG, so_par2, so_par3, ok_gNm, ok_gMore, ok_gNone, so_asgT, so_sub, so_for, ok_TB, ok_Tru, ok_notT, ok_andT, ok_orT, ok_andV, ok_orV, ok_notV, ok_iteE, ok_frz, ok_new, ok_mfArg, ok_mfBin, ok_lc, ok_M, ok_M0, ok_moNone, ok_moSome, ok_Sl,
  ok_bin, ok_un, ok_arg, ok_cons, ok_nil, ok_call, ok_var, ok_C, ok_ok, ok_stuck, ok_noX, bOf_bool, low_v, iOf_int, addD_int, subD_int, negD_int, ltD_int, leD_int, gtD_int, geD_int, fInt_int, isD_bool, isNotD_bool, tru_bool, List.map_cons, List.map_nil, List.length_cons, List.length_nil, List.replicate_succ, List.replicate_zero, List.cons_append, List.nil_append,
  List.append_nil, List.getElem?_cons_zero, List.getElem?_cons_succ, List.set_cons_zero, List.set_cons_succ, Option.some.injEq, exists_eq_left', exists_eq_left, true_and, and_true, true_implies, false_implies, implies_true, Bool.false_eq_true, reduceCtorEq, false_and, and_false, D.v.injEq, PyData.int.injEq, D.ref.injEq, p1i_int, p2_two, p3_three, decide_true, Bool.not_true, Bool.not_false, decide_eq_true_eq, decide_eq_false_iff_not, ok_R1]
        refine ⟨⟨by decide, by decide⟩, ?_⟩
        refine forL_inv (fun _ e st => ∃ (s : Src) (rest : Sto), st = s.sto rest ∧ s.ok ∧ ∃ x8 x9 x10 x11 x12 x13 x14, e = [some (.scr ns), some (.ref 1), some (.v (.int (i : Int))), some (.v (hallD rows)), some (.v (nI rows.length)), some (.v (.str (hallD rows).shown)), some (.v (.list (E.map pairsD))), some (.v (.list (G.map pairsD))), x8, x9, x10, x11, x12, x13, x14, x15]) _ _ _ 0 ?_ ?_ ⟨s1, rest, rfl, ok1, _, _, _, _, _, _, _, rfl⟩
        · rintro j d e st hd ⟨s2, rest, rfl, ok2, z8, z9, z10, z11, z12, z13, z14, rfl⟩
          obtain ⟨hj, rfl⟩ := rngI_get hd
          refine ⟨trivial, ?_⟩
          unfold law_G8 law_B3
          simp only [envE, so_seq, so_if, so_ret, so_retN, so_exp, so_nil, so_nx, so_rt, so_asg, so_asgG, so_par2, so_par3, ok_gNm, ok_gMore, ok_gNone, so_asgT, so_sub, so_for, ok_TB, ok_Tru, ok_notT, ok_andT, ok_orT, ok_andV, ok_orV, ok_notV, ok_iteE, ok_frz, ok_new, ok_mfArg, ok_mfBin, ok_lc, ok_M, ok_M0, ok_moNone, ok_moSome, ok_Sl,
  ok_bin, ok_un, ok_arg, ok_cons, ok_nil, ok_call, ok_var, ok_C, ok_ok, ok_stuck, ok_noX, bOf_bool, low_v, iOf_int, addD_int, subD_int, negD_int, ltD_int, leD_int, gtD_int, geD_int, fInt_int, isD_bool, isNotD_bool, tru_bool, List.map_cons, List.map_nil, List.length_cons, List.length_nil, List.replicate_succ, List.replicate_zero, List.cons_append, List.nil_append,
  List.append_nil, List.getElem?_cons_zero, List.getElem?_cons_succ, List.set_cons_zero, List.set_cons_succ, Option.some.injEq, exists_eq_left', exists_eq_left, true_and, and_true, true_implies, false_implies, implies_true, Bool.false_eq_true, reduceCtorEq, false_and, and_false, D.v.injEq, PyData.int.injEq, D.ref.injEq, p1i_int, p2_two, p3_three, decide_true, Bool.not_true, Bool.not_false, decide_eq_true_eq, decide_eq_false_iff_not]
          have hE0' : 0 < (E.map pairsD).length := by rw [List.length_map]; exact hE0
          have hE1 : (E.map pairsD).length ≤ 1000000 := by rw [List.length_map]; omega
          have dr1 := oneOfB s2 rest (E.map pairsD) ok2 hE0' hE1
          refine dr1.mono ?_
          rintro _ _ ⟨z, s3, rfl, hz, rfl, ok3⟩
          obtain ⟨u, hu, rfl⟩ := List.mem_map.mp hz
          have dr2 := oneOfB s3 rest (E.map pairsD) ok3 hE0' hE1
          refine dr2.mono ?_
          rintro _ _ ⟨z, s4, rfl, hz, rfl, ok4⟩
          obtain ⟨v, hv, rfl⟩ := List.mem_map.mp hz
          refine ⟨by decide, ?_⟩
          have pu := hEm u hu
          have pv := hEm v hv
          unfold law_B3_2
          simp only [envE, so_seq, so_if, so_ret, so_retN, so_exp, so_nil, so_nx, so_rt, so_asg, so_asgG, so_par2, so_par3, ok_gNm, ok_gMore, ok_gNone, so_asgT, so_sub, so_for, ok_TB, ok_Tru, ok_notT, ok_andT, ok_orT, ok_andV, ok_orV, ok_notV, ok_iteE, ok_frz, ok_new, ok_mfArg, ok_mfBin, ok_lc, ok_M, ok_M0, ok_moNone, ok_moSome, ok_Sl,
  ok_bin, ok_un, ok_arg, ok_cons, ok_nil, ok_call, ok_var, ok_C, ok_ok, ok_stuck, ok_noX, bOf_bool, low_v, iOf_int, addD_int, subD_int, negD_int, ltD_int, leD_int, gtD_int, geD_int, fInt_int, isD_bool, isNotD_bool, tru_bool, List.map_cons, List.map_nil, List.length_cons, List.length_nil, List.replicate_succ, List.replicate_zero, List.cons_append, List.nil_append,
  List.append_nil, List.getElem?_cons_zero, List.getElem?_cons_succ, List.set_cons_zero, List.set_cons_succ, Option.some.injEq, exists_eq_left', exists_eq_left, true_and, and_true, true_implies, false_implies, implies_true, Bool.false_eq_true, reduceCtorEq, false_and, and_false, D.v.injEq, PyData.int.injEq, D.ref.injEq, p1i_int, p2_two, p3_three, decide_true, Bool.not_true, Bool.not_false, decide_eq_true_eq, decide_eq_false_iff_not, disp0]
          unfold law_B3_3 law_E7
          simp only [envE, so_seq, so_if, so_ret, so_retN, so_exp, so_nil, so_nx, so_rt, so_asg, so_asgG, so_par2, so_par3, ok_gNm, ok_gMore, ok_gNone, so_asgT, so_sub, so_for, ok_TB, ok_Tru, ok_notT, ok_andT, ok_orT, ok_andV, ok_orV, ok_notV, ok_iteE, ok_frz, ok_new, ok_mfArg, ok_mfBin, ok_lc, ok_M, ok_M0, ok_moNone, ok_moSome, ok_Sl,
  ok_bin, ok_un, ok_arg, ok_cons, ok_nil, ok_call, ok_var, ok_C, ok_ok, ok_stuck, ok_noX, bOf_bool, low_v, iOf_int, addD_int, subD_int, negD_int, ltD_int, leD_int, gtD_int, geD_int, fInt_int, isD_bool, isNotD_bool, tru_bool, List.map_cons, List.map_nil, List.length_cons, List.length_nil, List.replicate_succ, List.replicate_zero, List.cons_append, List.nil_append,
  List.append_nil, List.getElem?_cons_zero, List.getElem?_cons_succ, List.set_cons_zero, List.set_cons_succ, Option.some.injEq, exists_eq_left', exists_eq_left, true_and, and_true, true_implies, false_implies, implies_true, Bool.false_eq_true, reduceCtorEq, false_and, and_false, D.v.injEq, PyData.int.injEq, D.ref.injEq, p1i_int, p2_two, p3_three, decide_true, Bool.not_true, Bool.not_false, decide_eq_true_eq, decide_eq_false_iff_not, ok_R1]
          refine ⟨⟨by omega, by omega⟩, ?_⟩
          rw [Int.toNat_natCast]
          have hlen : List.length (s4.sto rest) = rest.length + 2 := rfl
          rw [hlen]
          refine forL_inv (fun k e st => st = s4.sto (rest ++ [.lst (((List.range k).filter fun a => decide (place rows a (partner u a) < place rows a (partner v a))).map nI)]) ∧ ∃ x10, e = [some (.scr ns), some (.ref 1), some (.v (.int (i : Int))), some (.v (hallD rows)), some (.v (nI rows.length)), some (.v (.str (hallD rows).shown)), some (.v (.list (E.map pairsD))), some (.v (.list (G.map pairsD))), some (.v (pairsD u)), z9, x10, z11, some (.v (.int (0 + (j : Int)))), some (.v (pairsD v)), some (.ref (rest.length + 2)), x15]) _ _ _ 0 ?_ ?_ ⟨rfl, _, rfl⟩
          · rintro a d e st hd ⟨rfl, w10, rfl⟩
            obtain ⟨ha, rfl⟩ := rngI_get hd
            refine ⟨trivial, ?_⟩
            rw [Int.zero_add, Nat.zero_add]
            have hp1 : ∀ s, f_place_in [.v (hallD rows), .v (nI a), .v (optD (partner u a))] s = .ok (.v (nI (place rows a (partner u a)))) s := fun s => place_eq' hn50 H ha fun b hb => (want_row (partner_want pu hb)).1
            have hp2 : ∀ s, f_place_in [.v (hallD rows), .v (nI a), .v (optD (partner v a))] s = .ok (.v (nI (place rows a (partner v a)))) s := fun s => place_eq' hn50 H ha fun b hb => (want_row (partner_want pv hb)).1
            have h4' : ∀ ps s, f_partner_of [.v (pairsD ps), .v (.int (a : Nat))] s = .ok (.v (optD (partner ps a))) s := fun ps s => partner_eq
            have hp1' : ∀ s, f_place_in [.v (hallD rows), .v (.int (a : Nat)), .v (optD (partner u a))] s = .ok (.v (nI (place rows a (partner u a)))) s := hp1
            have hp2' : ∀ s, f_place_in [.v (hallD rows), .v (.int (a : Nat)), .v (optD (partner v a))] s = .ok (.v (nI (place rows a (partner v a)))) s := hp2
            have hlt : ∀ s, ltD (.v (nI (place rows a (partner u a)))) (.v (nI (place rows a (partner v a)))) s = .ok (.v (.bool (decide (place rows a (partner u a) < place rows a (partner v a))))) s := fun s => by
              rw [show ltD (.v (nI (place rows a (partner u a)))) (.v (nI (place rows a (partner v a)))) s = _ from ltD_int]
              congr 3
              exact decide_eq_decide.mpr (by omega)
            unfold law_G7 law_B4
            simp only [envE, so_seq, so_if, so_ret, so_retN, so_exp, so_nil, so_nx, so_rt, so_asg, so_asgG, so_par2, so_par3, ok_gNm, ok_gMore, ok_gNone, so_asgT, so_sub, so_for, ok_TB, ok_Tru, ok_notT, ok_andT, ok_orT, ok_andV, ok_orV, ok_notV, ok_iteE, ok_frz, ok_new, ok_mfArg, ok_mfBin, ok_lc, ok_M, ok_M0, ok_moNone, ok_moSome, ok_Sl,
  ok_bin, ok_un, ok_arg, ok_cons, ok_nil, ok_call, ok_var, ok_C, ok_ok, ok_stuck, ok_noX, bOf_bool, low_v, iOf_int, addD_int, subD_int, negD_int, ltD_int, leD_int, gtD_int, geD_int, fInt_int, isD_bool, isNotD_bool, tru_bool, List.map_cons, List.map_nil, List.length_cons, List.length_nil, List.replicate_succ, List.replicate_zero, List.cons_append, List.nil_append,
  List.append_nil, List.getElem?_cons_zero, List.getElem?_cons_succ, List.set_cons_zero, List.set_cons_succ, Option.some.injEq, exists_eq_left', exists_eq_left, true_and, and_true, true_implies, false_implies, implies_true, Bool.false_eq_true, reduceCtorEq, false_and, and_false, D.v.injEq, PyData.int.injEq, D.ref.injEq, p1i_int, p2_two, p3_three, decide_true, Bool.not_true, Bool.not_false, decide_eq_true_eq, decide_eq_false_iff_not, h4', hp1', hp2', hlt]
            have hr : ((List.range (a + 1)).filter fun a => decide (place rows a (partner u a) < place rows a (partner v a))).map nI = ((List.range a).filter fun a => decide (place rows a (partner u a) < place rows a (partner v a))).map nI ++ ([a].filter fun a => decide (place rows a (partner u a) < place rows a (partner v a))).map nI := by
              rw [List.range_succ, List.filter_append, List.map_append]
            have hfl : (((List.range a).filter fun a => decide (place rows a (partner u a) < place rows a (partner v a))).map nI).length ≤ a := by
              rw [List.length_map]
              exact Nat.le_trans (List.length_filter_le _ _) (by rw [List.length_range]; exact Nat.le_refl _)
            refine ⟨fun h => ⟨isL_ref sto_at, ?_⟩, fun h => ?_⟩
            · rw [Fw.append_at sto_at (by omega), ok_ok, sto_set, hr, List.filter_cons, if_pos (by simpa using h)]
              exact ⟨rfl, _, rfl⟩
            · rw [hr, List.filter_cons, if_neg (by simpa using h)]
              simp only [List.filter_nil, List.map_nil, List.append_nil]
              exact ⟨trivial, _, rfl⟩
          · rintro e st ⟨rfl, w10, rfl⟩
            refine ⟨trivial, ?_⟩
            rw [show (rngI 0 rows.length).length = rows.length by unfold rngI; rw [List.length_map, List.length_range], Nat.zero_add]
            generalize hW : (List.range rows.length).filter (fun a => decide (place rows a (partner u a) < place rows a (partner v a))) = Wh
            unfold law_B3_4
            have hw1 : ∀ s, f_who_likes_better [.v (hallD rows), .v (pairsD u), .v (pairsD v)] s = .ok (.v (tNs Wh)) s := fun s => by rw [who_eq hn50, hW]
            have hw2 : ∀ s, f_who_likes_better [.v (hallD rows), .v (pairsD u), .v (pairsD u)] s = .ok (.v (.tuple [])) s := fun s => by
              rw [who_eq hn50, List.filter_eq_nil_iff.mpr fun a _ => by rw [decide_eq_false (Nat.lt_irrefl _)]; exact Bool.false_ne_true]
              rfl
            have hWl : Wh.length ≤ 6 ∧ ∀ a ∈ Wh, a < 6 := by
              rw [← hW]
              refine ⟨Nat.le_trans (List.length_filter_le _ _) (by rw [List.length_range]; exact hn), fun a ha => ?_⟩
              have := List.mem_range.mp (List.mem_filter.mp ha).1
              omega
            have rW : ∀ s, fReprM [.v (tNs Wh)] s = .ok (.v (.str (tNs Wh).shown)) s := fun s => by
              refine An.repr (B := 100) (w := 100) (k := 1) (An.tup (k := 0) (fun x hx => ?_) ?_)
              · obtain ⟨a, ha, rfl⟩ := List.mem_map.mp hx
                have := hWl.2 a ha
                exact ⟨.int _ (show a ≤ 100 by omega), by simp [nI, PyData.depth]⟩
              · have := bulkA_le (N := 0) (xs := Wh.map nI) fun x hx => by
                  obtain ⟨a, _, rfl⟩ := List.mem_map.mp hx
                  simp [nI, PyData.bulk]
                rw [List.length_map] at this
                omega
            have he : ∀ s, neD (.v (.tuple [])) (.v (.tuple [])) s = .ok (.v (.bool false)) s := fun s => rfl
            have rW' : ∀ s, fReprM [.v (.tuple (Wh.map nI))] s = .ok (.v (.str (tNs Wh).shown)) s := rW
            simp only [envE, so_seq, so_if, so_ret, so_retN, so_exp, so_nil, so_nx, so_rt, so_asg, so_asgG, so_par2, so_par3, ok_gNm, ok_gMore, ok_gNone, so_asgT, so_sub, so_for, ok_TB, ok_Tru, ok_notT, ok_andT, ok_orT, ok_andV, ok_orV, ok_notV, ok_iteE, ok_frz, ok_new, ok_mfArg, ok_mfBin, ok_lc, ok_M, ok_M0, ok_moNone, ok_moSome, ok_Sl,
  ok_bin, ok_un, ok_arg, ok_cons, ok_nil, ok_call, ok_var, ok_C, ok_ok, ok_stuck, ok_noX, bOf_bool, low_v, iOf_int, addD_int, subD_int, negD_int, ltD_int, leD_int, gtD_int, geD_int, fInt_int, isD_bool, isNotD_bool, tru_bool, List.map_cons, List.map_nil, List.length_cons, List.length_nil, List.replicate_succ, List.replicate_zero, List.cons_append, List.nil_append,
  List.append_nil, List.getElem?_cons_zero, List.getElem?_cons_succ, List.set_cons_zero, List.set_cons_succ, Option.some.injEq, exists_eq_left', exists_eq_left, true_and, and_true, true_implies, false_implies, implies_true, Bool.false_eq_true, reduceCtorEq, false_and, and_false, D.v.injEq, PyData.int.injEq, D.ref.injEq, p1i_int, p2_two, p3_three, decide_true, Bool.not_true, Bool.not_false, decide_eq_true_eq, decide_eq_false_iff_not, hw1, hw2, rW, rW', tup0, tup_of sto_at, he, hss]
            exact ⟨s4, _, rfl, ok4, _, _, _, _, _, _, _, rfl⟩
        · rintro e st ⟨s2, rest, rfl, ok2, z8, z9, z10, z11, z12, z13, z14, rfl⟩
          refine ⟨trivial, ?_⟩
          unfold law_B1_8
          simp only [envE, so_seq, so_if, so_ret, so_retN, so_exp, so_nil, so_nx, so_rt, so_asg, so_asgG, so_par2, so_par3, ok_gNm, ok_gMore, ok_gNone, so_asgT, so_sub, so_for, ok_TB, ok_Tru, ok_notT, ok_andT, ok_orT, ok_andV, ok_orV, ok_notV, ok_iteE, ok_frz, ok_new, ok_mfArg, ok_mfBin, ok_lc, ok_M, ok_M0, ok_moNone, ok_moSome, ok_Sl,
  ok_bin, ok_un, ok_arg, ok_cons, ok_nil, ok_call, ok_var, ok_C, ok_ok, ok_stuck, ok_noX, bOf_bool, low_v, iOf_int, addD_int, subD_int, negD_int, ltD_int, leD_int, gtD_int, geD_int, fInt_int, isD_bool, isNotD_bool, tru_bool, List.map_cons, List.map_nil, List.length_cons, List.length_nil, List.replicate_succ, List.replicate_zero, List.cons_append, List.nil_append,
  List.append_nil, List.getElem?_cons_zero, List.getElem?_cons_succ, List.set_cons_zero, List.set_cons_succ, Option.some.injEq, exists_eq_left', exists_eq_left, true_and, and_true, true_implies, false_implies, implies_true, Bool.false_eq_true, reduceCtorEq, false_and, and_false, D.v.injEq, PyData.int.injEq, D.ref.injEq, p1i_int, p2_two, p3_three, decide_true, Bool.not_true, Bool.not_false, decide_eq_true_eq, decide_eq_false_iff_not, rH, hss]
          exact ⟨s2, rest, rfl, ok2, _, _, _, _, _, _, _, _, _, _, _, _, _, _, rfl⟩
    · rintro e st ⟨s, rest, rfl, ok, x2, x3, x4, x5, x6, x7, x8, x9, x10, x11, x12, x13, x14, x15, rfl⟩
      refine ⟨trivial, ?_⟩
      unfold S_law_3 S_law_4
      have t2 : ∀ {x y : PyData} {s}, fTup [.v x, .v y] s = .ok (.v (.tuple [x, y])) s := fun {_ _ _} => rfl
      have t3 : ∀ {x y z : PyData} {s}, fTup [.v x, .v y, .v z] s = .ok (.v (.tuple [x, y, z])) s := fun {_ _ _ _} => rfl
      have hH : Hall [[1, 2], [2, 0], [0, 1]] := hall_dec (by decide) (by decide)
      obtain ⟨E, hEp, hlp, hap⟩ := all_eq (rows := [[1, 2], [2, 0], [0, 1]]) (by decide) hH
      have hap : ∀ s, f_all_pairings [.v (.tuple [.int 3, .tuple [.tuple [.int 1, .int 2], .tuple [.int 2, .int 0], .tuple [.int 0, .int 1]]])] s = .ok (.v (.tuple (E.map pairsD))) s := hap
      have hEl : E.length = 4 := by rw [hEp.length_eq]; decide
      have hEb : ∀ μ ∈ E, breaking [[1, 2], [2, 0], [0, 1]] μ ≠ [] := fun μ hμ => by
        have : ∀ μ ∈ allp (wanting [[1, 2], [2, 0], [0, 1]]), breaking [[1, 2], [2, 0], [0, 1]] μ ≠ [] := by decide
        exact this μ (hEp.mem_iff.mp hμ)
      unfold law_E10 law_T6
      simp only [envE, so_seq, so_if, so_ret, so_retN, so_exp, so_nil, so_nx, so_rt, so_asg, so_asgG, so_par2, so_par3, ok_gNm, ok_gMore, ok_gNone, so_asgT, so_sub, so_for, ok_TB, ok_Tru, ok_notT, ok_andT, ok_orT, ok_andV, ok_orV, ok_notV, ok_iteE, ok_frz, ok_new, ok_mfArg, ok_mfBin, ok_lc, ok_M, ok_M0, ok_moNone, ok_moSome, ok_Sl,
  ok_bin, ok_un, ok_arg, ok_cons, ok_nil, ok_call, ok_var, ok_C, ok_ok, ok_stuck, ok_noX, bOf_bool, low_v, iOf_int, addD_int, subD_int, negD_int, ltD_int, leD_int, gtD_int, geD_int, fInt_int, isD_bool, isNotD_bool, tru_bool, List.map_cons, List.map_nil, List.length_cons, List.length_nil, List.replicate_succ, List.replicate_zero, List.cons_append, List.nil_append,
  List.append_nil, List.getElem?_cons_zero, List.getElem?_cons_succ, List.set_cons_zero, List.set_cons_succ, Option.some.injEq, exists_eq_left', exists_eq_left, true_and, and_true, true_implies, false_implies, implies_true, Bool.false_eq_true, reduceCtorEq, false_and, and_false, D.v.injEq, PyData.int.injEq, D.ref.injEq, p1i_int, p2_two, p3_three, decide_true, Bool.not_true, Bool.not_false, decide_eq_true_eq, decide_eq_false_iff_not, t2, t3, ok_seq, hap, seqW_tup, List.map_map]
      rw [lcL_all _ (fun _ : List (Nat × Nat) => PyData.bool false)]
      rotate_left
      · intro μ hμ
        unfold law_G10 law_M6
        show (gNm 8 (.one (.v (pairsD μ))) _ _).Ok _
        have hu : ∀ s, f_is_unbroken [.v (.tuple [.int 3, .tuple [.tuple [.int 1, .int 2], .tuple [.int 2, .int 0], .tuple [.int 0, .int 1]]]), .v (pairsD μ)] s = .ok (.v (.bool false)) s := fun s => (unb_eq (rows := [[1, 2], [2, 0], [0, 1]]) (by decide)).trans (by rw [decide_eq_false (hEb μ hμ)])
        simp only [envE, so_seq, so_if, so_ret, so_retN, so_exp, so_nil, so_nx, so_rt, so_asg, so_asgG, so_par2, so_par3, ok_gNm, ok_gMore, ok_gNone, so_asgT, so_sub, so_for, ok_TB, ok_Tru, ok_notT, ok_andT, ok_orT, ok_andV, ok_orV, ok_notV, ok_iteE, ok_frz, ok_new, ok_mfArg, ok_mfBin, ok_lc, ok_M, ok_M0, ok_moNone, ok_moSome, ok_Sl,
  ok_bin, ok_un, ok_arg, ok_cons, ok_nil, ok_call, ok_var, ok_C, ok_ok, ok_stuck, ok_noX, bOf_bool, low_v, iOf_int, addD_int, subD_int, negD_int, ltD_int, leD_int, gtD_int, geD_int, fInt_int, isD_bool, isNotD_bool, tru_bool, List.map_cons, List.map_nil, List.length_cons, List.length_nil, List.replicate_succ, List.replicate_zero, List.cons_append, List.nil_append,
  List.append_nil, List.getElem?_cons_zero, List.getElem?_cons_succ, List.set_cons_zero, List.set_cons_succ, Option.some.injEq, exists_eq_left', exists_eq_left, true_and, and_true, true_implies, false_implies, implies_true, Bool.false_eq_true, reduceCtorEq, false_and, and_false, D.v.injEq, PyData.int.injEq, D.ref.injEq, p1i_int, p2_two, p3_three, decide_true, Bool.not_true, Bool.not_false, decide_eq_true_eq, decide_eq_false_iff_not, wipeE, hu]
      rw [ok_ok, List.map_const', hEl]
      have d1 : ∀ {x : PyData} {s}, gDisp [.v x] s = .ok [x] s := fun {_ _} => rfl
      simp only [envE, so_seq, so_if, so_ret, so_retN, so_exp, so_nil, so_nx, so_rt, so_asg, so_asgG, so_par2, so_par3, ok_gNm, ok_gMore, ok_gNone, so_asgT, so_sub, so_for, ok_TB, ok_Tru, ok_notT, ok_andT, ok_orT, ok_andV, ok_orV, ok_notV, ok_iteE, ok_frz, ok_new, ok_mfArg, ok_mfBin, ok_lc, ok_M, ok_M0, ok_moNone, ok_moSome, ok_Sl,
  ok_bin, ok_un, ok_arg, ok_cons, ok_nil, ok_call, ok_var, ok_C, ok_ok, ok_stuck, ok_noX, bOf_bool, low_v, iOf_int, addD_int, subD_int, negD_int, ltD_int, leD_int, gtD_int, geD_int, fInt_int, isD_bool, isNotD_bool, tru_bool, List.map_cons, List.map_nil, List.length_cons, List.length_nil, List.replicate_succ, List.replicate_zero, List.cons_append, List.nil_append,
  List.append_nil, List.getElem?_cons_zero, List.getElem?_cons_succ, List.set_cons_zero, List.set_cons_succ, Option.some.injEq, exists_eq_left', exists_eq_left, true_and, and_true, true_implies, false_implies, implies_true, Bool.false_eq_true, reduceCtorEq, false_and, and_false, D.v.injEq, PyData.int.injEq, D.ref.injEq, p1i_int, p2_two, p3_three, decide_true, Bool.not_true, Bool.not_false, decide_eq_true_eq, decide_eq_false_iff_not, d1]
      rw [Fw.rep_list0 (by decide) (by decide), ok_ok]
      show (eqD (.v (.list [.bool false, .bool false, .bool false, .bool false])) (.v (.list [.bool false, .bool false, .bool false, .bool false])) _).Ok _
      have : ∀ s, eqD (.v (.list [.bool false, .bool false, .bool false, .bool false])) (.v (.list [.bool false, .bool false, .bool false, .bool false])) s = .ok (.v (.bool true)) s := fun s => rfl
      rw [this, ok_ok]
      exact ⟨rfl, rfl⟩
  obtain ⟨d, st, e, rfl⟩ := key.eq
  exact ⟨st, e⟩
end
end Wk04
theorem PySem.Challenge.cw_pairsandprices_k04_whole_pairings_of_sma_holds : PySem.Challenge.rw_pairsandprices_k04_whole_pairings_of_sma.Holds := by
  exact Wk04.holds Wk04.law_ok
