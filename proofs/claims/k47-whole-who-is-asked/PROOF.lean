import PyProof.Rows.All
import Wide.All
import OpenK.AllK
import Wide.FinOn
import HandS.ForMost
import HandS.Flow
import KE.KDictKeyed
import HandS.TupAny
import HandS.Style
import HandS.Deep
import KE.KTupSum
import HandS.SortInts
import PyProof.ReprReads
import PyProof.Rows.NestShow
import PyProof.CallFns
import KE.KIndexOf
import HandS.Strs
import HandS.Zip
import KE.GoesEnum
import HandS.Defaults
import HandS.Words
import HandS.HeadEnd
import HandS.Head0
import HandS.Head1
import HandS.Head2
import HandS.HeadHook1
import HandS.HeadHook2
import HandS.Conv
import HandS.IsInst
import HandS.TupSets
import PyProof.ReprBulk
import PyProof.EqKinds
import HandS.DictComp
import HandS.Small
import HandS.Star
import HandS.ListItems
import KE.KDictList
import KE.KDictPairs
import HandS.WordsDict
import KE.GoesZip
import KE.GoesMore
import HandS.TupLe
import PyProof.DictUpdate
import KE.SortData
import HandS.SetFor
import KE.KDictWalk
import PyProof.SumAny
import KE.DataMinMax
import KE.LtData
import PySem.Challenge.RW_pairsandprices_k47_whole_who_is_asked
set_option Elab.async false
set_option linter.all false
set_option maxRecDepth 100000
set_option maxHeartbeats 0
namespace Fw
open PySem PySem.Spec PyProof.Rows L2
inductive D where
  | v (d : PyData)
  | ref (n : Nat)
  | scr (ns : List Int)
inductive O where
  | dead
  | lst (ds : List PyData)
  | dct (t : Bool) (kvs : List (PyData × D))
  | lck (t : Bool) (kvs : List (PyData × D))
  | tpl (ds : List D)
  | tab (kvs : List (PyData × D))
abbrev Sto := List O
abbrev Ev := List (Option D)
def D.low (n : Nat) : D → Bool
  | .ref m => decide (m < n)
  | _ => true
def O.low (n : Nat) : O → Bool
  | .dct _ kvs => kvs.all fun p => p.2.low n
  | .lck _ kvs => kvs.all fun p => p.2.low n
  | .tpl ds => ds.all fun d => d.low n
  | .tab kvs => kvs.all fun p => p.2.low n
  | _ => true
structure Exn where
  cls : Str
  fs : List (Str × PyData)
inductive Out (α : Type) where
  | ok (a : α) (st : Sto)
  | exn (e : Exn) (st : Sto)
  | stuck
def Out.bind {α β : Type} (x : Out α) (f : α → Sto → Out β) : Out β :=
  match x with
  | .ok a st => f a st
  | .exn e st => .exn e st
  | .stuck => .stuck
def Out.post {α : Type} (x : Out α) (P : α → Sto → Prop) (E : Exn → Sto → Prop) : Prop :=
  match x with
  | .ok a st => P a st
  | .exn e st => E e st
  | .stuck => False
theorem Out.post_bind {α β : Type} {x : Out α} {f : α → Sto → Out β} {P : β → Sto → Prop} {E : Exn → Sto → Prop}
    (h : (x.bind f).post P E) : x.post (fun a st => (f a st).post P E) E := by
  cases x <;> exact h
theorem Out.post_mono {α : Type} {x : Out α} {P P' : α → Sto → Prop} {E E' : Exn → Sto → Prop}
    (h : x.post P E) (hp : ∀ a st, P a st → P' a st) (he : ∀ e st, E e st → E' e st) : x.post P' E' := by
  cases x
  · exact hp _ _ h
  · exact he _ _ h
  · exact h
@[simp] theorem bind_ok {α β : Type} (a : α) (st : Sto) (f : α → Sto → Out β) : (Out.ok a st).bind f = f a st := rfl
@[simp] theorem bind_exn {α β : Type} (e : Exn) (st : Sto) (f : α → Sto → Out β) : (Out.exn e st : Out α).bind f = .exn e st := rfl
@[simp] theorem bind_stuck {α β : Type} (f : α → Sto → Out β) : (Out.stuck : Out α).bind f = .stuck := rfl
structure Gh where
  ad : List Addr
  hid : List Addr
def Gh.psh (ι : Gh) (p : Addr) : Gh := ⟨ι.ad ++ [p], ι.hid⟩
def Gh.tk (ι : Gh) (k : Nat) : Gh := ⟨ι.ad.take k, ι.hid⟩
def Frz (ι : Gh) (st : Sto) (a : Addr) : Prop := a ∉ ι.hid ∧ ∀ (n : Nat) (o : O), st[n]? = some o → ι.ad[n]? = some a → o = O.dead
def kD : Key → PyData
  | .inl i => .int i
  | .inr x => .str x
mutual
inductive Rp (F : Addr → Prop) (H : Hp) : V → PyData → Prop
  | non : Rp F H .non .none
  | bl (b : Bool) : Rp F H (.bl b) (.bool b)
  | int (i : Int) : Rp F H (.int i) (.int i)
  | str (x : Str) : Rp F H (.str x) (.str x)
  | lst {a : Addr} {xs : List V} {ds : List PyData} : H a = some (.lst xs) → F a → RpA F H xs ds → Rp F H (.ref a) (.list ds)
  | tup {a : Addr} {xs : List V} {ds : List PyData} {o : Obj} : H a = some (.frz o (.tup xs)) → o.dict = Option.none → F a → RpA F H xs ds → Rp F H (.ref a) (.tuple ds)
  | dcK {a : Addr} {xs : List (Key × V)} {ds : List (PyData × PyData)} : Rd H a (.dK xs) → F a → RpK F H xs ds → Rp F H (.ref a) (.dict ds)
  | dcT {a : Addr} {xs : List (List Key × V)} {ds : List (PyData × PyData)} : Rd H a (.dT xs) → F a → RpT F H xs ds → ds ≠ [] → Rp F H (.ref a) (.dict ds)
inductive RpA (F : Addr → Prop) (H : Hp) : List V → List PyData → Prop
  | nil : RpA F H [] []
  | cons {x : V} {xs : List V} {d : PyData} {ds : List PyData} : Rp F H x d → RpA F H xs ds → RpA F H (x :: xs) (d :: ds)
inductive RpK (F : Addr → Prop) (H : Hp) : List (Key × V) → List (PyData × PyData) → Prop
  | nil : RpK F H [] []
  | cons {k : Key} {x : V} {xs : List (Key × V)} {d : PyData} {ds : List (PyData × PyData)} : Rp F H x d → RpK F H xs ds → RpK F H ((k, x) :: xs) ((kD k, d) :: ds)
inductive RpT (F : Addr → Prop) (H : Hp) : List (List Key × V) → List (PyData × PyData) → Prop
  | nil : RpT F H [] []
  | cons {k : List Key} {x : V} {xs : List (List Key × V)} {d : PyData} {ds : List (PyData × PyData)} : Rp F H x d → RpT F H xs ds → RpT F H ((k, x) :: xs) ((.tuple (k.map kD), d) :: ds)
end
def Kp (u : HO) (x : Option HO) : Prop :=
  x = some u ∨ ((∃ kvs, u = .dK kvs) ∨ (∃ kvs, u = .dT kvs)) ∧ ∃ o, x = some (.frz o u)
structure Ext (ι : Gh) (st : Sto) (H : Hp) (ι' : Gh) (st' : Sto) (H' : Hp) : Prop where
  keep : ∀ q u, H q = some u → Frz ι st q → Frz ι' st' q ∧ H' q = some u
  pre : ∀ (n : Nat) (a : Addr), ι.ad[n]? = some a → ι'.ad[n]? = some a
  hid : ι'.hid = ι.hid
  keepZ : ∀ a, a ∈ ι.hid → H' a = H a
  lk : ∀ {n : Nat} {t : Bool} {kvs : List (PyData × D)} {a : Addr}, st[n]? = some (.lck t kvs) → ι.ad[n]? = some a → st'[n]? = some (.lck t kvs) ∧ H' a = H a
theorem Ext.refl {ι : Gh} {st : Sto} {H : Hp} : Ext ι st H ι st H := ⟨fun _ _ e f => ⟨f, e⟩, fun _ _ e => e, rfl, fun _ _ => rfl, fun h _ => ⟨h, rfl⟩⟩
theorem Ext.trans {ι ι1 ι2 : Gh} {st st1 st2 : Sto} {H H1 H2 : Hp} (a : Ext ι st H ι1 st1 H1) (b : Ext ι1 st1 H1 ι2 st2 H2) : Ext ι st H ι2 st2 H2 :=
  ⟨fun q u e f => let ⟨f1, k1⟩ := a.keep q u e f; b.keep q u k1 f1, fun n x e => b.pre n x (a.pre n x e), b.hid.trans a.hid, fun q h => (b.keepZ q (by rw [a.hid]; exact h)).trans (a.keepZ q h), fun h hi => let ⟨h1, e1⟩ := a.lk h hi; let ⟨h2, e2⟩ := b.lk h1 (a.pre _ _ hi); ⟨h2, e2.trans e1⟩⟩
theorem Kp.lst {xs : List V} {x : Option HO} (h : Kp (.lst xs) x) : x = some (.lst xs) := by
  rcases h with h | ⟨z | z, _⟩
  · exact h
  all_goals (obtain ⟨_, z⟩ := z; cases z)
theorem Kp.tup {xs : List V} {o : Obj} {x : Option HO} (h : Kp (.frz o (.tup xs)) x) : x = some (.frz o (.tup xs)) := by
  rcases h with h | ⟨z | z, _⟩
  · exact h
  all_goals (obtain ⟨_, z⟩ := z; cases z)
theorem rd_mv {F F' : Addr → Prop} {H H' : Hp} (hk : ∀ q u, H q = some u → F q → F' q ∧ Kp u (H' q)) {a : Addr} {u : HO} (hu : (∃ kvs, u = .dK kvs) ∨ (∃ kvs, u = .dT kvs)) (r : Rd H a u) (f : F a) : F' a ∧ Rd H' a u := by
  rcases r with r | ⟨o, r⟩
  · obtain ⟨f', k⟩ := hk _ _ r f
    rcases k with k | ⟨_, o, k⟩
    · exact ⟨f', .inl k⟩
    · exact ⟨f', .inr ⟨o, k⟩⟩
  · obtain ⟨f', k⟩ := hk _ _ r f
    rcases k with k | ⟨z, _⟩
    · exact ⟨f', .inr ⟨o, k⟩⟩
    · rcases z with ⟨_, z⟩ | ⟨_, z⟩ <;> cases z
section
variable {F F' : Addr → Prop} {H H' : Hp}
mutual
theorem Rp.mv (hk : ∀ q u, H q = some u → F q → F' q ∧ Kp u (H' q)) : ∀ {v : V} {d : PyData}, Rp F H v d → Rp F' H' v d
  | _, _, .non => .non
  | _, _, .bl b => .bl b
  | _, _, .int i => .int i
  | _, _, .str z => .str z
  | _, _, .lst e f r => .lst (hk _ _ e f).2.lst (hk _ _ e f).1 (RpA.mv hk r)
  | _, _, .tup e z f r => .tup (hk _ _ e f).2.tup z (hk _ _ e f).1 (RpA.mv hk r)
  | _, _, .dcK e f r => .dcK (rd_mv hk (.inl ⟨_, rfl⟩) e f).2 (rd_mv hk (.inl ⟨_, rfl⟩) e f).1 (RpK.mv hk r)
  | _, _, .dcT e f r z => .dcT (rd_mv hk (.inr ⟨_, rfl⟩) e f).2 (rd_mv hk (.inr ⟨_, rfl⟩) e f).1 (RpT.mv hk r) z
theorem RpA.mv (hk : ∀ q u, H q = some u → F q → F' q ∧ Kp u (H' q)) : ∀ {v : List V} {d : List PyData}, RpA F H v d → RpA F' H' v d
  | _, _, .nil => .nil
  | _, _, .cons h r => .cons (Rp.mv hk h) (RpA.mv hk r)
theorem RpK.mv (hk : ∀ q u, H q = some u → F q → F' q ∧ Kp u (H' q)) : ∀ {v : List (Key × V)} {d : List (PyData × PyData)}, RpK F H v d → RpK F' H' v d
  | _, _, .nil => .nil
  | _, _, .cons h r => .cons (Rp.mv hk h) (RpK.mv hk r)
theorem RpT.mv (hk : ∀ q u, H q = some u → F q → F' q ∧ Kp u (H' q)) : ∀ {v : List (List Key × V)} {d : List (PyData × PyData)}, RpT F H v d → RpT F' H' v d
  | _, _, .nil => .nil
  | _, _, .cons h r => .cons (Rp.mv hk h) (RpT.mv hk r)
end
end
section
variable {ι ι' : Gh} {st st' : Sto} {H H' : Hp}
theorem Rp.ext (x : Ext ι st H ι' st' H') {v : V} {d : PyData} (h : Rp (Frz ι st) H v d) : Rp (Frz ι' st') H' v d := Rp.mv (fun q u e f => let ⟨a, b⟩ := x.keep q u e f; ⟨a, .inl b⟩) h
theorem RpA.ext (x : Ext ι st H ι' st' H') {v : List V} {d : List PyData} (h : RpA (Frz ι st) H v d) : RpA (Frz ι' st') H' v d := RpA.mv (fun q u e f => let ⟨a, b⟩ := x.keep q u e f; ⟨a, .inl b⟩) h
theorem RpK.ext (x : Ext ι st H ι' st' H') {v : List (Key × V)} {d : List (PyData × PyData)} (h : RpK (Frz ι st) H v d) : RpK (Frz ι' st') H' v d := RpK.mv (fun q u e f => let ⟨a, b⟩ := x.keep q u e f; ⟨a, .inl b⟩) h
theorem RpT.ext (x : Ext ι st H ι' st' H') {v : List (List Key × V)} {d : List (PyData × PyData)} (h : RpT (Frz ι st) H v d) : RpT (Frz ι' st') H' v d := RpT.mv (fun q u e f => let ⟨a, b⟩ := x.keep q u e f; ⟨a, .inl b⟩) h
end
theorem RpA.length {F : Addr → Prop} {H : Hp} : ∀ {xs : List V} {ds : List PyData}, RpA F H xs ds → xs.length = ds.length
  | _, _, .nil => rfl
  | _, _, .cons _ r => by rw [List.length_cons, List.length_cons, RpA.length r]
theorem RpA.get {F : Addr → Prop} {H : Hp} : ∀ {xs : List V} {ds : List PyData} {i : Nat} {d : PyData}, RpA F H xs ds → ds[i]? = some d → ∃ x, xs[i]? = some x ∧ Rp F H x d
  | _, _, _, _, .nil, e => by simp at e
  | _, _, 0, _, .cons r _, e => by simp at e; subst e; exact ⟨_, rfl, r⟩
  | _, _, i + 1, d, .cons _ r, e => by
    obtain ⟨x, h1, h2⟩ := RpA.get (i := i) (d := d) r (by simpa using e)
    exact ⟨x, by simpa using h1, h2⟩
theorem RpA.append {F : Addr → Prop} {H : Hp} : ∀ {xs ys : List V} {ds es : List PyData}, RpA F H xs ds → RpA F H ys es → RpA F H (xs ++ ys) (ds ++ es)
  | _, _, _, _, .nil, s => s
  | _, _, _, _, .cons r t, s => .cons r (RpA.append t s)
theorem RpA.take {F : Addr → Prop} {H : Hp} : ∀ {xs : List V} {ds : List PyData} (n : Nat), RpA F H xs ds → RpA F H (xs.take n) (ds.take n)
  | _, _, 0, _ => .nil
  | _, _, _ + 1, .nil => .nil
  | _, _, n + 1, .cons r t => .cons r (RpA.take n t)
theorem RpA.drop {F : Addr → Prop} {H : Hp} : ∀ {xs : List V} {ds : List PyData} (n : Nat), RpA F H xs ds → RpA F H (xs.drop n) (ds.drop n)
  | _, _, 0, r => r
  | _, _, _ + 1, .nil => .nil
  | _, _, n + 1, .cons _ t => RpA.drop n t
theorem RpA.set {F : Addr → Prop} {H : Hp} {x : V} {d : PyData} (r : Rp F H x d) : ∀ {xs : List V} {ds : List PyData} (i : Nat), RpA F H xs ds → RpA F H (xs.set i x) (ds.set i d)
  | _, _, _, .nil => .nil
  | _, _, 0, .cons _ t => .cons r t
  | _, _, i + 1, .cons q t => .cons q (RpA.set r i t)
theorem RpA.erase {F : Addr → Prop} {H : Hp} : ∀ {xs : List V} {ds : List PyData} (i : Nat), RpA F H xs ds → RpA F H (xs.eraseIdx i) (ds.eraseIdx i)
  | _, _, _, .nil => .nil
  | _, _, 0, .cons _ t => t
  | _, _, i + 1, .cons q t => .cons q (RpA.erase i t)
theorem RpA.reverse {F : Addr → Prop} {H : Hp} : ∀ {xs : List V} {ds : List PyData}, RpA F H xs ds → RpA F H xs.reverse ds.reverse
  | _, _, .nil => .nil
  | _, _, .cons r t => by
    rw [List.reverse_cons, List.reverse_cons]
    exact (RpA.reverse t).append (.cons r .nil)
theorem RpA.dropLast {F : Addr → Prop} {H : Hp} {xs : List V} {ds : List PyData} (r : RpA F H xs ds) : RpA F H xs.dropLast ds.dropLast := by
  rw [List.dropLast_eq_take, List.dropLast_eq_take, r.length]
  exact r.take _
theorem RpA.rep {F : Addr → Prop} {H : Hp} {xs : List V} {ds : List PyData} (r : RpA F H xs ds) : ∀ k : Nat, RpA F H (List.replicate k xs).flatten (List.replicate k ds).flatten
  | 0 => .nil
  | k + 1 => by
    rw [List.replicate_succ, List.replicate_succ, List.flatten_cons, List.flatten_cons]
    exact r.append (RpA.rep r k)
def KL (K : PySem.W.Frag) (a : Addr) (xs : List V) : Prop :=
  ∃ (o : Obj) (its : Array Value) (n : Nat), K.lookup a = some o ∧ o.cls = .type "list" ∧ o.dict = none ∧ o.data = .seq its n ∧ its.size ≤ sizeLine ∧ Vals xs its.toList
def RD (K : PySem.W.Frag) (ι : Gh) (st : Sto) (H : Hp) (x : V) : D → Prop
  | .v d => Rp (Frz ι st) H x d
  | .ref n => ∃ a, ι.ad[n]? = some a ∧ x = .ref a
  | .scr ns => ∃ a, x = .ref a ∧ (KL K a (ns.map V.int) ∨ ∃ o, H a = some (.frz o (.lst (ns.map V.int))) ∧ Frz ι st a)
section
variable {K : PySem.W.Frag} {ι ι' : Gh} {st st' : Sto} {H H' : Hp}
theorem RD.ext (e : Ext ι st H ι' st' H') {x : V} : ∀ {d : D}, RD K ι st H x d → RD K ι' st' H' x d
  | .v d, h => Rp.ext e h
  | .ref n, ⟨a, h1, h2⟩ => ⟨a, e.pre n a h1, h2⟩
  | .scr ns, ⟨a, h1, h2⟩ => by
    refine ⟨a, h1, ?_⟩
    rcases h2 with h2 | ⟨o, h2, f⟩
    · exact .inl h2
    · obtain ⟨f', k⟩ := e.keep _ _ h2 f
      exact .inr ⟨o, k, f'⟩
theorem RD.scr {x : V} {ns : List Int} (h : RD K ι st H x (.scr ns)) : ∃ a, x = .ref a ∧ SqL K H a (ns.map V.int) := by
  obtain ⟨a, h1, h2⟩ := h
  refine ⟨a, h1, ?_⟩
  rcases h2 with h2 | ⟨o, h2, _⟩
  · exact .inr h2
  · exact .inl (.inr ⟨o, h2⟩)
end
def RK (K : PySem.W.Frag) (ι : Gh) (st : Sto) (H : Hp) : List (PyData × D) → List (Key × V) → Prop := Paired fun p q => p.1 = kD q.1 ∧ RD K ι st H q.2 p.2
def RT (K : PySem.W.Frag) (ι : Gh) (st : Sto) (H : Hp) : List (PyData × D) → List (List Key × V) → Prop := Paired fun p q => p.1 = .tuple (q.1.map kD) ∧ RD K ι st H q.2 p.2
def RDA (K : PySem.W.Frag) (ι : Gh) (st : Sto) (H : Hp) : List D → List V → Prop := Paired fun d x => RD K ι st H x d
mutual
def keyN : PyData → Option NestedKey
  | .none => some .none
  | .int i => some (.num i)
  | .tuple ds => (keyNA ds).map .tup
  | _ => Option.none
def keyNA : List PyData → Option (List NestedKey)
  | [] => some []
  | d :: ds => match keyN d, keyNA ds with
    | some k, some ks => some (k :: ks)
    | _, _ => Option.none
end
def keyP (d : PyData) : Option NestedKey := match d with
  | .tuple ds => match keyN (.tuple ds) with
    | some k => if k.depth ≤ 8 then some k else Option.none
    | Option.none => Option.none
  | _ => Option.none
def TabO (a : Addr) (xs : List (NestedKey × Addr × V)) : HO := .ext fun h => ∃ (w : World) (ys : List (NestedKey × Addr × Value)), Paired (fun p q => p.1 = q.1 ∧ p.2.1 = q.2.1 ∧ RelV p.2.2 q.2.2) xs ys ∧
  ∃ o es ep, h.get? a = some o ∧ o.ExactDict ∧ o.data = .dict es ep ∧ es.toList = ys.map fun x => (⟨x.1.hash w, .ref x.2.1, x.2.2⟩ : DictEntry)
def RTab (K : PySem.W.Frag) (ι : Gh) (st : Sto) (H : Hp) : List (PyData × D) → List (NestedKey × Addr × V) → Prop := Paired fun p q => keyP p.1 = some q.1 ∧ Rp (Frz ι st) H (.ref q.2.1) p.1 ∧ RD K ι st H q.2.2 p.2
def RO (K : PySem.W.Frag) (ι : Gh) (st : Sto) (H : Hp) (a : Addr) : O → Prop
  | .dead => True
  | .lst ds => ∃ xs, H a = some (.lst xs) ∧ RpA (Frz ι st) H xs ds
  | .dct false kvs => ∃ xs, H a = some (.dK xs) ∧ RK K ι st H kvs xs
  | .dct true kvs => ∃ xs, H a = some (.dT xs) ∧ RT K ι st H kvs xs
  | .lck false kvs => ∃ xs o, H a = some (.frz o (.dK xs)) ∧ RK K ι st H kvs xs
  | .lck true kvs => ∃ xs o, H a = some (.frz o (.dT xs)) ∧ RT K ι st H kvs xs
  | .tpl ds => ∃ xs o, H a = some (.frz o (.tup xs)) ∧ RDA K ι st H ds xs
  | .tab kvs => ∃ xs, H a = some (TabO a xs) ∧ (a == sysModules) = false ∧ (xs.map (·.1)).Nodup ∧ xs.length ≤ sizeLine ∧ RTab K ι st H kvs xs
def szOk : HO → Prop
  | .lst xs => xs.length ≤ sizeLine
  | .tup xs => xs.length ≤ sizeLine
  | .dK xs => xs.length ≤ sizeLine
  | .dT xs => xs.length ≤ sizeLine
  | .frz _ u => szOk u
  | _ => True
def HF (H : Hp) : Prop := ∀ a u, H a = some u → szOk u
def HdO : HO → Prop
  | .lst _ => True
  | .dK _ => True
  | .dT _ => True
  | _ => False
structure SRel (K : PySem.W.Frag) (ι : Gh) (st : Sto) (H : Hp) : Prop where
  len : ι.ad.length = st.length
  obj : ∀ (n : Nat) (o : O) (a : Addr), st[n]? = some o → ι.ad[n]? = some a → RO K ι st H a o
  inj : ∀ (m n : Nat) (a : Addr) (o u : O), ι.ad[m]? = some a → ι.ad[n]? = some a → st[m]? = some o → st[n]? = some u → o ≠ O.dead → u ≠ O.dead → m = n
  low : ∀ (n : Nat) (o : O), st[n]? = some o → o.low n = true
  hid : ∀ a, a ∈ ι.hid → (∃ u, H a = some u ∧ HdO u) ∧ ∀ (n : Nat) (o : O), st[n]? = some o → ι.ad[n]? = some a → o = O.dead
  hf : HF H
def EvR (K : PySem.W.Frag) (ι : Gh) (st : Sto) (H : Hp) (σ : L2.St) (env : Ev) : Prop :=
  σ.length = env.length ∧ ∀ (i : Nat) (d : D), env[i]? = some (some d) → ∃ x, σ[i]? = some (some x) ∧ RD K ι st H x d
section
variable {K : PySem.W.Frag} {ι ι' : Gh} {st st' : Sto} {H H' : Hp}
theorem EvR.ext (e : Ext ι st H ι' st' H') {σ : L2.St} {env : Ev} (h : EvR K ι st H σ env) : EvR K ι' st' H' σ env :=
  ⟨h.1, fun i d q => let ⟨x, h1, h2⟩ := h.2 i d q; ⟨x, h1, h2.ext e⟩⟩
theorem EvR.set {σ : L2.St} {env : Ev} (h : EvR K ι st H σ env) {x : V} {d : D} (r : RD K ι st H x d) (i : Nat) : EvR K ι st H (σ.set i (some x)) (env.set i (some d)) := by
  refine ⟨by rw [List.length_set, List.length_set]; exact h.1, fun j d' q => ?_⟩
  by_cases hj : i = j
  · subst hj
    by_cases hl : i < env.length
    · rw [List.getElem?_set_self hl] at q
      cases q
      exact ⟨x, by rw [List.getElem?_set_self (by rw [h.1]; exact hl)], r⟩
    · rw [List.getElem?_eq_none (by rw [List.length_set]; omega)] at q
      cases q
  · rw [List.getElem?_set_ne hj] at q
    obtain ⟨y, h1, h2⟩ := h.2 j d' q
    exact ⟨y, by rw [List.getElem?_set_ne hj]; exact h1, h2⟩
theorem EvR.none {σ : L2.St} {env : Ev} (h : EvR K ι st H σ env) (i : Nat) : EvR K ι st H (σ.set i Option.none) (env.set i Option.none) := by
  refine ⟨by rw [List.length_set, List.length_set]; exact h.1, fun j d' q => ?_⟩
  by_cases hj : i = j
  · subst hj
    by_cases hl : i < env.length
    · rw [List.getElem?_set_self hl] at q
      cases q
    · rw [List.getElem?_eq_none (by rw [List.length_set]; omega)] at q
      cases q
  · rw [List.getElem?_set_ne hj] at q
    obtain ⟨y, h1, h2⟩ := h.2 j d' q
    exact ⟨y, by rw [List.getElem?_set_ne hj]; exact h1, h2⟩
end
def wipeE (env : Ev) : List Nat → Ev
  | [] => env
  | v :: vs => (wipeE env vs).set v none
theorem EvR.wipe {K : PySem.W.Frag} {ι : Gh} {st : Sto} {H : Hp} {σ : L2.St} {env : Ev} (h : EvR K ι st H σ env) : ∀ vs : List Nat, EvR K ι st H (L2.wipe σ vs) (wipeE env vs)
  | [] => h
  | v :: vs => (EvR.wipe h vs).none v
abbrev XW := Exn → Gh → Sto → Hp → Prop
abbrev WF : XW := fun _ _ _ _ => False
abbrev ME := Ev → Sto → Out D
abbrev MT := Ev → Sto → Out Bool
abbrev MA := Ev → Sto → Out (List D)
def RDs (K : PySem.W.Frag) (ι : Gh) (st : Sto) (H : Hp) : List V → List D → Prop := Paired fun x d => RD K ι st H x d
theorem RDs.ext {K : PySem.W.Frag} {ι ι' : Gh} {st st' : Sto} {H H' : Hp} (e : Ext ι st H ι' st' H') : ∀ {xs : List V} {ds : List D}, RDs K ι st H xs ds → RDs K ι' st' H' xs ds
  | _, _, .nil => .nil
  | _, _, .cons h r => .cons (RD.ext e h) (RDs.ext e r)
def PO1 (K : PySem.W.Frag) (ι : Gh) (st : Sto) (H : Hp) (Q : VK) (d : D) (st' : Sto) : Prop := ∀ ι' H' x, SRel K ι' st' H' → Ext ι st H ι' st' H' → RD K ι' st' H' x d → Q x H'
def PB1 (K : PySem.W.Frag) (ι : Gh) (st : Sto) (H : Hp) (Q : Bool → Hp → Prop) (b : Bool) (st' : Sto) : Prop := ∀ ι' H', SRel K ι' st' H' → Ext ι st H ι' st' H' → Q b H'
def PA1 (K : PySem.W.Frag) (ι : Gh) (st : Sto) (H : Hp) (Q : List V → Hp → Prop) (ds : List D) (st' : Sto) : Prop := ∀ ι' H' xs, SRel K ι' st' H' → Ext ι st H ι' st' H' → RDs K ι' st' H' xs ds → Q xs H'
def PX1 (K : PySem.W.Frag) (W : XW) (ι : Gh) (st : Sto) (H : Hp) (e : Exn) (st' : Sto) : Prop := ∀ ι' H', SRel K ι' st' H' → Ext ι st H ι' st' H' → W e ι' st' H'
def TEo (K : PySem.W.Frag) (W : XW) (m : ME) : TE := fun σ H Q => ∃ ι env st, SRel K ι st H ∧ EvR K ι st H σ env ∧ (m env st).post (PO1 K ι st H Q) (PX1 K W ι st H)
def TTo (K : PySem.W.Frag) (W : XW) (m : MT) : TT := fun σ H Q => ∃ ι env st, SRel K ι st H ∧ EvR K ι st H σ env ∧ (m env st).post (PB1 K ι st H Q) (PX1 K W ι st H)
def TAo (K : PySem.W.Frag) (W : XW) (m : MA) : TA := fun σ H Q => ∃ ι env st, SRel K ι st H ∧ EvR K ι st H σ env ∧ (m env st).post (PA1 K ι st H Q) (PX1 K W ι st H)
section
variable {X : Cx} {pins : List (Addr × Obj)} {σ : L2.St} {H : Hp} {s : Shared}
theorem sz_of {P : Program} {w : World} {h : Heap} {a : Addr} {u : HO} (k : ObjOk P w H h a u) : szOk u := by
  induction u with
  | lst xs => exact k.1
  | tup xs => exact k.1
  | dK xs => exact k.1
  | dT xs => exact k.1
  | frz o u ih => exact ih k.2
  | _ => trivial
theorem hf_of (I : Inv X pins σ H s) : HF H := fun a u e => sz_of (I.hok a u e)
variable {K : PySem.W.Frag} {W : XW} {e : Expr} {es : List Expr}
theorem pe_wrap {t : TE} {m : ME} (h : PE X e t) (hi : ∀ σ H Q, TEo K W m σ H Q → t σ H (fun v H' => HF H' → Q v H')) : PE X e (TEo K W m) :=
  ⟨fun pins s σ H Q I q => thn (h.run pins s σ H _ I (hi σ H Q q)) fun _ _ ⟨v, H', I', r, q'⟩ => ⟨v, H', I', r, q' (hf_of I')⟩⟩
theorem pt_wrap {t : TT} {m : MT} (h : PT X e t) (hi : ∀ σ H Q, TTo K W m σ H Q → t σ H (fun v H' => HF H' → Q v H')) : PT X e (TTo K W m) :=
  ⟨fun pins s σ H Q I q => thn (h.run pins s σ H _ I (hi σ H Q q)) fun _ _ ⟨H', I', q'⟩ => ⟨H', I', q' (hf_of I')⟩⟩
theorem pw_wrap {t : TT} {m : MT} (h : PW X e t) (hi : ∀ σ H Q, TTo K W m σ H Q → t σ H (fun v H' => HF H' → Q v H')) : PW X e (TTo K W m) :=
  ⟨fun wh pins s σ H Q I q => thn (h.run wh pins s σ H _ I (hi σ H Q q)) fun _ _ ⟨H', I', q'⟩ => ⟨H', I', q' (hf_of I')⟩⟩
theorem pa_wrap {t : TA} {m : MA} (h : PA X es t) (hi : ∀ σ H Q, TAo K W m σ H Q → t σ H (fun v H' => HF H' → Q v H')) : PA X es (TAo K W m) :=
  ⟨fun pos pins s σ H Q I q => thn (h.run pos pins s σ H _ I (hi σ H Q q)) fun _ _ ⟨v, H', I', r, q'⟩ => ⟨v, H', I', r, q' (hf_of I')⟩⟩
end
end Fw
namespace Fw
open PySem PySem.Spec PyProof.Rows L2
section
variable {K : PySem.W.Frag} {ι ι' : Gh} {st st' : Sto} {H H' : Hp}
theorem PO1.ext {Q : VK} {d : D} {s2 : Sto} (h : PO1 K ι st H Q d s2) (e : Ext ι st H ι' st' H') : PO1 K ι' st' H' Q d s2 :=
  fun ι2 H2 x R E r => h ι2 H2 x R (e.trans E) r
theorem PB1.ext {Q : Bool → Hp → Prop} {b : Bool} {s2 : Sto} (h : PB1 K ι st H Q b s2) (e : Ext ι st H ι' st' H') : PB1 K ι' st' H' Q b s2 :=
  fun ι2 H2 R E => h ι2 H2 R (e.trans E)
theorem PA1.ext {Q : List V → Hp → Prop} {d : List D} {s2 : Sto} (h : PA1 K ι st H Q d s2) (e : Ext ι st H ι' st' H') : PA1 K ι' st' H' Q d s2 :=
  fun ι2 H2 x R E r => h ι2 H2 x R (e.trans E) r
theorem PX1.ext {W : XW} {x : Exn} {s2 : Sto} (h : PX1 K W ι st H x s2) (e : Ext ι st H ι' st' H') : PX1 K W ι' st' H' x s2 :=
  fun ι2 H2 R E => h ι2 H2 R (e.trans E)
theorem SRel.live (R : SRel K ι st H) {n : Nat} {o : O} {a : Addr} (h : st[n]? = some o) (hi : ι.ad[n]? = some a) (hl : o ≠ O.dead) : ∃ u, H a = some u ∧ ∀ xs, u ≠ .tup xs := by
  have q := R.obj n o a h hi
  cases o with
  | dead => exact absurd rfl hl
  | lst ds => obtain ⟨xs, e, _⟩ := q; exact ⟨_, e, fun _ z => nomatch z⟩
  | dct t kvs =>
    cases t with
    | false => obtain ⟨xs, e, _⟩ := q; exact ⟨_, e, fun _ z => nomatch z⟩
    | true => obtain ⟨xs, e, _⟩ := q; exact ⟨_, e, fun _ z => nomatch z⟩
  | lck t kvs =>
    cases t with
    | false => obtain ⟨xs, o, e, _⟩ := q; exact ⟨_, e, fun _ z => nomatch z⟩
    | true => obtain ⟨xs, o, e, _⟩ := q; exact ⟨_, e, fun _ z => nomatch z⟩
  | tpl ds => obtain ⟨xs, o, e, _⟩ := q; exact ⟨_, e, fun _ z => nomatch z⟩
  | tab kvs => obtain ⟨xs, e, _⟩ := q; exact ⟨_, e, fun _ z => nomatch (show HO.ext _ = HO.tup _ from z)⟩
theorem SRel.hid_new (R : SRel K ι st H) {p : Addr} (hp : H p = none) : p ∉ ι.hid := fun z => by
  obtain ⟨⟨_, e, _⟩, _⟩ := R.hid p z
  rw [hp] at e
  cases e
theorem SRel.frz_new (R : SRel K ι st H) {p : Addr} (hp : H p = none) : Frz ι st p := ⟨R.hid_new hp, fun n o h hi => by
  by_cases hd : o = O.dead
  · exact hd
  · obtain ⟨u, e, _⟩ := R.live h hi hd
    rw [hp] at e; cases e⟩
theorem RK.ext (e : Ext ι st H ι' st' H') : ∀ {kvs : List (PyData × D)} {xs : List (Key × V)}, RK K ι st H kvs xs → RK K ι' st' H' kvs xs
  | _, _, .nil => .nil
  | _, _, .cons h r => .cons ⟨h.1, h.2.ext e⟩ (RK.ext e r)
theorem RT.ext (e : Ext ι st H ι' st' H') : ∀ {kvs : List (PyData × D)} {xs : List (List Key × V)}, RT K ι st H kvs xs → RT K ι' st' H' kvs xs
  | _, _, .nil => .nil
  | _, _, .cons h r => .cons ⟨h.1, h.2.ext e⟩ (RT.ext e r)
theorem RTab.ext (e : Ext ι st H ι' st' H') : ∀ {kvs : List (PyData × D)} {xs : List (NestedKey × Addr × V)}, RTab K ι st H kvs xs → RTab K ι' st' H' kvs xs
  | _, _, .nil => .nil
  | _, _, .cons h r => .cons ⟨h.1, h.2.1.ext e, h.2.2.ext e⟩ (RTab.ext e r)
theorem RDA.ext (e : Ext ι st H ι' st' H') : ∀ {ds : List D} {xs : List V}, RDA K ι st H ds xs → RDA K ι' st' H' ds xs
  | _, _, .nil => .nil
  | _, _, .cons h r => .cons (h.ext e) (RDA.ext e r)
theorem RO.ext (e : Ext ι st H ι' st' H') {a : Addr} (h : ∀ u, H a = some u → H' a = some u) : ∀ {o : O}, RO K ι st H a o → RO K ι' st' H' a o
  | .dead, _ => trivial
  | .lst _, ⟨xs, q, r⟩ => ⟨xs, h _ q, r.ext e⟩
  | .dct false _, ⟨xs, q, r⟩ => ⟨xs, h _ q, RK.ext e r⟩
  | .dct true _, ⟨xs, q, r⟩ => ⟨xs, h _ q, RT.ext e r⟩
  | .lck false _, ⟨xs, o, q, r⟩ => ⟨xs, o, h _ q, RK.ext e r⟩
  | .lck true _, ⟨xs, o, q, r⟩ => ⟨xs, o, h _ q, RT.ext e r⟩
  | .tpl _, ⟨xs, o, q, r⟩ => ⟨xs, o, h _ q, RDA.ext e r⟩
  | .tab _, ⟨xs, q, r⟩ => ⟨xs, h _ q, r.1, r.2.1, r.2.2.1, RTab.ext e r.2.2.2⟩
theorem Ext.fresh (R : SRel K ι st H) {p : Addr} {u : HO} (hp : H p = none) : Ext ι st H ι st (upd H p u) :=
  ⟨fun q o e f => ⟨f, by rw [upd_ne (ne_of_none e hp)]; exact e⟩, fun _ _ e => e, rfl, fun q hq => upd_ne fun z => R.hid_new hp (z ▸ hq), fun h hi => ⟨h, upd_ne (let ⟨_, e, _⟩ := R.live h hi (fun z => nomatch z); ne_of_none e hp)⟩⟩
theorem SRel.fresh (R : SRel K ι st H) {p : Addr} {u : HO} (hp : H p = none) (hf : HF (upd H p u)) : SRel K ι st (upd H p u) :=
  ⟨R.len, fun n o a h hi => (R.obj n o a h hi).ext (Ext.fresh R hp) fun v e => by rw [upd_ne (ne_of_none e hp)]; exact e, R.inj, R.low, fun a h => ⟨let ⟨xs, e, d⟩ := (R.hid a h).1; ⟨xs, by rw [upd_ne (ne_of_none e hp)]; exact e, d⟩, (R.hid a h).2⟩, hf⟩
theorem frz_push {p q : Addr} {o : O} (R : ι.ad.length = st.length) (f : Frz ι st q) (hq : q ≠ p) : Frz (ι.psh p) (st ++ [o]) q := ⟨f.1, fun n u h hi => by
  replace hi : (ι.ad ++ [p])[n]? = some q := hi
  by_cases hn : n < st.length
  · rw [List.getElem?_append_left hn] at h
    rw [List.getElem?_append_left (by rw [R]; exact hn)] at hi
    exact f.2 n u h hi
  · by_cases hn2 : n = st.length
    · subst hn2
      rw [← R, List.getElem?_append_right (Nat.le_refl _), Nat.sub_self] at hi
      exact absurd (Option.some.inj hi).symm hq
    · rw [List.getElem?_eq_none (by rw [List.length_append, List.length_singleton]; omega)] at h
      cases h⟩
theorem Ext.push {p : Addr} {u : HO} {o : O} (R : SRel K ι st H) (hp : H p = none) : Ext ι st H (ι.psh p) (st ++ [o]) (upd H p u) := by
  refine ⟨fun q v e f => ?_, fun n a e => ?_, rfl, fun q hq => upd_ne fun z => ?_, fun h hi => ⟨by rw [List.getElem?_append_left (List.getElem?_eq_some_iff.mp h).1]; exact h, upd_ne (let ⟨_, e, _⟩ := R.live h hi (fun z => nomatch z); ne_of_none e hp)⟩⟩
  · have nq := ne_of_none e hp
    exact ⟨frz_push R.len f nq, by rw [upd_ne nq]; exact e⟩
  · show (ι.ad ++ [p])[n]? = some a
    rw [List.getElem?_append_left (List.getElem?_eq_some_iff.mp e).1]
    exact e
  · obtain ⟨⟨_, e, _⟩, _⟩ := R.hid q hq
    rw [z, hp] at e
    cases e
theorem SRel.push (R : SRel K ι st H) {p : Addr} {u : HO} {o : O} (hp : H p = none) (hf : HF (upd H p u)) (ho : RO K (ι.psh p) (st ++ [o]) (upd H p u) p o) (hw : o.low st.length = true) : SRel K (ι.psh p) (st ++ [o]) (upd H p u) := by
  have old : ∀ {n : Nat} {v : O} {a : Addr}, (st ++ [o])[n]? = some v → (ι.ad ++ [p])[n]? = some a → (n < st.length ∧ st[n]? = some v ∧ ι.ad[n]? = some a) ∨ (n = st.length ∧ v = o ∧ a = p) := by
    intro n v a h hi
    by_cases hn : n < st.length
    · rw [List.getElem?_append_left hn] at h
      rw [List.getElem?_append_left (by rw [R.len]; exact hn)] at hi
      exact .inl ⟨hn, h, hi⟩
    · by_cases hn2 : n = st.length
      · subst hn2
        rw [List.getElem?_append_right (Nat.le_refl _), Nat.sub_self] at h
        rw [← R.len, List.getElem?_append_right (Nat.le_refl _), Nat.sub_self] at hi
        exact .inr ⟨rfl, (Option.some.inj h).symm, (Option.some.inj hi).symm⟩
      · rw [List.getElem?_eq_none (by rw [List.length_append, List.length_singleton]; omega)] at h
        cases h
  refine ⟨by show (ι.ad ++ [p]).length = _; rw [List.length_append, List.length_append, R.len]; rfl, fun n v a h hi => ?_, fun m n a v w hm hn h1 h2 l1 l2 => ?_, fun n v h => ?_, fun a ha => ⟨?_, fun n v h hi => ?_⟩, hf⟩
  · rcases old h hi with ⟨_, h1, h2⟩ | ⟨_, rfl, rfl⟩
    · exact (R.obj n v a h1 h2).ext (Ext.push R hp) fun z e => by rw [upd_ne (ne_of_none e hp)]; exact e
    · exact ho
  · rcases old h1 hm with ⟨_, a1, a2⟩ | ⟨e1, _, rfl⟩
    · rcases old h2 hn with ⟨_, b1, b2⟩ | ⟨_, _, rfl⟩
      · exact R.inj m n a v w a2 b2 a1 b1 l1 l2
      · exact absurd ((R.frz_new hp).2 m v a1 a2) l1
    · rcases old h2 hn with ⟨_, b1, b2⟩ | ⟨e2, _, _⟩
      · exact absurd ((R.frz_new hp).2 n w b1 b2) l2
      · rw [e1, e2]
  · by_cases hn : n < st.length
    · rw [List.getElem?_append_left hn] at h
      exact R.low n v h
    · by_cases hn2 : n = st.length
      · subst hn2
        rw [List.getElem?_append_right (Nat.le_refl _), Nat.sub_self] at h
        rw [← Option.some.inj h]
        exact hw
      · rw [List.getElem?_eq_none (by rw [List.length_append, List.length_singleton]; omega)] at h
        cases h
  · obtain ⟨xs, e, d⟩ := (R.hid a ha).1
    exact ⟨xs, by rw [upd_ne (ne_of_none e hp)]; exact e, d⟩
  · rcases old h hi with ⟨_, h1, h2⟩ | ⟨_, rfl, rfl⟩
    · exact (R.hid a ha).2 n v h1 h2
    · obtain ⟨xs, e, _⟩ := (R.hid a ha).1
      rw [hp] at e
      cases e
theorem frz_set {n : Nat} {o o' : O} {q : Addr} (h : st[n]? = some o) (hl : o ≠ O.dead) (f : Frz ι st q) : Frz ι (st.set n o') q := ⟨f.1, fun m u hm hi => by
  by_cases e : n = m
  · subst e
    exact absurd (f.2 n o h hi) hl
  · rw [List.getElem?_set_ne e] at hm
    exact f.2 m u hm hi⟩
theorem Ext.write (R : SRel K ι st H) {n : Nat} {o o' : O} {a : Addr} {u : HO} (h : st[n]? = some o) (hi : ι.ad[n]? = some a) (hl : o ≠ O.dead) (hk : ∀ t kvs, o ≠ .lck t kvs) : Ext ι st H ι (st.set n o') (upd H a u) := by
  refine ⟨fun q v e f => ⟨frz_set h hl f, ?_⟩, fun _ _ e => e, rfl, fun q hq => upd_ne fun z => ?_, fun {m t kvs b} hm hb => ?_⟩
  · have nq : q ≠ a := fun z => by subst z; exact hl (f.2 n o h hi)
    rw [upd_ne nq]
    exact e
  · subst z
    exact hl ((R.hid q hq).2 n o h hi)
  · have nm : n ≠ m := fun z => by subst z; rw [h] at hm; exact hk t kvs (Option.some.inj hm)
    exact ⟨by rw [List.getElem?_set_ne nm]; exact hm, upd_ne fun z => by subst z; exact nm (R.inj n m b o _ hi hb h hm hl (fun z => nomatch z))⟩
theorem SRel.write (R : SRel K ι st H) {n : Nat} {o o' : O} {a : Addr} {u : HO} (h : st[n]? = some o) (hi : ι.ad[n]? = some a) (hl : o ≠ O.dead) (hk : ∀ t kvs, o ≠ .lck t kvs) (hf : HF (upd H a u)) (ho : RO K ι (st.set n o') (upd H a u) a o') (hw : o'.low n = true) : SRel K ι (st.set n o') (upd H a u) := by
  refine ⟨by rw [List.length_set]; exact R.len, fun m v b hm hb => ?_, fun i j b v w hib hjb h1 h2 l1 l2 => ?_, fun m v hm => ?_, fun b hb => ⟨?_, fun m v hm hi' => ?_⟩, hf⟩
  · by_cases e : n = m
    · subst e
      rw [List.getElem?_set_self (List.getElem?_eq_some_iff.mp h).1] at hm
      cases hm
      rw [hi] at hb; cases hb
      exact ho
    · rw [List.getElem?_set_ne e] at hm
      by_cases ed : v = O.dead
      · subst ed; trivial
      · refine (R.obj m v b hm hb).ext (Ext.write R h hi hl hk) fun z q => ?_
        have nb : b ≠ a := fun z => by subst z; exact e (R.inj n m b o v hi hb h hm hl ed)
        rw [upd_ne nb]
        exact q
  · have live : ∀ {i : Nat} {v : O}, (st.set n o')[i]? = some v → v ≠ O.dead → ∃ v', st[i]? = some v' ∧ v' ≠ O.dead := fun {i v} q l => by
      by_cases e : n = i
      · subst e; exact ⟨o, h, hl⟩
      · rw [List.getElem?_set_ne e] at q
        exact ⟨v, q, l⟩
    obtain ⟨v', a1, a2⟩ := live h1 l1
    obtain ⟨w', b1, b2⟩ := live h2 l2
    exact R.inj i j b v' w' hib hjb a1 b1 a2 b2
  · by_cases e : n = m
    · subst e
      rw [List.getElem?_set_self (List.getElem?_eq_some_iff.mp h).1] at hm
      rw [← Option.some.inj hm]
      exact hw
    · rw [List.getElem?_set_ne e] at hm
      exact R.low m v hm
  · obtain ⟨xs, e, d⟩ := (R.hid b hb).1
    have nb : b ≠ a := fun z => by subst z; exact hl ((R.hid b hb).2 n o h hi)
    exact ⟨xs, by rw [upd_ne nb]; exact e, d⟩
  · by_cases e : n = m
    · subst e
      exact absurd ((R.hid b hb).2 n o h hi') hl
    · rw [List.getElem?_set_ne e] at hm
      exact (R.hid b hb).2 m v hm hi'
theorem frz_take {q : Addr} {k : Nat} (f : Frz ι st q) : Frz (ι.tk k) (st.take k) q := ⟨f.1, fun n o h hi => by
  replace hi : (ι.ad.take k)[n]? = some q := hi
  rw [List.getElem?_take] at h hi
  split at h
  · rename_i hn
    rw [if_pos hn] at hi
    exact f.2 n o h hi
  · cases h⟩
theorem frz_takeK {k : Nat} : ∀ q u, H q = some u → Frz ι st q → Frz (ι.tk k) (st.take k) q ∧ Kp u (H q) := fun _ _ e f => ⟨frz_take f, .inl e⟩
theorem D.low_mono {k n : Nat} (h : n ≤ k) : ∀ {d : D}, d.low n = true → d.low k = true
  | .v _, _ => rfl
  | .ref m, q => decide_eq_true (Nat.lt_of_lt_of_le (of_decide_eq_true q) h)
  | .scr _, _ => rfl
theorem RD.take {k : Nat} {x : V} : ∀ {d : D}, d.low k = true → RD K ι st H x d → RD K (ι.tk k) (st.take k) H x d
  | .v d, _, h => Rp.mv frz_takeK h
  | .ref n, hl, ⟨a, h1, h2⟩ => ⟨a, by show (ι.ad.take k)[n]? = _; rw [List.getElem?_take, if_pos (of_decide_eq_true hl)]; exact h1, h2⟩
  | .scr ns, _, ⟨a, h1, h2⟩ => ⟨a, h1, h2.imp id fun ⟨o, q, f⟩ => ⟨o, q, frz_take f⟩⟩
theorem RK.take {k : Nat} : ∀ {kvs : List (PyData × D)} {xs : List (Key × V)}, kvs.all (fun p => p.2.low k) = true → RK K ι st H kvs xs → RK K (ι.tk k) (st.take k) H kvs xs
  | _, _, _, .nil => .nil
  | _, _, hl, .cons h r => by
    rw [List.all_cons, Bool.and_eq_true] at hl
    exact .cons ⟨h.1, h.2.take hl.1⟩ (RK.take hl.2 r)
theorem RT.take {k : Nat} : ∀ {kvs : List (PyData × D)} {xs : List (List Key × V)}, kvs.all (fun p => p.2.low k) = true → RT K ι st H kvs xs → RT K (ι.tk k) (st.take k) H kvs xs
  | _, _, _, .nil => .nil
  | _, _, hl, .cons h r => by
    rw [List.all_cons, Bool.and_eq_true] at hl
    exact .cons ⟨h.1, h.2.take hl.1⟩ (RT.take hl.2 r)
theorem RDA.take {k : Nat} : ∀ {ds : List D} {xs : List V}, ds.all (fun d => d.low k) = true → RDA K ι st H ds xs → RDA K (ι.tk k) (st.take k) H ds xs
  | _, _, _, .nil => .nil
  | _, _, hl, .cons h r => by
    rw [List.all_cons, Bool.and_eq_true] at hl
    exact .cons (h.take hl.1) (RDA.take hl.2 r)
theorem RTab.take {k : Nat} : ∀ {kvs : List (PyData × D)} {xs : List (NestedKey × Addr × V)}, kvs.all (fun p => p.2.low k) = true → RTab K ι st H kvs xs → RTab K (ι.tk k) (st.take k) H kvs xs
  | _, _, _, .nil => .nil
  | _, _, hl, .cons h r => by
    rw [List.all_cons, Bool.and_eq_true] at hl
    exact .cons ⟨h.1, Rp.mv frz_takeK h.2.1, h.2.2.take hl.1⟩ (RTab.take hl.2 r)
theorem SRel.take (R : SRel K ι st H) (k : Nat) : SRel K (ι.tk k) (st.take k) H := by
  refine ⟨by show (ι.ad.take k).length = _; rw [List.length_take, List.length_take, R.len], fun n o a h hi => ?_, fun i j b v w hib hjb h1 h2 l1 l2 => ?_, fun n v h => ?_, fun b hb => ⟨(R.hid b hb).1, fun n v h hi => ?_⟩, R.hf⟩
  · replace hi : (ι.ad.take k)[n]? = some a := hi
    rw [List.getElem?_take] at h hi
    split at h
    · rename_i hn
      rw [if_pos hn] at hi
      have q := R.obj n o a h hi
      have lw := R.low n o h
      cases o with
      | dead => trivial
      | lst ds =>
        obtain ⟨xs, e, r⟩ := q
        exact ⟨xs, e, RpA.mv frz_takeK r⟩
      | dct t kvs =>
        have lw' : kvs.all (fun p => p.2.low k) = true := List.all_eq_true.mpr fun p hp => D.low_mono (Nat.le_of_lt hn) (List.all_eq_true.mp lw p hp)
        cases t with
        | false => obtain ⟨xs, e, r⟩ := q; exact ⟨xs, e, r.take lw'⟩
        | true => obtain ⟨xs, e, r⟩ := q; exact ⟨xs, e, r.take lw'⟩
      | lck t kvs =>
        have lw' : kvs.all (fun p => p.2.low k) = true := List.all_eq_true.mpr fun p hp => D.low_mono (Nat.le_of_lt hn) (List.all_eq_true.mp lw p hp)
        cases t with
        | false => obtain ⟨xs, o, e, r⟩ := q; exact ⟨xs, o, e, r.take lw'⟩
        | true => obtain ⟨xs, o, e, r⟩ := q; exact ⟨xs, o, e, r.take lw'⟩
      | tpl ds =>
        have lw' : ds.all (fun d => d.low k) = true := List.all_eq_true.mpr fun p hp => D.low_mono (Nat.le_of_lt hn) (List.all_eq_true.mp lw p hp)
        obtain ⟨xs, o, e, r⟩ := q; exact ⟨xs, o, e, RDA.take lw' r⟩
      | tab kvs =>
        have lw' : kvs.all (fun p => p.2.low k) = true := List.all_eq_true.mpr fun p hp => D.low_mono (Nat.le_of_lt hn) (List.all_eq_true.mp lw p hp)
        obtain ⟨xs, e, r⟩ := q; exact ⟨xs, e, r.1, r.2.1, r.2.2.1, RTab.take lw' r.2.2.2⟩
    · cases h
  · replace hib : (ι.ad.take k)[i]? = some b := hib
    replace hjb : (ι.ad.take k)[j]? = some b := hjb
    rw [List.getElem?_take] at hib hjb h1 h2
    split at h1
    · split at h2
      · rename_i a1 a2
        rw [if_pos a1] at hib
        rw [if_pos a2] at hjb
        exact R.inj i j b v w hib hjb h1 h2 l1 l2
      · cases h2
    · cases h1
  · rw [List.getElem?_take] at h
    split at h
    · exact R.low n v h
    · cases h
  · replace hi : (ι.ad.take k)[n]? = some b := hi
    rw [List.getElem?_take] at h hi
    split at h
    · rename_i hn
      rw [if_pos hn] at hi
      exact (R.hid b hb).2 n v h hi
    · cases h
end
end Fw
namespace Fw
open PySem PySem.Spec PyProof.Rows L2
section
variable {K : PySem.W.Frag} {W : XW} {ι : Gh} {st : Sto} {H : Hp} {Q : VK}
theorem PO1.same (h : PO1 K ι st H Q d st) (R : SRel K ι st H) {x : V} (r : RD K ι st H x d) : Q x H := h ι H x R Ext.refl r
theorem PO1.newTup {xs : List V} {ds : List PyData} (h : PO1 K ι st H Q (.v (.tuple ds)) st) (R : SRel K ι st H) (r : RpA (Frz ι st) H xs ds) {p : Addr} (hp : H p = none) {o : Obj} (ho : o.dict = none) (hf : HF (upd H p (.frz o (.tup xs)))) : Q (.ref p) (upd H p (.frz o (.tup xs))) :=
  h ι _ _ (R.fresh hp hf) (Ext.fresh R hp) (.tup upd_same ho (R.frz_new hp) (r.ext (Ext.fresh R hp)))
def KTup (H : Hp) (a : Addr) (xs : List V) : Prop := ∃ o, H a = some (.frz o (.tup xs)) ∧ o.dict = none
theorem KTup.sq {K : PySem.W.Frag} {H : Hp} {a : Addr} {xs : List V} (h : KTup H a xs) : SqT K H a xs := let ⟨o, h, _⟩ := h; .inl (.inr ⟨o, h⟩)
def NewT (H : Hp) (xs : List V) (Q : VK) : Prop := ∀ p o, H p = none → o.dict = none → Q (.ref p) (upd H p (.frz o (.tup xs)))
theorem NewT.laid {X : Cx} {pins : List (Addr × Obj)} {σ : L2.St} {H : Hp} {s : Shared} {Q : VK} {xs : List V} {its : List Value} {t' : Nat} (I : Inv X pins σ H s) (hv : Vals xs its) (hz : xs.length ≤ sizeLine) (q : NewT H xs Q) :
    EP X pins σ Q (.ref s.heap.objs.size) { s with heap := s.heap.push { cls := .type "tuple", data := .seq its.toArray }, toks := t' } := by
  have hf : H s.heap.objs.size = none := I.hok.fresh (Nat.le_refl _)
  refine ⟨.ref s.heap.objs.size, upd H s.heap.objs.size (.frz { cls := .type "tuple", data := .seq its.toArray } (.tup xs)), I.laid (t' := t') (fun b u e => Heap.get?_push_of_some _ e) (Nat.le_refl _) ?_, rfl, q _ _ hf rfl⟩
  exact ⟨Heap.get?_push_size _ rfl, hz, its, hv, IsTup.new _ _⟩
theorem pe_tupN {X : Cx} {es : List Expr} {t : TA} {x1} {pos : Pos} (h : PA X es t) : PE X (.Tuple es x1 pos) (fun σ H Q => t σ H fun xs H1 => xs.length ≤ sizeLine ∧ NewT H1 xs Q) :=
  ⟨fun pins s σ H Q I hq => wpAny_Tuple_spliced (thn (h.run pos pins s σ H _ I hq) fun us s1 ⟨xs, H1, I1, r, z, q⟩ => ⟨by rw [← r.length]; exact z, q.laid (t' := s1.toks) I1 r z⟩)⟩
theorem PO1.newLst {xs : List V} {ds : List PyData} (h : PO1 K ι st H Q (.v (.list ds)) st) (R : SRel K ι st H) (r : RpA (Frz ι st) H xs ds) {p : Addr} (hp : H p = none) (hf : HF (upd H p (.lst xs))) : Q (.ref p) (upd H p (.lst xs)) :=
  h ι _ _ (R.fresh hp hf) (Ext.fresh R hp) (.lst upd_same (R.frz_new hp) (r.ext (Ext.fresh R hp)))
end
def viewL (st : Sto) : D → Option (List PyData)
  | .v (.list xs) => some xs
  | .ref n => match st[n]? with
    | some (.lst xs) => some xs
    | _ => none
  | _ => none
def viewS (st : Sto) : D → Option (List PyData)
  | .v (.tuple xs) => some xs
  | d => viewL st d
def viewP (st : Sto) : D → Option PyData
  | .v d => some d
  | d => (viewL st d).map .list
theorem viewL_at {K : PySem.W.Frag} {ι : Gh} {st : Sto} {H : Hp} (R : SRel K ι st H) {x : V} {d : D} {ds : List PyData} (e : viewL st d = some ds) (r : RD K ι st H x d) : ∃ a xs, x = .ref a ∧ H a = some (.lst xs) ∧ RpA (Frz ι st) H xs ds := by
  cases d with
  | v z =>
    cases z with
    | list zs =>
      have e' : zs = ds := Option.some.inj e
      subst e'
      have r' : Rp (Frz ι st) H x (.list zs) := r
      cases r' with
      | lst h _ t => exact ⟨_, _, rfl, h, t⟩
    | _ => cases e
  | scr ns => cases e
  | ref n =>
    obtain ⟨a, h1, h2⟩ := r
    cases q : st[n]? with
    | none =>
      simp only [viewL, q] at e
      cases e
    | some o =>
      simp only [viewL, q] at e
      cases o with
      | lst zs =>
        have e' : zs = ds := Option.some.inj e
        subst e'
        obtain ⟨xs, e1, r⟩ := R.obj n _ a q h1
        exact ⟨a, xs, h2, e1, r⟩
      | dead => cases e
      | dct _ _ => cases e
      | lck _ _ => cases e
      | tpl _ => cases e
      | tab _ => cases e
theorem viewS_at {K : PySem.W.Frag} {ι : Gh} {st : Sto} {H : Hp} (R : SRel K ι st H) {x : V} {d : D} {ds : List PyData} (e : viewS st d = some ds) (r : RD K ι st H x d) :
    ∃ a xs, x = .ref a ∧ (H a = some (.lst xs) ∨ KTup H a xs) ∧ RpA (Frz ι st) H xs ds := by
  have other : viewL st d = some ds → ∃ a xs, x = .ref a ∧ (H a = some (.lst xs) ∨ KTup H a xs) ∧ RpA (Frz ι st) H xs ds := fun q =>
    let ⟨a, xs, h1, h2, h3⟩ := viewL_at R q r
    ⟨a, xs, h1, .inl h2, h3⟩
  cases d with
  | v z =>
    cases z with
    | tuple zs =>
      have e' : zs = ds := Option.some.inj e
      subst e'
      have r' : Rp (Frz ι st) H x (.tuple zs) := r
      cases r' with
      | tup h z _ t => exact ⟨_, _, rfl, .inr ⟨_, h, z⟩, t⟩
    | list _ => exact other e
    | _ => cases e
  | ref n => exact other e
  | scr ns => exact other e
theorem viewS_atF {K : PySem.W.Frag} {ι : Gh} {st : Sto} {H : Hp} (R : SRel K ι st H) {x : V} {d : D} {ds : List PyData} (e : viewS st d = some ds) (r : RD K ι st H x d) :
    ∃ a xs, x = .ref a ∧ (H a = some (.lst xs) ∨ KTup H a xs ∧ Frz ι st a) ∧ RpA (Frz ι st) H xs ds := by
  have other : viewL st d = some ds → ∃ a xs, x = .ref a ∧ (H a = some (.lst xs) ∨ KTup H a xs ∧ Frz ι st a) ∧ RpA (Frz ι st) H xs ds := fun q =>
    let ⟨a, xs, h1, h2, h3⟩ := viewL_at R q r
    ⟨a, xs, h1, .inl h2, h3⟩
  cases d with
  | v z =>
    cases z with
    | tuple zs =>
      have e' : zs = ds := Option.some.inj e
      subst e'
      have r' : Rp (Frz ι st) H x (.tuple zs) := r
      cases r' with
      | tup h z f t => exact ⟨_, _, rfl, .inr ⟨⟨_, h, z⟩, f⟩, t⟩
    | list _ => exact other e
    | _ => cases e
  | ref n => exact other e
  | scr ns => exact other e
mutual
theorem Rp.dp {K : PySem.W.Frag} {F : Addr → Prop} {H : Hp} : ∀ {x : V} {d : PyData}, Rp F H x d → d.hasDict = false → Dp K H x d
  | _, _, .non, _ => .non
  | _, _, .bl b, _ => .bl b
  | _, _, .int i, _ => .int i
  | _, _, .str z, _ => .str z
  | _, _, .lst h _ r, q => .lst (.of h) (RpA.dp r (by simpa [PyData.hasDict] using q))
  | _, _, .tup h _ _ r, q => .tup (.inl (.inr ⟨_, h⟩)) (RpA.dp r (by simpa [PyData.hasDict] using q))
  | _, _, .dcK _ _ _, q => by simp [PyData.hasDict] at q
  | _, _, .dcT _ _ _ _, q => by simp [PyData.hasDict] at q
theorem RpA.dp {K : PySem.W.Frag} {F : Addr → Prop} {H : Hp} : ∀ {xs : List V} {ds : List PyData}, RpA F H xs ds → PyData.hasDictAll ds = false → DpAll K H xs ds
  | _, _, .nil, _ => .nil
  | _, _, .cons h r, q => by
    have q' := q
    simp only [PyData.hasDictAll, Bool.or_eq_false_iff] at q'
    exact .cons (Rp.dp h q'.1) (RpA.dp r q'.2)
end
theorem viewP_at {K : PySem.W.Frag} {ι : Gh} {st : Sto} {H : Hp} (R : SRel K ι st H) {x : V} {d : D} {z : PyData} (e : viewP st d = some z) (r : RD K ι st H x d) (hn : z.hasDict = false) : Dp K H x z := by
  have other : (viewL st d).map PyData.list = some z → Dp K H x z := fun q => by
    obtain ⟨ds, q1, rfl⟩ := Option.map_eq_some_iff.mp q
    obtain ⟨a, xs, rfl, h2, h3⟩ := viewL_at R q1 r
    exact .lst (.of h2) (h3.dp (by simpa [PyData.hasDict] using hn))
  cases d with
  | v d =>
    cases e
    exact Rp.dp r hn
  | ref n => exact other e
  | scr ns => exact other e
def mVar (i : Nat) : ME := fun env st => match env[i]? with
  | some (some d) => .ok d st
  | _ => .stuck
def mC (d : PyData) : ME := fun _ st => .ok (.v d) st
abbrev F1 := D → Sto → Out D
abbrev F2 := D → D → Sto → Out D
abbrev FA := List D → Sto → Out D
def mUn (f : F1) (ma : ME) : ME := fun env st => (ma env st).bind fun a s1 => f a s1
def mBin (f : F2) (ma mb : ME) : ME := fun env st => (ma env st).bind fun a s1 => (mb env s1).bind fun b s2 => f a b s2
def mArg (f : FA) (ma : MA) : ME := fun env st => (ma env st).bind fun ds s1 => f ds s1
def mNil : MA := fun _ st => .ok [] st
def mCons (ma : ME) (mr : MA) : MA := fun env st => (ma env st).bind fun a s1 => (mr env s1).bind fun ds s2 => .ok (a :: ds) s2
def Op2 (K : PySem.W.Frag) (W : XW) (r : R2) (f : F2) : Prop := ∀ (ι : Gh) (st : Sto) (H : Hp) (x y : V) (a b : D) (Q : VK), SRel K ι st H → RD K ι st H x a → RD K ι st H y b →
  (f a b st).post (PO1 K ι st H Q) (PX1 K W ι st H) → r x y H (fun v H' => HF H' → Q v H')
def OpA (K : PySem.W.Frag) (W : XW) (r : List V → Hp → VK → Prop) (f : FA) : Prop := ∀ (ι : Gh) (st : Sto) (H : Hp) (xs : List V) (ds : List D) (Q : VK), SRel K ι st H → RDs K ι st H xs ds →
  (f ds st).post (PO1 K ι st H Q) (PX1 K W ι st H) → r xs H (fun v H' => HF H' → Q v H')
section
variable {K : PySem.W.Frag} {W : XW} {σ : L2.St} {H : Hp} {Q : VK} {ma mb : ME}
theorem te_bin {r : R2} {f : F2} (hf : Op2 K W r f) (h : TEo K W (mBin f ma mb) σ H Q) : tOp r (TEo K W ma) (TEo K W mb) σ H (fun v H' => HF H' → Q v H') := by
  obtain ⟨ι, env, st, R, EV, p⟩ := h
  refine ⟨ι, env, st, R, EV, Out.post_mono (Out.post_bind p) (fun a s1 q ι1 H1 x R1 E1 ra => ?_) fun _ _ q => q⟩
  refine ⟨ι1, env, s1, R1, EV.ext E1, Out.post_mono (Out.post_bind q) (fun b s2 q2 ι2 H2 y R2 E2 rb => ?_) fun _ _ z => z.ext E1⟩
  exact hf ι2 s2 H2 x y a b Q R2 (ra.ext E2) rb (Out.post_mono q2 (fun _ _ z => (z.ext E1).ext E2) fun _ _ z => (z.ext E1).ext E2)
theorem te_arg {r : List V → Hp → VK → Prop} {f : FA} {m : MA} (hf : OpA K W r f) (h : TEo K W (mArg f m) σ H Q) : TAo K W m σ H fun xs H1 => r xs H1 (fun v H' => HF H' → Q v H') := by
  obtain ⟨ι, env, st, R, EV, p⟩ := h
  refine ⟨ι, env, st, R, EV, Out.post_mono (Out.post_bind p) (fun a s1 q ι1 H1 x R1 E1 ra => ?_) fun _ _ q => q⟩
  exact hf ι1 s1 H1 x a Q R1 ra (Out.post_mono q (fun _ _ z => z.ext E1) fun _ _ z => z.ext E1)
end
section
variable {X : Cx} {W : XW} {a b e : Expr} {es : List Expr} {ma mb : ME} {pos : Pos}
theorem x_var (i : Nat) {x : Str} (h : PE X (.Name x pos) (tVar i)) : PE X (.Name x pos) (TEo X.K W (mVar i)) := pe_wrap h fun σ H Q q => by
  obtain ⟨ι, env, st, R, EV, p⟩ := q
  unfold mVar at p
  cases e : env[i]? with
  | none => rw [e] at p; exact p.elim
  | some o =>
    rw [e] at p
    cases o with
    | none => exact p.elim
    | some d =>
      obtain ⟨x, h1, h2⟩ := EV.2 i d e
      exact ⟨x, h1, fun _ => p ι H x R Ext.refl h2⟩
theorem x_const {v : V} {d : PyData} (h : PE X e (tC v)) (r : ∀ F H, Rp F H v d) : PE X e (TEo X.K W (mC d)) := pe_wrap h fun σ H Q q => by
  obtain ⟨ι, env, st, R, EV, p⟩ := q
  exact fun _ => p ι H v R Ext.refl (r _ _)
theorem x_int {i : Int} {j} : PE X (.Constant (.int i) j pos) (TEo X.K W (mC (.int i))) := x_const pe_int fun _ _ => .int i
theorem x_bl {i : Bool} {j} : PE X (.Constant (.bool i) j pos) (TEo X.K W (mC (.bool i))) := x_const pe_bl fun _ _ => .bl i
theorem x_non {j} : PE X (.Constant .none j pos) (TEo X.K W (mC .none)) := x_const pe_non fun _ _ => .non
theorem x_str {z : Str} {j} : PE X (.Constant (.str z) j pos) (TEo X.K W (mC (.str z))) := x_const pe_str fun _ _ => .str z
theorem x_op {op : Operator} {r : R2} {f : F2} (ho : OpR X (binaryOp op) r) (hf : Op2 X.K W r f) (ha : PE X a (TEo X.K W ma)) (hb : PE X b (TEo X.K W mb)) : PE X (.BinOp a op b pos) (TEo X.K W (mBin f ma mb)) :=
  pe_wrap (pe_op ho ha hb) fun σ H Q q => te_bin hf q
theorem xa_nil : PA X [] (TAo X.K W mNil) := pa_wrap pa_nil fun σ H Q q => by
  obtain ⟨ι, env, st, R, EV, p⟩ := q
  exact fun _ => p ι H [] R Ext.refl .nil
theorem xa_cons {mr : MA} (ha : PE X e (TEo X.K W ma)) (hr : PA X es (TAo X.K W mr)) (hs : starEach (e :: es) X.env = (false, eval e X.env) :: starEach es X.env := by rfl) : PA X (e :: es) (TAo X.K W (mCons ma mr)) :=
  pa_wrap (pa_cons ha hr hs) fun σ H Q q => by
    obtain ⟨ι, env, st, R, EV, p⟩ := q
    refine ⟨ι, env, st, R, EV, Out.post_mono (Out.post_bind p) (fun a s1 q ι1 H1 x R1 E1 ra => ?_) fun _ _ q => q⟩
    refine ⟨ι1, env, s1, R1, EV.ext E1, Out.post_mono (Out.post_bind q) (fun b s2 q2 ι2 H2 y R2 E2 rb => ?_) fun _ _ z => z.ext E1⟩
    exact fun _ => q2 ι2 H2 (x :: y) R2 (E1.trans E2) (.cons (ra.ext E2) rb)
theorem x_callB {id : String} {x : Str} {p : Pos} {r : List V → Hp → VK → Prop} {f : FA} {m : MA} (hc : CallR X (.builtin id) r) (hf : OpA X.K W r f) (hg : Gl X x) (hm : X.mg x = none) (hv : bootBuiltins x = some (.builtin id)) (ha : PA X (e :: es) (TAo X.K W m)) (hn : x ≠ "__name__" := by decide) (hdb : (x == ("__debug__" : Str)) = false := by decide)
    (he : starEach (e :: es) X.env = (false, eval e X.env) :: starEach es X.env := by rfl) (hpl : (backTo pos (starEach es X.env)).any (·.1) = false := by rfl) : PE X (.Call (.Name x p) (e :: es) [] pos) (TEo X.K W (mArg f m)) :=
  pe_wrap (pe_callB hc hg hm hv ha hn hdb he hpl) fun σ H Q q => te_arg hf q
theorem x_callT {T : String} {x : Str} {p : Pos} {r : List V → Hp → VK → Prop} {f : FA} {m : MA} (hc : CallR X (.type T) r) (hf : OpA X.K W r f) (hg : Gl X x) (hm : X.mg x = none) (hv : bootBuiltins x = some (.type T)) (ha : PA X (e :: es) (TAo X.K W m)) (hn : x ≠ "__name__" := by decide) (hdb : (x == ("__debug__" : Str)) = false := by decide)
    (he : starEach (e :: es) X.env = (false, eval e X.env) :: starEach es X.env := by rfl) (hpl : (backTo pos (starEach es X.env)).any (·.1) = false := by rfl) : PE X (.Call (.Name x p) (e :: es) [] pos) (TEo X.K W (mArg f m)) :=
  pe_wrap (pe_callTy hc hg hm hv ha hn hdb he hpl) fun σ H Q q => te_arg hf q
def valsOf : List D → Option (List PyData)
  | [] => some []
  | .v d :: r => (valsOf r).map (d :: ·)
  | _ :: _ => none
def fTup : FA := fun ds st => match valsOf ds with
  | some zs => if zs.length ≤ 1000 then .ok (.v (.tuple zs)) st else .stuck
  | none => .stuck
theorem lim1000 {n : Nat} (h : n ≤ 1000) : n ≤ sizeLine := Nat.le_of_lt (small1000 h)
theorem valsOf_at {K : PySem.W.Frag} {ι : Gh} {st : Sto} {H : Hp} : ∀ {ds : List D} {zs : List PyData} {xs : List V}, valsOf ds = some zs → RDs K ι st H xs ds → RpA (Frz ι st) H xs zs
  | [], _, _, e, .nil => by cases e; exact .nil
  | .v d :: r, _, _, e, .cons h t => by
    obtain ⟨ws, e1, rfl⟩ := Option.map_eq_some_iff.mp (show (valsOf r).map (d :: ·) = _ from e)
    exact .cons h (valsOf_at e1 t)
theorem xs_len {F : Addr → Prop} {H : Hp} {xs : List V} {ds : List PyData} (r : RpA F H xs ds) {n : Nat} (h : ds.length ≤ n) : xs.length ≤ n := by
  rw [r.length]
  exact h
theorem opTup {K : PySem.W.Frag} {W : XW} : OpA K W (fun xs H Q => xs.length ≤ sizeLine ∧ NewT H xs Q) fTup := by
  intro ι st H xs ds Q R r p
  unfold fTup at p
  cases e : valsOf ds with
  | none => rw [e] at p; exact p.elim
  | some zs =>
    rw [e] at p
    have p : (if zs.length ≤ 1000 then Out.ok (D.v (.tuple zs)) st else .stuck).post (PO1 K ι st H Q) (PX1 K W ι st H) := p
    split at p
    · rename_i hl
      have ra := valsOf_at e r
      exact ⟨lim1000 (xs_len ra hl), fun q o hq ho hf => PO1.newTup p R ra hq ho hf⟩
    · exact p.elim
theorem x_tup {k : Nat} {m : MA} (h : PA X es (TAo X.K W m)) : PE X (.Tuple es k pos) (TEo X.K W (mArg fTup m)) := pe_wrap (pe_tupN h) fun σ H Q q => te_arg opTup q
theorem RDs.length {K : PySem.W.Frag} {ι : Gh} {st : Sto} {H : Hp} {xs : List V} {ds : List D} (h : RDs K ι st H xs ds) : xs.length = ds.length := Paired.length h
end
end Fw
namespace Fw
open PySem PySem.Spec PyProof.Rows L2
def iOf : D → Option Int
  | .v (.int i) => some i
  | _ => none
def bOf : D → Option Bool
  | .v (.bool b) => some b
  | _ => none
def sOf : D → Option Str
  | .v (.str z) => some z
  | _ => none
def tOf : D → Option (List PyData)
  | .v (.tuple xs) => some xs
  | _ => none
def lim : Nat := 1000000
theorem lim_ok {n : Nat} (h : n ≤ lim) : n ≤ sizeLine := Nat.le_trans h (by decide)
section
variable {K : PySem.W.Frag} {W : XW} {ι : Gh} {st : Sto} {H : Hp} {x : V} {d : D}
theorem iOf_at {i : Int} (e : iOf d = some i) (r : RD K ι st H x d) : x = .int i := by
  cases d with
  | v z =>
    cases z with
    | int j =>
      have e' : j = i := Option.some.inj e
      subst e'
      have r' : Rp (Frz ι st) H x (.int j) := r
      cases r'
      rfl
    | _ => cases e
  | _ => cases e
theorem bOf_at {i : Bool} (e : bOf d = some i) (r : RD K ι st H x d) : x = .bl i := by
  cases d with
  | v z =>
    cases z with
    | bool j =>
      have e' : j = i := Option.some.inj e
      subst e'
      have r' : Rp (Frz ι st) H x (.bool j) := r
      cases r'
      rfl
    | _ => cases e
  | _ => cases e
theorem sOf_at {i : Str} (e : sOf d = some i) (r : RD K ι st H x d) : x = .str i := by
  cases d with
  | v z =>
    cases z with
    | str j =>
      have e' : j = i := Option.some.inj e
      subst e'
      have r' : Rp (Frz ι st) H x (.str j) := r
      cases r'
      rfl
    | _ => cases e
  | _ => cases e
theorem tOf_at {ds : List PyData} (e : tOf d = some ds) (r : RD K ι st H x d) : ∃ a xs, x = .ref a ∧ KTup H a xs ∧ RpA (Frz ι st) H xs ds := by
  cases d with
  | v z =>
    cases z with
    | tuple zs =>
      have e' : zs = ds := Option.some.inj e
      subst e'
      have r' : Rp (Frz ι st) H x (.tuple zs) := r
      cases r' with
      | tup h z _ t => exact ⟨_, _, rfl, ⟨_, h, z⟩, t⟩
    | _ => cases e
  | _ => cases e
theorem tOf_eq {ds : List PyData} (e : tOf d = some ds) : d = .v (.tuple ds) := by
  cases d with
  | v z =>
    cases z with
    | tuple zs =>
      have e' : zs = ds := Option.some.inj e
      subst e'
      rfl
    | _ => cases e
  | _ => cases e
end
def addD : F2 := fun a b st =>
  match iOf a, iOf b with
  | some i, some j => .ok (.v (.int (i + j))) st
  | _, _ => match tOf a, tOf b with
    | some xs, some ys => if xs.length + ys.length ≤ lim then .ok (.v (.tuple (xs ++ ys))) st else .stuck
    | _, _ => match viewL st a, viewL st b with
      | some xs, some ys => if xs.length + ys.length ≤ lim then .ok (.v (.list (xs ++ ys))) st else .stuck
      | _, _ => match sOf a, sOf b with
        | some y, some z => if y.length + z.length ≤ lim then .ok (.v (.str (y ++ z))) st else .stuck
        | _, _ => .stuck
def rStrAdd : R2 := fun x y H Q => ∃ i j, x = .str i ∧ y = .str j ∧ i.length + j.length ≤ sizeLine ∧ Q (.str (i ++ j)) H
def rCatN (K : PySem.W.Frag) : R2 := fun x y H Q => ∃ a b xs ys, x = .ref a ∧ y = .ref b ∧ SqT K H a xs ∧ SqT K H b ys ∧ xs.length + ys.length ≤ sizeLine ∧
  (xs = [] → Q (.ref b) H) ∧ (xs ≠ [] → ys = [] → Q (.ref a) H) ∧ (xs ≠ [] → ys ≠ [] → NewT H (xs ++ ys) Q)
theorem op_catN {X : Cx} : OpR X (binaryOp .Add) (rCatN X.K) := by
  intro pins s σ H x y v u Q I rx ry h
  obtain ⟨a, b, xs, ys, rfl, rfl, ha, hb, hz, q0, q1, q2⟩ := h
  cases rx
  cases ry
  obtain ⟨its, r1, p1, _⟩ := I.tuple ha
  obtain ⟨its2, r2, p2, _⟩ := I.tuple hb
  by_cases hx : xs = []
  · subst hx
    cases r1
    exact cat_tup0 p1 p2 ⟨.ref b, H, I, rfl, q0 rfl⟩
  · refine HT.cat_tup p1 p2 (fun z => hx (r1.nil_iff.mp z)) (fun z => ⟨.ref a, H, I, rfl, q1 hx (r2.nil_iff.mp z)⟩) (fun z => ?_) ?_
    · exact (q2 hx fun w => z (r2.nil_iff.mpr w)).laid (t' := s.toks) I (r1.append r2) (by rw [List.length_append]; exact hz)
    · rw [← r1.length, ← r2.length]
      exact hz
def rAddU (K : PySem.W.Frag) : R2 := fun x y H Q => rI0 (fun i j => .int (i + j)) x y H Q ∨ rCatN K x y H Q ∨ rCat x y H Q ∨ rStrAdd x y H Q
theorem or_addU {X : Cx} : OpR X (binaryOp .Add) (rAddU X.K) := op_add.or (op_catN.or (op_cat.or op_add_str))
theorem op2_add {K : PySem.W.Frag} {W : XW} : Op2 K W (rAddU K) addD := by
  intro ι st H x y a b Q R ra rb p
  unfold addD at p
  split at p
  · rename_i i j e1 e2
    exact .inl ⟨i, j, iOf_at e1 ra, iOf_at e2 rb, fun _ => p.same R (.int _)⟩
  · split at p
    · rename_i xs ys e1 e2
      split at p
      · rename_i hl
        obtain ⟨a1, us, rfl, h1, r1⟩ := tOf_at e1 ra
        obtain ⟨b1, vs, rfl, h2, r2⟩ := tOf_at e2 rb
        have hz : us.length + vs.length ≤ sizeLine := by rw [r1.length, r2.length]; exact lim_ok hl
        refine .inr (.inl ⟨a1, b1, us, vs, rfl, rfl, h1.sq, h2.sq, hz, fun z => ?_, fun _ z => ?_, fun _ _ q o hq ho hf => ?_⟩)
        · subst z
          cases r1
          intro _
          rw [tOf_eq e2] at rb
          exact p.same R rb
        · subst z
          cases r2
          intro _
          rw [tOf_eq e1] at ra
          rw [List.append_nil] at p
          exact p.same R ra
        · exact p.newTup R (r1.append r2) hq ho hf
      · exact p.elim
    · split at p
      · rename_i xs ys e1 e2
        split at p
        · rename_i hl
          obtain ⟨a1, us, rfl, h1, r1⟩ := viewL_at R e1 ra
          obtain ⟨b1, vs, rfl, h2, r2⟩ := viewL_at R e2 rb
          have hz : us.length + vs.length ≤ sizeLine := by rw [r1.length, r2.length]; exact lim_ok hl
          exact .inr (.inr (.inl ⟨a1, b1, us, vs, rfl, rfl, h1, h2, hz, fun q hq hf => p.newLst R (r1.append r2) hq hf⟩))
        · exact p.elim
      · split at p
        · rename_i y1 z1 e1 e2
          split at p
          · rename_i hl
            exact .inr (.inr (.inr ⟨y1, z1, sOf_at e1 ra, sOf_at e2 rb, lim_ok hl, fun _ => p.same R (.str _)⟩))
          · exact p.elim
        · exact p.elim
def intD (C : Int → Int → Bool) (g : Int → Int → PyData) : F2 := fun a b st => match iOf a, iOf b with
  | some i, some j => if C i j then .ok (.v (g i j)) st else .stuck
  | _, _ => .stuck
theorem op2_int {K : PySem.W.Frag} {W : XW} {C : Int → Int → Bool} {C' : Int → Int → Prop} {g : Int → Int → PyData} {g' : Int → Int → V} (hc : ∀ i j, C i j = true → C' i j) (hg : ∀ F H i j, Rp F H (g' i j) (g i j)) : Op2 K W (rI C' g') (intD C g) := by
  intro ι st H x y a b Q R ra rb p
  unfold intD at p
  split at p
  · rename_i i j e1 e2
    split at p
    · rename_i h
      exact ⟨i, j, iOf_at e1 ra, iOf_at e2 rb, hc i j h, fun _ => p.same R (hg _ _ i j)⟩
    · exact p.elim
  · exact p.elim
def intD0 (g : Int → Int → PyData) : F2 := fun a b st => match iOf a, iOf b with
  | some i, some j => .ok (.v (g i j)) st
  | _, _ => .stuck
theorem op2_int0 {K : PySem.W.Frag} {W : XW} {g : Int → Int → PyData} {g' : Int → Int → V} (hg : ∀ F H i j, Rp F H (g' i j) (g i j)) : Op2 K W (rI0 g') (intD0 g) := by
  intro ι st H x y a b Q R ra rb p
  unfold intD0 at p
  split at p
  · rename_i i j e1 e2
    exact ⟨i, j, iOf_at e1 ra, iOf_at e2 rb, fun _ => p.same R (hg _ _ i j)⟩
  · exact p.elim
abbrev subD : F2 := intD0 fun i j => .int (i - j)
def cMul (i j : Int) : Bool := (decide (-(2 ^ 64) < i) && decide (i < 2 ^ 64)) || (decide (-(2 ^ 64) < j) && decide (j < 2 ^ 64))
theorem cMul_ok {i j : Int} (h : cMul i j = true) : CMul i j := by
  unfold cMul at h
  simp only [Bool.or_eq_true, Bool.and_eq_true, decide_eq_true_eq] at h
  exact h
def mulD : F2 := fun a b st => match iOf a, iOf b with
  | some i, some j => if cMul i j then .ok (.v (.int (i * j))) st else .stuck
  | _, _ => match viewL st a, iOf b with
    | some xs, some k => if -1000000 ≤ k ∧ k ≤ 1000000 ∧ xs.length * k.toNat ≤ lim then .ok (.v (.list (List.replicate k.toNat xs).flatten)) st else .stuck
    | _, _ => .stuck
theorem op2_mul {K : PySem.W.Frag} {W : XW} : Op2 K W (fun x y H Q => rI CMul (fun i j => .int (i * j)) x y H Q ∨ rRep x y H Q) mulD := by
  intro ι st H x y a b Q R ra rb p
  unfold mulD at p
  split at p
  · rename_i i j e1 e2
    split at p
    · rename_i h
      exact .inl ⟨i, j, iOf_at e1 ra, iOf_at e2 rb, cMul_ok h, fun _ => p.same R (.int _)⟩
    · exact p.elim
  · split at p
    · rename_i xs k e1 e2
      split at p
      · rename_i h
        obtain ⟨a1, us, rfl, h1, r1⟩ := viewL_at R e1 ra
        refine .inr ⟨a1, k, us, rfl, iOf_at e2 rb, h1, by omega, by omega, by rw [r1.length]; exact lim_ok h.2.2, fun q hq hf => p.newLst R (r1.rep _) hq hf⟩
      · exact p.elim
    · exact p.elim
def cDiv (i j : Int) : Bool := decide (j ≠ 0) && decide (j.natAbs < 1073741824)
theorem cDiv_ok {i j : Int} (h : cDiv i j = true) : CDivN i j := by
  unfold cDiv at h
  simp only [Bool.and_eq_true, decide_eq_true_eq] at h
  exact h
abbrev fdivD : F2 := intD cDiv fun i j => .int (i.fdiv j)
abbrev modD : F2 := intD (fun _ j => decide (j ≠ 0)) fun i j => .int (i.fmod j)
section
variable {X : Cx} {W : XW} {a b e : Expr} {ma mb : ME} {pos : Pos}
theorem x_add (ha : PE X a (TEo X.K W ma)) (hb : PE X b (TEo X.K W mb)) : PE X (.BinOp a .Add b pos) (TEo X.K W (mBin addD ma mb)) := x_op or_addU op2_add ha hb
theorem x_sub (ha : PE X a (TEo X.K W ma)) (hb : PE X b (TEo X.K W mb)) : PE X (.BinOp a .Sub b pos) (TEo X.K W (mBin subD ma mb)) := x_op op_sub (op2_int0 fun _ _ _ _ => .int _) ha hb
theorem x_mul (ha : PE X a (TEo X.K W ma)) (hb : PE X b (TEo X.K W mb)) : PE X (.BinOp a .Mult b pos) (TEo X.K W (mBin mulD ma mb)) := x_op (op_mul.or op_rep) op2_mul ha hb
theorem x_fdiv (ha : PE X a (TEo X.K W ma)) (hb : PE X b (TEo X.K W mb)) : PE X (.BinOp a .FloorDiv b pos) (TEo X.K W (mBin fdivD ma mb)) := x_op op_fdivN (op2_int (fun _ _ => cDiv_ok) fun _ _ _ _ => .int _) ha hb
theorem x_mod (ha : PE X a (TEo X.K W ma)) (hb : PE X b (TEo X.K W mb)) : PE X (.BinOp a .Mod b pos) (TEo X.K W (mBin modD ma mb)) := x_op op_modN (op2_int (fun _ _ h => of_decide_eq_true h) fun _ _ _ _ => .int _) ha hb
end
def negD : F1 := fun a st => match iOf a with
  | some i => .ok (.v (.int (-i))) st
  | none => .stuck
abbrev ltD : F2 := intD0 fun i j => .bool (decide (i < j))
abbrev leD : F2 := intD0 fun i j => .bool (decide (i ≤ j))
abbrev gtD : F2 := intD0 fun i j => .bool (decide (j < i))
abbrev geD : F2 := intD0 fun i j => .bool (decide (j ≤ i))
def eqT (st : Sto) (a b : D) : Option Bool := match viewP st a, viewP st b with
  | some x, some y => if SeqAt.shaped x && SeqAt.shaped y then some (PyData.eqv x y) else none
  | _, _ => none
def eqS (st : Sto) (a b : D) : Option Bool := match sOf a, sOf b with
  | some x, some y => some (decide (x = y))
  | _, _ => eqT st a b
def eqD : F2 := fun a b st => match eqS st a b with
  | some k => .ok (.v (.bool k)) st
  | none => .stuck
def neD : F2 := fun a b st => match eqS st a b with
  | some k => .ok (.v (.bool (!k))) st
  | none => .stuck
theorem noDict_of {z : PyData} (h : SeqAt.shaped z = true) : z.hasDict = false := PyData.hasDict_of_canLay _ (SeqAt.canLay_of_shaped h)
theorem eqT_at {K : PySem.W.Frag} {ι : Gh} {st : Sto} {H : Hp} (R : SRel K ι st H) {a b : D} {x y : V} {k : Bool} (e : eqT st a b = some k) (ra : RD K ι st H x a) (rb : RD K ι st H y b) :
    ∃ d e, Dp K H x d ∧ Dp K H y e ∧ SeqAt.shaped d = true ∧ SeqAt.shaped e = true ∧ PyData.eqv d e = k := by
  unfold eqT at e
  split at e
  · rename_i z w e1 e2
    split at e
    · rename_i h
      rw [Bool.and_eq_true] at h
      exact ⟨z, w, viewP_at R e1 ra (noDict_of h.1), viewP_at R e2 rb (noDict_of h.2), h.1, h.2, Option.some.inj e⟩
    · cases e
  · cases e
theorem eqS_at {K : PySem.W.Frag} {ι : Gh} {st : Sto} {H : Hp} (R : SRel K ι st H) {a b : D} {x y : V} {k : Bool} (e : eqS st a b = some k) (ra : RD K ι st H x a) (rb : RD K ι st H y b) :
    (scal x y = true ∧ decide (x = y) = k) ∨ ∃ d e, Dp K H x d ∧ Dp K H y e ∧ SeqAt.shaped d = true ∧ SeqAt.shaped e = true ∧ PyData.eqv d e = k := by
  unfold eqS at e
  split at e
  · rename_i z w e1 e2
    have q1 := sOf_at e1 ra
    have q2 := sOf_at e2 rb
    subst q1 q2
    refine .inl ⟨rfl, ?_⟩
    rw [dec_str, ← Option.some.inj e]
    by_cases h : z = w
    · subst h; simp
    · rw [decide_eq_false h]; exact beq_eq_false_iff_ne.mpr h
  · exact .inr (eqT_at R e ra rb)
def rEqU (K : PySem.W.Frag) : R2 := fun x y H Q => rEq x y H Q ∨ rEqD K x y H Q
def rNeU (K : PySem.W.Frag) : R2 := fun x y H Q => rNe x y H Q ∨ rNeD K x y H Q
theorem op2_eq {K : PySem.W.Frag} {W : XW} : Op2 K W (rEqU K) eqD := by
  intro ι st H x y a b Q R ra rb p
  unfold eqD at p
  split at p
  · rename_i k e
    rcases eqS_at R e ra rb with ⟨h1, h2⟩ | ⟨d, e', h1, h2, h3, h4, h5⟩
    · exact .inl ⟨h1, fun _ => by rw [h2]; exact p.same R (.bl _)⟩
    · exact .inr ⟨d, e', h1, h2, h3, h4, fun _ => by rw [h5]; exact p.same R (.bl _)⟩
  · exact p.elim
theorem op2_ne {K : PySem.W.Frag} {W : XW} : Op2 K W (rNeU K) neD := by
  intro ι st H x y a b Q R ra rb p
  unfold neD at p
  split at p
  · rename_i k e
    rcases eqS_at R e ra rb with ⟨h1, h2⟩ | ⟨d, e', h1, h2, h3, h4, h5⟩
    · exact .inl ⟨h1, fun _ => by rw [h2]; exact p.same R (.bl _)⟩
    · exact .inr ⟨d, e', h1, h2, h3, h4, fun _ => by rw [h5]; exact p.same R (.bl _)⟩
  · exact p.elim
def isS : D → D → Option Bool
  | .v (.bool a), .v (.bool b) => some (decide (a = b))
  | a, .v .none => some (match a with | .v .none => true | _ => false)
  | _, _ => none
def isD : F2 := fun a b st => match isS a b with
  | some k => .ok (.v (.bool k)) st
  | none => .stuck
def isNotD : F2 := fun a b st => match isS a b with
  | some k => .ok (.v (.bool (!k))) st
  | none => .stuck
def rIsU : R2 := fun x y H Q => rIsB x y H Q ∨ (y = .non ∧ Q (.bl (decide (x = .non))) H)
def rIsNotU : R2 := fun x y H Q => rNotB x y H Q ∨ (y = .non ∧ Q (.bl (!decide (x = .non))) H)
theorem isNone_at {K : PySem.W.Frag} {ι : Gh} {st : Sto} {H : Hp} {x : V} : ∀ {d : D}, RD K ι st H x d → decide (x = .non) = (match d with | .v .none => true | _ => false)
  | .v z, r => by
    have r' : Rp (Frz ι st) H x z := r
    cases r' <;> rfl
  | .ref n, ⟨a, _, h⟩ => by rw [h]; rfl
  | .scr ns, ⟨a, h, _⟩ => by rw [h]; rfl
theorem isS_at {K : PySem.W.Frag} {ι : Gh} {st : Sto} {H : Hp} {a b : D} {x y : V} {k : Bool} (e : isS a b = some k) (ra : RD K ι st H x a) (rb : RD K ι st H y b) :
    (∃ i j : Bool, x = .bl i ∧ y = .bl j ∧ decide (i = j) = k) ∨ (y = .non ∧ decide (x = .non) = k) := by
  unfold isS at e
  split at e
  · rename_i i j
    exact .inl ⟨i, j, bOf_at rfl ra, bOf_at rfl rb, Option.some.inj e⟩
  · have rb' : Rp (Frz ι st) H y .none := rb
    cases rb'
    exact .inr ⟨rfl, (isNone_at ra).trans (Option.some.inj e)⟩
  · cases e
theorem op2_is {K : PySem.W.Frag} {W : XW} : Op2 K W rIsU isD := by
  intro ι st H x y a b Q R ra rb p
  unfold isD at p
  split at p
  · rename_i k e
    rcases isS_at e ra rb with ⟨i, j, h1, h2, h3⟩ | ⟨h1, h2⟩
    · exact .inl ⟨i, j, h1, h2, fun _ => by rw [h3]; exact p.same R (.bl _)⟩
    · exact .inr ⟨h1, fun _ => by rw [h2]; exact p.same R (.bl _)⟩
  · exact p.elim
theorem op2_isNot {K : PySem.W.Frag} {W : XW} : Op2 K W rIsNotU isNotD := by
  intro ι st H x y a b Q R ra rb p
  unfold isNotD at p
  split at p
  · rename_i k e
    rcases isS_at e ra rb with ⟨i, j, h1, h2, h3⟩ | ⟨h1, h2⟩
    · exact .inl ⟨i, j, h1, h2, fun _ => by rw [h3]; exact p.same R (.bl _)⟩
    · exact .inr ⟨h1, fun _ => by rw [h2]; exact p.same R (.bl _)⟩
  · exact p.elim
def flatP : PyData → Bool
  | .list _ | .tuple _ | .dict _ => false
  | _ => true
def inS (st : Sto) (a b : D) : Option Bool := match a, viewS st b with
  | .v x, some ys => if flatP x && ys.all flatP then some (ys.any fun y => PyData.eqv y x)
      else match viewL st b with
        | some _ => if SeqAt.shaped x && SeqAt.shaped (.list ys) then some (ys.any fun y => PyData.eqv y x) else none
        | none => if SeqAt.shaped x && SeqAt.shaped (.tuple ys) then some (ys.any fun y => PyData.eqv y x) else none
  | _, _ => none
def inD : F2 := fun a b st => match inS st a b with
  | some k => .ok (.v (.bool k)) st
  | none => .stuck
def notInD : F2 := fun a b st => match inS st a b with
  | some k => .ok (.v (.bool (!k))) st
  | none => .stuck
theorem flat_of {F : Addr → Prop} {H : Hp} {x : V} {d : PyData} (r : Rp F H x d) (h : flatP d = true) : flatV x = true := by
  cases r <;> first | rfl | exact absurd h Bool.false_ne_true
theorem flatAll_of {F : Addr → Prop} {H : Hp} : ∀ {xs : List V} {ds : List PyData}, RpA F H xs ds → ds.all flatP = true → xs.all flatV = true
  | _, _, .nil, _ => rfl
  | _, _, .cons r t, h => by
    rw [List.all_cons, Bool.and_eq_true] at h
    rw [List.all_cons, flat_of r h.1, flatAll_of t h.2]
    rfl
theorem eqV_of {F : Addr → Prop} {H : Hp} {x y : V} {d e : PyData} (r : Rp F H x d) (q : Rp F H y e) (h : flatP d = true) (h' : flatP e = true) : eqV x y = PyData.eqv d e := by
  cases r <;> first
    | exact absurd h Bool.false_ne_true
    | (cases q <;> first
        | exact absurd h' Bool.false_ne_true
        | rfl
        | simp [eqV, PyData.eqv])
theorem inV_of {F : Addr → Prop} {H : Hp} {x : V} {d : PyData} (r : Rp F H x d) (h : flatP d = true) : ∀ {xs : List V} {ds : List PyData}, RpA F H xs ds → ds.all flatP = true → inV x xs = ds.any fun y => PyData.eqv y d
  | _, _, .nil, _ => rfl
  | _, _, .cons q t, h' => by
    rw [List.all_cons, Bool.and_eq_true] at h'
    have ih := inV_of r h t h'.2
    unfold inV at ih ⊢
    rw [List.any_cons, List.any_cons, ih, eqV_of q r h'.1 h]
theorem inS_at {K : PySem.W.Frag} {ι : Gh} {st : Sto} {H : Hp} (R : SRel K ι st H) {a b : D} {x y : V} {k : Bool} (e : inS st a b = some k) (ra : RD K ι st H x a) (rb : RD K ι st H y b) :
    (∃ p xs, y = .ref p ∧ (SqL K H p xs ∨ SqT K H p xs) ∧ flatV x = true ∧ xs.all flatV = true ∧ inV x xs = k) ∨
    (∃ d ds, Dp K H x d ∧ Dp K H y (.list ds) ∧ SeqAt.shaped d = true ∧ SeqAt.shaped (.list ds) = true ∧ (ds.any fun z => PyData.eqv z d) = k) ∨
    ∃ d ds, Dp K H x d ∧ Dp K H y (.tuple ds) ∧ SeqAt.shaped d = true ∧ SeqAt.shaped (.tuple ds) = true ∧ (ds.any fun z => PyData.eqv z d) = k := by
  unfold inS at e
  split at e
  · rename_i d ys e1
    obtain ⟨p, xs, rfl, h1, h2⟩ := viewS_at R e1 rb
    split at e
    · rename_i hf
      rw [Bool.and_eq_true] at hf
      exact .inl ⟨p, xs, rfl, h1.imp .of KTup.sq, flat_of ra hf.1, flatAll_of h2 hf.2, (inV_of ra hf.1 h2 hf.2).trans (Option.some.inj e)⟩
    · split at e
      · rename_i zs e2
        split at e
        · rename_i hs
          rw [Bool.and_eq_true] at hs
          refine .inr (.inl ⟨d, ys, viewP_at R rfl ra (noDict_of hs.1), ?_, hs.1, hs.2, Option.some.inj e⟩)
          obtain ⟨a2, us, e3, h3, h4⟩ := viewL_at R e2 rb
          cases e3
          have eq : ys = zs := by
            have : viewS st b = viewL st b := by
              cases b with
              | v w =>
                cases w with
                | tuple _ => cases e2
                | _ => rfl
              | _ => rfl
            rw [this, e2] at e1
            exact (Option.some.inj e1).symm
          subst eq
          exact .lst (.of h3) (h4.dp (by simpa [PyData.hasDict] using noDict_of hs.2))
        · cases e
      · rename_i e2
        split at e
        · rename_i hs
          rw [Bool.and_eq_true] at hs
          have eb : b = .v (.tuple ys) := by
            cases b with
            | v w =>
              cases w with
              | tuple zs => cases e1; rfl
              | _ => exact absurd (e2.symm.trans e1) (fun z => nomatch z)
            | _ => exact absurd (e2.symm.trans e1) (fun z => nomatch z)
          subst eb
          exact .inr (.inr ⟨d, ys, viewP_at R rfl ra (noDict_of hs.1), viewP_at R rfl rb (noDict_of hs.2), hs.1, hs.2, Option.some.inj e⟩)
        · cases e
  · cases e
def rInDT (K : PySem.W.Frag) : R2 := fun x y H Q => ∃ d ds, Dp K H x d ∧ Dp K H y (.tuple ds) ∧ SeqAt.shaped d = true ∧ SeqAt.shaped (.tuple ds) = true ∧ Q (.bl (ds.any fun z => PyData.eqv z d)) H
def rNotInDT (K : PySem.W.Frag) : R2 := fun x y H Q => ∃ d ds, Dp K H x d ∧ Dp K H y (.tuple ds) ∧ SeqAt.shaped d = true ∧ SeqAt.shaped (.tuple ds) = true ∧ Q (.bl (!(ds.any fun z => PyData.eqv z d))) H
theorem op_inDT {X : Cx} (hu : X.A.units + 65 < cLine) : OpR X (compareOp .In) (rInDT X.K) := by
  rintro pins s σ H x y v u Q I rx ry ⟨d, ds, hd, he, sd, se, q⟩
  obtain ⟨as, r1⟩ := Dp.reads I d x v hd rx
  obtain ⟨bs, r2⟩ := Dp.reads I (.tuple ds) y u he ry
  exact SeqAt.in_tuple_reads r2 r1 (SeqAt.canLay_of_shaped se) (SeqAt.canLay_of_shaped sd) (room_in_shaped sd hu) ⟨.bl _, H, I, rfl, q⟩
theorem op_notInDT {X : Cx} (hu : X.A.units + 65 < cLine) : OpR X (compareOp .NotIn) (rNotInDT X.K) := by
  rintro pins s σ H x y v u Q I rx ry ⟨d, ds, hd, he, sd, se, q⟩
  obtain ⟨as, r1⟩ := Dp.reads I d x v hd rx
  obtain ⟨bs, r2⟩ := Dp.reads I (.tuple ds) y u he ry
  exact SeqAt.notIn_tuple_reads r2 r1 (SeqAt.canLay_of_shaped se) (SeqAt.canLay_of_shaped sd) (room_in_shaped sd hu) ⟨.bl _, H, I, rfl, q⟩
def rInU (K : PySem.W.Frag) : R2 := fun x y H Q => rIn K false x y H Q ∨ rInD K x y H Q ∨ rInDT K x y H Q
def rNotInU (K : PySem.W.Frag) : R2 := fun x y H Q => rIn K true x y H Q ∨ rNotInD K x y H Q ∨ rNotInDT K x y H Q
theorem op2_in {K : PySem.W.Frag} {W : XW} : Op2 K W (rInU K) inD := by
  intro ι st H x y a b Q R ra rb p
  unfold inD at p
  split at p
  · rename_i k e
    rcases inS_at R e ra rb with ⟨q, xs, h1, h2, h3, h4, h5⟩ | ⟨d, ds, h1, h2, h3, h4, h5⟩ | ⟨d, ds, h1, h2, h3, h4, h5⟩
    · refine .inl ⟨q, xs, h1, h2, h3, h4, fun _ => ?_⟩
      rw [if_neg Bool.false_ne_true, h5]
      exact p.same R (.bl _)
    · exact .inr (.inl ⟨d, ds, h1, h2, h3, h4, fun _ => by rw [h5]; exact p.same R (.bl _)⟩)
    · exact .inr (.inr ⟨d, ds, h1, h2, h3, h4, fun _ => by rw [h5]; exact p.same R (.bl _)⟩)
  · exact p.elim
theorem op2_notIn {K : PySem.W.Frag} {W : XW} : Op2 K W (rNotInU K) notInD := by
  intro ι st H x y a b Q R ra rb p
  unfold notInD at p
  split at p
  · rename_i k e
    rcases inS_at R e ra rb with ⟨q, xs, h1, h2, h3, h4, h5⟩ | ⟨d, ds, h1, h2, h3, h4, h5⟩ | ⟨d, ds, h1, h2, h3, h4, h5⟩
    · refine .inl ⟨q, xs, h1, h2, h3, h4, fun _ => ?_⟩
      rw [if_pos rfl, h5]
      exact p.same R (.bl _)
    · exact .inr (.inl ⟨d, ds, h1, h2, h3, h4, fun _ => by rw [h5]; exact p.same R (.bl _)⟩)
    · exact .inr (.inr ⟨d, ds, h1, h2, h3, h4, fun _ => by rw [h5]; exact p.same R (.bl _)⟩)
  · exact p.elim
end Fw
namespace Fw
open PySem PySem.Spec PyProof.Rows L2
structure Gd (X : Cx) : Prop where
  calm : X.calm = true
  gu : X.A.guards = some []
  un : X.A.units + 150 < cLine
theorem pe_or {X : Cx} {e : Expr} {t u : TE} (h : PE X e t) (h' : PE X e u) : PE X e (fun σ H Q => t σ H Q ∨ u σ H Q) :=
  ⟨fun pins s σ H Q I q => q.elim (h.run pins s σ H Q I) (h'.run pins s σ H Q I)⟩
theorem te_or {K : PySem.W.Frag} {W : XW} {σ : L2.St} {H : Hp} {Q : VK} {ma mb : ME} {f g h : F2} (hc : ∀ a b st, h a b st = f a b st ∨ h a b st = g a b st) (q : TEo K W (mBin h ma mb) σ H Q) : TEo K W (mBin f ma mb) σ H Q ∨ TEo K W (mBin g ma mb) σ H Q := by
  obtain ⟨ι, env, st, R, EV, p⟩ := q
  have key : mBin h ma mb env st = mBin f ma mb env st ∨ mBin h ma mb env st = mBin g ma mb env st := by
    unfold mBin
    cases ma env st with
    | ok a s1 =>
      cases e : mb env s1 with
      | ok b s2 =>
        simp only [bind_ok, e]
        exact hc a b s2
      | exn _ _ => exact .inl (by simp only [bind_ok, e, bind_exn])
      | stuck => exact .inl (by simp only [bind_ok, e, bind_stuck])
    | exn _ _ => exact .inl rfl
    | stuck => exact .inl rfl
  rcases key with e | e <;> rw [e] at p
  · exact .inl ⟨ι, env, st, R, EV, p⟩
  · exact .inr ⟨ι, env, st, R, EV, p⟩
def key1 : PyData → Option Key
  | .int i => some (.inl i)
  | .str z => some (.inr z)
  | _ => none
def keysT : List PyData → Option (List Key)
  | [] => some []
  | d :: r => match key1 d, keysT r with
    | some k, some ks => some (k :: ks)
    | _, _ => none
def keyT : PyData → Option (List Key)
  | .tuple ds => keysT ds
  | _ => none
def keq (t : Bool) (a b : PyData) : Bool := if t then decide (keyT a = keyT b) else decide (key1 a = key1 b)
def getK (t : Bool) (kvs : List (PyData × D)) (k : PyData) : Option D := (kvs.find? fun p => keq t p.1 k).map (·.2)
def isTK : List (PyData × PyData) → Bool
  | (.tuple _, _) :: _ => true
  | _ => false
def viewK (st : Sto) : D → Option (Bool × List (PyData × D))
  | .v (.dict kvs) => some (isTK kvs, kvs.map fun p => (p.1, .v p.2))
  | .ref n => match st[n]? with
    | some (.dct t kvs) => some (t, kvs)
    | some (.lck t kvs) => some (t, kvs)
    | _ => none
  | _ => none
theorem key1_kD (k : Key) : key1 (kD k) = some k := by cases k <;> rfl
theorem keysT_kD : ∀ ks : List Key, keysT (ks.map kD) = some ks
  | [] => rfl
  | k :: r => by
    rw [List.map_cons]
    unfold keysT
    rw [key1_kD, keysT_kD r]
theorem kD_of {d : PyData} {k : Key} (h : key1 d = some k) : d = kD k := by
  cases d with
  | int i => cases h; rfl
  | str z => cases h; rfl
  | _ => cases h
theorem kV_of {F : Addr → Prop} {H : Hp} {x : V} {k : Key} (r : Rp F H x (kD k)) : x = kV k := by
  cases k <;> (cases r; rfl)
section
variable {K : PySem.W.Frag} {ι : Gh} {st : Sto} {H : Hp}
def ROpt (K : PySem.W.Frag) (ι : Gh) (st : Sto) (H : Hp) : Option D → Option V → Prop
  | some d, some x => RD K ι st H x d
  | none, none => True
  | _, _ => False
theorem RK.get {kd : PyData} {k : Key} (hk : key1 kd = some k) : ∀ {kvs : List (PyData × D)} {xs : List (Key × V)}, RK K ι st H kvs xs → ROpt K ι st H (getK false kvs kd) (valV xs k)
  | _, _, .nil => trivial
  | _, _, .cons (a := p) (b := q) h t => by
    have ih := RK.get hk t
    unfold getK at ih ⊢
    by_cases e : q.1 = k
    · rw [valV_pos e]
      have e2 : keq false p.1 kd = true := by
        unfold keq
        rw [if_neg Bool.false_ne_true, h.1, key1_kD, hk, e, decide_eq_true rfl]
      rw [List.find?_cons, e2]
      exact h.2
    · rw [valV_neg e]
      have e2 : keq false p.1 kd = false := by
        unfold keq
        rw [if_neg Bool.false_ne_true, h.1, key1_kD, hk]
        exact decide_eq_false fun z => e (Option.some.inj z)
      rw [List.find?_cons, e2]
      exact ih
theorem RT.get {kd : PyData} {k : List Key} (hk : keyT kd = some k) : ∀ {kvs : List (PyData × D)} {xs : List (List Key × V)}, RT K ι st H kvs xs → ROpt K ι st H (getK true kvs kd) (valV xs k)
  | _, _, .nil => trivial
  | _, _, .cons (a := p) (b := q) h t => by
    have ih := RT.get hk t
    unfold getK at ih ⊢
    have kt : keyT p.1 = some q.1 := by rw [h.1]; exact keysT_kD q.1
    by_cases e : q.1 = k
    · rw [valV_pos e]
      have e2 : keq true p.1 kd = true := by
        unfold keq
        rw [if_pos rfl, kt, hk, e, decide_eq_true rfl]
      rw [List.find?_cons, e2]
      exact h.2
    · rw [valV_neg e]
      have e2 : keq true p.1 kd = false := by
        unfold keq
        rw [if_pos rfl, kt, hk]
        exact decide_eq_false fun z => e (Option.some.inj z)
      rw [List.find?_cons, e2]
      exact ih
theorem RpK.rk : ∀ {xs : List (Key × V)} {ds : List (PyData × PyData)}, RpK (Frz ι st) H xs ds → RK K ι st H (ds.map fun p => (p.1, D.v p.2)) xs
  | _, _, .nil => .nil
  | _, _, .cons h r => .cons ⟨rfl, h⟩ (RpK.rk r)
theorem RpT.rt : ∀ {xs : List (List Key × V)} {ds : List (PyData × PyData)}, RpT (Frz ι st) H xs ds → RT K ι st H (ds.map fun p => (p.1, D.v p.2)) xs
  | _, _, .nil => .nil
  | _, _, .cons h r => .cons ⟨rfl, h⟩ (RpT.rt r)
theorem RpK.kind : ∀ {xs : List (Key × V)} {ds : List (PyData × PyData)}, RpK (Frz ι st) H xs ds → isTK ds = false
  | _, _, .nil => rfl
  | _, _, .cons (k := k) h r => by cases k <;> rfl
theorem RpT.kind : ∀ {xs : List (List Key × V)} {ds : List (PyData × PyData)}, RpT (Frz ι st) H xs ds → ds ≠ [] → isTK ds = true
  | _, _, .nil, h => absurd rfl h
  | _, _, .cons _ _, _ => rfl
theorem viewK_at (R : SRel K ι st H) {x : V} {d : D} {t : Bool} {kvs : List (PyData × D)} (e : viewK st d = some (t, kvs)) (r : RD K ι st H x d) :
    ∃ a, x = .ref a ∧ ((t = false ∧ ∃ xs, Rd H a (.dK xs) ∧ RK K ι st H kvs xs) ∨ (t = true ∧ ∃ xs, Rd H a (.dT xs) ∧ RT K ι st H kvs xs)) := by
  cases d with
  | v z =>
    cases z with
    | dict zs =>
      have e' := Option.some.inj e
      injection e' with e1 e2
      subst e1 e2
      have r' : Rp (Frz ι st) H x (.dict zs) := r
      cases r' with
      | dcK h _ q => exact ⟨_, rfl, .inl ⟨q.kind, _, h, q.rk⟩⟩
      | dcT h _ q z => exact ⟨_, rfl, .inr ⟨q.kind z, _, h, q.rt⟩⟩
    | _ => cases e
  | scr ns => cases e
  | ref n =>
    obtain ⟨a, h1, h2⟩ := r
    cases q : st[n]? with
    | none => simp only [viewK, q] at e; cases e
    | some o =>
      simp only [viewK, q] at e
      have ro := R.obj n o a q h1
      cases o with
      | dct t' kvs' =>
        have e' := Option.some.inj e
        injection e' with e1 e2
        subst e1 e2
        cases t' with
        | false => obtain ⟨xs, h3, h4⟩ := ro; exact ⟨a, h2, .inl ⟨rfl, xs, .inl h3, h4⟩⟩
        | true => obtain ⟨xs, h3, h4⟩ := ro; exact ⟨a, h2, .inr ⟨rfl, xs, .inl h3, h4⟩⟩
      | lck t' kvs' =>
        have e' := Option.some.inj e
        injection e' with e1 e2
        subst e1 e2
        cases t' with
        | false => obtain ⟨xs, o, h3, h4⟩ := ro; exact ⟨a, h2, .inl ⟨rfl, xs, .inr ⟨o, h3⟩, h4⟩⟩
        | true => obtain ⟨xs, o, h3, h4⟩ := ro; exact ⟨a, h2, .inr ⟨rfl, xs, .inr ⟨o, h3⟩, h4⟩⟩
      | _ => cases e
end
def findS (st : Sto) (a b : D) : Option (Option D) := match viewK st a, b with
  | some (false, kvs), .v kd => match key1 kd with
    | some _ => some (getK false kvs kd)
    | none => none
  | _, _ => none
theorem findS_at {K : PySem.W.Frag} {ι : Gh} {st : Sto} {H : Hp} (R : SRel K ι st H) {a b : D} {x y : V} {o : Option D} (e : findS st a b = some o) (ra : RD K ι st H x a) (rb : RD K ι st H y b) :
    ∃ p r, x = .ref p ∧ DGet H p y r ∧ ROpt K ι st H o r := by
  unfold findS at e
  split at e
  · rename_i kvs kd e1
    split at e
    · rename_i k e2
      obtain ⟨p, rfl, ⟨_, xs, h1, h2⟩ | ⟨z, _⟩⟩ := viewK_at R e1 ra
      · have rb' : Rp (Frz ι st) H y kd := rb
        rw [kD_of e2] at rb'
        rw [← Option.some.inj e]
        exact ⟨p, valV xs k, rfl, .inl ⟨xs, k, h1, kV_of rb', rfl⟩, RK.get e2 h2⟩
      · cases z
    · cases e
  · cases e
def lookD : F2 := fun a b st => match findS st a b with
  | some (some d) => .ok d st
  | _ => .stuck
def rDGet : R2 := fun x y H Q => ∃ a v, x = .ref a ∧ DGet H a y (some v) ∧ Q v H
theorem op2_look {K : PySem.W.Frag} {W : XW} : Op2 K W rDGet lookD := by
  intro ι st H x y a b Q R ra rb p
  unfold lookD at p
  split at p
  · rename_i d e
    obtain ⟨q, r, h1, h2, h3⟩ := findS_at R e ra rb
    cases r with
    | none => exact h3.elim
    | some v => exact ⟨q, v, h1, h2, fun _ => p.same R h3⟩
  · exact p.elim
def ixD : F2 := fun a b st => match viewS st a, iOf b with
  | some xs, some i => match atI xs i with
    | some d => .ok (.v d) st
    | none => .stuck
  | _, _ => match sOf a, iOf b with
    | some z, some i => if z.length ≤ lim then match atI z.cps.toList i with
        | some c => .ok (.v (.str ⟨#[c]⟩)) st
        | none => .stuck
      else .stuck
    | _, _ => .stuck
theorem atI_rp {F : Addr → Prop} {H : Hp} {xs : List V} {ds : List PyData} (r : RpA F H xs ds) {i : Int} {d : PyData} (h : atI ds i = some d) : ∃ x, atI xs i = some x ∧ Rp F H x d := by
  unfold atI at h ⊢
  obtain ⟨j, h1, h2⟩ := Option.bind_eq_some_iff.mp h
  obtain ⟨x, h3, h4⟩ := r.get h2
  exact ⟨x, Option.bind_eq_some_iff.mpr ⟨j, by rw [r.length]; exact h1, h3⟩, h4⟩
theorem op2_ix {K : PySem.W.Frag} {W : XW} : Op2 K W (rIx K) ixD := by
  intro ι st H x y a b Q R ra rb p
  unfold ixD at p
  split at p
  · rename_i xs i e1 e2
    split at p
    · rename_i d e3
      obtain ⟨q, us, rfl, h1, h2⟩ := viewS_at R e1 ra
      obtain ⟨z, h3, h4⟩ := atI_rp h2 e3
      rcases h1 with h1 | h1
      · exact .inl ⟨q, us, i, z, rfl, iOf_at e2 rb, .of h1, h3, fun _ => p.same R h4⟩
      · exact .inr (.inl ⟨q, us, i, z, rfl, iOf_at e2 rb, h1.sq, h3, fun _ => p.same R h4⟩)
    · exact p.elim
  · split at p
    · rename_i z i e1 e2
      split at p
      · rename_i hl
        split at p
        · rename_i c e3
          exact .inr (.inr ⟨z, i, c, sOf_at e1 ra, iOf_at e2 rb, lim_ok hl, e3, fun _ => p.same R (.str _)⟩)
        · exact p.elim
      · exact p.elim
    · exact p.elim
def subsD : F2 := fun a b st => match viewK st a with
  | some _ => lookD a b st
  | none => ixD a b st
section
variable {X : Cx} {W : XW} {a b e : Expr} {ma mb : ME} {pos : Pos}
theorem x_sub' (g : Gd X) (ha : PE X a (TEo X.K W ma)) (hb : PE X b (TEo X.K W mb)) (hs : PlainIx b := by exact fun _ _ => rfl) : PE X (.Subscript a b pos) (TEo X.K W (mBin subsD ma mb)) := by
  have h1 := pe_dget (pos := pos) (by have := g.un; omega) ha hb hs
  have h2 := pe_ix (pos := pos) ix_seq ha hb hs
  refine pe_wrap (pe_or h1 h2) fun σ H Q q => ?_
  have q' := te_or (f := lookD) (g := ixD) (fun a b st => by
    unfold subsD
    cases viewK st a <;> simp) q
  exact q'.imp (fun z => te_bin op2_look z) fun z => te_bin op2_ix z
def dinD : F2 := fun a b st => match findS st b a with
  | some o => .ok (.v (.bool o.isSome)) st
  | none => .stuck
def dnotinD : F2 := fun a b st => match findS st b a with
  | some o => .ok (.v (.bool (!o.isSome))) st
  | none => .stuck
def rDIn : R2 := fun y x H Q => ∃ a o, x = .ref a ∧ DGet H a y o ∧ Q (.bl o.isSome) H
def rDNotIn : R2 := fun y x H Q => ∃ a o, x = .ref a ∧ DGet H a y o ∧ Q (.bl (!o.isSome)) H
theorem ROpt.isSome {K : PySem.W.Frag} {ι : Gh} {st : Sto} {H : Hp} : ∀ {o : Option D} {r : Option V}, ROpt K ι st H o r → r.isSome = o.isSome
  | some _, some _, _ => rfl
  | none, none, _ => rfl
  | some _, none, h => h.elim
  | none, some _, h => h.elim
theorem op2_din {K : PySem.W.Frag} : Op2 K W rDIn dinD := by
  intro ι st H x y a b Q R ra rb p
  unfold dinD at p
  split at p
  · rename_i o e
    obtain ⟨q, r, h1, h2, h3⟩ := findS_at R e rb ra
    exact ⟨q, r, h1, h2, fun _ => by rw [h3.isSome]; exact p.same R (.bl _)⟩
  · exact p.elim
theorem op2_dnotin {K : PySem.W.Frag} : Op2 K W rDNotIn dnotinD := by
  intro ι st H x y a b Q R ra rb p
  unfold dnotinD at p
  split at p
  · rename_i o e
    obtain ⟨q, r, h1, h2, h3⟩ := findS_at R e rb ra
    exact ⟨q, r, h1, h2, fun _ => by rw [h3.isSome]; exact p.same R (.bl _)⟩
  · exact p.elim
def inU : F2 := fun a b st => match viewK st b with
  | some _ => dinD a b st
  | none => inD a b st
def notInU : F2 := fun a b st => match viewK st b with
  | some _ => dnotinD a b st
  | none => notInD a b st
theorem pc_wrap {op : CmpOp} {t : TE} {m : ME} (h : PC X op a b t) (hi : ∀ σ H Q, TEo X.K W m σ H Q → t σ H (fun v H' => HF H' → Q v H')) : PC X op a b (TEo X.K W m) :=
  ⟨fun pins s σ H Q I q => thn (h.run pins s σ H _ I (hi σ H Q q)) fun _ _ h1 => thn h1 fun _ _ h2 => thn h2 fun _ _ ⟨v, H', I', r, q'⟩ => ⟨v, H', I', r, q' (hf_of I')⟩⟩
theorem pc_R {op : CmpOp} {r : R2} {ta tb : TE} (ho : OpR X (compareOp op) r) (ha : PE X a ta) (hb : PE X b tb) : PC X op a b (tOp r ta tb) :=
  ⟨fun pins s σ H Q I h => binT ha hb I h fun v u s2 x y H2 I2 rx ry q => ho pins s2 σ H2 x y v u Q I2 rx ry q⟩
theorem pc_or {op : CmpOp} {t u : TE} (h : PC X op a b t) (h' : PC X op a b u) : PC X op a b (fun σ H Q => t σ H Q ∨ u σ H Q) :=
  ⟨fun pins s σ H Q I q => q.elim (h.run pins s σ H Q I) (h'.run pins s σ H Q I)⟩
theorem c_op {op : CmpOp} {r : R2} {f : F2} (ho : OpR X (compareOp op) r) (hf : Op2 X.K W r f) (ha : PE X a (TEo X.K W ma)) (hb : PE X b (TEo X.K W mb)) : PC X op a b (TEo X.K W (mBin f ma mb)) :=
  pc_wrap (pc_R ho ha hb) fun σ H Q q => te_bin hf q
theorem c_in (g : Gd X) (ha : PE X a (TEo X.K W ma)) (hb : PE X b (TEo X.K W mb)) : PC X .In a b (TEo X.K W (mBin inU ma mb)) := by
  have un := g.un
  refine pc_wrap (pc_or (pc_din (X := X) (by omega) ha hb) (pc_R (op_in_seq.or ((op_inD (X := X) (by omega)).or (op_inDT (X := X) (by omega)))) ha hb)) fun σ H Q q => ?_
  have q' := te_or (f := dinD) (g := inD) (fun a b st => by
    unfold inU
    cases viewK st b <;> simp) q
  exact q'.imp (fun z => te_bin op2_din z) fun z => te_bin op2_in z
theorem c_notIn (g : Gd X) (ha : PE X a (TEo X.K W ma)) (hb : PE X b (TEo X.K W mb)) : PC X .NotIn a b (TEo X.K W (mBin notInU ma mb)) := by
  have un := g.un
  refine pc_wrap (pc_or (pc_dnotin (X := X) (by omega) ha hb) (pc_R (op_notIn_seq.or ((op_notInD (X := X) (by omega)).or (op_notInDT (X := X) (by omega)))) ha hb)) fun σ H Q q => ?_
  have q' := te_or (f := dnotinD) (g := notInD) (fun a b st => by
    unfold notInU
    cases viewK st b <;> simp) q
  exact q'.imp (fun z => te_bin op2_dnotin z) fun z => te_bin op2_notIn z
theorem c_lt (ha : PE X a (TEo X.K W ma)) (hb : PE X b (TEo X.K W mb)) : PC X .Lt a b (TEo X.K W (mBin ltD ma mb)) := c_op op_lt (op2_int0 fun _ _ _ _ => .bl _) ha hb
theorem c_gt (ha : PE X a (TEo X.K W ma)) (hb : PE X b (TEo X.K W mb)) : PC X .Gt a b (TEo X.K W (mBin gtD ma mb)) := c_op op_gt (op2_int0 fun _ _ _ _ => .bl _) ha hb
theorem c_eq (g : Gd X) (ha : PE X a (TEo X.K W ma)) (hb : PE X b (TEo X.K W mb)) : PC X .Eq a b (TEo X.K W (mBin eqD ma mb)) := c_op (op_eq.or (op_eqD (by have := g.un; omega))) op2_eq ha hb
theorem c_ne (g : Gd X) (ha : PE X a (TEo X.K W ma)) (hb : PE X b (TEo X.K W mb)) : PC X .NotEq a b (TEo X.K W (mBin neD ma mb)) := c_op (op_ne.or (op_neD (by have := g.un; omega))) op2_ne ha hb
theorem c_is (ha : PE X a (TEo X.K W ma)) (hb : PE X b (TEo X.K W mb)) : PC X .Is a b (TEo X.K W (mBin isD ma mb)) := c_op (op_isBl.or op_isN) op2_is ha hb
theorem c_isNot (ha : PE X a (TEo X.K W ma)) (hb : PE X b (TEo X.K W mb)) : PC X .IsNot a b (TEo X.K W (mBin isNotD ma mb)) := c_op (op_notBl.or op_notN) op2_isNot ha hb
end
def fLen : FA := fun ds st => match ds with
  | [d] => match viewS st d with
    | some xs => .ok (.v (.int xs.length)) st
    | none => match sOf d with
      | some z => if z.length ≤ lim then .ok (.v (.int z.length)) st else .stuck
      | none => .stuck
  | _ => .stuck
theorem RDs.one {K : PySem.W.Frag} {ι : Gh} {st : Sto} {H : Hp} {xs : List V} {d : D} (r : RDs K ι st H xs [d]) : ∃ x, xs = [x] ∧ RD K ι st H x d := by
  cases r with
  | cons h t => cases t; exact ⟨_, rfl, h⟩
theorem RDs.two {K : PySem.W.Frag} {ι : Gh} {st : Sto} {H : Hp} {xs : List V} {d e : D} (r : RDs K ι st H xs [d, e]) : ∃ x y, xs = [x, y] ∧ RD K ι st H x d ∧ RD K ι st H y e := by
  cases r with
  | cons h t =>
    obtain ⟨y, rfl, r2⟩ := RDs.one t
    exact ⟨_, y, rfl, h, r2⟩
theorem opA_len {K : PySem.W.Frag} {W : XW} : OpA K W (fun xs H Q => ∃ x n, xs = [x] ∧ LenV K x H n ∧ Q (.int n) H) fLen := by
  intro ι st H xs ds Q R r p
  unfold fLen at p
  split at p
  · rename_i d
    obtain ⟨x, rfl, r1⟩ := r.one
    split at p
    · rename_i zs e
      obtain ⟨q, us, rfl, h1, h2⟩ := viewS_at R e r1
      refine ⟨_, zs.length, rfl, h1.imp (fun h => ⟨us, .of h, h2.length.symm⟩) (fun h => ⟨us, h.sq, h2.length.symm⟩), fun _ => p.same R (.int _)⟩
    · split at p
      · rename_i z e
        split at p
        · rename_i hl
          have e2 := sOf_at e r1
          subst e2
          exact ⟨_, z.length, rfl, ⟨lim_ok hl, rfl⟩, fun _ => p.same R (.int _)⟩
        · exact p.elim
      · exact p.elim
  · exact p.elim
def fAbs : FA := fun ds st => match ds with
  | [d] => match iOf d with
    | some i => .ok (.v (.int (if i < 0 then -i else i))) st
    | none => .stuck
  | _ => .stuck
theorem opA_abs {K : PySem.W.Frag} {W : XW} : OpA K W (fun xs H Q => ∃ i, xs = [.int i] ∧ Q (.int (if i < 0 then -i else i)) H) fAbs := by
  intro ι st H xs ds Q R r p
  unfold fAbs at p
  split at p
  · obtain ⟨x, rfl, r1⟩ := r.one
    split at p
    · rename_i i e
      have e2 := iOf_at e r1
      subst e2
      exact ⟨i, rfl, fun _ => p.same R (.int _)⟩
    · exact p.elim
  · exact p.elim
def fInt : FA := fun ds st => match ds with
  | [d] => match iOf d with
    | some i => .ok (.v (.int i)) st
    | none => match bOf d with
      | some k => .ok (.v (.int (if k then 1 else 0))) st
      | none => .stuck
  | _ => .stuck
theorem opA_int {K : PySem.W.Frag} {W : XW} : OpA K W (fun xs H Q => (∃ i, xs = [.int i] ∧ Q (.int i) H) ∨ ∃ k, xs = [.bl k] ∧ Q (.int (if k then 1 else 0)) H) fInt := by
  intro ι st H xs ds Q R r p
  unfold fInt at p
  split at p
  · obtain ⟨x, rfl, r1⟩ := r.one
    split at p
    · rename_i i e
      have e2 := iOf_at e r1
      subst e2
      exact .inl ⟨i, rfl, fun _ => p.same R (.int _)⟩
    · split at p
      · rename_i i e
        have e2 := bOf_at e r1
        subst e2
        exact .inr ⟨i, rfl, fun _ => p.same R (.int _)⟩
      · exact p.elim
  · exact p.elim
def f2I (g : Int → Int → Int) : FA := fun ds st => match ds with
  | [a, b] => match iOf a, iOf b with
    | some i, some j => .ok (.v (.int (g i j))) st
    | _, _ => .stuck
  | _ => .stuck
theorem opA_2I {K : PySem.W.Frag} {W : XW} {g : Int → Int → Int} : OpA K W (fun xs H Q => ∃ i j, xs = [.int i, .int j] ∧ Q (.int (g i j)) H) (f2I g) := by
  intro ι st H xs ds Q R r p
  unfold f2I at p
  split at p
  · obtain ⟨x, y, rfl, r1, r2⟩ := r.two
    split at p
    · rename_i i j e1 e2
      have q1 := iOf_at e1 r1
      have q2 := iOf_at e2 r2
      subst q1 q2
      exact ⟨i, j, rfl, fun _ => p.same R (.int _)⟩
    · exact p.elim
  · exact p.elim
def intMax (i j : Int) : Int := if j > i then j else i
def intMin (i j : Int) : Int := if j < i then j else i
def intsOf : List PyData → Option (List Int)
  | [] => some []
  | .int i :: r => (intsOf r).map (i :: ·)
  | _ :: _ => none
theorem intsOf_at {F : Addr → Prop} {H : Hp} : ∀ {ds : List PyData} {ns : List Int} {xs : List V}, intsOf ds = some ns → RpA F H xs ds → xs = ns.map V.int
  | [], ns, _, e, .nil => by cases e; rfl
  | d :: r, ns, _, e, .cons h t => by
    cases d with
    | int i =>
      obtain ⟨ms, e1, rfl⟩ := Option.map_eq_some_iff.mp (show (intsOf r).map (i :: ·) = some ns from e)
      cases h
      rw [intsOf_at e1 t]
      rfl
    | _ => cases e
end Fw
namespace Fw
open PySem PySem.Spec PyProof.Rows L2
def fSum : FA := fun ds st => match ds with
  | [d] => match viewS st d with
    | some xs => match intsOf xs with
      | some ns => .ok (.v (.int ns.sum)) st
      | none => .stuck
    | none => .stuck
  | _ => .stuck
def rSumT (K : PySem.W.Frag) : List V → Hp → VK → Prop := fun vs H Q => ∃ (a : Addr) (ns : List Int), vs = [V.ref a] ∧ SqT K H a (ns.map V.int) ∧ Q (.int ns.sum) H
theorem cr_sumT {X : Cx} (hc : X.calm = true) : CallR X (.builtin "sum") (rSumT X.K) := by
  intro pins s σ H vs us Q I r h
  obtain ⟨a, ns, rfl, hs, q⟩ := h
  obtain ⟨its, rv, hl, _⟩ := I.tuple hs
  rw [Vals.ref1 r]
  obtain ⟨o, e1, e2, n, e3⟩ := hl
  obtain ⟨xs, hx⟩ := rv.ints.allInts.items
  have hn : numsOf its.toArray.toList = ns := rv.ints.numsOf
  have ht : s.heap.IsTuple a its.toArray := ⟨o, e1, e2, n, e3⟩
  rw [hx] at ht hn
  rw [nums_intItems] at hn
  refine PySem.W.ktm_sumG (I.ok.hd hc) ht fun h' tk t' hk => ?_
  rw [preSum_eq, List.take_of_length_le (by simp), hn]
  exact ⟨.int _, H, I.kept hk, ⟨_, rfl⟩, q⟩
theorem opA_sum {K : PySem.W.Frag} {W : XW} : OpA K W (fun xs H Q => rSum K xs H Q ∨ rSumT K xs H Q) fSum := by
  intro ι st H xs ds Q R r p
  unfold fSum at p
  split at p
  · obtain ⟨x, rfl, r1⟩ := r.one
    split at p
    · rename_i zs e
      split at p
      · rename_i ns e2
        obtain ⟨q, us, rfl, h1, h2⟩ := viewS_at R e r1
        have h3 := intsOf_at e2 h2
        subst h3
        rcases h1 with h1 | h1
        · exact .inl ⟨q, ns, rfl, .of h1, fun _ => p.same R (.int _)⟩
        · exact .inr ⟨q, ns, rfl, h1.sq, fun _ => p.same R (.int _)⟩
      · exact p.elim
    · exact p.elim
  · exact p.elim
def fTuple : FA := fun ds st => match ds with
  | [d] => match viewS st d with
    | some xs => .ok (.v (.tuple xs)) st
    | none => .stuck
  | _ => .stuck
theorem call_tupleN {X : Cx} : CallR X (.type "tuple") (fun xs H Q => ∃ p ys, xs = [.ref p] ∧ ((SqL X.K H p ys ∧ NewT H ys Q) ∨ (SqT X.K H p ys ∧ Q (.ref p) H))) := by
  intro pins s σ H xs us Q I r h
  obtain ⟨p, ys, rfl, h⟩ := h
  obtain ⟨u, rfl, rx⟩ := vals1 r
  cases rx
  rcases h with ⟨hq, q⟩ | ⟨hq, q⟩
  · obtain ⟨its, rv, pl, hz⟩ := I.list hq
    have hlen := rv.length
    refine call_tuple_list pl.isList (fun h2 kp => ?_) (by rw [List.size_toArray]; omega)
    exact q.laid (t' := s.toks) (I.kept (t' := s.toks) kp) rv hz
  · obtain ⟨its, _, pl, _⟩ := I.tuple hq
    exact call_tuple_same pl ⟨.ref p, H, I, rfl, q⟩
theorem opA_tuple {K : PySem.W.Frag} {W : XW} : OpA K W (fun xs H Q => ∃ p ys, xs = [.ref p] ∧ ((SqL K H p ys ∧ NewT H ys Q) ∨ (SqT K H p ys ∧ Q (.ref p) H))) fTuple := by
  intro ι st H xs ds Q R r p
  unfold fTuple at p
  split at p
  · rename_i d
    obtain ⟨x, rfl, r1⟩ := r.one
    split at p
    · rename_i zs e
      obtain ⟨q, us, rfl, h1, h2⟩ := viewS_atF R e r1
      rcases h1 with h1 | ⟨⟨o, h1, h3⟩, hfz⟩
      · exact ⟨q, us, rfl, .inl ⟨.of h1, fun a o ha ho hf => p.newTup R h2 ha ho hf⟩⟩
      · exact ⟨q, us, rfl, .inr ⟨.inl (.inr ⟨o, h1⟩), fun _ => p.same R (.tup h1 h3 hfz h2)⟩⟩
    · exact p.elim
  · exact p.elim
def fRepr : FA := fun ds st => match ds with
  | [d] => match viewP st d with
    | some z => if z.showable && !z.hasDict && decide (z.depth ≤ 60) && decide (z.shown.length ≤ lim) then .ok (.v (.str z.shown)) st else .stuck
    | none => .stuck
  | _ => .stuck
def rRepr (K : PySem.W.Frag) : List V → Hp → VK → Prop := fun xs H Q => ∃ x z, xs = [x] ∧ Dp K H x z ∧ z.showable = true ∧ z.hasDict = false ∧ z.depth ≤ 60 ∧ z.shown.length ≤ sizeLine ∧ Q (.str z.shown) H
theorem call_reprN {X : Cx} (g : Gd X) : CallR X (.builtin "repr") (rRepr X.K) := by
  intro pins s σ H xs us Q I r h
  obtain ⟨x, z, rfl, hd, h1, h2, h3, h4, q⟩ := h
  obtain ⟨u, rfl, ru⟩ := vals1 r
  obtain ⟨as, rd⟩ := Dp.reads I z x u hd ru
  cases z with
  | none =>
    cases rd
    exact PySem.P.repr_of_none ⟨.str _, H, I.tok _, ⟨_, rfl⟩, by simpa only [PyData.shown] using q⟩
  | bool b =>
    cases rd
    exact PySem.P.repr_of_bool ⟨.str _, H, I.tok _, ⟨_, rfl⟩, by simpa only [PyData.shown] using q⟩
  | int i =>
    cases rd
    exact PySem.P.repr_of_int (by simpa [PyData.showable] using h1) ⟨.str _, H, I.tok _, ⟨_, rfl⟩, by simpa only [PyData.shown] using q⟩
  | str y =>
    cases rd
    exact PySem.P.repr_of_str ⟨.str _, H, I.tok _, ⟨_, rfl⟩, by simpa only [PyData.shown] using q⟩ (by simpa only [PyData.shown] using h4)
  | list zs =>
    cases rd with
    | list e1 e2 e3 e4 =>
      refine repr_of_reads' (Reads.list e1 e2 e3 e4) h1 (PyData.noDict_hsm h2) g.gu (by have := g.un; omega) (fun _ _ e => e) (fun h' u tk hk => ⟨.str _, H, I.kept hk, ⟨_, rfl⟩, q⟩) h4
  | tuple zs =>
    cases rd with
    | tuple e1 e2 e3 e4 =>
      refine repr_of_reads' (Reads.tuple e1 e2 e3 e4) h1 (PyData.noDict_hsm h2) g.gu (by have := g.un; omega) (fun _ _ e => e) (fun h' u tk hk => ⟨.str _, H, I.kept hk, ⟨_, rfl⟩, q⟩) h4
  | dict zs => simp [PyData.hasDict] at h2
theorem opA_repr {K : PySem.W.Frag} {W : XW} : OpA K W (rRepr K) fRepr := by
  intro ι st H xs ds Q R r p
  unfold fRepr at p
  split at p
  · obtain ⟨x, rfl, r1⟩ := r.one
    split at p
    · rename_i z e
      split at p
      · rename_i h
        simp only [Bool.and_eq_true, Bool.not_eq_true', decide_eq_true_eq] at h
        exact ⟨x, z, rfl, viewP_at R e r1 h.1.1.2, h.1.1.1, h.1.1.2, h.1.2, lim_ok h.2, fun _ => p.same R (.str _)⟩
      · exact p.elim
    · exact p.elim
  · exact p.elim
abbrev MF := Ev → Sto → Out (List PyData)
def PF1 (K : PySem.W.Frag) (ι : Gh) (st : Sto) (H : Hp) (Q : VK) (zs : List PyData) (st' : Sto) : Prop :=
  ∀ ι' H' xs p, SRel K ι' st' H' → Ext ι st H ι' st' H' → RpA (Frz ι' st') H' xs zs → H' p = none → HF (upd H' p (.lst xs)) → Q (.ref p) (upd H' p (.lst xs))
def TFo (K : PySem.W.Frag) (W : XW) (m : MF) : TE := fun σ H Q => ∃ ι env st, SRel K ι st H ∧ EvR K ι st H σ env ∧ (m env st).post (PF1 K ι st H Q) (PX1 K W ι st H)
def mFrz (m : MF) : ME := fun env st => (m env st).bind fun zs s1 => .ok (.v (.list zs)) s1
def mNew (m : MF) : ME := fun env st => (m env st).bind fun zs s1 => .ok (.ref s1.length) (s1 ++ [.lst zs])
section
variable {X : Cx} {W : XW} {e : Expr}
theorem pf_wrap {t : TE} {m : MF} (h : PE X e t) (hi : ∀ σ H Q, TFo X.K W m σ H Q → t σ H (fun v H' => HF H' → Q v H')) : PE X e (TFo X.K W m) :=
  ⟨fun pins s σ H Q I q => thn (h.run pins s σ H _ I (hi σ H Q q)) fun _ _ ⟨v, H', I', r, q'⟩ => ⟨v, H', I', r, q' (hf_of I')⟩⟩
theorem x_frz {m : MF} (h : PE X e (TFo X.K W m)) : PE X e (TEo X.K W (mFrz m)) := pe_wrap h fun σ H Q q => by
  obtain ⟨ι, env, st, R, EV, p⟩ := q
  refine ⟨ι, env, st, R, EV, Out.post_mono (Out.post_bind p) (fun zs s1 q ι1 H1 xs a R1 E1 ra ha hf _ => ?_) fun _ _ q => q⟩
  exact q ι1 _ _ (R1.fresh ha hf) (E1.trans (Ext.fresh R1 ha)) (.lst upd_same (R1.frz_new ha) (ra.ext (Ext.fresh R1 ha)))
theorem x_new {m : MF} (h : PE X e (TFo X.K W m)) : PE X e (TEo X.K W (mNew m)) := pe_wrap h fun σ H Q q => by
  obtain ⟨ι, env, st, R, EV, p⟩ := q
  refine ⟨ι, env, st, R, EV, Out.post_mono (Out.post_bind p) (fun zs s1 q ι1 H1 xs a R1 E1 ra ha hf _ => ?_) fun _ _ q => q⟩
  have E2 : Ext ι1 s1 H1 (ι1.psh a) (s1 ++ [.lst zs]) (upd H1 a (.lst xs)) := Ext.push R1 ha
  refine q (ι1.psh a) _ _ (R1.push ha hf ⟨xs, upd_same, ra.ext E2⟩ rfl) (E1.trans E2) ⟨a, ?_, rfl⟩
  show (ι1.ad ++ [a])[s1.length]? = _
  rw [← R1.len, List.getElem?_append_right (Nat.le_refl _), Nat.sub_self]
  rfl
end
abbrev GA := List D → Sto → Out (List PyData)
def mfArg (f : GA) (ma : MA) : MF := fun env st => (ma env st).bind fun ds s1 => f ds s1
def mfBin (f : D → D → Sto → Out (List PyData)) (ma mb : ME) : MF := fun env st => (ma env st).bind fun a s1 => (mb env s1).bind fun b s2 => f a b s2
def NewL (H : Hp) (xs : List V) (Q : VK) : Prop := ∀ p, H p = none → Q (.ref p) (upd H p (.lst xs))
theorem PF1.new {K : PySem.W.Frag} {ι : Gh} {st : Sto} {H : Hp} {Q : VK} {zs : List PyData} (h : PF1 K ι st H Q zs st) (R : SRel K ι st H) {xs : List V} (r : RpA (Frz ι st) H xs zs) : NewL H xs (fun v H' => HF H' → Q v H') :=
  fun p hp hf => h ι H xs p R Ext.refl r hp hf
theorem PF1.ext {K : PySem.W.Frag} {ι ι' : Gh} {st st' s2 : Sto} {H H' : Hp} {Q : VK} {zs : List PyData} (h : PF1 K ι st H Q zs s2) (e : Ext ι st H ι' st' H') : PF1 K ι' st' H' Q zs s2 :=
  fun ι2 H2 xs p R E r => h ι2 H2 xs p R (e.trans E) r
def OpFA (K : PySem.W.Frag) (W : XW) (r : List V → Hp → VK → Prop) (f : GA) : Prop := ∀ (ι : Gh) (st : Sto) (H : Hp) (xs : List V) (ds : List D) (Q : VK), SRel K ι st H → RDs K ι st H xs ds →
  (f ds st).post (PF1 K ι st H Q) (PX1 K W ι st H) → r xs H (fun v H' => HF H' → Q v H')
def OpF2 (K : PySem.W.Frag) (W : XW) (r : R2) (f : D → D → Sto → Out (List PyData)) : Prop := ∀ (ι : Gh) (st : Sto) (H : Hp) (x y : V) (a b : D) (Q : VK), SRel K ι st H → RD K ι st H x a → RD K ι st H y b →
  (f a b st).post (PF1 K ι st H Q) (PX1 K W ι st H) → r x y H (fun v H' => HF H' → Q v H')
section
variable {K : PySem.W.Frag} {W : XW} {σ : L2.St} {H : Hp} {Q : VK} {ma mb : ME}
theorem tf_arg {r : List V → Hp → VK → Prop} {f : GA} {m : MA} (hf : OpFA K W r f) (h : TFo K W (mfArg f m) σ H Q) : TAo K W m σ H fun xs H1 => r xs H1 (fun v H' => HF H' → Q v H') := by
  obtain ⟨ι, env, st, R, EV, p⟩ := h
  refine ⟨ι, env, st, R, EV, Out.post_mono (Out.post_bind p) (fun a s1 q ι1 H1 x R1 E1 ra => ?_) fun _ _ q => q⟩
  exact hf ι1 s1 H1 x a Q R1 ra (Out.post_mono q (fun _ _ z => z.ext E1) fun _ _ z => z.ext E1)
theorem tf_bin {r : R2} {f : D → D → Sto → Out (List PyData)} (hf : OpF2 K W r f) (h : TFo K W (mfBin f ma mb) σ H Q) : tOp r (TEo K W ma) (TEo K W mb) σ H (fun v H' => HF H' → Q v H') := by
  obtain ⟨ι, env, st, R, EV, p⟩ := h
  refine ⟨ι, env, st, R, EV, Out.post_mono (Out.post_bind p) (fun a s1 q ι1 H1 x R1 E1 ra => ?_) fun _ _ q => q⟩
  refine ⟨ι1, env, s1, R1, EV.ext E1, Out.post_mono (Out.post_bind q) (fun b s2 q2 ι2 H2 y R2 E2 rb => ?_) fun _ _ z => z.ext E1⟩
  exact hf ι2 s2 H2 x y a b Q R2 (ra.ext E2) rb (Out.post_mono q2 (fun _ _ z => (z.ext E1).ext E2) fun _ _ z => (z.ext E1).ext E2)
end
def gDisp : GA := fun ds st => match valsOf ds with
  | some zs => if zs.length ≤ 1000 then .ok zs st else .stuck
  | none => .stuck
theorem opF_disp {K : PySem.W.Frag} {W : XW} : OpFA K W (fun xs H Q => xs.length ≤ sizeLine ∧ NewL H xs Q) gDisp := by
  intro ι st H xs ds Q R r p
  unfold gDisp at p
  split at p
  · rename_i zs e
    split at p
    · rename_i hl
      have ra := valsOf_at e r
      exact ⟨lim1000 (xs_len ra hl), p.new R ra⟩
    · exact p.elim
  · exact p.elim
def gList : GA := fun ds st => match ds with
  | [d] => match viewS st d with
    | some xs => .ok xs st
    | none => .stuck
  | _ => .stuck
theorem opF_list {K : PySem.W.Frag} {W : XW} : OpFA K W (fun xs H Q => ∃ p ys, xs = [.ref p] ∧ (SqL K H p ys ∨ SqT K H p ys) ∧ ∀ l, H l = none → Q (.ref l) (upd H l (.lst ys))) gList := by
  intro ι st H xs ds Q R r p
  unfold gList at p
  split at p
  · obtain ⟨x, rfl, r1⟩ := r.one
    split at p
    · rename_i zs e
      obtain ⟨q, us, rfl, h1, h2⟩ := viewS_at R e r1
      exact ⟨q, us, rfl, h1.imp .of KTup.sq, p.new R h2⟩
    · exact p.elim
  · exact p.elim
def insI (a : Int) : List Int → List Int
  | [] => [a]
  | b :: r => if a ≤ b then a :: b :: r else b :: insI a r
def sortI : List Int → List Int
  | [] => []
  | a :: r => insI a (sortI r)
theorem insI_perm (a : Int) : ∀ l : List Int, (insI a l).Perm (a :: l)
  | [] => .refl _
  | b :: r => by
    unfold insI
    split
    · exact .refl _
    · exact ((insI_perm a r).cons b).trans (.swap a b r)
theorem sortI_perm : ∀ l : List Int, (sortI l).Perm l
  | [] => .refl _
  | a :: r => (insI_perm a (sortI r)).trans ((sortI_perm r).cons a)
theorem insI_sorted (a : Int) : ∀ l : List Int, l.Pairwise (· ≤ ·) → (insI a l).Pairwise (· ≤ ·)
  | [], _ => by simp [insI]
  | b :: r, h => by
    unfold insI
    split
    · rename_i hab
      refine List.pairwise_cons.mpr ⟨fun c hc => ?_, h⟩
      rcases List.mem_cons.mp hc with rfl | hc
      · exact hab
      · exact Int.le_trans hab ((List.pairwise_cons.mp h).1 c hc)
    · rename_i hab
      refine List.pairwise_cons.mpr ⟨fun c hc => ?_, insI_sorted a r (List.pairwise_cons.mp h).2⟩
      rcases List.mem_cons.mp ((insI_perm a r).mem_iff.mp hc) with rfl | hc
      · omega
      · exact (List.pairwise_cons.mp h).1 c hc
theorem sortI_sorted : ∀ l : List Int, (sortI l).Pairwise (· ≤ ·)
  | [] => .nil
  | a :: r => insI_sorted a _ (sortI_sorted r)
theorem sorted_uniq : ∀ {l m : List Int}, l.Perm m → l.Pairwise (· ≤ ·) → m.Pairwise (· ≤ ·) → l = m
  | [], m, h, _, _ => (h.symm.eq_nil).symm ▸ rfl
  | a :: r, [], h, _, _ => by cases h.eq_nil
  | a :: r, b :: t, h, h1, h2 => by
    have ha : a ∈ b :: t := h.mem_iff.mp List.mem_cons_self
    have hb : b ∈ a :: r := h.mem_iff.mpr List.mem_cons_self
    have e : a = b := by
      rcases List.mem_cons.mp ha with e | ha
      · exact e
      · rcases List.mem_cons.mp hb with e | hb
        · exact e.symm
        · have q1 := (List.pairwise_cons.mp h1).1 b hb
          have q2 := (List.pairwise_cons.mp h2).1 a ha
          omega
    subst e
    rw [sorted_uniq (List.Perm.cons_inv h) (List.pairwise_cons.mp h1).2 (List.pairwise_cons.mp h2).2]
def gSortI : GA := fun ds st => match ds with
  | [d] => match viewL st d with
    | some xs => match intsOf xs with
      | some ns => .ok ((sortI ns).map .int) st
      | none => .stuck
    | none => .stuck
  | _ => .stuck
theorem rpA_ints {F : Addr → Prop} {H : Hp} : ∀ ns : List Int, RpA F H (ns.map V.int) (ns.map PyData.int)
  | [] => .nil
  | n :: r => .cons (.int n) (rpA_ints r)
theorem opF_sortI {K : PySem.W.Frag} {W : XW} : OpFA K W (rSortedI K) gSortI := by
  intro ι st H xs ds Q R r p
  unfold gSortI at p
  split at p
  · obtain ⟨x, rfl, r1⟩ := r.one
    split at p
    · rename_i zs e
      split at p
      · rename_i ns e2
        obtain ⟨q, us, rfl, h1, h2⟩ := viewL_at R e r1
        have h3 := intsOf_at e2 h2
        subst h3
        refine ⟨q, ns, rfl, .of h1, fun ns' a hp hs ha hf => ?_⟩
        have e3 : ns' = sortI ns := sorted_uniq (hp.trans (sortI_perm ns).symm) hs (sortI_sorted ns)
        subst e3
        exact p.new R (rpA_ints _) a ha hf
      · exact p.elim
    · exact p.elim
  · exact p.elim
def gCat : D → D → Sto → Out (List PyData) := fun a b st => match viewL st a, viewL st b with
  | some xs, some ys => if xs.length + ys.length ≤ lim then .ok (xs ++ ys) st else .stuck
  | _, _ => .stuck
theorem opF_cat {K : PySem.W.Frag} {W : XW} : OpF2 K W rCat gCat := by
  intro ι st H x y a b Q R ra rb p
  unfold gCat at p
  split at p
  · rename_i xs ys e1 e2
    split at p
    · rename_i hl
      obtain ⟨a1, us, rfl, h1, r1⟩ := viewL_at R e1 ra
      obtain ⟨b1, vs, rfl, h2, r2⟩ := viewL_at R e2 rb
      have hz : us.length + vs.length ≤ sizeLine := by rw [r1.length, r2.length]; exact lim_ok hl
      exact ⟨a1, b1, us, vs, rfl, rfl, h1, h2, hz, p.new R (r1.append r2)⟩
    · exact p.elim
  · exact p.elim
def gRep : D → D → Sto → Out (List PyData) := fun a b st => match viewL st a, iOf b with
  | some xs, some k => if -1000000 ≤ k ∧ k ≤ 1000000 ∧ xs.length * k.toNat ≤ lim then .ok (List.replicate k.toNat xs).flatten st else .stuck
  | _, _ => .stuck
theorem opF_rep {K : PySem.W.Frag} {W : XW} : OpF2 K W rRep gRep := by
  intro ι st H x y a b Q R ra rb p
  unfold gRep at p
  split at p
  · rename_i xs k e1 e2
    split at p
    · rename_i h
      obtain ⟨a1, us, rfl, h1, r1⟩ := viewL_at R e1 ra
      exact ⟨a1, k, us, rfl, iOf_at e2 rb, h1, by omega, by omega, by rw [r1.length]; exact lim_ok h.2.2, p.new R (r1.rep _)⟩
    · exact p.elim
  · exact p.elim
section
variable {X : Cx} {W : XW} {a b e : Expr} {es : List Expr} {ma mb : ME} {m : MA} {pos p : Pos}
theorem xf_disp (h : PA X es (TAo X.K W m)) : PE X (.List es pos) (TFo X.K W (mfArg gDisp m)) := pf_wrap (pe_lst h) fun σ H Q q => tf_arg opF_disp q
theorem xf_list {x : Str} (hg : Gl X x) (hm : X.mg x = none) (hv : bootBuiltins x = some (.type "list")) (ha : PA X (e :: es) (TAo X.K W m)) (hn : x ≠ "__name__" := by decide) (hdb : (x == ("__debug__" : Str)) = false := by decide)
    (he : starEach (e :: es) X.env = (false, eval e X.env) :: starEach es X.env := by rfl) (hpl : (backTo pos (starEach es X.env)).any (·.1) = false := by rfl) : PE X (.Call (.Name x p) (e :: es) [] pos) (TFo X.K W (mfArg gList m)) :=
  pf_wrap (pe_callTy call_list_of hg hm hv ha hn hdb he hpl) fun σ H Q q => tf_arg opF_list q
theorem xf_cat (ha : PE X a (TEo X.K W ma)) (hb : PE X b (TEo X.K W mb)) : PE X (.BinOp a .Add b pos) (TFo X.K W (mfBin gCat ma mb)) := pf_wrap (pe_op op_cat ha hb) fun σ H Q q => tf_bin opF_cat q
theorem xf_rep (ha : PE X a (TEo X.K W ma)) (hb : PE X b (TEo X.K W mb)) : PE X (.BinOp a .Mult b pos) (TFo X.K W (mfBin gRep ma mb)) := pf_wrap (pe_op op_rep ha hb) fun σ H Q q => tf_bin opF_rep q
end
end Fw
namespace Fw
open PySem PySem.Spec PyProof.Rows L2
abbrev MO := Ev → Sto → Out (Option Int)
def PO2 (K : PySem.W.Frag) (ι : Gh) (st : Sto) (H : Hp) (Q : Option Int → Hp → Prop) (b : Option Int) (st' : Sto) : Prop := ∀ ι' H', SRel K ι' st' H' → Ext ι st H ι' st' H' → Q b H'
theorem PO2.ext {K : PySem.W.Frag} {ι ι' : Gh} {st st' s2 : Sto} {H H' : Hp} {Q : Option Int → Hp → Prop} {b : Option Int} (h : PO2 K ι st H Q b s2) (e : Ext ι st H ι' st' H') : PO2 K ι' st' H' Q b s2 :=
  fun ι2 H2 R E => h ι2 H2 R (e.trans E)
def TOo (K : PySem.W.Frag) (W : XW) (m : MO) : TO := fun σ H Q => ∃ ι env st, SRel K ι st H ∧ EvR K ι st H σ env ∧ (m env st).post (PO2 K ι st H Q) (PX1 K W ι st H)
def moNone : MO := fun _ st => .ok none st
def moSome (m : ME) : MO := fun env st => (m env st).bind fun d s1 => match iOf d with
  | some i => .ok (some i) s1
  | none => .stuck
section
variable {X : Cx} {W : XW} {e : Expr}
theorem po_wrap {o : Option Expr} {t : TO} {m : MO} (h : PO X o t) (hi : ∀ σ H Q, TOo X.K W m σ H Q → t σ H (fun v H' => HF H' → Q v H')) : PO X o (TOo X.K W m) :=
  ⟨fun pins s σ H Q I q => thn (h.run pins s σ H _ I (hi σ H Q q)) fun _ _ ⟨v, H', I', r, q'⟩ => ⟨v, H', I', r, q' (hf_of I')⟩⟩
theorem xo_none : PO X none (TOo X.K W moNone) := po_wrap po_none fun σ H Q q => by
  obtain ⟨ι, env, st, R, EV, p⟩ := q
  exact fun _ => p ι H R Ext.refl
theorem xo_some {m : ME} (h : PE X e (TEo X.K W m)) : PO X (some e) (TOo X.K W (moSome m)) := po_wrap (po_some h) fun σ H Q q => by
  obtain ⟨ι, env, st, R, EV, p⟩ := q
  refine ⟨ι, env, st, R, EV, Out.post_mono (Out.post_bind p) (fun d s1 q ι1 H1 x R1 E1 ra => ?_) fun _ _ q => q⟩
  split at q
  · rename_i i e
    exact ⟨i, iOf_at e ra, fun _ => q ι1 H1 R1 E1⟩
  · exact q.elim
end
def cutP {α : Type} (xs : List α) (lo hi : Option Int) : List α := (xs.drop (HT.sIx xs.length 0 lo)).take (HT.sIx xs.length xs.length hi - HT.sIx xs.length 0 lo)
theorem RpA.cut {F : Addr → Prop} {H : Hp} {xs : List V} {ds : List PyData} (r : RpA F H xs ds) (lo hi : Option Int) : RpA F H (cutV xs lo hi) (cutP ds lo hi) := by
  unfold cutV cutP
  rw [r.length]
  exact (r.drop _).take _
def rSlN (K : PySem.W.Frag) : V → Option Int → Option Int → Hp → VK → Prop := fun x lo hi H Q => ∃ a xs, x = .ref a ∧ SqT K H a xs ∧
  (HT.sIx xs.length 0 lo = 0 ∧ HT.sIx xs.length xs.length hi = xs.length → Q (.ref a) H) ∧ (¬ (HT.sIx xs.length 0 lo = 0 ∧ HT.sIx xs.length xs.length hi = xs.length) → NewT H (cutV xs lo hi) Q)
theorem sl_tupN {X : Cx} : SlR X (rSlN X.K) := by
  intro pins s σ H x v vl vu lo hi sl Q I rx hs pl pu h
  obtain ⟨a, xs, rfl, hx, q1, q2⟩ := h
  cases rx
  obtain ⟨its, r, ht, hz⟩ := I.tuple hx
  have hlen : its.toArray.size = xs.length := by rw [List.size_toArray]; exact r.length.symm
  refine ⟨"tuple", _, PyProof.Rows.slot_tuple_getitem.lookup, ht.typeIs, ?_⟩
  by_cases hw : HT.sIx xs.length 0 lo = 0 ∧ HT.sIx xs.length xs.length hi = xs.length
  · refine getItem_tuple_whole ht hs pl pu ?_ ⟨.ref a, H, I, rfl, q1 hw⟩
    rw [hlen]
    exact hw
  · refine HT.getItem_tuple_cut ht hs pl pu ?_ ?_ ?_
    · rw [hlen]
      exact hw
    · rw [hlen]
      refine (q2 hw).laid (t' := s.toks) I ?_ (Nat.le_trans (cutV_length xs lo hi) hz)
      exact (r.drop _).take _
    · rw [hlen]
      exact hz
def slD (a : D) (lo hi : Option Int) : Sto → Out D := fun st => match viewL st a with
  | some xs => .ok (.v (.list (cutP xs lo hi))) st
  | none => match tOf a with
    | some xs => .ok (.v (.tuple (cutP xs lo hi))) st
    | none => match sOf a with
      | some z => if z.length ≤ lim then .ok (.v (.str (cutS z lo hi))) st else .stuck
      | none => .stuck
def mSl (m : ME) (lo hi : MO) : ME := fun env st => (m env st).bind fun a s1 => (lo env s1).bind fun l s2 => (hi env s2).bind fun h s3 => slD a l h s3
def mfSl (m : ME) (lo hi : MO) : MF := fun env st => (m env st).bind fun a s1 => (lo env s1).bind fun l s2 => (hi env s2).bind fun h s3 => match viewL s3 a with
  | some xs => .ok (cutP xs l h) s3
  | none => .stuck
theorem cut_whole {α : Type} {xs : List α} {lo hi : Option Int} (h1 : HT.sIx xs.length 0 lo = 0) (h2 : HT.sIx xs.length xs.length hi = xs.length) : cutP xs lo hi = xs := by
  unfold cutP
  rw [h1, h2, List.drop_zero, Nat.sub_zero, List.take_length]
section
variable {X : Cx} {W : XW} {e : Expr} {m : ME} {lo hi : Option Expr} {ml mh : MO} {pos p2 : Pos}
theorem x_slice (he : PE X e (TEo X.K W m)) (hl : PO X lo (TOo X.K W ml)) (hu : PO X hi (TOo X.K W mh)) : PE X (.Subscript e (.Slice lo hi none p2) pos) (TEo X.K W (mSl m ml mh)) := by
  refine pe_wrap (pe_slice (sl_list.or (sl_tupN.or sl_str)) he hl hu) fun σ H Q q => ?_
  obtain ⟨ι, env, st, R, EV, p⟩ := q
  refine ⟨ι, env, st, R, EV, Out.post_mono (Out.post_bind p) (fun a s1 q ι1 H1 x R1 E1 ra => ?_) fun _ _ q => q⟩
  refine ⟨ι1, env, s1, R1, EV.ext E1, Out.post_mono (Out.post_bind q) (fun l s2 q2 ι2 H2 R2 E2 => ?_) fun _ _ z => z.ext E1⟩
  refine ⟨ι2, env, s2, R2, (EV.ext E1).ext E2, Out.post_mono (Out.post_bind q2) (fun u s3 q3 ι3 H3 R3 E3 => ?_) fun _ _ z => (z.ext E1).ext E2⟩
  have ra3 := (ra.ext E2).ext E3
  have q4 : (slD a l u s3).post (PO1 X.K ι3 s3 H3 Q) (PX1 X.K W ι3 s3 H3) := Out.post_mono q3 (fun _ _ z => ((z.ext E1).ext E2).ext E3) fun _ _ z => ((z.ext E1).ext E2).ext E3
  unfold slD at q4
  split at q4
  · rename_i xs e1
    obtain ⟨b, us, rfl, h1, h2⟩ := viewL_at R3 e1 ra3
    exact .inl ⟨b, us, rfl, .of h1, fun p hp hf => q4.newLst R3 (h2.cut l u) hp hf⟩
  · split at q4
    · rename_i xs e1
      obtain ⟨b, us, rfl, h1, h2⟩ := tOf_at e1 ra3
      refine .inr (.inl ⟨b, us, rfl, h1.sq, fun hw _ => ?_, fun _ p o hp ho hf => q4.newTup R3 (h2.cut l u) hp ho hf⟩)
      rw [h2.length] at hw
      rw [cut_whole hw.1 hw.2] at q4
      rw [tOf_eq e1] at ra3
      exact q4.same R3 ra3
    · split at q4
      · rename_i z e1
        split at q4
        · rename_i hz
          exact .inr (.inr ⟨z, sOf_at e1 ra3, lim_ok hz, fun _ => q4.same R3 (.str _)⟩)
        · exact q4.elim
      · exact q4.elim
theorem xf_slice (he : PE X e (TEo X.K W m)) (hl : PO X lo (TOo X.K W ml)) (hu : PO X hi (TOo X.K W mh)) : PE X (.Subscript e (.Slice lo hi none p2) pos) (TFo X.K W (mfSl m ml mh)) := by
  refine pf_wrap (pe_slice sl_list he hl hu) fun σ H Q q => ?_
  obtain ⟨ι, env, st, R, EV, p⟩ := q
  refine ⟨ι, env, st, R, EV, Out.post_mono (Out.post_bind p) (fun a s1 q ι1 H1 x R1 E1 ra => ?_) fun _ _ q => q⟩
  refine ⟨ι1, env, s1, R1, EV.ext E1, Out.post_mono (Out.post_bind q) (fun l s2 q2 ι2 H2 R2 E2 => ?_) fun _ _ z => z.ext E1⟩
  refine ⟨ι2, env, s2, R2, (EV.ext E1).ext E2, Out.post_mono (Out.post_bind q2) (fun u s3 q3 ι3 H3 R3 E3 => ?_) fun _ _ z => (z.ext E1).ext E2⟩
  have ra3 := (ra.ext E2).ext E3
  split at q3
  · rename_i xs e1
    obtain ⟨b, us, rfl, h1, h2⟩ := viewL_at R3 e1 ra3
    exact ⟨b, us, rfl, .of h1, (((q3.ext E1).ext E2).ext E3).new R3 (h2.cut l u)⟩
  · exact q3.elim
def mfRev (m : ME) : MF := fun env st => (m env st).bind fun a s1 => match viewL s1 a with
  | some xs => .ok xs.reverse s1
  | none => .stuck
theorem xf_rev {k : Nat} {p1 p2 p3 : Pos} (he : PE X e (TEo X.K W m)) : PE X (.Subscript e (.Slice none none (some (.UnaryOp .USub (.Constant (.int 1) k p1) p2)) p3) pos) (TFo X.K W (mfRev m)) := by
  refine pf_wrap (pe_revL he) fun σ H Q q => ?_
  obtain ⟨ι, env, st, R, EV, p⟩ := q
  refine ⟨ι, env, st, R, EV, Out.post_mono (Out.post_bind p) (fun a s1 q ι1 H1 x R1 E1 ra => ?_) fun _ _ q => q⟩
  split at q
  · rename_i xs e1
    obtain ⟨b, us, rfl, h1, h2⟩ := viewL_at R1 e1 ra
    exact ⟨b, us, rfl, .of h1, (q.ext E1).new R1 h2.reverse⟩
  · exact q.elim
end
def frzO : O → Option PyData
  | .lst zs => some (.list zs)
  | .dct false kvs => (valsOf (kvs.map (·.2))).map fun vs => .dict ((kvs.map (·.1)).zip vs)
  | _ => none
def frz1 : F1 := fun d st => match d with
  | .ref n => match st[n]? with
    | some o => match frzO o with
      | some z => .ok (.v z) (st.set n .dead)
      | none => .stuck
    | none => .stuck
  | d => .ok d st
abbrev FM := D → List D → Sto → Out D
def isL (st : Sto) (d : D) : Bool := (viewL st d).isSome
def mM0 (f : FM) (mo : ME) : ME := fun env st => (mo env st).bind fun o s1 => if isL s1 o then f o [] s1 else .stuck
def mM (f : FM) (mo : ME) (ma : MA) : ME := fun env st => (mo env st).bind fun o s1 => if isL s1 o then (ma env s1).bind fun ds s2 => f o ds s2 else .stuck
def OpM (K : PySem.W.Frag) (W : XW) (r : V → List V → Hp → VK → Prop) (f : FM) : Prop := ∀ (ι : Gh) (st : Sto) (H : Hp) (x : V) (xs : List V) (o : D) (ds : List D) (Q : VK), SRel K ι st H → RD K ι st H x o → RDs K ι st H xs ds →
  (f o ds st).post (PO1 K ι st H Q) (PX1 K W ι st H) → r x xs H (fun v H' => HF H' → Q v H')
section
variable {X : Cx} {W : XW} {o e : Expr} {es : List Expr} {mo : ME} {ma : MA} {name : Str} {apos cpos : Pos} {id : String} {r : V → List V → Hp → VK → Prop} {f : FM}
theorem isL_ty {K : PySem.W.Frag} {ι : Gh} {st : Sto} {H : Hp} (R : SRel K ι st H) {d : D} {x : V} (h : isL st d = true) (r : RD K ι st H x d) : tyV K "list" x H := by
  obtain ⟨ds, e⟩ := Option.isSome_iff_exists.mp h
  obtain ⟨a, xs, rfl, h1, _⟩ := viewL_at R e r
  exact .inl ⟨rfl, xs, .of h1⟩
theorem x_m0 (pa : PlainAttrs "list") (slot : Slot "list" name id) (hty : typeOf (.builtin id) = pure (.type "method_descriptor")) (hm : MtR X id r) (hf : OpM X.K W r f) (ho : PE X o (TEo X.K W mo))
    (hbase : attributeBase o name X.env (eval o X.env) = eval o X.env := by rfl) (hline : (apos.endLine == cpos.line) = true := by rfl) : PE X (.Call (.Attribute o name apos) [] [] cpos) (TEo X.K W (mM0 f mo)) :=
  pe_wrap (pe_bm0 pa slot hty hm ho hbase hline) fun σ H Q q => by
    obtain ⟨ι, env, st, R, EV, p⟩ := q
    refine ⟨ι, env, st, R, EV, Out.post_mono (Out.post_bind p) (fun a s1 q ι1 H1 x R1 E1 ra => ?_) fun _ _ q => q⟩
    split at q
    · rename_i h
      exact ⟨isL_ty R1 h ra, hf ι1 s1 H1 x [] a [] Q R1 ra .nil (Out.post_mono q (fun _ _ z => z.ext E1) fun _ _ z => z.ext E1)⟩
    · exact q.elim
theorem x_m (pa : PlainAttrs "list") (slot : Slot "list" name id) (hty : typeOf (.builtin id) = pure (.type "method_descriptor")) (hm : MtR X id r) (hf : OpM X.K W r f) (ho : PE X o (TEo X.K W mo)) (ha : PA X (e :: es) (TAo X.K W ma))
    (hbase : attributeBase o name X.env (eval o X.env) = eval o X.env := by rfl)
    (hfew : ((backTo cpos (starEach (e :: es) X.env)).all (fun x => !x.1) && (backToKw cpos (keywordEach [] X.env)).all (fun x => x.1.isSome)
      && decide ((e :: es).length + ([] : List Keyword).length + (if ([] : List Keyword).isEmpty then 0 else 1) < 30)) = true := by rfl)
    (hline : (apos.endLine == cpos.line) = true := by rfl) (hs : starEach (e :: es) X.env = (false, eval e X.env) :: starEach es X.env := by rfl) (hplain : (backTo cpos (starEach es X.env)).any (·.1) = false := by rfl) :
    PE X (.Call (.Attribute o name apos) (e :: es) [] cpos) (TEo X.K W (mM f mo ma)) :=
  pe_wrap (pe_bm pa slot hty hm ho ha hbase hfew hline hs hplain) fun σ H Q q => by
    obtain ⟨ι, env, st, R, EV, p⟩ := q
    refine ⟨ι, env, st, R, EV, Out.post_mono (Out.post_bind p) (fun a s1 q ι1 H1 x R1 E1 ra => ?_) fun _ _ q => q⟩
    split at q
    · rename_i h
      refine ⟨isL_ty R1 h ra, ι1, env, s1, R1, EV.ext E1, Out.post_mono (Out.post_bind q) (fun ds s2 q2 ι2 H2 xs R2 E2 rb => ?_) fun _ _ z => z.ext E1⟩
      exact hf ι2 s2 H2 x xs a ds Q R2 (ra.ext E2) rb (Out.post_mono q2 (fun _ _ z => (z.ext E1).ext E2) fun _ _ z => (z.ext E1).ext E2)
    · exact q.elim
end
def lAt (st : Sto) : D → Option (Nat × List PyData)
  | .ref n => match st[n]? with
    | some (.lst zs) => some (n, zs)
    | _ => none
  | _ => none
theorem lAt_at {K : PySem.W.Frag} {ι : Gh} {st : Sto} {H : Hp} (R : SRel K ι st H) {x : V} {d : D} {n : Nat} {ds : List PyData} (e : lAt st d = some (n, ds)) (r : RD K ι st H x d) :
    ∃ a xs, x = .ref a ∧ H a = some (.lst xs) ∧ RpA (Frz ι st) H xs ds ∧ st[n]? = some (.lst ds) ∧ ι.ad[n]? = some a := by
  cases d with
  | ref k =>
    obtain ⟨a, h1, h2⟩ := r
    cases q : st[k]? with
    | none => simp only [lAt, q] at e; cases e
    | some o =>
      cases o with
      | lst zs =>
        simp only [lAt, q, Option.some.injEq, Prod.mk.injEq] at e
        obtain ⟨rfl, rfl⟩ := e
        obtain ⟨xs, e1, r⟩ := R.obj k _ a q h1
        exact ⟨a, xs, h2, e1, r, q, h1⟩
      | _ => simp only [lAt, q] at e; cases e
  | _ => cases e
theorem PO1.wrote {K : PySem.W.Frag} {ι : Gh} {st : Sto} {H : Hp} {Q : VK} {d : D} {n : Nat} {ds es : List PyData} {a : Addr} {ys : List V} {v : V} (p : PO1 K ι st H Q d (st.set n (.lst es))) (R : SRel K ι st H) (h1 : st[n]? = some (.lst ds)) (h2 : ι.ad[n]? = some a)
    (r : RpA (Frz ι st) H ys es) (hv : ∀ ι' st' H', Ext ι st H ι' st' H' → RD K ι' st' H' v d) (hf : HF (upd H a (.lst ys))) : Q v (upd H a (.lst ys)) := by
  have E : Ext ι st H ι (st.set n (.lst es)) (upd H a (.lst ys)) := Ext.write R h1 h2 (fun z => nomatch z) (fun _ _ z => nomatch z)
  exact p ι _ v (R.write h1 h2 (fun z => nomatch z) (fun _ _ z => nomatch z) hf ⟨ys, upd_same, r.ext E⟩ rfl) E (hv _ _ _ E)
def fmAppend : FM := fun o ds st => match lAt st o, ds with
  | some (n, zs), [.v d] => if zs.length < lim then .ok (.v .none) (st.set n (.lst (zs ++ [d]))) else .stuck
  | _, _ => .stuck
theorem opM_append {K : PySem.W.Frag} {W : XW} : OpM K W rAppend fmAppend := by
  intro ι st H x xs o ds Q R ro rd p
  unfold fmAppend at p
  split at p
  · rename_i n zs d e
    split at p
    · rename_i hl
      obtain ⟨a, us, rfl, h1, h2, h3, h4⟩ := lAt_at R e ro
      obtain ⟨y, rfl, ry⟩ := rd.one
      refine ⟨a, us, y, rfl, rfl, h1, by rw [h2.length]; exact Nat.lt_of_lt_of_le hl (lim_ok (Nat.le_refl _)), fun hf => ?_⟩
      exact p.wrote R h3 h4 (h2.append (.cons ry .nil)) (fun _ _ _ _ => .non) hf
    · exact p.elim
  · exact p.elim
def fmPop : FM := fun o ds st => match lAt st o, ds with
  | some (n, zs), [] => match zs[zs.length - 1]? with
    | some d => .ok (.v d) (st.set n (.lst zs.dropLast))
    | none => .stuck
  | _, _ => .stuck
theorem opM_pop {K : PySem.W.Frag} {W : XW} : OpM K W rPop fmPop := by
  intro ι st H x xs o ds Q R ro rd p
  unfold fmPop at p
  split at p
  · rename_i n zs e
    split at p
    · rename_i d ed
      obtain ⟨a, us, rfl, h1, h2, h3, h4⟩ := lAt_at R e ro
      cases rd
      obtain ⟨y, h5, h6⟩ := h2.get ed
      refine ⟨a, us, y, rfl, rfl, h1, by rw [h2.length]; exact h5, fun hf => ?_⟩
      exact p.wrote R h3 h4 h2.dropLast (fun _ _ _ E => h6.ext E) hf
    · exact p.elim
  · exact p.elim
def fmPopAt : FM := fun o ds st => match lAt st o, ds with
  | some (n, zs), [.v (.int i)] => if -1000000 ≤ i ∧ i ≤ 1000000 then match seqIndex? i zs.length with
      | some k => match zs[k]? with
        | some d => .ok (.v d) (st.set n (.lst (zs.eraseIdx k)))
        | none => .stuck
      | none => .stuck
    else .stuck
  | _, _ => .stuck
theorem opM_popAt {K : PySem.W.Frag} {W : XW} : OpM K W rPopAt fmPopAt := by
  intro ι st H x xs o ds Q R ro rd p
  unfold fmPopAt at p
  split at p
  · rename_i n zs i e
    split at p
    · rename_i hb
      split at p
      · rename_i k ek
        split at p
        · rename_i d ed
          obtain ⟨a, us, rfl, h1, h2, h3, h4⟩ := lAt_at R e ro
          obtain ⟨y, rfl, ry⟩ := rd.one
          have ey := iOf_at (d := .v (.int i)) rfl ry
          subst ey
          obtain ⟨y, h5, h6⟩ := h2.get ed
          refine ⟨a, us, i, k, y, rfl, rfl, h1, by omega, by omega, by rw [h2.length]; exact ek, h5, fun hf => ?_⟩
          exact p.wrote R h3 h4 (h2.erase k) (fun _ _ _ E => h6.ext E) hf
        · exact p.elim
      · exact p.elim
    · exact p.elim
  · exact p.elim
def idxP (y : PyData) : List PyData → Option Nat
  | [] => none
  | z :: r => if PyData.eqv z y then some 0 else (idxP y r).map (· + 1)
def fmIndex : FM := fun o ds st => match viewS st o, ds with
  | some zs, [.v d] => if flatP d && zs.all flatP then match idxP d zs with
      | some k => .ok (.v (.int (k : Nat))) st
      | none => .stuck
    else .stuck
  | _, _ => .stuck
theorem idxP_at {F : Addr → Prop} {H : Hp} {y : V} {d : PyData} (ry : Rp F H y d) (hd : flatP d = true) : ∀ {xs : List V} {ds : List PyData} {k : Nat}, RpA F H xs ds → ds.all flatP = true → idxP d ds = some k →
    ∃ z, xs[k]? = some z ∧ eqV z y = true ∧ ∀ (m : Nat) (z' : V), m < k → xs[m]? = some z' → eqV z' y = false
  | _, _, _, .nil, _, h => by cases h
  | _, _, k, .cons (x := x) (d := d') r t, hf, h => by
    rw [List.all_cons, Bool.and_eq_true] at hf
    unfold idxP at h
    split at h
    · rename_i e
      cases h
      exact ⟨x, rfl, by rw [eqV_of r ry hf.1 hd]; exact e, fun m _ hm => absurd hm (Nat.not_lt_zero _)⟩
    · rename_i e
      obtain ⟨j, h1, rfl⟩ := Option.map_eq_some_iff.mp h
      obtain ⟨z, h2, h3, h4⟩ := idxP_at ry hd t hf.2 h1
      refine ⟨z, by simpa using h2, h3, fun m z' hm hz => ?_⟩
      cases m with
      | zero =>
        have : x = z' := by simpa using hz
        subst this
        rw [eqV_of r ry hf.1 hd]
        simpa using e
      | succ m => exact h4 m z' (by omega) (by simpa using hz)
theorem viewS_L {st : Sto} {o : D} {zs ws : List PyData} (e : viewS st o = some zs) (ew : viewL st o = some ws) : zs = ws := by
  have : viewS st o = viewL st o := by
    cases o with
    | v w =>
      cases w with
      | tuple _ => cases ew
      | _ => rfl
    | _ => rfl
  rw [this, ew] at e
  exact (Option.some.inj e).symm
theorem opM_index {K : PySem.W.Frag} {W : XW} : OpM K W (rIndex K) (fun o ds st => if isL st o then fmIndex o ds st else .stuck) := by
  intro ι st H x xs o ds Q R ro rd p
  replace p : (if isL st o then fmIndex o ds st else .stuck).post (PO1 K ι st H Q) (PX1 K W ι st H) := p
  split at p
  · rename_i hL
    unfold fmIndex at p
    split at p
    · rename_i zs d e
      split at p
      · rename_i hf
        rw [Bool.and_eq_true] at hf
        split at p
        · rename_i k ek
          obtain ⟨ws, ew⟩ := Option.isSome_iff_exists.mp hL
          obtain ⟨a, us, rfl, h1, h2⟩ := viewL_at R ew ro
          have eq := viewS_L e ew
          subst eq
          obtain ⟨y, rfl, ry⟩ := rd.one
          obtain ⟨z, h3, h4, h5⟩ := idxP_at ry hf.1 h2 hf.2 ek
          exact ⟨a, us, y, k, z, rfl, rfl, .of h1, flat_of ry hf.1, flatAll_of h2 hf.2, h3, h4, h5, fun _ => p.same R (.int _)⟩
        · exact p.elim
      · exact p.elim
    · exact p.elim
  · exact p.elim
def rIndexT (H0 : Hp → Prop) (K : PySem.W.Frag) : V → List V → Hp → VK → Prop := fun x xs H Q => ∃ (a : Addr) (ys : List V) (y : V) (j : Nat) (z : V), x = V.ref a ∧ xs = [y] ∧ SqT K H a ys ∧ flatV y = true ∧ ys.all flatV = true ∧ ys[j]? = some z ∧ eqV z y = true ∧
  (∀ (m : Nat) (z' : V), m < j → ys[m]? = some z' → eqV z' y = false) ∧ Q (.int (j : Nat)) H
theorem mt_indexT {X : Cx} : MtR X "tuple.index" (rIndexT (fun _ => True) X.K) := by
  intro pins s σ H x xs v us Q I rx rxs h
  obtain ⟨a, ys, y, j, z, rfl, rfl, hl, fy, fys, hz, hzj, hno, q⟩ := h
  cases rx
  obtain ⟨uy, rfl, ry⟩ := vals1 rxs
  obtain ⟨its, rv, pl, hlen⟩ := I.tuple hl
  obtain ⟨⟨cls, dd, data, sls⟩, ho, hc, n, hdt⟩ := pl
  simp only at hc hdt
  subst hc hdt
  have hvl := rv.length
  obtain ⟨hjd, _⟩ := List.getElem?_eq_some_iff.mp hz
  have hj : j < its.toArray.size := by
    rw [List.size_toArray]
    omega
  have at_ : ∀ (m : Nat) (hm : m < its.toArray.size) (w : V), ys[m]? = some w → eqU y its.toArray[m] = eqV w y := fun m hm w hw => by
    obtain ⟨u, h1, h2⟩ := rv.get hw
    have e : its.toArray[m] = u := by
      have h3 := (List.getElem?_eq_some_iff.mp h1).2
      simpa using h3
    rw [e]
    exact eqU_of h2 (flat_at fys hw)
  refine call_meets PySem.F.slot_tuple_index ⟨_, ho, rfl⟩ PySem.F.entry_tuple_index (PySem.F.args_tuple_index_2 _ _)
    (TI.tuple_indexAt a its.toArray n dd sls uy (eqU y) j hj ?_ ?_) ⟨ho, fun w hw => mem_eqAt ry fy rv fys w (by simpa using hw), ⟨.int (j : Nat), H, I.tok _, ⟨_, rfl⟩, q⟩⟩
  · rw [at_ j hj z hz]
    exact hzj
  · intro m hm hmj
    have hmd : m < ys.length := by
      rw [List.size_toArray] at hm
      omega
    rw [at_ m hm _ (List.getElem?_eq_getElem hmd)]
    exact hno m _ hmj (List.getElem?_eq_getElem hmd)
def isT (d : D) : Bool := (tOf d).isSome
def mMT (f : FM) (mo : ME) (ma : MA) : ME := fun env st => (mo env st).bind fun o s1 => if isT o then (ma env s1).bind fun ds s2 => f o ds s2 else .stuck
theorem opM_indexT {K : PySem.W.Frag} {W : XW} : OpM K W (rIndexT (fun _ => True) K) (fun o ds st => if isT o then fmIndex o ds st else .stuck) := by
  intro ι st H x xs o ds Q R ro rd p
  replace p : (if isT o then fmIndex o ds st else .stuck).post (PO1 K ι st H Q) (PX1 K W ι st H) := p
  split at p
  · rename_i hL
    unfold fmIndex at p
    split at p
    · rename_i zs d e
      split at p
      · rename_i hf
        rw [Bool.and_eq_true] at hf
        split at p
        · rename_i k ek
          obtain ⟨ws, ew⟩ := Option.isSome_iff_exists.mp hL
          obtain ⟨a, us, rfl, h1, h2⟩ := tOf_at ew ro
          have eq : zs = ws := by
            rw [tOf_eq ew] at e
            exact (Option.some.inj e).symm
          subst eq
          obtain ⟨y, rfl, ry⟩ := rd.one
          obtain ⟨z, h3, h4, h5⟩ := idxP_at ry hf.1 h2 hf.2 ek
          exact ⟨a, us, y, k, z, rfl, rfl, h1.sq, flat_of ry hf.1, flatAll_of h2 hf.2, h3, h4, h5, fun _ => p.same R (.int _)⟩
        · exact p.elim
      · exact p.elim
    · exact p.elim
  · exact p.elim
section
variable {X : Cx} {W : XW} {o e : Expr} {es : List Expr} {mo : ME} {ma : MA} {to : TE} {t : TA} {name : Str} {apos cpos : Pos} {id : String} {r : V → List V → Hp → VK → Prop} {f : FM}
theorem pe_bmT (pa : PlainAttrs "tuple") (slot : Slot "tuple" name id) (hty : typeOf (.builtin id) = pure (.type "method_descriptor")) (hm : MtR X id r) (ho : PE X o to) (ha : PA X (e :: es) t)
    (hbase : attributeBase o name X.env (eval o X.env) = eval o X.env)
    (hfew : ((backTo cpos (starEach (e :: es) X.env)).all (fun x => !x.1) && (backToKw cpos (keywordEach [] X.env)).all (fun x => x.1.isSome)
      && decide ((e :: es).length + ([] : List Keyword).length + (if ([] : List Keyword).isEmpty then 0 else 1) < 30)) = true)
    (hline : (apos.endLine == cpos.line) = true) (hs : starEach (e :: es) X.env = (false, eval e X.env) :: starEach es X.env) (hplain : (backTo cpos (starEach es X.env)).any (·.1) = false) :
    PE X (.Call (.Attribute o name apos) (e :: es) [] cpos) (fun σ H Q => to σ H fun x H1 => (∃ a xs, x = .ref a ∧ KTup H1 a xs) ∧ t σ H1 fun xs H2 => r x xs H2 Q) := by
  refine ⟨fun pins s σ H Q I h => ?_⟩
  refine wpAny_Call_method_late hbase hfew hline rfl (thn (ho.run pins s σ H _ I h) fun v s1 hv => ?_)
  obtain ⟨x, H1, I1, r1, ⟨a, xs, rfl, o1, ha1, hd1⟩, q1⟩ := hv
  cases r1
  obtain ⟨hob, hto⟩ := I1.hok a _ ha1
  obtain ⟨_, _, _, ob2, hob2, hcl, _⟩ := hto
  rw [hob] at hob2
  cases hob2
  refine ⟨"tuple", id, pa, slot, hty, ⟨o1, hob, hcl⟩, fun b hb => ?_, ?_⟩
  · cases hb
    exact ⟨o1, hob, hd1⟩
  · have hA := ha.run cpos pins s1 σ H1 _ I1 q1
    rw [hs] at hA ⊢
    refine Calls.callWith_builtin ?_ (Calls.evalArgs_plain ?_)
    · show (false || (backTo cpos (starEach es X.env)).any (·.1)) = false
      rw [hplain]
      rfl
    · exact thn hA fun us s2 ⟨vs, H2, I2, r2, q2⟩ => hm pins s2 σ H2 (.ref a) vs (.ref a) us Q I2 rfl r2 q2
theorem x_mT (pa : PlainAttrs "tuple") (slot : Slot "tuple" name id) (hty : typeOf (.builtin id) = pure (.type "method_descriptor")) (hm : MtR X id r) (hf : OpM X.K W r f) (ho : PE X o (TEo X.K W mo)) (ha : PA X (e :: es) (TAo X.K W ma))
    (hbase : attributeBase o name X.env (eval o X.env) = eval o X.env := by rfl)
    (hfew : ((backTo cpos (starEach (e :: es) X.env)).all (fun x => !x.1) && (backToKw cpos (keywordEach [] X.env)).all (fun x => x.1.isSome)
      && decide ((e :: es).length + ([] : List Keyword).length + (if ([] : List Keyword).isEmpty then 0 else 1) < 30)) = true := by rfl)
    (hline : (apos.endLine == cpos.line) = true := by rfl) (hs : starEach (e :: es) X.env = (false, eval e X.env) :: starEach es X.env := by rfl) (hplain : (backTo cpos (starEach es X.env)).any (·.1) = false := by rfl) :
    PE X (.Call (.Attribute o name apos) (e :: es) [] cpos) (TEo X.K W (mMT f mo ma)) :=
  pe_wrap (pe_bmT pa slot hty hm ho ha hbase hfew hline hs hplain) fun σ H Q q => by
    obtain ⟨ι, env, st, R, EV, p⟩ := q
    refine ⟨ι, env, st, R, EV, Out.post_mono (Out.post_bind p) (fun a s1 q ι1 H1 x R1 E1 ra => ?_) fun _ _ q => q⟩
    split at q
    · rename_i h
      obtain ⟨ws, ew⟩ := Option.isSome_iff_exists.mp h
      obtain ⟨b, us, rfl, h1, h2⟩ := tOf_at ew ra
      refine ⟨⟨b, us, rfl, h1⟩, ι1, env, s1, R1, EV.ext E1, Out.post_mono (Out.post_bind q) (fun ds s2 q2 ι2 H2 xs R2 E2 rb => ?_) fun _ _ z => z.ext E1⟩
      exact hf ι2 s2 H2 _ xs a ds Q R2 (ra.ext E2) rb (Out.post_mono q2 (fun _ _ z => (z.ext E1).ext E2) fun _ _ z => (z.ext E1).ext E2)
    · exact q.elim
theorem fmIndex_L {o : D} {ds : List D} {st : Sto} (h : isT o = false) : (if isL st o then fmIndex o ds st else .stuck) = fmIndex o ds st := by
  by_cases hl : isL st o = true
  · rw [if_pos hl]
  · rw [if_neg hl]
    have e : viewS st o = none := by
      have e1 : viewL st o = none := by
        cases q : viewL st o with
        | none => rfl
        | some z =>
          unfold isL at hl
          rw [q] at hl
          exact absurd rfl hl
      cases o with
      | v w =>
        cases w with
        | tuple _ => cases h
        | _ => exact e1
      | _ => exact e1
    unfold fmIndex
    rw [e]
def mIndex (mo : ME) (ma : MA) : ME := fun env st => (mo env st).bind fun o s1 => if isL s1 o || isT o then (ma env s1).bind fun ds s2 => fmIndex o ds s2 else .stuck
theorem x_index (ho : PE X o (TEo X.K W mo)) (ha : PA X (e :: es) (TAo X.K W ma))
    (hbase : attributeBase o "index" X.env (eval o X.env) = eval o X.env := by rfl)
    (hfew : ((backTo cpos (starEach (e :: es) X.env)).all (fun x => !x.1) && (backToKw cpos (keywordEach [] X.env)).all (fun x => x.1.isSome)
      && decide ((e :: es).length + ([] : List Keyword).length + (if ([] : List Keyword).isEmpty then 0 else 1) < 30)) = true := by rfl)
    (hline : (apos.endLine == cpos.line) = true := by rfl) (hs : starEach (e :: es) X.env = (false, eval e X.env) :: starEach es X.env := by rfl) (hplain : (backTo cpos (starEach es X.env)).any (·.1) = false := by rfl) :
    PE X (.Call (.Attribute o "index" apos) (e :: es) [] cpos) (TEo X.K W (mIndex mo ma)) := by
  have hL := x_m (X := X) (W := W) PySem.F.plainAttrs_list PySem.F.slot_list_index PySem.F.type_list_index mt_index opM_index ho ha hbase hfew hline hs hplain
  have hT := x_mT (X := X) (W := W) PySem.F.plainAttrs_tuple PySem.F.slot_tuple_index PySem.F.type_tuple_index mt_indexT opM_indexT ho ha hbase hfew hline hs hplain
  refine pe_wrap (pe_or hL hT) fun σ H Q q => ?_
  obtain ⟨ι, env, st, R, EV, p⟩ := q
  have lift : ∀ {m : ME}, (m env st).post (PO1 X.K ι st H Q) (PX1 X.K W ι st H) → TEo X.K W m σ H (fun v H' => HF H' → Q v H') := fun z =>
    ⟨ι, env, st, R, EV, Out.post_mono z (fun _ _ w ι' H' x R' E' r _ => w ι' H' x R' E' r) fun _ _ w => w⟩
  have p2 := Out.post_bind p
  cases e1 : mo env st with
  | stuck => rw [e1] at p2; exact p2.elim
  | exn x s1 =>
    refine .inl (lift ?_)
    show (mM _ mo ma env st).post _ _
    unfold mM
    unfold mIndex at p
    rw [e1] at p ⊢
    exact p
  | ok o1 s1 =>
    unfold mIndex at p
    rw [e1, bind_ok] at p
    split at p
    · rename_i hc
      by_cases hl : isT o1 = true
      · refine .inr (lift ?_)
        show (mMT _ mo ma env st).post _ _
        unfold mMT
        rw [e1, bind_ok, if_pos hl]
        simp only [hl, if_true]
        exact p
      · have hf : isT o1 = false := by simpa using hl
        refine .inl (lift ?_)
        show (mM _ mo ma env st).post _ _
        unfold mM
        have h2 : isL s1 o1 = true := by simpa [hf] using hc
        rw [e1, bind_ok, if_pos h2]
        simp only [fmIndex_L hf]
        exact p
    · exact p.elim
end
end Fw
namespace Fw
open PySem PySem.Spec PyProof.Rows L2
def mTB (m : ME) : MT := fun env st => (m env st).bind fun d s1 => match bOf d with
  | some k => .ok k s1
  | none => .stuck
theorem emp_of {F : Addr → Prop} {H : Hp} {xs : List V} {ds : List PyData} (r : RpA F H xs ds) : xs.isEmpty = ds.isEmpty := by cases r <;> rfl
theorem RK.emp {K : PySem.W.Frag} {ι : Gh} {st : Sto} {H : Hp} {kvs : List (PyData × D)} {xs : List (Key × V)} (r : RK K ι st H kvs xs) : xs.isEmpty = kvs.isEmpty := by cases r <;> rfl
theorem RK.len {K : PySem.W.Frag} {ι : Gh} {st : Sto} {H : Hp} {kvs : List (PyData × D)} {xs : List (Key × V)} (r : RK K ι st H kvs xs) : xs.length = kvs.length := (Paired.length r).symm
def kAt (st : Sto) (d : D) : Option (List (PyData × D)) := match d with
  | .ref n => match st[n]? with
    | some (.dct false kvs) => some kvs
    | _ => none
  | _ => none
theorem kAt_at {K : PySem.W.Frag} {ι : Gh} {st : Sto} {H : Hp} (R : SRel K ι st H) {x : V} {d : D} {kvs : List (PyData × D)} (e : kAt st d = some kvs) (r : RD K ι st H x d) :
    ∃ n a xs, d = .ref n ∧ x = .ref a ∧ st[n]? = some (.dct false kvs) ∧ ι.ad[n]? = some a ∧ H a = some (.dK xs) ∧ RK K ι st H kvs xs := by
  cases d with
  | ref k =>
    obtain ⟨a, h1, h2⟩ := r
    cases q : st[k]? with
    | none => simp only [kAt, q] at e; cases e
    | some o =>
      cases o with
      | dct t zs =>
        cases t with
        | false =>
          simp only [kAt, q, Option.some.injEq] at e
          subst e
          obtain ⟨xs, e1, r⟩ := R.obj k _ a q h1
          exact ⟨k, a, xs, rfl, h2, q, h1, e1, r⟩
        | true => simp only [kAt, q] at e; cases e
      | _ => simp only [kAt, q] at e; cases e
  | _ => cases e
def truS' (st : Sto) (d : D) : Option Bool := match viewS st d with
  | some xs => some (!xs.isEmpty)
  | none => match d with
    | .v .none => some false
    | .v (.bool b) => some b
    | .v (.int i) => some (i != 0)
    | .v (.str z) => if z.length ≤ lim then some ((z.length : Int) != 0) else none
    | d => (kAt st d).map fun kvs => !kvs.isEmpty
def mTru' (m : ME) : MT := fun env st => (m env st).bind fun d s1 => match truS' s1 d with
  | some k => .ok k s1
  | none => .stuck
theorem truS_at {K : PySem.W.Frag} {ι : Gh} {st : Sto} {H : Hp} (R : SRel K ι st H) {d : D} {x : V} {k : Bool} (e : truS' st d = some k) (r : RD K ι st H x d) : TruV K x H k := by
  unfold truS' at e
  split at e
  · rename_i xs e1
    obtain ⟨a, us, rfl, h1, h2⟩ := viewS_at R e1 r
    rw [← Option.some.inj e, ← emp_of h2]
    rcases h1 with h1 | h1
    · exact .inl ⟨us, .of h1, rfl⟩
    · exact .inr (.inl ⟨us, h1.sq, rfl⟩)
  · split at e
    · have r' : Rp (Frz ι st) H x .none := r
      cases r'
      exact (Option.some.inj e).symm
    · rename_i b _
      have r' : Rp (Frz ι st) H x (.bool b) := r
      cases r'
      exact (Option.some.inj e).symm
    · rename_i i _
      have r' : Rp (Frz ι st) H x (.int i) := r
      cases r'
      exact (Option.some.inj e).symm
    · rename_i z _
      have r' : Rp (Frz ι st) H x (.str z) := r
      cases r'
      split at e
      · rename_i hl
        exact ⟨lim_ok hl, (Option.some.inj e).symm⟩
      · cases e
    · obtain ⟨kvs, e1, rfl⟩ := Option.map_eq_some_iff.mp e
      obtain ⟨n, a, xs, _, rfl, _, _, h1, h2⟩ := kAt_at R e1 r
      exact .inr (.inr ⟨xs, h1, by rw [h2.emp]⟩)
section
variable {X : Cx} {W : XW} {a b c e : Expr} {es rest : List Expr} {m ma mb mc : ME} {pos : Pos}
theorem tt_tb {σ : L2.St} {H : Hp} {Q : Bool → Hp → Prop} (q : TTo X.K W (mTB m) σ H Q) : TEo X.K W m σ H (fun x H1 => ∃ c, x = .bl c ∧ Q c H1) := by
  obtain ⟨ι, env, st, R, EV, p⟩ := q
  refine ⟨ι, env, st, R, EV, Out.post_mono (Out.post_bind p) (fun d s1 q ι1 H1 x R1 E1 ra => ?_) fun _ _ q => q⟩
  split at q
  · rename_i k e
    exact ⟨k, bOf_at e ra, q ι1 H1 R1 E1⟩
  · exact q.elim
theorem x_c {op : CmpOp} (h : PC X op a b (TEo X.K W m)) (h1 : behindInMarks op b = false := by first | exact nobehind _ (by decide) (by decide) | rfl) : PE X (.Compare a [op] [b] pos) (TEo X.K W m) := pe_cmp h h1
theorem t_c {op : CmpOp} (h : PC X op a b (TEo X.K W m)) (h1 : behindInMarks op b = false := by first | exact nobehind _ (by decide) (by decide) | rfl) : PT X (.Compare a [op] [b] pos) (TTo X.K W (mTB m)) :=
  ⟨fun pins s σ H Q I q => (pt_cmp h h1).run pins s σ H Q I (tt_tb q)⟩
theorem t_v (h : PE X e (TEo X.K W m)) (he : ∀ whole, isTrue e X.env whole = (do let v ← whole; standAt e.pos; holding [v] (truthy v)) := by intro _; rfl) : PT X e (TTo X.K W (mTru' m)) :=
  pt_wrap (pt_truth h he) fun σ H Q q => by
    obtain ⟨ι, env, st, R, EV, p⟩ := q
    refine ⟨ι, env, st, R, EV, Out.post_mono (Out.post_bind p) (fun d s1 q ι1 H1 x R1 E1 ra => ?_) fun _ _ q => q⟩
    split at q
    · rename_i k e
      exact ⟨k, truS_at R1 e ra, fun _ => q ι1 H1 R1 E1⟩
    · exact q.elim
def mNotT (m : MT) : MT := fun env st => (m env st).bind fun k s1 => .ok (!k) s1
def mAndT (m n : MT) : MT := fun env st => (m env st).bind fun k s1 => if k then n env s1 else .ok false s1
def mOrT (m n : MT) : MT := fun env st => (m env st).bind fun k s1 => if k then .ok true s1 else n env s1
variable {t u : MT}
theorem t_not (h : PT X a (TTo X.K W t)) : PT X (.UnaryOp .Not a pos) (TTo X.K W (mNotT t)) := pt_wrap (pt_not h) fun σ H Q q => by
  obtain ⟨ι, env, st, R, EV, p⟩ := q
  exact ⟨ι, env, st, R, EV, Out.post_mono (Out.post_bind p) (fun k s1 q ι1 H1 R1 E1 _ => q ι1 H1 R1 E1) fun _ _ q => q⟩
theorem t_and1 (h : PT X a (TTo X.K W t)) : PW X (.BoolOp .And [a] pos) (TTo X.K W t) := pw_and1 h
theorem t_or1 (h : PT X a (TTo X.K W t)) : PW X (.BoolOp .Or [a] pos) (TTo X.K W t) := pw_or1 h
theorem t_and (h : PT X a (TTo X.K W t)) (h2 : PW X (.BoolOp .And (b :: rest) pos) (TTo X.K W u)) : PW X (.BoolOp .And (a :: b :: rest) pos) (TTo X.K W (mAndT t u)) :=
  pw_wrap (pw_and h h2) fun σ H Q q => by
    obtain ⟨ι, env, st, R, EV, p⟩ := q
    refine ⟨ι, env, st, R, EV, Out.post_mono (Out.post_bind p) (fun k s1 q ι1 H1 R1 E1 => ?_) fun _ _ q => q⟩
    cases k with
    | true =>
      rw [if_pos rfl]
      exact ⟨ι1, env, s1, R1, EV.ext E1, Out.post_mono q (fun _ _ z ι' H' R' E' _ => z.ext E1 ι' H' R' E') fun _ _ z => z.ext E1⟩
    | false =>
      rw [if_neg Bool.false_ne_true]
      exact fun _ => q ι1 H1 R1 E1
theorem t_or (h : PT X a (TTo X.K W t)) (h2 : PW X (.BoolOp .Or (b :: rest) pos) (TTo X.K W u)) : PW X (.BoolOp .Or (a :: b :: rest) pos) (TTo X.K W (mOrT t u)) :=
  pw_wrap (pw_or h h2) fun σ H Q q => by
    obtain ⟨ι, env, st, R, EV, p⟩ := q
    refine ⟨ι, env, st, R, EV, Out.post_mono (Out.post_bind p) (fun k s1 q ι1 H1 R1 E1 => ?_) fun _ _ q => q⟩
    cases k with
    | false =>
      rw [if_neg Bool.false_ne_true]
      exact ⟨ι1, env, s1, R1, EV.ext E1, Out.post_mono q (fun _ _ z ι' H' R' E' _ => z.ext E1 ι' H' R' E') fun _ _ z => z.ext E1⟩
    | true =>
      rw [if_pos rfl]
      exact fun _ => q ι1 H1 R1 E1
def mAndV (ma mb : ME) : ME := fun env st => (ma env st).bind fun d s1 => match truS' s1 d with
  | some true => mb env s1
  | some false => .ok d s1
  | none => .stuck
def mOrV (ma mb : ME) : ME := fun env st => (ma env st).bind fun d s1 => match truS' s1 d with
  | some false => mb env s1
  | some true => .ok d s1
  | none => .stuck
def mNotV (ma : ME) : ME := fun env st => (ma env st).bind fun d s1 => match truS' s1 d with
  | some k => .ok (.v (.bool (!k))) s1
  | none => .stuck
theorem x_one {op} (h : PE X a (TEo X.K W m)) : PE X (.BoolOp op [a] pos) (TEo X.K W m) := pe_one h
theorem x_and (ha : PE X a (TEo X.K W ma)) (hb : PE X (.BoolOp .And (b :: rest) pos) (TEo X.K W mb)) : PE X (.BoolOp .And (a :: b :: rest) pos) (TEo X.K W (mAndV ma mb)) :=
  pe_wrap (pe_andT ha hb) fun σ H Q q => by
    obtain ⟨ι, env, st, R, EV, p⟩ := q
    refine ⟨ι, env, st, R, EV, Out.post_mono (Out.post_bind p) (fun d s1 q ι1 H1 x R1 E1 ra => ?_) fun _ _ q => q⟩
    split at q
    · rename_i e
      refine ⟨true, truS_at R1 e ra, ?_⟩
      rw [if_pos rfl]
      exact ⟨ι1, env, s1, R1, EV.ext E1, Out.post_mono q (fun _ _ z ι' H' x' R' E' r' _ => z.ext E1 ι' H' x' R' E' r') fun _ _ z => z.ext E1⟩
    · rename_i e
      refine ⟨false, truS_at R1 e ra, ?_⟩
      rw [if_neg Bool.false_ne_true]
      exact fun _ => q ι1 H1 x R1 E1 ra
    · exact q.elim
theorem x_or (ha : PE X a (TEo X.K W ma)) (hb : PE X (.BoolOp .Or (b :: rest) pos) (TEo X.K W mb)) : PE X (.BoolOp .Or (a :: b :: rest) pos) (TEo X.K W (mOrV ma mb)) :=
  pe_wrap (pe_orT ha hb) fun σ H Q q => by
    obtain ⟨ι, env, st, R, EV, p⟩ := q
    refine ⟨ι, env, st, R, EV, Out.post_mono (Out.post_bind p) (fun d s1 q ι1 H1 x R1 E1 ra => ?_) fun _ _ q => q⟩
    split at q
    · rename_i e
      refine ⟨false, truS_at R1 e ra, ?_⟩
      rw [if_neg Bool.false_ne_true]
      exact ⟨ι1, env, s1, R1, EV.ext E1, Out.post_mono q (fun _ _ z ι' H' x' R' E' r' _ => z.ext E1 ι' H' x' R' E' r') fun _ _ z => z.ext E1⟩
    · rename_i e
      refine ⟨true, truS_at R1 e ra, ?_⟩
      rw [if_pos rfl]
      exact fun _ => q ι1 H1 x R1 E1 ra
    · exact q.elim
def mIte (t : MT) (ma mb : ME) : ME := fun env st => (t env st).bind fun k s1 => if k then ma env s1 else mb env s1
theorem x_ite (hc : PT X c (TTo X.K W t)) (ha : PE X a (TEo X.K W ma)) (hb : PE X b (TEo X.K W mb)) : PE X (.IfExp c a b pos) (TEo X.K W (mIte t ma mb)) :=
  pe_wrap (pe_ifExp hc ha hb) fun σ H Q q => by
    obtain ⟨ι, env, st, R, EV, p⟩ := q
    refine ⟨ι, env, st, R, EV, Out.post_mono (Out.post_bind p) (fun k s1 q ι1 H1 R1 E1 => ?_) fun _ _ q => q⟩
    have q' : ∀ {mm : ME}, (mm env s1).post (PO1 X.K ι st H Q) (PX1 X.K W ι st H) → TEo X.K W mm σ H1 (fun v H' => HF H' → Q v H') := fun z =>
      ⟨ι1, env, s1, R1, EV.ext E1, Out.post_mono z (fun _ _ z ι' H' x' R' E' r' _ => z.ext E1 ι' H' x' R' E' r') fun _ _ z => z.ext E1⟩
    cases k with
    | true => exact iteT (q' q)
    | false => exact iteF (q' q)
end
end Fw
namespace Fw
open PySem PySem.Spec PyProof.Rows L2
inductive SO where
  | nx (env : Ev) (st : Sto)
  | rt (d : D) (st : Sto)
  | bk (env : Ev) (st : Sto)
  | ct (env : Ev) (st : Sto)
  | exn (e : Exn) (st : Sto)
  | stuck
abbrev MS := Ev → Sto → SO
def SO.post (K : PySem.W.Frag) (W : XW) (ι : Gh) (st : Sto) (H : Hp) (D : Ends) : SO → Prop
  | .nx env s1 => ∀ ι' H' σ', SRel K ι' s1 H' → Ext ι st H ι' s1 H' → EvR K ι' s1 H' σ' env → D.nx σ' H'
  | .rt d s1 => ∀ ι' H' x, SRel K ι' s1 H' → Ext ι st H ι' s1 H' → RD K ι' s1 H' x d → D.rt x H'
  | .bk env s1 => ∀ ι' H' σ', SRel K ι' s1 H' → Ext ι st H ι' s1 H' → EvR K ι' s1 H' σ' env → D.bk σ' H'
  | .ct env s1 => ∀ ι' H' σ', SRel K ι' s1 H' → Ext ι st H ι' s1 H' → EvR K ι' s1 H' σ' env → D.ct σ' H'
  | .exn e s1 => PX1 K W ι st H e s1
  | .stuck => False
def TSo (K : PySem.W.Frag) (W : XW) (m : MS) : TS := fun D σ H => ∃ ι env st, SRel K ι st H ∧ EvR K ι st H σ env ∧ (m env st).post K W ι st H D
def Out.thn {α : Type} (x : Out α) (f : α → Sto → SO) : SO := match x with
  | .ok a st => f a st
  | .exn e st => .exn e st
  | .stuck => .stuck
@[simp] theorem thn_ok {α : Type} (a : α) (st : Sto) (f : α → Sto → SO) : (Out.ok a st).thn f = f a st := rfl
def SO.seq (x : SO) (f : MS) : SO := match x with
  | .nx env st => f env st
  | o => o
section
variable {K : PySem.W.Frag} {W : XW} {ι ι' : Gh} {st st' : Sto} {H H' : Hp}
theorem SO.post_ext {D : Ends} (E : Ext ι st H ι' st' H') : ∀ {o : SO}, o.post K W ι st H D → o.post K W ι' st' H' D
  | .nx _ _, h => fun i1 h1 s1 R1 E1 r => h i1 h1 s1 R1 (E.trans E1) r
  | .rt _ _, h => fun i1 h1 s1 R1 E1 r => h i1 h1 s1 R1 (E.trans E1) r
  | .bk _ _, h => fun i1 h1 s1 R1 E1 r => h i1 h1 s1 R1 (E.trans E1) r
  | .ct _ _, h => fun i1 h1 s1 R1 E1 r => h i1 h1 s1 R1 (E.trans E1) r
  | .exn _ _, h => PX1.ext h E
  | .stuck, h => h
theorem SO.post_mono {D D' : Ends} (h1 : ∀ σ H, D.nx σ H → D'.nx σ H) (h2 : ∀ x H, D.rt x H → D'.rt x H) (h3 : ∀ σ H, D.bk σ H → D'.bk σ H) (h4 : ∀ σ H, D.ct σ H → D'.ct σ H) : ∀ {o : SO}, o.post K W ι st H D → o.post K W ι st H D'
  | .nx _ _, h => fun i1 g s1 R1 E1 r => h1 _ _ (h i1 g s1 R1 E1 r)
  | .rt _ _, h => fun i1 g s1 R1 E1 r => h2 _ _ (h i1 g s1 R1 E1 r)
  | .bk _ _, h => fun i1 g s1 R1 E1 r => h3 _ _ (h i1 g s1 R1 E1 r)
  | .ct _ _, h => fun i1 g s1 R1 E1 r => h4 _ _ (h i1 g s1 R1 E1 r)
  | .exn _ _, h => h
  | .stuck, h => h
theorem thn_post {α : Type} {x : Out α} {f : α → Sto → SO} {D : Ends} (h : (x.thn f).post K W ι st H D) : x.post (fun a s1 => (f a s1).post K W ι st H D) (PX1 K W ι st H) := by
  cases x <;> exact h
end
def hfE (D : Ends) : Ends := ⟨fun σ H => HF H → D.nx σ H, fun v H => HF H → D.rt v H, fun σ H => HF H → D.bk σ H, fun σ H => HF H → D.ct σ H⟩
theorem hf_SP {X : Cx} {pins : List (Addr × Obj)} {D : Ends} {f : Flow} {s' : Shared} (h : SP X pins (hfE D) f s') : SP X pins D f s' := by
  cases f with
  | next => obtain ⟨σ', H', I, q⟩ := h; exact ⟨σ', H', I, q (hf_of I)⟩
  | brk => obtain ⟨σ', H', I, q⟩ := h; exact ⟨σ', H', I, q (hf_of I)⟩
  | cont => obtain ⟨σ', H', I, q⟩ := h; exact ⟨σ', H', I, q (hf_of I)⟩
  | ret u => obtain ⟨v, σ', H', I, r, q⟩ := h; exact ⟨v, σ', H', I, r, q (hf_of I)⟩
theorem post_hf {K : PySem.W.Frag} {W : XW} {ι : Gh} {st : Sto} {H : Hp} {D : Ends} {o : SO} (h : o.post K W ι st H D) : o.post K W ι st H (hfE D) :=
  SO.post_mono (fun _ _ q _ => q) (fun _ _ q _ => q) (fun _ _ q _ => q) (fun _ _ q _ => q) h
section
variable {X : Cx} {W : XW} {s : Stmt} {ss rest : List Stmt} {e c : Expr} {m : ME} {t : MT} {a b : MS} {pos : Pos}
theorem ps_wrap {tt : TS} {m : MS} (h : PS X s tt) (hi : ∀ D σ H, TSo X.K W m D σ H → tt (hfE D) σ H) : PS X s (TSo X.K W m) :=
  ⟨fun pins s σ H D I q => thn (h.run pins s σ H _ I (hi D σ H q)) fun _ _ z => hf_SP z⟩
theorem pss_wrap {tt : TS} {m : MS} (h : PSs X ss tt) (hi : ∀ D σ H, TSo X.K W m D σ H → tt (hfE D) σ H) : PSs X ss (TSo X.K W m) :=
  ⟨fun pins s σ H D I q => thn (h.run pins s σ H _ I (hi D σ H q)) fun _ _ z => hf_SP z⟩
def sNil : MS := fun env st => .nx env st
def sSeq (a b : MS) : MS := fun env st => (a env st).seq b
theorem ss_nil : PSs X [] (TSo X.K W sNil) := pss_wrap pss_nil fun D σ H q => by
  obtain ⟨ι, env, st, R, EV, p⟩ := q
  exact fun _ => p ι H σ R Ext.refl EV
theorem ss_one (h : PS X s (TSo X.K W a)) : PSs X [s] (TSo X.K W a) := pss_one h
theorem ss_cons (h : PS X s (TSo X.K W a)) (h2 : PSs X rest (TSo X.K W b)) : PSs X (s :: rest) (TSo X.K W (sSeq a b)) := by
  refine ⟨fun pins sh σ H D I q => (pss_cons h h2).run pins sh σ H D I ?_⟩
  obtain ⟨ι, env, st, R, EV, p⟩ := q
  refine ⟨ι, env, st, R, EV, ?_⟩
  unfold sSeq at p
  cases e : a env st with
  | nx env1 s1 =>
    rw [e] at p
    exact fun ι1 H1 σ1 R1 E1 EV1 => ⟨ι1, env1, s1, R1, EV1, SO.post_ext E1 p⟩
  | rt d s1 => rw [e] at p; exact p
  | bk e1 s1 => rw [e] at p; exact p
  | ct e1 s1 => rw [e] at p; exact p
  | exn e1 s1 => rw [e] at p; exact p
  | stuck => rw [e] at p; exact p
def sRet (m : ME) : MS := fun env st => (m env st).thn fun d s1 => .rt d s1
def sRetN : MS := fun _ st => .rt (.v .none) st
def sExp (m : ME) : MS := fun env st => (m env st).thn fun _ s1 => .nx env s1
def sIf (t : MT) (a b : MS) : MS := fun env st => (t env st).thn fun k s1 => if k then a env s1 else b env s1
theorem s_ret (h : PE X e (TEo X.K W m)) : PS X (.Return (some e) pos) (TSo X.K W (sRet m)) := ps_wrap (ps_ret h) fun D σ H q => by
  obtain ⟨ι, env, st, R, EV, p⟩ := q
  exact ⟨ι, env, st, R, EV, Out.post_mono (thn_post p) (fun d s1 q ι1 H1 x R1 E1 ra _ => q ι1 H1 x R1 E1 ra) fun _ _ q => q⟩
theorem s_expr (h : PE X e (TEo X.K W m)) (hs : swapsWith e none pos.line X.env = pure false := by rfl) : PS X (.Expr e pos) (TSo X.K W (sExp m)) := ps_wrap (ps_expr h hs) fun D σ H q => by
  obtain ⟨ι, env, st, R, EV, p⟩ := q
  exact ⟨ι, env, st, R, EV, Out.post_mono (thn_post p) (fun d s1 q ι1 H1 x R1 E1 ra _ => q ι1 H1 σ R1 E1 (EV.ext E1)) fun _ _ q => q⟩
theorem s_if {p q : List Stmt} (hc : PT X c (TTo X.K W t)) (ha : PSs X p (TSo X.K W a)) (hb : PSs X q (TSo X.K W b)) : PS X (.If c p q pos) (TSo X.K W (sIf t a b)) := ps_wrap (ps_if hc ha hb) fun D σ H q => by
  obtain ⟨ι, env, st, R, EV, p⟩ := q
  refine ⟨ι, env, st, R, EV, Out.post_mono (thn_post p) (fun k s1 q ι1 H1 R1 E1 => ?_) fun _ _ q => q⟩
  cases k with
  | true => exact iteT ⟨ι1, env, s1, R1, EV.ext E1, post_hf (SO.post_ext E1 q)⟩
  | false => exact iteF ⟨ι1, env, s1, R1, EV.ext E1, post_hf (SO.post_ext E1 q)⟩
end
inductive Itm where
  | one (d : D)
  | many (ds : List D)
def RI (K : PySem.W.Frag) (ι : Gh) (st : Sto) (H : Hp) (x : V) : Itm → Prop
  | .one d => RD K ι st H x d
  | .many ds => ∃ a xs, x = .ref a ∧ Rd H a (.tup xs) ∧ Frz ι st a ∧ RDs K ι st H xs ds
theorem RI.ext {K : PySem.W.Frag} {ι ι' : Gh} {st st' : Sto} {H H' : Hp} (E : Ext ι st H ι' st' H') {x : V} : ∀ {d : Itm}, RI K ι st H x d → RI K ι' st' H' x d
  | .one _, h => RD.ext E h
  | .many _, ⟨a, xs, h1, h2, h3, h4⟩ => by
    rcases h2 with h2 | ⟨o, h2⟩
    · obtain ⟨f, k⟩ := E.keep _ _ h2 h3
      exact ⟨a, xs, h1, .inl k, f, RDs.ext E h4⟩
    · obtain ⟨f, k⟩ := E.keep _ _ h2 h3
      exact ⟨a, xs, h1, .inr ⟨o, k⟩, f, RDs.ext E h4⟩
abbrev MG := Itm → Ev → Sto → Out Ev
abbrev MGs := List D → Ev → Sto → Out Ev
def Wp (vs : Option (List Nat)) (σ σ' : L2.St) : Prop := match vs with
  | none => True
  | some vs => L2.wipe σ' vs = L2.wipe σ vs
theorem Wp.refl {vs : Option (List Nat)} {σ : L2.St} : Wp vs σ σ := by cases vs <;> trivial
theorem Wp.trans {vs : Option (List Nat)} {σ σ' σ2 : L2.St} (a : Wp vs σ σ') (b : Wp vs σ' σ2) : Wp vs σ σ2 := by
  cases vs with
  | none => trivial
  | some vs => exact Eq.trans b a
theorem wipe_set {i : Nat} {v : V} : ∀ {vs : List Nat} {σ : L2.St}, i ∈ vs → L2.wipe (σ.set i (some v)) vs = L2.wipe σ vs
  | j :: vs, σ, h => by
    unfold L2.wipe
    by_cases e : i ∈ vs
    · rw [wipe_set e]
    · have hj : i = j := by
        rcases List.mem_cons.mp h with h | h
        · exact h
        · exact absurd h e
      subst hj
      have key : ∀ (ws : List Nat), i ∉ ws → L2.wipe (σ.set i (some v)) ws = (L2.wipe σ ws).set i (some v) := by
        intro ws
        induction ws with
        | nil => intro _; rfl
        | cons k ws ih =>
          intro hk
          rw [List.mem_cons, not_or] at hk
          unfold L2.wipe
          rw [ih hk.2, List.set_comm _ _ hk.1]
      rw [key vs e, List.set_set]
theorem Wp.set {vs : Option (List Nat)} {i : Nat} (h : ∀ ws, vs = some ws → i ∈ ws) {σ : L2.St} {v : V} : Wp vs σ (σ.set i (some v)) := by
  cases vs with
  | none => trivial
  | some ws => exact wipe_set (h ws rfl)
def PG1 (K : PySem.W.Frag) (vs : Option (List Nat)) (σ : L2.St) (ι : Gh) (st : Sto) (H : Hp) (Q : L2.St → Hp → Prop) (env : Ev) (st' : Sto) : Prop := ∀ ι' H' σ', SRel K ι' st' H' → Ext ι st H ι' st' H' → EvR K ι' st' H' σ' env → Wp vs σ σ' → Q σ' H'
theorem PG1.ext {K : PySem.W.Frag} {vs : Option (List Nat)} {σ σ1 : L2.St} {ι ι' : Gh} {st st' s2 : Sto} {H H' : Hp} {Q : L2.St → Hp → Prop} {env : Ev} (h : PG1 K vs σ ι st H Q env s2) (e : Ext ι st H ι' st' H') (w : Wp vs σ σ1) : PG1 K vs σ1 ι' st' H' Q env s2 :=
  fun i g σ R E r z => h i g σ R (e.trans E) r (w.trans z)
def TGo (K : PySem.W.Frag) (W : XW) (m : MG) (vs : Option (List Nat) := none) : TG := fun x σ H Q => ∃ ι env st d, SRel K ι st H ∧ EvR K ι st H σ env ∧ RI K ι st H x d ∧ (m d env st).post (PG1 K vs σ ι st H Q) (PX1 K W ι st H)
def TGso (K : PySem.W.Frag) (W : XW) (m : MGs) (vs : Option (List Nat) := none) : TGs := fun xs σ H Q => ∃ ι env st ds, SRel K ι st H ∧ EvR K ι st H σ env ∧ RDs K ι st H xs ds ∧ (m ds env st).post (PG1 K vs σ ι st H Q) (PX1 K W ι st H)
def gNm (i : Nat) : MG := fun x env st => match x with
  | .one d => .ok (env.set i (some d)) st
  | .many _ => .stuck
def gNone : MGs := fun ds env st => match ds with
  | [] => .ok env st
  | _ => .stuck
def gMore (g : MG) (r : MGs) : MGs := fun ds env st => match ds with
  | d :: t => (g (.one d) env st).bind fun e1 s1 => r t e1 s1
  | _ => .stuck
def gTp (n : Nat) (gs : MGs) : MG := fun x env st => match x with
  | .many ds => if ds.length = n then gs ds env st else .stuck
  | .one d => match tOf d with
    | some zs => if zs.length = n then gs (zs.map .v) env st else .stuck
    | none => .stuck
section
variable {X : Cx} {W : XW} {tg e : Expr} {ts : List Expr} {g : MG} {gs : MGs} {pos : Pos} {vs : Option (List Nat)}
theorem pg_wrap {t : TG} (h : PG X tg t) (hi : ∀ x σ H Q, TGo X.K W g vs x σ H Q → t x σ H (fun σ' H' => HF H' → Q σ' H')) : PG X tg (TGo X.K W g vs) :=
  ⟨fun pins s σ H v u Q I r q => thn (h.run pins s σ H v u _ I r (hi v σ H Q q)) fun _ _ ⟨σ', H', I', q'⟩ => ⟨σ', H', I', q' (hf_of I')⟩⟩
theorem pgs_wrap {t : TGs} (h : PGs X ts t) (hi : ∀ x σ H Q, TGso X.K W gs vs x σ H Q → t x σ H (fun σ' H' => HF H' → Q σ' H')) : PGs X ts (TGso X.K W gs vs) :=
  ⟨fun pins s σ H v u Q I r q => thn (h.run pins s σ H v u _ I r (hi v σ H Q q)) fun _ _ ⟨σ', H', I', q'⟩ => ⟨σ', H', I', q' (hf_of I')⟩⟩
theorem g_name (i : Nat) {x : Str} (h : PG X (.Name x pos) (gName i)) (hv : ∀ ws, vs = some ws → i ∈ ws := by first | exact fun _ z => nomatch z | (intro ws z; cases z; decide)) : PG X (.Name x pos) (TGo X.K W (gNm i) vs) := pg_wrap h fun x σ H Q q => by
  obtain ⟨ι, env, st, d, R, EV, r, p⟩ := q
  cases d with
  | one d => exact fun _ => p ι H _ R Ext.refl (EV.set r i) (Wp.set hv)
  | many _ => exact p.elim
theorem gs_nil : PGs X [] (TGso X.K W gNone vs) := pgs_wrap pgs_nil fun xs σ H Q q => by
  obtain ⟨ι, env, st, ds, R, EV, r, p⟩ := q
  cases r with
  | nil => exact ⟨rfl, fun _ => p ι H σ R Ext.refl EV Wp.refl⟩
  | cons _ _ => exact p.elim
theorem gs_cons (h : PG X e (TGo X.K W g vs)) (h2 : PGs X ts (TGso X.K W gs vs)) (hs : (assignEach (e :: ts) X.env).map (·.2) = assign e X.env :: (assignEach ts X.env).map (·.2) := by rfl) : PGs X (e :: ts) (TGso X.K W (gMore g gs) vs) :=
  pgs_wrap (pgs_cons h h2 hs) fun xs σ H Q q => by
    obtain ⟨ι, env, st, ds, R, EV, r, p⟩ := q
    cases r with
    | nil => exact p.elim
    | cons h1 t =>
      rename_i _ d _ ds
      refine ⟨_, _, rfl, ι, env, st, .one d, R, EV, h1, Out.post_mono (Out.post_bind p) (fun e1 s1 q ι1 H1 σ1 R1 E1 EV1 w1 => ?_) fun _ _ q => q⟩
      exact ⟨ι1, e1, s1, ds, R1, EV1, RDs.ext E1 t, Out.post_mono q (fun _ _ z i g σ' R' E' r' w' _ => z.ext E1 w1 i g σ' R' E' r' w') fun _ _ z => z.ext E1⟩
theorem rds_vals {K : PySem.W.Frag} {ι : Gh} {st : Sto} {H : Hp} : ∀ {xs : List V} {zs : List PyData}, RpA (Frz ι st) H xs zs → RDs K ι st H xs (zs.map .v)
  | _, _, .nil => .nil
  | _, _, .cons h t => .cons h (rds_vals t)
theorem g_tup {k n : Nat} (hc : X.calm = true) (h : PGs X ts (TGso X.K W gs vs)) (hst : PG X (.Tuple ts k pos) (gTup X.K n (TGso X.K W gs vs))) : PG X (.Tuple ts k pos) (TGo X.K W (gTp n gs) vs) := pg_wrap hst fun x σ H Q q => by
  obtain ⟨ι, env, st, d, R, EV, r, p⟩ := q
  have up : ∀ {ds : List D} {xs : List V}, RDs X.K ι st H xs ds → (gs ds env st).post (PG1 X.K vs σ ι st H Q) (PX1 X.K W ι st H) → TGso X.K W gs vs xs σ H (fun σ' H' => HF H' → Q σ' H') := fun r q =>
    ⟨ι, env, st, _, R, EV, r, Out.post_mono q (fun _ _ z i g σ' R' E' r' w' _ => z i g σ' R' E' r' w') fun _ _ z => z⟩
  cases d with
  | many ds =>
    obtain ⟨a, xs, rfl, h1, h2, h3⟩ := r
    replace p : (if ds.length = n then gs ds env st else .stuck).post (PG1 X.K vs σ ι st H Q) (PX1 X.K W ι st H) := p
    split at p
    · rename_i hl
      exact ⟨a, xs, rfl, .inl h1, by rw [h3.length]; exact hl, up h3 p⟩
    · exact p.elim
  | one d =>
    unfold gTp at p
    simp only at p
    split at p
    · rename_i zs e
      split at p
      · rename_i hl
        obtain ⟨a, xs, rfl, h1, h2⟩ := tOf_at e r
        exact ⟨a, xs, rfl, h1.sq, by rw [h2.length]; exact hl, up (rds_vals h2) p⟩
      · exact p.elim
    · exact p.elim
end
theorem hf_upd {H : Hp} (h : HF H) {p : Addr} {u : HO} (hu : szOk u) : HF (upd H p u) := fun a v e => by
  by_cases ha : a = p
  · subst ha
    rw [upd_same] at e
    cases e
    exact hu
  · rw [upd_ne ha] at e
    exact h a v e
theorem hf_tup {H : Hp} (h : HF H) {p : Addr} {xs : List V} (hl : xs.length ≤ sizeLine) : HF (upd H p (.tup xs)) := hf_upd h hl
theorem hf_lst {H : Hp} (h : HF H) {p : Addr} {xs : List V} (hl : xs.length ≤ sizeLine) : HF (upd H p (.lst xs)) := hf_upd h hl
def sAsg (m : ME) (g : MG) : MS := fun env st => (m env st).thn fun d s1 => (g (.one d) env s1).thn fun e1 s2 => .nx e1 s2
def sAsgT (n : Nat) (m : MA) (gs : MGs) : MS := fun env st => (m env st).thn fun ds s1 => if ds.length = n ∧ n ≤ 1000 then (gs ds env s1).thn fun e1 s2 => .nx e1 s2 else .stuck
def sPar2 (i j : Nat) (m : MA) : MS := fun env st => (m env st).thn fun ds s1 => match ds with
  | [a, b] => .nx ((env.set i (some a)).set j (some b)) s1
  | _ => .stuck
def sPar3 (i j l : Nat) (m : MA) : MS := fun env st => (m env st).thn fun ds s1 => match ds with
  | [a, b, c] => .nx (((env.set i (some a)).set j (some b)).set l (some c)) s1
  | _ => .stuck
def putD (kvs : List (PyData × D)) (k : PyData) (d : D) : List (PyData × D) :=
  if (kvs.any fun p => keq false p.1 k) = true then kvs.map (fun p => if keq false p.1 k then (p.1, d) else p) else kvs ++ [(k, d)]
def setU (o i d : D) (st : Sto) : Out Unit := match lAt st o, i, d with
  | some (n, zs), .v (.int k), .v z => match ixN zs.length k with
    | some j => .ok () (st.set n (.lst (zs.set j z)))
    | none => .stuck
  | some _, _, _ => .stuck
  | none, .v kd, d => match o, kAt st o, key1 kd with
    | .ref n, some kvs, some _ => if kvs.length < lim ∧ d.low n = true then .ok () (st.set n (.dct false (putD kvs kd d))) else .stuck
    | _, _, _ => .stuck
  | none, _, _ => .stuck
def sSub (m mo mi : ME) : MS := fun env st => (m env st).thn fun d s1 => (mo env s1).thn fun o s2 => (mi env s2).thn fun i s3 => (setU o i d s3).thn fun _ s4 => .nx env s4
section
variable {K : PySem.W.Frag} {ι : Gh} {st : Sto} {H : Hp}
theorem keq_kD {kd : PyData} {k : Key} (hk : key1 kd = some k) (k' : Key) : keq false (kD k') kd = decide (k' = k) := by
  unfold keq
  rw [if_neg Bool.false_ne_true, key1_kD, hk]
  by_cases e : k' = k
  · subst e; simp
  · rw [decide_eq_false e, decide_eq_false fun z => e (Option.some.inj z)]
theorem RK.any {kd : PyData} {k : Key} (hk : key1 kd = some k) : ∀ {kvs : List (PyData × D)} {xs : List (Key × V)}, RK K ι st H kvs xs → (xs.any fun kv => decide (kv.1 = k)) = kvs.any fun p => keq false p.1 kd
  | _, _, .nil => rfl
  | _, _, .cons (a := p) (b := q) h t => by
    rw [List.any_cons, List.any_cons, RK.any hk t, h.1, keq_kD hk]
theorem RK.repl {kd : PyData} {k : Key} (hk : key1 kd = some k) {d : D} {y : V} (r : RD K ι st H y d) : ∀ {kvs : List (PyData × D)} {xs : List (Key × V)}, RK K ι st H kvs xs →
    RK K ι st H (kvs.map fun p => if keq false p.1 kd then (p.1, d) else p) (xs.map fun kv => if kv.1 = k then (kv.1, y) else kv)
  | _, _, .nil => .nil
  | _, _, .cons (a := p) (b := q) h t => by
    rw [List.map_cons, List.map_cons]
    refine .cons ?_ (RK.repl hk r t)
    rw [h.1, keq_kD hk]
    by_cases e : q.1 = k
    · rw [if_pos (decide_eq_true e), if_pos e]
      exact ⟨rfl, r⟩
    · rw [if_neg (by simpa using e), if_neg e]
      exact h
theorem RK.app : ∀ {kvs kvs2 : List (PyData × D)} {xs ys : List (Key × V)}, RK K ι st H kvs xs → RK K ι st H kvs2 ys → RK K ι st H (kvs ++ kvs2) (xs ++ ys)
  | _, _, _, _, .nil, s => s
  | _, _, _, _, .cons h t, s => .cons h (RK.app t s)
theorem RK.put {kd : PyData} {k : Key} (hk : key1 kd = some k) {d : D} {y : V} (r : RD K ι st H y d) {kvs : List (PyData × D)} {xs : List (Key × V)} (h : RK K ι st H kvs xs) : RK K ι st H (putD kvs kd d) (putK xs k y) := by
  unfold putD putK
  rw [RK.any hk h]
  split
  · exact RK.repl hk r h
  · exact h.app (.cons ⟨kD_of hk, r⟩ .nil)
theorem putD_low {n : Nat} {kvs : List (PyData × D)} {kd : PyData} {d : D} (h : (kvs.all fun p => p.2.low n) = true) (hd : d.low n = true) : ((putD kvs kd d).all fun p => p.2.low n) = true := by
  unfold putD
  split
  · rw [List.all_map]
    refine List.all_eq_true.mpr fun p hp => ?_
    show (if keq false p.1 kd = true then (p.1, d) else p).2.low n = true
    split
    · exact hd
    · exact List.all_eq_true.mp h p hp
  · rw [List.all_append, h]
    simp [hd]
end
section
variable {X : Cx} {W : XW} {tg e o i : Expr} {ts es : List Expr} {m mo mi : ME} {ma : MA} {g : MG} {gs : MGs} {pos pos' : Pos}
theorem s_asg (he : PE X e (TEo X.K W m)) (hg : PG X tg (TGo X.K W g)) (hs : swapsWithSole [tg] e pos.line X.env = pure false := by rfl) (hw : swappedStores [tg] e X.env = pure none := by rfl) (h1 : (assignEach [tg] X.env).map (·.2) = [assign tg X.env] := by rfl) : PS X (.Assign [tg] e pos) (TSo X.K W (sAsg m g)) :=
  ps_wrap (ps_asg he hg hs hw h1) fun D σ H q => by
    obtain ⟨ι, env, st, R, EV, p⟩ := q
    refine ⟨ι, env, st, R, EV, Out.post_mono (thn_post p) (fun d s1 q ι1 H1 x R1 E1 ra => ?_) fun _ _ q => q⟩
    exact ⟨ι1, env, s1, .one d, R1, EV.ext E1, ra, Out.post_mono (thn_post q) (fun e1 s2 q2 i2 h2 σ2 R2 E2 EV2 _ _ => q2 i2 h2 σ2 R2 (E1.trans E2) EV2) fun _ _ z => z.ext E1⟩
theorem s_asgT {n k k' : Nat} {p1 p2 : Pos} (ha : PA X es (TAo X.K W ma)) (hg : PG X (.Tuple ts k p1) (gTup X.K n (TGso X.K W gs))) (hs : swapsWithSole [.Tuple ts k p1] (.Tuple es k' p2) pos.line X.env = pure false := by rfl)
    (hw : swappedStores [.Tuple ts k p1] (.Tuple es k' p2) X.env = pure none := by rfl) : PS X (.Assign [.Tuple ts k p1] (.Tuple es k' p2) pos) (TSo X.K W (sAsgT n ma gs)) :=
  ps_wrap (ps_asg (pe_tup ha) hg hs hw) fun D σ H q => by
    obtain ⟨ι, env, st, R, EV, p⟩ := q
    refine ⟨ι, env, st, R, EV, Out.post_mono (thn_post p) (fun ds s1 q ι1 H1 xs R1 E1 ra => ?_) fun _ _ q => q⟩
    split at q
    · rename_i hl
      have hx : xs.length ≤ sizeLine := by rw [ra.length, hl.1]; exact lim1000 hl.2
      refine ⟨hx, fun a hn => ⟨a, xs, rfl, .of upd_same, by rw [ra.length]; exact hl.1, ?_⟩⟩
      have E2 : Ext ι1 s1 H1 ι1 s1 (upd H1 a (.tup xs)) := Ext.fresh R1 hn
      have E12 := E1.trans E2
      exact ⟨ι1, env, s1, ds, R1.fresh hn (hf_tup R1.hf hx), EV.ext E12, RDs.ext E2 ra, Out.post_mono (thn_post q) (fun e1 s2 q2 i2 h2 σ2 R2 E2 EV2 _ _ => q2 i2 h2 σ2 R2 (E12.trans E2) EV2) fun _ _ z => z.ext E12⟩
    · exact q.elim
theorem s_par2 {i j : Nat} (ha : PA X es (TAo X.K W ma)) {stm : Stmt} (h : PS X stm (tPar i j (TAo X.K W ma))) : PS X stm (TSo X.K W (sPar2 i j ma)) := ps_wrap h fun D σ H q => by
  obtain ⟨ι, env, st, R, EV, p⟩ := q
  refine ⟨ι, env, st, R, EV, Out.post_mono (thn_post p) (fun ds s1 q ι1 H1 xs R1 E1 ra => ?_) fun _ _ q => q⟩
  split at q
  · obtain ⟨x, y, rfl, r1, r2⟩ := ra.two
    exact ⟨x, y, rfl, fun _ => q ι1 H1 _ R1 E1 (((EV.ext E1).set r1 _).set r2 _)⟩
  · exact q.elim
theorem s_par3 {i j l : Nat} (ha : PA X es (TAo X.K W ma)) {stm : Stmt} (h : PS X stm (tPar3 i j l (TAo X.K W ma))) : PS X stm (TSo X.K W (sPar3 i j l ma)) := ps_wrap h fun D σ H q => by
  obtain ⟨ι, env, st, R, EV, p⟩ := q
  refine ⟨ι, env, st, R, EV, Out.post_mono (thn_post p) (fun ds s1 q ι1 H1 xs R1 E1 ra => ?_) fun _ _ q => q⟩
  split at q
  · cases ra with
    | cons r1 t =>
      obtain ⟨y, z, rfl, r2, r3⟩ := RDs.two t
      exact ⟨_, y, z, rfl, fun _ => q ι1 H1 _ R1 E1 ((((EV.ext E1).set r1 _).set r2 _).set r3 _)⟩
  · exact q.elim
theorem s_sub (gd : Gd X) (he : PE X e (TEo X.K W m)) (ho : PE X o (TEo X.K W mo)) (hi : PE X i (TEo X.K W mi)) (hsL : PG X (.Subscript o i pos') (gSub (TEo X.K W mo) (TEo X.K W mi) rSetL)) (hs1 : swapsWithSole [.Subscript o i pos'] e pos.line X.env = pure false := by rfl)
    (hw : swappedStores [.Subscript o i pos'] e X.env = pure none := by rfl) (hs : swapsWith e (some (.Subscript o i pos')) pos.line X.env = pure false := by rfl) : PS X (.Assign [.Subscript o i pos'] e pos) (TSo X.K W (sSub m mo mi)) := by
  have h1 := ps_asg (pos := pos) he hsL hs1 hw
  have h2 := ps_dput (pos := pos) (pos' := pos') (by have := gd.un; omega) ho hi he hs
  have h : PS X (.Assign [.Subscript o i pos'] e pos) (fun D σ H => tAsg (TEo X.K W m) (gSub (TEo X.K W mo) (TEo X.K W mi) rSetL) D σ H ∨ sDPut (TEo X.K W mo) (TEo X.K W mi) (TEo X.K W m) D σ H) :=
    ⟨fun pins s σ H D I q => q.elim (h1.run pins s σ H D I) (h2.run pins s σ H D I)⟩
  refine ps_wrap h fun D σ H q => ?_
  obtain ⟨ι, env, st, R, EV, p⟩ := q
  unfold sSub at p
  cases e1 : m env st with
  | stuck => rw [e1] at p; exact p.elim
  | exn x s1 => rw [e1] at p; exact .inl ⟨ι, env, st, R, EV, by rw [e1]; exact p⟩
  | ok d s1 =>
    rw [e1, thn_ok] at p
    cases e2 : mo env s1 with
    | stuck => rw [e2] at p; exact p.elim
    | exn x s2 =>
      rw [e2] at p
      refine .inl ⟨ι, env, st, R, EV, ?_⟩
      rw [e1]
      exact fun ι1 H1 x R1 E1 ra => ⟨ι1, env, s1, R1, EV.ext E1, by rw [e2]; exact PX1.ext p E1⟩
    | ok o1 s2 =>
      rw [e2, thn_ok] at p
      cases e3 : mi env s2 with
      | stuck => rw [e3] at p; exact p.elim
      | exn x s3 =>
        rw [e3] at p
        refine .inl ⟨ι, env, st, R, EV, ?_⟩
        rw [e1]
        refine fun ι1 H1 x R1 E1 ra => ⟨ι1, env, s1, R1, EV.ext E1, ?_⟩
        rw [e2]
        exact fun ι2 H2 y R2 E2 rb => ⟨ι2, env, s2, R2, (EV.ext E1).ext E2, by rw [e3]; exact PX1.ext (PX1.ext p E1) E2⟩
      | ok i1 s3 =>
        rw [e3, thn_ok] at p
        cases e4 : setU o1 i1 d s3 with
        | stuck => rw [e4] at p; exact p.elim
        | exn x s4 =>
          unfold setU at e4
          split at e4
          · split at e4 <;> cases e4
          · cases e4
          · split at e4
            · split at e4 <;> cases e4
            · cases e4
          · cases e4
        | ok _ s4 =>
          rw [e4, thn_ok] at p
          replace p : ∀ ι' H' σ', SRel X.K ι' s4 H' → Ext ι st H ι' s4 H' → EvR X.K ι' s4 H' σ' env → D.nx σ' H' := p
          unfold setU at e4
          split at e4
          · rename_i n zs k z hL
            split at e4
            · rename_i j hj
              cases e4
              refine .inl ⟨ι, env, st, R, EV, ?_⟩
              rw [e1]
              refine fun ι1 H1 x R1 E1 ra => ⟨ι1, env, s1, R1, EV.ext E1, ?_⟩
              rw [e2]
              refine fun ι2 H2 y R2 E2 rb => ⟨ι2, env, s2, R2, (EV.ext E1).ext E2, ?_⟩
              rw [e3]
              refine fun ι3 H3 w R3 E3 rc => ?_
              obtain ⟨a, us, rfl, h1, h2, h3, h4⟩ := lAt_at R3 hL (rb.ext E3)
              have ew := iOf_at (d := .v (.int k)) rfl rc
              subst ew
              refine ⟨a, us, k, j, rfl, rfl, h1, by rw [h2.length]; exact hj, fun hf => ?_⟩
              have E4 : Ext ι3 s3 H3 ι3 (s3.set n (.lst (zs.set j z))) (upd H3 a (.lst (us.set j x))) := Ext.write R3 h3 h4 (fun z => nomatch z) (fun _ _ z => nomatch z)
              have E := E1.trans (E2.trans (E3.trans E4))
              have rx : Rp (Frz ι3 s3) H3 x z := Rp.ext (E2.trans E3) ra
              exact p ι3 _ σ (R3.write h3 h4 (fun z => nomatch z) (fun _ _ z => nomatch z) hf ⟨_, upd_same, (h2.set rx j).ext E4⟩ rfl) E (EV.ext E)
            · cases e4
          · cases e4
          · rename_i d _ _ _ kd hL
            split at e4
            · rename_i n kvs k hk hK
              split at e4
              · rename_i hc
                cases e4
                refine .inr ⟨ι, env, st, R, EV, ?_⟩
                rw [e1]
                refine fun ι1 H1 x R1 E1 ra => ⟨ι1, env, s1, R1, EV.ext E1, ?_⟩
                rw [e2]
                refine fun ι2 H2 y R2 E2 rb => ⟨ι2, env, s2, R2, (EV.ext E1).ext E2, ?_⟩
                rw [e3]
                refine fun ι3 H3 w R3 E3 rc => ?_
                obtain ⟨n', a, us, en, rfl, h3, h4, h1, h2⟩ := kAt_at R3 hK (rb.ext E3)
                cases en
                have rc' : Rp (Frz ι3 s3) H3 w kd := rc
                rw [kD_of hk] at rc'
                have ew := kV_of rc'
                subst ew
                have hl : us.length < sizeLine := by rw [h2.len]; exact Nat.lt_of_lt_of_le hc.1 (lim_ok (Nat.le_refl _))
                refine ⟨a, _, rfl, DPut.k h1 hl, fun hf => ?_⟩
                have E4 : Ext ι3 s3 H3 ι3 (s3.set n (.dct false (putD kvs kd d))) (upd H3 a (.dK (putK us k x))) := Ext.write R3 h3 h4 (fun z => nomatch z) (fun _ _ z => nomatch z)
                have E := E1.trans (E2.trans (E3.trans E4))
                have rx : RD X.K ι3 s3 H3 x d := ra.ext (E2.trans E3)
                refine p ι3 _ σ (R3.write h3 h4 (fun z => nomatch z) (fun _ _ z => nomatch z) hf ⟨_, upd_same, RK.ext E4 (RK.put hk rx h2)⟩ (putD_low (R3.low n _ h3) hc.2)) E (EV.ext E)
              · cases e4
            · cases e4
          · cases e4
end
end Fw
namespace Fw
open PySem PySem.Spec PyProof.Rows L2
section
variable {K : PySem.W.Frag} {ι ι' : Gh} {st st' : Sto} {H H' : Hp}
structure Mv (ι : Gh) (st : Sto) (H : Hp) (ι' : Gh) (st' : Sto) (H' : Hp) : Prop where
  keep : ∀ q u, H q = some u → Frz ι st q → Frz ι' st' q ∧ H' q = some u
  pre : ∀ (n : Nat) (a : Addr), ι.ad[n]? = some a → ι'.ad[n]? = some a
  lk : ∀ {n : Nat} {t : Bool} {kvs : List (PyData × D)} {a : Addr}, st[n]? = some (.lck t kvs) → ι.ad[n]? = some a → st'[n]? = some (.lck t kvs) ∧ H' a = H a
theorem Mv.rp (m : Mv ι st H ι' st' H') {v : V} {d : PyData} (h : Rp (Frz ι st) H v d) : Rp (Frz ι' st') H' v d := Rp.mv (fun q u e f => let ⟨a, b⟩ := m.keep q u e f; ⟨a, .inl b⟩) h
theorem Mv.rpA (m : Mv ι st H ι' st' H') {v : List V} {d : List PyData} (h : RpA (Frz ι st) H v d) : RpA (Frz ι' st') H' v d := RpA.mv (fun q u e f => let ⟨a, b⟩ := m.keep q u e f; ⟨a, .inl b⟩) h
theorem Mv.rd (m : Mv ι st H ι' st' H') {x : V} : ∀ {d : D}, RD K ι st H x d → RD K ι' st' H' x d
  | .v d, h => m.rp h
  | .ref n, ⟨a, h1, h2⟩ => ⟨a, m.pre n a h1, h2⟩
  | .scr ns, ⟨a, h1, h2⟩ => ⟨a, h1, h2.imp id fun ⟨o, h, f⟩ => let ⟨a, b⟩ := m.keep _ _ h f; ⟨o, b, a⟩⟩
theorem Mv.ev (m : Mv ι st H ι' st' H') {σ : L2.St} {env : Ev} (h : EvR K ι st H σ env) : EvR K ι' st' H' σ env := ⟨h.1, fun i d q => let ⟨x, h1, h2⟩ := h.2 i d q; ⟨x, h1, m.rd h2⟩⟩
theorem Mv.rk (m : Mv ι st H ι' st' H') : ∀ {kvs : List (PyData × D)} {xs : List (Key × V)}, RK K ι st H kvs xs → RK K ι' st' H' kvs xs
  | _, _, .nil => .nil
  | _, _, .cons h r => .cons ⟨h.1, m.rd h.2⟩ (Mv.rk m r)
theorem Mv.rt (m : Mv ι st H ι' st' H') : ∀ {kvs : List (PyData × D)} {xs : List (List Key × V)}, RT K ι st H kvs xs → RT K ι' st' H' kvs xs
  | _, _, .nil => .nil
  | _, _, .cons h r => .cons ⟨h.1, m.rd h.2⟩ (Mv.rt m r)
theorem Mv.rtab (m : Mv ι st H ι' st' H') : ∀ {kvs : List (PyData × D)} {xs : List (NestedKey × Addr × V)}, RTab K ι st H kvs xs → RTab K ι' st' H' kvs xs
  | _, _, .nil => .nil
  | _, _, .cons h r => .cons ⟨h.1, m.rp h.2.1, m.rd h.2.2⟩ (Mv.rtab m r)
theorem Mv.rda (m : Mv ι st H ι' st' H') : ∀ {ds : List D} {xs : List V}, RDA K ι st H ds xs → RDA K ι' st' H' ds xs
  | _, _, .nil => .nil
  | _, _, .cons h r => .cons (m.rd h) (Mv.rda m r)
theorem Mv.ro (m : Mv ι st H ι' st' H') {a : Addr} (h : ∀ u, H a = some u → H' a = some u) : ∀ {o : O}, RO K ι st H a o → RO K ι' st' H' a o
  | .dead, _ => trivial
  | .lst _, ⟨xs, q, r⟩ => ⟨xs, h _ q, m.rpA r⟩
  | .dct false _, ⟨xs, q, r⟩ => ⟨xs, h _ q, m.rk r⟩
  | .dct true _, ⟨xs, q, r⟩ => ⟨xs, h _ q, m.rt r⟩
  | .lck false _, ⟨xs, o, q, r⟩ => ⟨xs, o, h _ q, m.rk r⟩
  | .lck true _, ⟨xs, o, q, r⟩ => ⟨xs, o, h _ q, m.rt r⟩
  | .tpl _, ⟨xs, o, q, r⟩ => ⟨xs, o, h _ q, m.rda r⟩
  | .tab _, ⟨xs, q, r⟩ => ⟨xs, h _ q, r.1, r.2.1, r.2.2.1, m.rtab r.2.2.2⟩
theorem Ext.mv (e : Ext ι st H ι' st' H') : Mv ι st H ι' st' H' := ⟨e.keep, e.pre, e.lk⟩
end
abbrev Wt := Option (Nat × List PyData)
def chk (w : Wt) (st : Sto) : Prop := match w with
  | none => True
  | some (n, zs) => st[n]? = some (.lst zs)
structure Wlk (K : PySem.W.Frag) (ds : List Itm) (w : Wt) (J : It) (ι : Gh) (st : Sto) (H : Hp) : Prop where
  go : ∀ (i : Nat) (d : Itm) ι' st' H', ds[i]? = some d → SRel K ι' st' H' → Mv ι st H ι' st' H' → chk w st' → J.go i H' ∧ ∀ x H2, J.yld i H' x H2 → SRel K ι' st' H2 ∧ Ext ι' st' H' ι' st' H2 ∧ RI K ι' st' H2 x d
  stop : ∀ ι' st' H', SRel K ι' st' H' → Mv ι st H ι' st' H' → chk w st' → J.stop ds.length H'
  len : ds.length ≤ sizeLine
abbrev MI := Ev → Sto → Out (List Itm × Wt)
def PI1 (K : PySem.W.Frag) (ι : Gh) (st : Sto) (H : Hp) (R : It → Hp → Prop) (r : List Itm × Wt) (st' : Sto) : Prop := ∀ ι' H' J, SRel K ι' st' H' → Ext ι st H ι' st' H' → Wlk K r.1 r.2 J ι' st' H' → R J H'
def TIo (K : PySem.W.Frag) (W : XW) (m : MI) : TI := fun σ H R => ∃ ι env st, SRel K ι st H ∧ EvR K ι st H σ env ∧ (m env st).post (PI1 K ι st H R) (PX1 K W ι st H)
section
variable {X : Cx} {W : XW} {tg it e : Expr} {m : ME}
theorem pi_wrap {t : TI} {m : MI} (h : PI X tg it t) (hi : ∀ σ H R, TIo X.K W m σ H R → t σ H (fun J H' => HF H' → R J H')) : PI X tg it (TIo X.K W m) :=
  ⟨fun pins s σ H R I q => thn (h.run pins s σ H _ I (hi σ H R q)) fun _ _ z => thn z fun _ _ ⟨a, fp, tn, J, H', e1, I', T, st0, hfp, q'⟩ => ⟨a, fp, tn, J, H', e1, I', T, st0, hfp, q' (hf_of I')⟩⟩
theorem pi_or {t u : TI} (h : PI X tg it t) (h' : PI X tg it u) : PI X tg it (fun σ H R => t σ H R ∨ u σ H R) :=
  ⟨fun pins s σ H R I q => q.elim (h.run pins s σ H R I) (h'.run pins s σ H R I)⟩
def seqI (st : Sto) (d : D) : Option (List PyData × Wt) := match lAt st d with
  | some (n, zs) => some (zs, some (n, zs))
  | none => (viewS st d).map fun zs => (zs, none)
theorem viewS_frz {K : PySem.W.Frag} {ι : Gh} {st : Sto} {H : Hp} {x : V} {d : D} {ds : List PyData} (hn : lAt st d = none) (e : viewS st d = some ds) (r : RD K ι st H x d) :
    ∃ a xs, x = .ref a ∧ ((H a = some (.lst xs) ∧ Frz ι st a) ∨ (∃ o, H a = some (.frz o (.tup xs)) ∧ Frz ι st a)) ∧ RpA (Frz ι st) H xs ds := by
  cases d with
  | v z =>
    cases z with
    | list zs =>
      have e' : zs = ds := Option.some.inj e
      subst e'
      have r' : Rp (Frz ι st) H x (.list zs) := r
      cases r' with
      | lst h f t => exact ⟨_, _, rfl, .inl ⟨h, f⟩, t⟩
    | tuple zs =>
      have e' : zs = ds := Option.some.inj e
      subst e'
      have r' : Rp (Frz ι st) H x (.tuple zs) := r
      cases r' with
      | tup h _ f t => exact ⟨_, _, rfl, .inr ⟨_, h, f⟩, t⟩
    | _ => cases e
  | scr ns => cases e
  | ref n =>
    simp only [viewS, viewL] at e
    cases q : st[n]? with
    | none => rw [q] at e; cases e
    | some o =>
      rw [q] at e
      cases o with
      | lst zs => simp only [lAt, q] at hn; cases hn
      | _ => cases e
theorem wlk_list {K : PySem.W.Frag} {ι : Gh} {st : Sto} {H : Hp} {a : Addr} {xs : List V} {ds : List PyData} {w : Wt} (hz : ds.length ≤ sizeLine) (r : RpA (Frz ι st) H xs ds) (hq : ∀ ι' st' H', SRel K ι' st' H' → Mv ι st H ι' st' H' → chk w st' → SqL K H' a xs) :
    Wlk K (ds.map fun d => .one (.v d)) w (Itl K a) ι st H := by
  refine ⟨fun i d ι' st' H' hi R E hc => ?_, fun ι' st' H' R E hc => ?_, by rw [List.length_map]; exact hz⟩
  · rw [List.getElem?_map] at hi
    obtain ⟨z, h1, rfl⟩ := Option.map_eq_some_iff.mp hi
    obtain ⟨x, h2, h3⟩ := r.get h1
    have q := hq ι' st' H' R E hc
    refine ⟨⟨xs, x, q, h2⟩, fun y H2 hy => ?_⟩
    obtain ⟨e1, e2⟩ := hy
    subst e1
    have e3 := e2 xs q
    rw [h2] at e3
    rw [← Option.some.inj e3]
    exact ⟨R, Ext.refl, E.rp h3⟩
  · rw [List.length_map, ← r.length]
    exact ⟨xs, hq ι' st' H' R E hc, Nat.le_refl _⟩
theorem wlk_tup {K : PySem.W.Frag} {ι : Gh} {st : Sto} {H : Hp} {a : Addr} {xs : List V} {ds : List PyData} {w : Wt} (hz : ds.length ≤ sizeLine) (r : RpA (Frz ι st) H xs ds) (hq : ∀ ι' st' H', SRel K ι' st' H' → Mv ι st H ι' st' H' → chk w st' → SqT K H' a xs) :
    Wlk K (ds.map fun d => .one (.v d)) w (Itt K a) ι st H := by
  refine ⟨fun i d ι' st' H' hi R E hc => ?_, fun ι' st' H' R E hc => ?_, by rw [List.length_map]; exact hz⟩
  · rw [List.getElem?_map] at hi
    obtain ⟨z, h1, rfl⟩ := Option.map_eq_some_iff.mp hi
    obtain ⟨x, h2, h3⟩ := r.get h1
    have q := hq ι' st' H' R E hc
    refine ⟨⟨xs, x, q, h2⟩, fun y H2 hy => ?_⟩
    obtain ⟨e1, e2⟩ := hy
    subst e1
    have e3 := e2 xs q
    rw [h2] at e3
    rw [← Option.some.inj e3]
    exact ⟨R, Ext.refl, E.rp h3⟩
  · rw [List.length_map, ← r.length]
    exact ⟨xs, hq ι' st' H' R E hc, Nat.le_refl _⟩
theorem stand_ref {K : PySem.W.Frag} {ι : Gh} {st : Sto} {H : Hp} {n : Nat} {a : Addr} {zs : List PyData} {xs : List V} (hi : ι.ad[n]? = some a) (r : RpA (Frz ι st) H xs zs) (h : H a = some (.lst xs)) :
    ∀ ι' st' H', SRel K ι' st' H' → Mv ι st H ι' st' H' → chk (some (n, zs)) st' → ∃ ys, H' a = some (.lst ys) ∧ RpA (Frz ι' st') H' ys zs := fun ι' st' H' R E hc => by
  obtain ⟨ys, h1, h2⟩ := R.obj n (.lst zs) a hc (E.pre n a hi)
  exact ⟨ys, h1, h2⟩
theorem wlk_ref {K : PySem.W.Frag} {ι : Gh} {st : Sto} {H : Hp} {n : Nat} {a : Addr} {zs : List PyData} {xs : List V} (hz : zs.length ≤ sizeLine) (hi : ι.ad[n]? = some a) (r : RpA (Frz ι st) H xs zs) (h : H a = some (.lst xs)) :
    Wlk K (zs.map fun d => .one (.v d)) (some (n, zs)) (Itl K a) ι st H := by
  refine ⟨fun i d ι' st' H' hi' R E hc => ?_, fun ι' st' H' R E hc => ?_, by rw [List.length_map]; exact hz⟩
  · rw [List.getElem?_map] at hi'
    obtain ⟨z, h1, rfl⟩ := Option.map_eq_some_iff.mp hi'
    obtain ⟨ys, h2, h3⟩ := stand_ref hi r h ι' st' H' R E hc
    obtain ⟨x, h4, h5⟩ := h3.get h1
    refine ⟨⟨ys, x, .of h2, h4⟩, fun y H2 hy => ?_⟩
    obtain ⟨e1, e2⟩ := hy
    subst e1
    have e3 := e2 ys (.of h2)
    rw [h4] at e3
    rw [← Option.some.inj e3]
    exact ⟨R, Ext.refl, h5⟩
  · rw [List.length_map]
    obtain ⟨ys, h2, h3⟩ := stand_ref hi r h ι' st' H' R E hc
    exact ⟨ys, .of h2, by rw [h3.length]; exact Nat.le_refl _⟩
def miSeq (m : ME) : MI := fun env st => (m env st).bind fun d s1 => match d with
  | .scr ns => .ok (ns.map fun n => .one (.v (.int n)), none) s1
  | d => match seqI s1 d with
    | some (zs, w) => .ok (zs.map fun z => .one (.v z), w) s1
    | none => .stuck
theorem i_seq (he : PE X e (TEo X.K W m)) : PI X tg e (TIo X.K W (miSeq m)) := pi_wrap (pi_or (pi_list he) (pi_tup he)) fun σ H Rr q => by
  obtain ⟨ι, env, st, R, EV, p⟩ := q
  unfold miSeq at p
  cases e1 : m env st with
  | stuck => rw [e1] at p; exact p.elim
  | exn x s1 => rw [e1] at p; exact .inl ⟨ι, env, st, R, EV, by rw [e1]; exact p⟩
  | ok d s1 =>
    rw [e1, bind_ok] at p
    split at p
    · rename_i ns
      refine .inl ⟨ι, env, st, R, EV, ?_⟩
      rw [e1]
      refine fun ι1 H1 x R1 E1 ra => ?_
      obtain ⟨a, rfl, h2⟩ := ra
      have hq : SqL X.K H1 a (ns.map V.int) := h2.elim .inr fun ⟨o, h, _⟩ => .inl (.inr ⟨o, h⟩)
      refine ⟨a, rfl, ⟨_, hq⟩, fun _ => p ι1 H1 _ R1 E1 ?_⟩
      have hz : (ns.map PyData.int).length ≤ sizeLine := by
        rw [List.length_map]
        rcases h2 with ⟨o, its, n, _, _, _, _, h5, h6⟩ | ⟨o, h, _⟩
        · have e6 := h6.length
          simp only [List.length_map, Array.length_toList] at e6
          omega
        · have q : (ns.map V.int).length ≤ sizeLine := R1.hf a _ h
          rw [List.length_map] at q
          exact q
      have hw := wlk_list (K := X.K) (a := a) (w := none) hz (rpA_ints (F := Frz ι1 s1) (H := H1) ns) fun ι' st' H' R' E' _ => by
        rcases h2 with h2 | ⟨o, h, f⟩
        · exact .inr h2
        · exact .inl (.inr ⟨o, (E'.keep _ _ h f).2⟩)
      rw [List.map_map] at hw
      exact hw
    · split at p
      · rename_i zs w e2
        unfold seqI at e2
        split at e2
        · rename_i n ws hL
          simp only [Option.some.injEq, Prod.mk.injEq] at e2
          obtain ⟨rfl, rfl⟩ := e2
          refine .inl ⟨ι, env, st, R, EV, ?_⟩
          rw [e1]
          refine fun ι1 H1 x R1 E1 ra => ?_
          obtain ⟨a, us, rfl, h1, h2, h3, h4⟩ := lAt_at R1 hL ra
          exact ⟨a, rfl, ⟨us, .of h1⟩, fun _ => p ι1 H1 _ R1 E1 (wlk_ref (by rw [← h2.length]; exact R1.hf a _ h1) h4 h2 h1)⟩
        · rename_i hL
          obtain ⟨ws, ev, e3⟩ := Option.map_eq_some_iff.mp e2
          simp only [Prod.mk.injEq] at e3
          obtain ⟨rfl, rfl⟩ := e3
          by_cases hT : isT d = true
          · refine .inr ⟨ι, env, st, R, EV, ?_⟩
            rw [e1]
            refine fun ι1 H1 x R1 E1 ra => ?_
            obtain ⟨vs, et⟩ := Option.isSome_iff_exists.mp hT
            have ed := tOf_eq et
            subst ed
            obtain ⟨a, us, rfl, h1 | ⟨o, h1, f⟩, h2⟩ := viewS_frz hL ev ra
            · have ra' : Rp (Frz ι1 s1) H1 (.ref a) (.tuple vs) := ra
              cases ra' with
              | tup h3 _ _ _ => rw [h1.1] at h3; cases h3
            · refine ⟨a, rfl, ⟨us, .inl (.inr ⟨o, h1⟩)⟩, fun _ => p ι1 H1 _ R1 E1 (wlk_tup (by rw [← h2.length]; exact R1.hf a _ h1) h2 fun ι' st' H' R' E' _ => ?_)⟩
              exact .inl (.inr ⟨o, (E'.keep _ _ h1 f).2⟩)
          · refine .inl ⟨ι, env, st, R, EV, ?_⟩
            rw [e1]
            refine fun ι1 H1 x R1 E1 ra => ?_
            obtain ⟨a, us, rfl, ⟨h1, f⟩ | ⟨o, h1, f⟩, h2⟩ := viewS_frz hL ev ra
            · refine ⟨a, rfl, ⟨us, .of h1⟩, fun _ => p ι1 H1 _ R1 E1 (wlk_list (by rw [← h2.length]; exact R1.hf a _ h1) h2 fun ι' st' H' R' E' _ => ?_)⟩
              exact .of (E'.keep _ _ h1 f).2
            · exfalso
              cases d with
              | v z =>
                cases z with
                | tuple _ => exact hT rfl
                | list _ =>
                  have ra' : Rp (Frz ι1 s1) H1 (.ref a) (.list _) := ra
                  cases ra' with
                  | lst h3 _ _ => rw [h1] at h3; cases h3
                | _ => cases ev
              | scr _ => cases ev
              | ref n =>
                simp only [viewS, viewL] at ev
                cases q : s1[n]? with
                | none => rw [q] at ev; cases ev
                | some o =>
                  rw [q] at ev
                  cases o with
                  | lst zs => simp only [lAt, q] at hL; cases hL
                  | _ => cases ev
      · exact p.elim
end
open Classical in
noncomputable def forL (w : Wt) (g : MG) (body : MS) : List Itm → MS
  | [] => fun env st => if chk w st then .nx env st else .stuck
  | d :: r => fun env st => if chk w st then (g d env st).thn fun e1 s1 => match body e1 s1 with
      | .nx e2 s2 => forL w g body r e2 s2
      | .ct e2 s2 => forL w g body r e2 s2
      | .bk e2 s2 => .nx e2 s2
      | .rt d s2 => .rt d s2
      | .exn e s2 => .exn e s2
      | .stuck => .stuck
    else .stuck
noncomputable def sFor (mi : MI) (g : MG) (body : MS) : MS := fun env st => (mi env st).thn fun r s1 => forL r.2 g body r.1 env s1
section
variable {X : Cx} {tg it c : Expr} {body : List Stmt} {mi : MI} {g : MG} {b : MS} {t : MT} {pos : Pos}
theorem s_for {W : XW} (gd : Gd X) (hp : PassesOwn (model X.prog X.w) X.A X.env X.xe) (hi : PI X tg it (TIo X.K W mi)) (hg : PG X tg (TGo X.K W g)) (hb : PSs X body (TSo X.K W b)) (hs : ∀ x, foldedSetIterable it X.env x = pure x := by intro _; rfl) :
    PS X (.For tg it body [] pos) (TSo X.K W (sFor mi g b)) := ps_wrap (ps_for hp gd.calm hi hg hb hs) fun D σ H q => by
  obtain ⟨ι, env, st, R, EV, p⟩ := q
  refine ⟨ι, env, st, R, EV, Out.post_mono (thn_post p) (fun r s1 q ι1 H1 J R1 E1 hW => ?_) fun _ _ q => q⟩
  obtain ⟨ds, w⟩ := r
  let Inv (i m : Nat) (σ : L2.St) (H : Hp) : Prop := m + i = ds.length ∧ ∃ ι' env' st', SRel X.K ι' st' H ∧ Ext ι1 s1 H1 ι' st' H ∧ EvR X.K ι' st' H σ env' ∧ (forL w g b (ds.drop i) env' st').post X.K W ι1 s1 H1 D
  refine ⟨Inv, ⟨ds.length, by show _ + 0 = _; omega, ι1, env, s1, R1, Ext.refl, EV.ext E1, ?_⟩, ?_⟩
  · exact SO.post_ext E1 q
  rintro i m σ2 H2 ⟨hm, ι2, env2, s2, R2, E2, EV2, p2⟩
  by_cases hi : i < ds.length
  · right
    have hd : ds.drop i = ds[i] :: ds.drop (i + 1) := List.drop_eq_getElem_cons hi
    rw [hd] at p2
    unfold forL at p2
    split at p2
    · rename_i hc
      obtain ⟨hgo, hy⟩ := hW.go i ds[i] ι2 s2 H2 (List.getElem?_eq_getElem hi) R2 E2.mv hc
      refine ⟨hgo, Inv (i + 1) (m - 1), fun σ' H' hN => ⟨m - 1, by omega, hN⟩, fun x H3 hyl => ?_⟩
      obtain ⟨R3, E3, ri⟩ := hy x H3 hyl
      refine ⟨ι2, env2, s2, ds[i], R3, EV2.ext E3, ri, Out.post_mono (thn_post p2) (fun e1 s4 q4 ι4 H4 σ4 R4 E4 EV4 _ => ?_) fun _ _ z => (PX1.ext z E2).ext E3⟩
      have E14 := E2.trans (E3.trans E4)
      refine ⟨ι4, e1, s4, R4, EV4, ?_⟩
      cases eb : b e1 s4 with
      | nx e5 s5 =>
        rw [eb] at q4
        exact fun ι5 H5 σ5 R5 E5 EV5 => ⟨by omega, ι5, e5, s5, R5, E14.trans E5, EV5, q4⟩
      | ct e5 s5 =>
        rw [eb] at q4
        exact fun ι5 H5 σ5 R5 E5 EV5 => ⟨by omega, ι5, e5, s5, R5, E14.trans E5, EV5, q4⟩
      | bk e5 s5 =>
        rw [eb] at q4
        exact fun ι5 H5 σ5 R5 E5 EV5 hf => q4 ι5 H5 σ5 R5 (E14.trans E5) EV5
      | rt d5 s5 =>
        rw [eb] at q4
        exact fun ι5 H5 x5 R5 E5 r5 hf => q4 ι5 H5 x5 R5 (E14.trans E5) r5
      | exn e5 s5 =>
        rw [eb] at q4
        exact PX1.ext q4 E14
      | stuck => rw [eb] at q4; exact q4.elim
    · exact p2.elim
  · left
    have hd : ds.drop i = [] := List.drop_eq_nil_of_le (by omega)
    rw [hd] at p2
    unfold forL at p2
    split at p2
    · rename_i hc
      have e : i = ds.length := by omega
      subst e
      exact ⟨hW.stop ι2 s2 H2 R2 E2.mv hc, fun _ => p2 ι2 H2 σ2 R2 E2 EV2⟩
    · exact p2.elim
def whileL (t : MT) (body : MS) : Nat → MS
  | 0 => fun _ _ => .stuck
  | n + 1 => fun env st => (t env st).thn fun k s1 => if k then (match body env s1 with
      | .nx e2 s2 => whileL t body n e2 s2
      | .ct e2 s2 => whileL t body n e2 s2
      | .bk e2 s2 => .nx e2 s2
      | .rt d s2 => .rt d s2
      | .exn e s2 => .exn e s2
      | .stuck => .stuck) else .nx env s1
theorem s_while {W : XW} (n : Nat) (hp : PassesOwn (model X.prog X.w) X.A X.env X.xe) (hc : PT X c (TTo X.K W t)) (hb : PSs X body (TSo X.K W b)) : PS X (.While c body [] pos) (TSo X.K W (whileL t b n)) := ps_wrap (ps_while hp hc hb) fun D σ H q => by
  obtain ⟨ι, env, st, R, EV, p⟩ := q
  let Inv (m : Nat) (σ1 : L2.St) (H1 : Hp) : Prop := ∃ ι' env' st', SRel X.K ι' st' H1 ∧ Ext ι st H ι' st' H1 ∧ EvR X.K ι' st' H1 σ1 env' ∧ (whileL t b m env' st').post X.K W ι st H D
  refine ⟨Inv, ⟨n, ι, env, st, R, Ext.refl, EV, p⟩, ?_⟩
  rintro m σ2 H2 ⟨ι2, env2, s2, R2, E2, EV2, p2⟩
  cases m with
  | zero => exact p2.elim
  | succ m =>
    unfold whileL at p2
    refine ⟨ι2, env2, s2, R2, EV2, Out.post_mono (thn_post p2) (fun k s3 q3 ι3 H3 R3 E3 => ?_) fun _ _ z => PX1.ext z E2⟩
    have E13 := E2.trans E3
    cases k with
    | false => exact iteF fun _ => q3 ι3 H3 σ2 R3 E13 (EV2.ext E3)
    | true =>
      refine iteT ⟨Inv m, fun σ' H' hN => ⟨m, Nat.lt_succ_self m, hN⟩, ?_⟩
      refine ⟨ι3, env2, s3, R3, EV2.ext E3, ?_⟩
      rw [if_pos rfl] at q3
      cases eb : b env2 s3 with
      | nx e5 s5 =>
        rw [eb] at q3
        exact fun ι5 H5 σ5 R5 E5 EV5 => ⟨ι5, e5, s5, R5, E13.trans E5, EV5, q3⟩
      | ct e5 s5 =>
        rw [eb] at q3
        exact fun ι5 H5 σ5 R5 E5 EV5 => ⟨ι5, e5, s5, R5, E13.trans E5, EV5, q3⟩
      | bk e5 s5 =>
        rw [eb] at q3
        exact fun ι5 H5 σ5 R5 E5 EV5 hf => q3 ι5 H5 σ5 R5 (E13.trans E5) EV5
      | rt d5 s5 =>
        rw [eb] at q3
        exact fun ι5 H5 x5 R5 E5 r5 hf => q3 ι5 H5 x5 R5 (E13.trans E5) r5
      | exn e5 s5 =>
        rw [eb] at q3
        exact PX1.ext q3 E13
      | stuck => rw [eb] at q3; exact q3.elim
end
def rngI (lo : Int) (n : Nat) : List Itm := (List.range n).map fun i => .one (.v (.int (lo + (i : Nat))))
theorem rngI_get {lo : Int} {n i : Nat} {d : Itm} (h : (rngI lo n)[i]? = some d) : i < n ∧ d = .one (.v (.int (lo + (i : Nat)))) := by
  unfold rngI at h
  rw [List.getElem?_map] at h
  obtain ⟨j, h1, rfl⟩ := Option.map_eq_some_iff.mp h
  obtain ⟨h2, h3⟩ := List.getElem?_eq_some_iff.mp h1
  rw [List.getElem_range] at h3
  subst h3
  rw [List.length_range] at h2
  exact ⟨h2, rfl⟩
theorem wlk_range {K : PySem.W.Frag} {ι : Gh} {st : Sto} {H : Hp} (lo : Int) (n : Nat) (hz : n ≤ sizeLine) : Wlk K (rngI lo n) none (Itr lo n) ι st H := by
  refine ⟨fun i d ι' st' H' hi R E _ => ?_, fun ι' st' H' R E _ => ?_, by unfold rngI; rw [List.length_map, List.length_range]; exact hz⟩
  · obtain ⟨h1, rfl⟩ := rngI_get hi
    refine ⟨h1, fun x H2 hy => ?_⟩
    obtain ⟨rfl, rfl⟩ := hy
    exact ⟨R, Ext.refl, .int _⟩
  · show n ≤ (rngI lo n).length
    unfold rngI
    rw [List.length_map, List.length_range]
    exact Nat.le_refl _
def miR1 (m : MA) : MI := fun env st => (m env st).bind fun ds s1 => match ds with
  | [d] => match iOf d with
    | some j => if -1000000 ≤ j ∧ j ≤ 1000000 then .ok (rngI 0 j.toNat, none) s1 else .stuck
    | none => .stuck
  | _ => .stuck
def miR2 (m : MA) : MI := fun env st => (m env st).bind fun ds s1 => match ds with
  | [a, b] => match iOf a, iOf b with
    | some i, some j => if -1000000 ≤ i ∧ i ≤ 1000000 ∧ -1000000 ≤ j ∧ j ≤ 1000000 then .ok (rngI i (j - i).toNat, none) s1 else .stuck
    | _, _ => .stuck
  | _ => .stuck
section
variable {X : Cx} {W : XW} {tg a b e : Expr} {m : MA} {p pos : Pos}
theorem i_range1 (hg : Gl X "range") (hm : X.mg "range" = none) (ha : PA X [a] (TAo X.K W m)) (hs : starEach [a] X.env = [(false, eval a X.env)] := by rfl) : PI X tg (.Call (.Name "range" p) [a] [] pos) (TIo X.K W (miR1 m)) :=
  pi_wrap (pi_range1 hg hm ha hs) fun σ H Rr q => by
    obtain ⟨ι, env, st, R, EV, p⟩ := q
    refine ⟨ι, env, st, R, EV, Out.post_mono (Out.post_bind p) (fun ds s1 q ι1 H1 xs R1 E1 ra => ?_) fun _ _ q => q⟩
    split at q
    · obtain ⟨x, rfl, r1⟩ := ra.one
      split at q
      · rename_i j e1
        split at q
        · rename_i hb
          have ex := iOf_at e1 r1
          subst ex
          exact ⟨j, rfl, by omega, by omega, fun _ => q ι1 H1 _ R1 E1 (wlk_range 0 j.toNat (Nat.le_trans (show j.toNat ≤ 1000000 by omega) (by decide)))⟩
        · exact q.elim
      · exact q.elim
    · exact q.elim
theorem i_range2 (hg : Gl X "range") (hm : X.mg "range" = none) (ha : PA X [a, b] (TAo X.K W m)) (hs : starEach [a, b] X.env = [(false, eval a X.env), (false, eval b X.env)] := by rfl) (hs2 : starEach [b] X.env = [(false, eval b X.env)] := by rfl) : PI X tg (.Call (.Name "range" p) [a, b] [] pos) (TIo X.K W (miR2 m)) :=
  pi_wrap (pi_range2 hg hm ha hs hs2) fun σ H Rr q => by
    obtain ⟨ι, env, st, R, EV, p⟩ := q
    refine ⟨ι, env, st, R, EV, Out.post_mono (Out.post_bind p) (fun ds s1 q ι1 H1 xs R1 E1 ra => ?_) fun _ _ q => q⟩
    split at q
    · obtain ⟨x, y, rfl, r1, r2⟩ := ra.two
      split at q
      · rename_i i j e1 e2
        split at q
        · rename_i hb
          have ex := iOf_at e1 r1
          have ey := iOf_at e2 r2
          subst ex ey
          exact ⟨i, j, rfl, ⟨by omega, by omega, by omega, by omega⟩, fun _ => q ι1 H1 _ R1 E1 (wlk_range i _ (Nat.le_trans (show (j - i).toNat ≤ 2000000 by omega) (by decide)))⟩
        · exact q.elim
      · exact q.elim
    · exact q.elim
end
def enumI (zs : List PyData) : List Itm := zs.zipIdx.map fun p => .many [.v (.int (p.2 : Nat)), .v p.1]
theorem enumI_get {zs : List PyData} {i : Nat} {d : Itm} (h : (enumI zs)[i]? = some d) : ∃ z, zs[i]? = some z ∧ d = .many [.v (.int (i : Nat)), .v z] := by
  unfold enumI at h
  rw [List.getElem?_map] at h
  obtain ⟨⟨z, j⟩, h1, rfl⟩ := Option.map_eq_some_iff.mp h
  rw [List.getElem?_zipIdx] at h1
  obtain ⟨w, h2, h3⟩ := Option.map_eq_some_iff.mp h1
  simp only [Prod.mk.injEq] at h3
  obtain ⟨rfl, rfl⟩ := h3
  exact ⟨w, h2, by simp⟩
theorem ri_new {K : PySem.W.Frag} {ι : Gh} {st : Sto} {H : Hp} (R : SRel K ι st H) {T : Addr} (hT : H T = none) {xs : List V} {ds : List D} (hl : xs.length ≤ 3) (r : RDs K ι st H xs ds) :
    SRel K ι st (upd H T (.tup xs)) ∧ Ext ι st H ι st (upd H T (.tup xs)) ∧ RI K ι st (upd H T (.tup xs)) (.ref T) (.many ds) := by
  have E : Ext ι st H ι st (upd H T (.tup xs)) := Ext.fresh R hT
  exact ⟨R.fresh hT (hf_tup R.hf (lim1000 (by omega))), E, T, xs, rfl, .inl upd_same, R.frz_new hT, RDs.ext E r⟩
structure Stands (K : PySem.W.Frag) (zs : List PyData) (w : Wt) (sq : Hp → List V → Prop) (ι : Gh) (st : Sto) (H : Hp) : Prop where
  len : zs.length ≤ sizeLine
  at_ : ∀ ι' st' H', SRel K ι' st' H' → Mv ι st H ι' st' H' → chk w st' → ∃ ys, sq H' ys ∧ RpA (Frz ι' st') H' ys zs
theorem stands_frz {K : PySem.W.Frag} {ι : Gh} {st : Sto} {H : Hp} {a : Addr} {xs : List V} {zs : List PyData} {w : Wt} (h : H a = some (.lst xs)) (f : Frz ι st a) (r : RpA (Frz ι st) H xs zs) (hf : HF H) : Stands K zs w (fun H' ys => SqL K H' a ys) ι st H :=
  ⟨by rw [← r.length]; exact hf a _ h, fun ι' st' H' R E _ => ⟨xs, .of (E.keep _ _ h f).2, E.rpA r⟩⟩
theorem stands_tup {K : PySem.W.Frag} {ι : Gh} {st : Sto} {H : Hp} {a : Addr} {o : Obj} {xs : List V} {zs : List PyData} {w : Wt} (h : H a = some (.frz o (.tup xs))) (f : Frz ι st a) (r : RpA (Frz ι st) H xs zs) (hf : HF H) : Stands K zs w (fun H' ys => SqT K H' a ys) ι st H :=
  ⟨by rw [← r.length]; exact hf a _ h, fun ι' st' H' R E _ => ⟨xs, .inl (.inr ⟨o, (E.keep _ _ h f).2⟩), E.rpA r⟩⟩
theorem stands_ref {K : PySem.W.Frag} {ι : Gh} {st : Sto} {H : Hp} {n : Nat} {a : Addr} {xs : List V} {zs : List PyData} (hi : ι.ad[n]? = some a) (r : RpA (Frz ι st) H xs zs) (h : H a = some (.lst xs)) (hf : HF H) : Stands K zs (some (n, zs)) (fun H' ys => SqL K H' a ys) ι st H :=
  ⟨by rw [← r.length]; exact hf a _ h, fun ι' st' H' R E hc => let ⟨ys, h1, h2⟩ := stand_ref hi r h ι' st' H' R E hc; ⟨ys, .of h1, h2⟩⟩
end Fw
namespace Fw
open PySem PySem.Spec PyProof.Rows L2
theorem meets_enumT (t : Addr) (items : Array Value) : Meets (Builtin.«enumerate.__new__» ⟨[.type "enumerate", .ref t], []⟩) (fun _ R s => s.heap.IsTuple t items ∧
    R (.ok (.ret (.ref (s.heap.push { cls := .type "tuple_iterator", data := .fields #[.ref t, .int 0 0] }).objs.size)))
      { s with heap := (s.heap.push { cls := .type "tuple_iterator", data := .fields #[.ref t, .int 0 0] }).push { cls := .type "enumerate", data := .fields #[.none, .bool false, .ref s.heap.objs.size, rawInt 0, .none, .none] } }) :=
  .of_wp fun prog w A R s h => by
    obtain ⟨hp, g, d, tk, os⟩ := s
    obtain ⟨h1, h⟩ := h
    have hsub := sub_enumerate
    have q1 : ∀ {A' : Around} {E : Value → Shared → Prop} {Q : Value → Shared → Prop}, Q (.ref hp.objs.size) ⟨hp.push { cls := .type "tuple_iterator", data := .fields #[.ref t, .int 0 0] }, g, d, tk, os⟩ → wpAny (model prog w) A' (pyIter (.ref t)) Q E ⟨hp, g, d, tk, os⟩ :=
      fun q => (begins_tuple t items).iter prog w _ _ ⟨hp, g, d, tk, os⟩ _ h1 q
    wp_walk using q1
    refine wpAny_stack_any fun st => wpAny_pure ?_
    split
    · rename_i c _ _ _ _ _
      cases (c == Value.type "enumerate") <;>
        (wp_walk using q1
         exact ⟨_, rfl, h⟩)
    · wp_walk using q1
      exact ⟨_, rfl, h⟩
section
variable {prog : Program} {w : World} {A : Around} {E : Value → Shared → Prop} {s : Shared}
theorem call_enumT {t : Addr} {items : Array Value} {Q : Value → Shared → Prop} (ht : s.heap.IsTuple t items)
    (h : ∀ h', IsEnum h' (s.heap.objs.size + 1) s.heap.objs.size 0 .none → h'.IsTupleIter s.heap.objs.size t 0 →
      (∀ b o, s.heap.get? b = some o → h'.get? b = some o) → Q (.ref (s.heap.objs.size + 1)) { s with heap := h' }) :
    wpAny (model prog w) A (call (.type "enumerate") [.ref t]) Q E s := by
  refine callType_new F.called_enumerate (by decide) (F.typeCall_enumerate_1 _) (F.newCall_enumerate_1 _) (fun obj => F.args_object_init_2 obj _) F.entry_enumerate_new (meets_enumT t items) ⟨ht, ?_⟩
  have hz : (s.heap.push { cls := .type "tuple_iterator", data := .fields #[.ref t, .int 0 0] }).objs.size = s.heap.objs.size + 1 := Heap.size_push ..
  show _ ∧ _
  rw [hz]
  have he : IsEnum ((s.heap.push { cls := .type "tuple_iterator", data := .fields #[.ref t, .int 0 0] }).push { cls := .type "enumerate", data := .fields #[.none, .bool false, .ref s.heap.objs.size, rawInt 0, .none, .none] })
      (s.heap.objs.size + 1) s.heap.objs.size 0 .none := by
    have q := Heap.get?_push_size (s.heap.push { cls := .type "tuple_iterator", data := .fields #[.ref t, .int 0 0] }) (o := { cls := .type "enumerate", data := .fields #[.none, .bool false, .ref s.heap.objs.size, rawInt 0, .none, .none] }) rfl
    rw [hz] at q
    exact q
  exact ⟨⟨_, he, rfl⟩, h _ he ⟨_, Heap.get?_push_of_some _ (Heap.get?_push_size _ rfl), rfl, rfl⟩ fun b o x => Heap.get?_push_of_some _ (Heap.get?_push_of_some _ x)⟩
end
def IteT (K : PySem.W.Frag) (a : Addr) : It :=
  ⟨fun i H => ∃ (xs : List V) (x : V), SqT K H a xs ∧ xs[i]? = some x, fun i H v H' => ∃ T x, v = .ref T ∧ H T = none ∧ H' = upd H T (.tup [.int (i : Nat), x]) ∧ ∀ xs, SqT K H a xs → xs[i]? = some x, fun i H => ∃ xs : List V, SqT K H a xs ∧ xs.length = i⟩
theorem turn_enumT {P : Program} {w : World} {K : PySem.W.Frag} {elts : List Expr} {kk : Nat} {tpos : Pos} (a e it : Addr) :
    Turn P w K (.Tuple elts kk tpos) (IteT K a) [e, it] e (fun i h => (∃ old, IsEnum h e it ((i : Nat) : Int) old) ∧ h.IsTupleIter it a i ∧ e ≠ it) where
  mem := List.mem_cons_self
  obj := fun i h st b hb => by
    obtain ⟨⟨old, he⟩, ⟨o, ho, hc, hd⟩, _⟩ := st
    have hb' : b = e ∨ b = it := by simpa using hb
    rcases hb' with z | z <;> rw [z]
    · exact ⟨_, he, fun v q => nomatch q⟩
    · exact ⟨o, ho, fun v q => by rw [hd] at q; cases q⟩
  keep := fun i h h' st k => by
    obtain ⟨⟨old, he⟩, hi, hne⟩ := st
    exact ⟨⟨old, k e (by simp) _ he⟩, hi.at fun o q => k it (by simp) o q, hne⟩
  item := by
    intro X hP hw hK hc i pins s σ H E I hf st hg
    subst hP hw hK
    obtain ⟨⟨old, he⟩, hit, hne⟩ := st
    obtain ⟨xs, x, hq, hx⟩ := hg
    obtain ⟨its, rv, p, hz⟩ := I.tuple hq
    obtain ⟨u, hu, ru⟩ := rv.get hx
    have hel : e < s.heap.objs.size := Heap.lt_size he
    have hit0 := id hit
    obtain ⟨oi, hoi, hci, _⟩ := hit0
    obtain ⟨ot, hot, hct, nt, hdt⟩ := p
    have ht : s.heap.IsTuple a its.toArray := ⟨ot, hot, hct, nt, hdt⟩
    have hai : a ≠ it := fun z => by
      rw [z, hoi] at hot
      cases hot
      rw [hci] at hct
      exact absurd hct (by decide)
    have hae : a ≠ e := fun z => by
      rw [z] at hot
      have he' : s.heap.get? e = _ := he
      rw [he'] at hot
      have hcls := congrArg (fun o => (Option.map Obj.cls o)) hot
      rw [Option.map_some, Option.map_some, hct] at hcls
      exact absurd hcls (by intro z; injection z with z; injection z with z; exact absurd z (by decide))
    have Dr := Draws.tuple (prog := X.prog) (w := X.w) (A := X.A.in1) (I.ok.hd hc) it a hai its.toArray
    have hlt : i < its.toArray.size := by
      have := (List.getElem?_eq_some_iff.mp hu).1
      simpa using this
    refine wpAny_pyNext_enum_itemD Dr he ⟨hit, ht⟩ hlt hne (by simp [hne, Ne.symm hae]) fun u' h' tk hP ho hit' hT hsz hk => ?_
    have eu : u' = u := by
      have hP' : its.toArray[i]? = some u' := hP
      have : its[i]? = some u' := by simpa using hP'
      rw [hu] at this
      exact (Option.some.inj this).symm
    subst eu
    refine ⟨_, rfl, wpAny_letOwnedTupleGo_enum (s := { s with heap := h', toks := tk + 1 }) ho fun h2 he2 sb => ?_⟩
    have hT2 : h2.get? s.heap.objs.size = some { cls := .type "tuple", data := .seq #[.int i tk, u'] } := (sb.2 _ (Nat.ne_of_gt hel)).trans hT
    have new : ObjOk X.prog X.w (upd H s.heap.objs.size (.tup [.int (i : Nat), x])) h2 s.heap.objs.size (.tup [.int (i : Nat), x]) :=
      ⟨lim1000 (show 2 ≤ 1000 by decide), [.int i tk, u'], .cons ⟨_, rfl⟩ (.cons ru .nil), ⟨_, hT2, rfl, _, rfl⟩⟩
    have I1 : Inv X pins σ (upd H s.heap.objs.size (.tup [.int (i : Nat), x])) { s with heap := h2, toks := tk + 1 } :=
      I.turnedNew (ch := [e, it]) (fun b ob hb q => (sb.2 b fun z => hb (by simp [z])).trans (hk b ob (fun z => hb (by simp [z])) (fun z => hb (by simp [z])) q)) hf (Nat.le_refl _) new
    refine ⟨.ref s.heap.objs.size, _, I1, rfl, ⟨_, x, rfl, I.hok.fresh (Nat.le_refl _), rfl, fun ys hy => by rw [I.tuple_inj hy hq]; exact hx⟩, ⟨⟨u', ?_⟩, hit'.1.at fun o q => (sb.2 it (Ne.symm hne)).trans q, hne⟩, fun b hb => ?_⟩
    · have e1 : ((i + 1 : Nat) : Int) = (i : Int) + 1 := by omega
      rw [e1]
      exact he2
    · have hb' : b < s.heap.objs.size := by
        have q : b = e ∨ b = it := by simpa using hb
        rcases q with z | z <;> rw [z]
        · exact hel
        · exact Heap.lt_size hoi
      rw [upd_ne (Nat.ne_of_lt hb')]
      exact (hf b hb).1
  done := by
    intro X hP hw hK hc i pins s σ H E I hf st hg
    subst hP hw hK
    obtain ⟨⟨old, he⟩, hit, hne⟩ := st
    obtain ⟨xs, hq, hx⟩ := hg
    obtain ⟨its, rv, p, hz⟩ := I.tuple hq
    have hl := rv.length
    obtain ⟨f0, f1, f2, f3, f4, f5⟩ := hf it (by simp)
    have hit0 := id hit
    obtain ⟨oi, hoi, hci, hdi⟩ := hit0
    obtain ⟨ot, hot, hct, nt, hdt⟩ := p
    have ht : s.heap.IsTuple a its.toArray := ⟨ot, hot, hct, nt, hdt⟩
    have hai : a ≠ it := fun z => by
      rw [z, hoi] at hot
      cases hot
      rw [hci] at hct
      exact absurd hct (by decide)
    have Dr := Draws.tuple (prog := X.prog) (w := X.w) (A := X.A.in1) (I.ok.hd hc) it a hai its.toArray
    have ei : i = its.toArray.size := by
      rw [List.size_toArray]
      omega
    rw [ei] at hit
    exact wpAny_pyNext_enum_endD Dr he ⟨hit, ht⟩ fun h' eb => ⟨rfl, I.turned (t' := s.toks) (fun b o hb q => eb b o hb q) f0 f1 f3 f4 f5⟩
  self := fun A i s Q E st h => let ⟨⟨_, he⟩, _⟩ := st; wpAny_pyIter_enum he h
def iEnumA (K : PySem.W.Frag) (ta : TA) : TI := fun σ H R => ta σ H fun vs H1 => ∃ a xs, vs = [.ref a] ∧ ((SqL K H1 a xs ∧ R (Ite K a) H1) ∨ (SqT K H1 a xs ∧ R (IteT K a) H1))
theorem pi_enumA {X : Cx} {e : Expr} {ta : TA} {p pos tpos : Pos} {elts : List Expr} {kk : Nat} (hg : Gl X "enumerate") (hm : X.mg "enumerate" = none) (ha : PA X [e] ta) (hs : starEach [e] X.env = [(false, eval e X.env)] := by rfl) :
    PI X (.Tuple elts kk tpos) (.Call (.Name "enumerate" p) [e] [] pos) (iEnumA X.K ta) := by
  refine ⟨fun pins s σ H R I h => ?_⟩
  refine Call_ (ld_blt I hg hm boot_enumerate (PyProof.Rows.callWith_type1 (thn (ha.run pos pins s σ H _ I h) fun us s1 hh => ?_) hs rfl))
  obtain ⟨vs, H1, I1, r1, a, xs, ex, q⟩ := hh
  subst ex
  obtain ⟨u, rfl, ru⟩ := vals1 r1
  cases ru
  have fr : ∀ b ∈ [s1.heap.objs.size + 1, s1.heap.objs.size], FpOk X pins H1 b := fun b hb => by
    have q : b = s1.heap.objs.size + 1 ∨ b = s1.heap.objs.size := by simpa using hb
    have hle : s1.heap.objs.size ≤ b := by rcases q with z | z <;> rw [z] <;> first | exact Nat.le_add_right _ _ | exact Nat.le_refl _
    exact I1.fpOk hle (I1.hok.fresh hle)
  rcases q with ⟨hq, q⟩ | ⟨hq, q⟩
  · obtain ⟨its, rv, pl, hz⟩ := I1.list hq
    refine call_enumerate_list pl.isList fun h' he hit hsz hk => wpAny_pyIter_enum he ?_
    exact ⟨s1.heap.objs.size + 1, _, _, _, H1, rfl, I1.kept (t' := s1.toks) hk, turn_enum a (s1.heap.objs.size + 1) s1.heap.objs.size, ⟨⟨.none, he⟩, hit, Nat.succ_ne_self _⟩, fr, q⟩
  · obtain ⟨its, rv, ⟨ot, hot, hct, nt, hdt⟩, hz⟩ := I1.tuple hq
    refine call_enumT (items := its.toArray) ⟨ot, hot, hct, nt, hdt⟩ fun h' he hit hk => wpAny_pyIter_enum he ?_
    exact ⟨s1.heap.objs.size + 1, _, _, _, H1, rfl, I1.kept (t' := s1.toks) hk, turn_enumT a (s1.heap.objs.size + 1) s1.heap.objs.size, ⟨⟨.none, he⟩, hit, Nat.succ_ne_self _⟩, fr, q⟩
theorem RpA.at {K : PySem.W.Frag} {ι : Gh} {st : Sto} {H : Hp} {xs : List V} {zs : List PyData} (r : RpA (Frz ι st) H xs zs) {i : Nat} {z : PyData} (h : zs[i]? = some z) : ∃ x, xs[i]? = some x ∧ Rp (Frz ι st) H x z := r.get h
theorem wlk_enumL {K : PySem.W.Frag} {ι : Gh} {st : Sto} {H : Hp} {a : Addr} {zs : List PyData} {w : Wt} (S : Stands K zs w (fun H' ys => SqL K H' a ys) ι st H) : Wlk K (enumI zs) w (Ite K a) ι st H := by
  refine ⟨fun i d ι' st' H' hi R E hc => ?_, fun ι' st' H' R E hc => ?_, by unfold enumI; rw [List.length_map, List.length_zipIdx]; exact S.len⟩
  · obtain ⟨z, h1, rfl⟩ := enumI_get hi
    obtain ⟨ys, h2, h3⟩ := S.at_ ι' st' H' R E hc
    obtain ⟨x, h4, h5⟩ := h3.get h1
    refine ⟨⟨ys, x, h2, h4⟩, fun v H2 hy => ?_⟩
    obtain ⟨T, x', rfl, hT, rfl, hx⟩ := hy
    have e := hx ys h2
    rw [h4] at e
    cases e
    exact ri_new R hT (show 2 ≤ 3 by decide) (.cons (.int _) (.cons h5 .nil))
  · obtain ⟨ys, h2, h3⟩ := S.at_ ι' st' H' R E hc
    refine ⟨ys, h2, ?_⟩
    rw [h3.length]
    unfold enumI
    rw [List.length_map, List.length_zipIdx]
    exact Nat.le_refl _
theorem wlk_enumT {K : PySem.W.Frag} {ι : Gh} {st : Sto} {H : Hp} {a : Addr} {zs : List PyData} {w : Wt} (S : Stands K zs w (fun H' ys => SqT K H' a ys) ι st H) : Wlk K (enumI zs) w (IteT K a) ι st H := by
  refine ⟨fun i d ι' st' H' hi R E hc => ?_, fun ι' st' H' R E hc => ?_, by unfold enumI; rw [List.length_map, List.length_zipIdx]; exact S.len⟩
  · obtain ⟨z, h1, rfl⟩ := enumI_get hi
    obtain ⟨ys, h2, h3⟩ := S.at_ ι' st' H' R E hc
    obtain ⟨x, h4, h5⟩ := h3.get h1
    refine ⟨⟨ys, x, h2, h4⟩, fun v H2 hy => ?_⟩
    obtain ⟨T, x', rfl, hT, rfl, hx⟩ := hy
    have e := hx ys h2
    rw [h4] at e
    cases e
    exact ri_new R hT (show 2 ≤ 3 by decide) (.cons (.int _) (.cons h5 .nil))
  · obtain ⟨ys, h2, h3⟩ := S.at_ ι' st' H' R E hc
    refine ⟨ys, h2, ?_⟩
    rw [h3.length]
    unfold enumI
    rw [List.length_map, List.length_zipIdx]
theorem stands_of {K : PySem.W.Frag} {ι : Gh} {st : Sto} {H : Hp} (R : SRel K ι st H) {d : D} {zs : List PyData} {w : Wt} (e : seqI st d = some (zs, w)) {x : V} (r : RD K ι st H x d) :
    ∃ a, x = .ref a ∧ ((∃ xs, SqL K H a xs ∧ Stands K zs w (fun H' ys => SqL K H' a ys) ι st H) ∨ (∃ xs, SqT K H a xs ∧ Stands K zs w (fun H' ys => SqT K H' a ys) ι st H)) := by
  unfold seqI at e
  split at e
  · rename_i n ws hL
    simp only [Option.some.injEq, Prod.mk.injEq] at e
    obtain ⟨rfl, rfl⟩ := e
    obtain ⟨a, us, rfl, h1, h2, h3, h4⟩ := lAt_at R hL r
    exact ⟨a, rfl, .inl ⟨us, .of h1, stands_ref h4 h2 h1 R.hf⟩⟩
  · rename_i hL
    obtain ⟨ws, ev, e3⟩ := Option.map_eq_some_iff.mp e
    simp only [Prod.mk.injEq] at e3
    obtain ⟨rfl, rfl⟩ := e3
    obtain ⟨a, us, rfl, ⟨h1, f⟩ | ⟨o, h1, f⟩, h2⟩ := viewS_frz hL ev r
    · exact ⟨a, rfl, .inl ⟨us, .of h1, stands_frz h1 f h2 R.hf⟩⟩
    · exact ⟨a, rfl, .inr ⟨us, .inl (.inr ⟨o, h1⟩), stands_tup h1 f h2 R.hf⟩⟩
def miEnum (m : MA) : MI := fun env st => (m env st).bind fun ds s1 => match ds with
  | [d] => match seqI s1 d with
    | some (zs, w) => .ok (enumI zs, w) s1
    | none => .stuck
  | _ => .stuck
theorem i_enum {X : Cx} {W : XW} {e : Expr} {m : MA} {p pos tpos : Pos} {elts : List Expr} {kk : Nat} (hg : Gl X "enumerate") (hm : X.mg "enumerate" = none) (ha : PA X [e] (TAo X.K W m)) (hs : starEach [e] X.env = [(false, eval e X.env)] := by rfl) :
    PI X (.Tuple elts kk tpos) (.Call (.Name "enumerate" p) [e] [] pos) (TIo X.K W (miEnum m)) := pi_wrap (pi_enumA hg hm ha hs) fun σ H Rr q => by
  obtain ⟨ι, env, st, R, EV, p⟩ := q
  refine ⟨ι, env, st, R, EV, Out.post_mono (Out.post_bind p) (fun ds s1 q ι1 H1 xs R1 E1 ra => ?_) fun _ _ q => q⟩
  split at q
  · obtain ⟨x, rfl, r1⟩ := ra.one
    split at q
    · rename_i zs w e1
      obtain ⟨a, rfl, ⟨us, h1, S⟩ | ⟨us, h1, S⟩⟩ := stands_of R1 e1 r1
      · exact ⟨a, us, rfl, .inl ⟨h1, fun _ => q ι1 H1 _ R1 E1 (wlk_enumL S)⟩⟩
      · exact ⟨a, us, rfl, .inr ⟨h1, fun _ => q ι1 H1 _ R1 E1 (wlk_enumT S)⟩⟩
    · exact q.elim
  · exact q.elim
end Fw
namespace Fw
open PySem PySem.Spec PyProof.Rows L2
def Gh.hide (ι : Gh) (p : Addr) : Gh := ⟨ι.ad, p :: ι.hid⟩
def del (H : Hp) (p : Addr) : Hp := fun b => if b = p then none else H b
theorem del_ne {H : Hp} {p b : Addr} (h : b ≠ p) : del H p b = H b := by unfold del; rw [if_neg h]
theorem del_same {H : Hp} {p : Addr} : del H p p = none := by unfold del; rw [if_pos rfl]
theorem upd_del {H : Hp} {p : Addr} {u : HO} (h : H p = some u) : upd (del H p) p u = H := by
  funext b
  by_cases e : b = p
  · subst e; rw [upd_same, h]
  · rw [upd_ne e, del_ne e]
section
variable {K : PySem.W.Frag} {ι ι' : Gh} {st st' : Sto} {H H' : Hp} {p : Addr}
theorem frz_hide (f : Frz ι st q) (h : q ≠ p) : Frz (ι.hide p) st q := ⟨fun z => by
  rcases List.mem_cons.mp z with z | z
  · exact h z
  · exact f.1 z, f.2⟩
theorem frz_show (f : Frz (ι.hide p) st q) : Frz ι st q ∧ q ≠ p := ⟨⟨fun z => f.1 (List.mem_cons_of_mem _ z), f.2⟩, fun z => f.1 (by rw [z]; exact List.mem_cons_self)⟩
theorem mv_hide (R : SRel K ι st H) (hp : H p = none) {u : HO} : Mv ι st H (ι.hide p) st (upd H p u) :=
  ⟨fun q v e f => ⟨frz_hide f (ne_of_none e hp), by rw [upd_ne (ne_of_none e hp)]; exact e⟩, fun _ _ e => e, fun h hi => ⟨h, upd_ne (let ⟨_, e, _⟩ := R.live h hi (fun z => nomatch z); ne_of_none e hp)⟩⟩
theorem SRel.hide (R : SRel K ι st H) (hp : H p = none) {u : HO} (hd : HdO u) (hl : HF (upd H p u)) : SRel K (ι.hide p) st (upd H p u) := by
  have m := mv_hide (u := u) R hp
  refine ⟨R.len, fun n o a h hi => m.ro (fun v e => by rw [upd_ne (ne_of_none e hp)]; exact e) (R.obj n o a h hi), R.inj, R.low, fun a ha => ?_, hl⟩
  rcases List.mem_cons.mp ha with rfl | ha
  · exact ⟨⟨u, upd_same, hd⟩, (R.frz_new hp).2⟩
  · obtain ⟨⟨ys, e, d⟩, h2⟩ := R.hid a ha
    exact ⟨⟨ys, by rw [upd_ne (ne_of_none e hp)]; exact e, d⟩, h2⟩
theorem mv_show (R : SRel K (ι.hide p) st H) : Mv (ι.hide p) st H ι st (del H p) :=
  ⟨fun q v e f => let ⟨a, b⟩ := frz_show f; ⟨a, by rw [del_ne b]; exact e⟩, fun _ _ e => e, fun h hi => ⟨h, del_ne fun z => by subst z; exact nomatch (R.hid _ List.mem_cons_self).2 _ _ h hi⟩⟩
theorem SRel.unhide (R : SRel K (ι.hide p) st H) (hp : p ∉ ι.hid) : SRel K ι st (del H p) := by
  have m := mv_show R
  refine ⟨R.len, fun n o a h hi => ?_, R.inj, R.low, fun a ha => ?_, fun a u e => ?_⟩
  · by_cases hd : o = O.dead
    · subst hd; trivial
    · have na : a ≠ p := fun z => by subst z; exact hd ((R.hid a List.mem_cons_self).2 n o h hi)
      exact m.ro (fun v e => by rw [del_ne na]; exact e) (R.obj n o a h hi)
  · obtain ⟨⟨ys, e, d⟩, h2⟩ := R.hid a (List.mem_cons_of_mem _ ha)
    have na : a ≠ p := fun z => hp (by rw [← z]; exact ha)
    exact ⟨⟨ys, by rw [del_ne na]; exact e, d⟩, h2⟩
  · by_cases na : a = p
    · subst na
      rw [del_same] at e
      cases e
    · rw [del_ne na] at e
      exact R.hf a u e
theorem mv_hset {u : HO} (R : SRel K ι st H) (hp : p ∈ ι.hid) : Mv ι st H ι st (upd H p u) :=
  ⟨fun q v e f => ⟨f, by rw [upd_ne (fun z => f.1 (by rw [z]; exact hp))]; exact e⟩, fun _ _ e => e, fun h hi => ⟨h, upd_ne fun z => by subst z; exact nomatch (R.hid _ hp).2 _ _ h hi⟩⟩
theorem SRel.hset (R : SRel K ι st H) (hp : p ∈ ι.hid) {u : HO} (hd : HdO u) (hl : HF (upd H p u)) : SRel K ι st (upd H p u) := by
  have m := mv_hset (u := u) R hp
  refine ⟨R.len, fun n o a h hi => ?_, R.inj, R.low, fun a ha => ?_, hl⟩
  · by_cases hx : o = O.dead
    · subst hx; trivial
    · have na : a ≠ p := fun z => by subst z; exact hx ((R.hid a hp).2 n o h hi)
      exact m.ro (fun v e => by rw [upd_ne na]; exact e) (R.obj n o a h hi)
  · by_cases na : a = p
    · subst na
      exact ⟨⟨u, upd_same, hd⟩, (R.hid a hp).2⟩
    · obtain ⟨⟨ys, e, d⟩, h2⟩ := R.hid a ha
      exact ⟨⟨ys, by rw [upd_ne na]; exact e, d⟩, h2⟩
end
def Out.noX {α : Type} (x : Out α) : Out α := match x with
  | .exn _ _ => .stuck
  | o => o
@[simp] theorem noX_ok {α : Type} (a : α) (st : Sto) : (Out.ok a st).noX = .ok a st := rfl
theorem noX_post {α : Type} {x : Out α} {P : α → Sto → Prop} {E E' : Exn → Sto → Prop} (h : x.noX.post P E) : x.post P E' := by
  cases x with
  | ok a s => exact h
  | exn e s => exact h.elim
  | stuck => exact h.elim
open Classical in
noncomputable def lcL (w : Wt) (g : MG) (t : MT) (m : ME) (env0 : Ev) : List Itm → Sto → Out (List PyData)
  | [] => fun st => if chk w st then .ok [] st else .stuck
  | d :: r => fun st => if chk w st then (g d env0 st).noX.bind fun e1 s1 => (t e1 s1).noX.bind fun k s2 =>
      if k then (m e1 s2).noX.bind fun v s3 => match v with
        | .v z => (lcL w g t m env0 r s3).bind fun zs s4 => .ok (z :: zs) s4
        | _ => .stuck
      else lcL w g t m env0 r s2
    else .stuck
theorem noX_bind {α β : Type} {x : Out α} {f : α → Sto → Out β} (h : ∀ a s, (f a s).noX = f a s) : (x.noX.bind f).noX = x.noX.bind f := by
  cases x with
  | ok a s => exact h a s
  | exn e s => rfl
  | stuck => rfl
theorem lcL_noX (w : Wt) (g : MG) (t : MT) (m : ME) (env0 : Ev) : ∀ (ds : List Itm) (st : Sto), (lcL w g t m env0 ds st).noX = lcL w g t m env0 ds st
  | [], st => by
    unfold lcL
    split <;> rfl
  | d :: r, st => by
    unfold lcL
    split
    · refine noX_bind fun e1 s1 => noX_bind fun k s2 => ?_
      split
      · refine noX_bind fun v s3 => ?_
        split
        · rw [← lcL_noX w g t m env0 r s3]
          exact noX_bind fun _ _ => rfl
        · rfl
      · exact lcL_noX w g t m env0 r s2
    · rfl
def mYes : MT := fun _ st => .ok true st
noncomputable def mLc (mi : MI) (g : MG) (t : MT) (m : ME) (own : List Nat) : MF := fun env st => (mi env st).bind fun r s1 => lcL r.2 g t m (wipeE env own) r.1 s1
theorem Mv.trans {ι1 ι2 ι3 : Gh} {s1 s2 s3 : Sto} {H1 H2 H3 : Hp} (a : Mv ι1 s1 H1 ι2 s2 H2) (b : Mv ι2 s2 H2 ι3 s3 H3) : Mv ι1 s1 H1 ι3 s3 H3 :=
  ⟨fun q u e f => let ⟨f1, k1⟩ := a.keep q u e f; b.keep q u k1 f1, fun n x e => b.pre n x (a.pre n x e), fun h hi => let ⟨h1, e1⟩ := a.lk h hi; let ⟨h2, e2⟩ := b.lk h1 (a.pre _ _ hi); ⟨h2, e2.trans e1⟩⟩
theorem wipe_in {σ : L2.St} {i : Nat} : ∀ {vs : List Nat}, i ∈ vs → (L2.wipe σ vs)[i]? = σ[i]?.map fun _ => none
  | v :: vs, h => by
    show ((L2.wipe σ vs).set v none)[i]? = _
    by_cases e : v = i
    · subst e
      by_cases hl : v < σ.length
      · rw [List.getElem?_set_self (by rw [wipe_length]; exact hl), List.getElem?_eq_getElem hl]
        rfl
      · rw [List.getElem?_eq_none (by rw [List.length_set, wipe_length]; omega), List.getElem?_eq_none (by omega)]
        rfl
    · rw [List.getElem?_set_ne e]
      exact wipe_in ((List.mem_cons.mp h).resolve_left fun z => e z.symm)
theorem wipe_wipe (σ : L2.St) (vs : List Nat) : L2.wipe (L2.wipe σ vs) vs = L2.wipe σ vs := by
  refine List.ext_getElem? fun i => ?_
  by_cases h : i ∈ vs
  · rw [wipe_in h, wipe_in h]
    cases σ[i]? <;> rfl
  · rw [wipe_out h]
theorem lc_red {K : PySem.W.Frag} {W : XW} {mi : MI} {g : MG} {t : MT} {m : ME} {own : List Nat} {σ : L2.St} {H : Hp} {Q : VK} (q : TFo K W (mLc mi g t m own) σ H Q) :
    tLc (TIo K W mi) (TGo K WF g (some own)) (TTo K WF t) (TEo K WF m) own σ H (fun v H' => HF H' → Q v H') := by
  obtain ⟨ι, env, st, R, EV, p⟩ := q
  refine ⟨ι, env, st, R, EV, Out.post_mono (Out.post_bind p) (fun r s1 q ι1 H1 J R1 E1 hW L hL => ?_) fun _ _ q => q⟩
  obtain ⟨ds, w⟩ := r
  have EW := (EV.ext E1).wipe own
  -- what a turn finds: the list at L hidden, all else as it was
  let Inv (i k : Nat) (H : Hp) : Prop := k + i = ds.length ∧ ∃ (acc : List V) (zs : List PyData) (ι' : Gh) (st' : Sto), ι'.hid = ι1.hid ∧ H L = some (.lst acc) ∧ acc.length ≤ i ∧ SRel K (ι'.hide L) st' H ∧
    Mv ι1 s1 H1 (ι'.hide L) st' H ∧ (∀ a, a ∈ ι1.hid → H a = H1 a) ∧
    RpA (Frz (ι'.hide L) st') H acc zs ∧ (lcL w g t m (wipeE env own) (ds.drop i) st').post (fun ws s2 => PF1 K ι1 s1 H1 Q (zs ++ ws) s2) fun _ _ => False
  have nL : L ∉ ι1.hid := R1.hid_new hL
  refine ⟨Inv, ⟨ds.length, Nat.add_zero _, [], [], ι1, s1, rfl, upd_same, Nat.le_refl _, R1.hide hL trivial (hf_lst R1.hf (Nat.zero_le _)), mv_hide R1 hL, fun a ha => upd_ne fun z => nL (by rw [← z]; exact ha), .nil, ?_⟩, ?_⟩
  · have q' : (lcL w g t m (wipeE env own) ds s1).noX.post (PF1 K ι st H Q) (PX1 K W ι st H) := by rw [lcL_noX]; exact q
    have q2 : (lcL w g t m (wipeE env own) ds s1).post (PF1 K ι st H Q) fun _ _ => False := noX_post q'
    exact Out.post_mono q2 (fun zs s2 z => PF1.ext z E1) fun _ _ z => z
  rintro i k H2 ⟨hk, acc, zs, ι2, s2, eh, hA, hal, R2, mv, kz, rA, p2⟩
  by_cases hi : i < ds.length
  · right
    have hd : ds.drop i = ds[i] :: ds.drop (i + 1) := List.drop_eq_getElem_cons hi
    rw [hd] at p2
    unfold lcL at p2
    split at p2
    · rename_i hc
      obtain ⟨hgo, hy⟩ := hW.go i ds[i] (ι2.hide L) s2 H2 (List.getElem?_eq_getElem hi) R2 mv hc
      have hlen : acc.length < sizeLine := Nat.lt_of_le_of_lt hal (Nat.lt_of_lt_of_le hi hW.len)
      have fin : ∀ {ι6 : Gh} {s6 : Sto} {H6 : Hp}, SRel K ι6 s6 H6 → Ext (ι2.hide L) s2 H2 ι6 s6 H6 → ∃ ι' : Gh, ι6 = ι'.hide L ∧ ι'.hid = ι1.hid ∧ H6 L = some (.lst acc) ∧ ∀ a, a ∈ ι1.hid → H6 a = H1 a := by
        intro ι6 s6 H6 R6 E6
        refine ⟨⟨ι6.ad, ι1.hid⟩, ?_, rfl, ?_, fun a ha => ?_⟩
        · have e := E6.hid
          have e2 : (ι2.hide L).hid = L :: ι1.hid := by rw [← eh]; rfl
          rw [e2] at e
          cases ι6
          simp only at e
          rw [e]
          rfl
        · rw [E6.keepZ L List.mem_cons_self]; exact hA
        · rw [E6.keepZ a (List.mem_cons_of_mem _ (by rw [eh]; exact ha))]
          exact kz a ha
      refine ⟨hgo, Inv (i + 1) (k - 1), fun H' hN => ⟨k - 1, by omega, hN⟩, fun x H3 hyl => ?_⟩
      obtain ⟨R3, E3, ri⟩ := hy x H3 hyl
      refine ⟨ι2.hide L, wipeE env own, s2, ds[i], R3, (mv.ev EW).ext E3, ri, noX_post (Out.post_mono (Out.post_bind p2) (fun e1 s4 q4 => ?_) fun _ _ z => z)⟩
      refine fun ι4 H4 σ4 R4 E4 EV4 hw => ⟨(show L2.wipe σ4 own = _ from hw).trans (wipe_wipe σ own), ?_⟩
      have E34 := E3.trans E4
      refine ⟨ι4, e1, s4, R4, EV4, noX_post (Out.post_mono (Out.post_bind q4) (fun b s5 q5 ι5 H5 R5 E5 => ?_) fun _ _ z => z)⟩
      have E35 := E34.trans E5
      cases b with
      | false =>
        obtain ⟨ι', e6, e7, e8, e9⟩ := fin R5 E35
        subst e6
        refine iteF ⟨by omega, acc, zs, ι', s5, e7, e8, Nat.le_succ_of_le hal, R5, mv.trans E35.mv, e9, rA.ext E35, ?_⟩
        exact q5
      | true =>
        refine iteT ⟨ι5, e1, s5, R5, EV4.ext E5, noX_post (Out.post_mono (Out.post_bind q5) (fun v s6 q6 ι6 H6 y R6 E6 ry => ?_) fun _ _ z => z)⟩
        have E36 := E35.trans E6
        obtain ⟨ι', e6, e7, e8, e9⟩ := fin R6 E36
        subst e6
        split at q6
        · rename_i z
          have hm := mv_hset (u := .lst (acc ++ [y])) (ι := ι'.hide L) (st := s6) (H := H6) R6 List.mem_cons_self
          refine ⟨acc, e8, hlen, by omega, acc ++ [y], zs ++ [z], ι', s6, e7, upd_same, by rw [List.length_append]; exact Nat.succ_le_succ hal, R6.hset List.mem_cons_self trivial (hf_lst R6.hf (by rw [List.length_append]; exact hlen)), (mv.trans E36.mv).trans hm, fun a ha => ?_, hm.rpA ((rA.ext E36).append (.cons ry .nil)), ?_⟩
          · rw [upd_ne fun z => nL (by rw [← z]; exact ha)]
            exact e9 a ha
          · refine Out.post_mono (Out.post_bind q6) (fun ws s7 z7 => ?_) fun _ _ z => z
            show PF1 K ι1 s1 H1 Q (zs ++ [z] ++ ws) s7
            rw [List.append_assoc]
            exact z7
        · exact q6.elim
    · exact p2.elim
  · left
    have hd : ds.drop i = [] := List.drop_eq_nil_of_le (by omega)
    rw [hd] at p2
    unfold lcL at p2
    split at p2
    · rename_i hc
      have e : i = ds.length := by omega
      subst e
      refine ⟨hW.stop (ι2.hide L) s2 H2 R2 mv hc, fun hf => ?_⟩
      have p3 : PF1 K ι1 s1 H1 Q zs s2 := by
        have z : PF1 K ι1 s1 H1 Q (zs ++ []) s2 := p2
        rw [List.append_nil] at z
        exact z
      have sh := mv_show R2
      have E12 : Ext ι1 s1 H1 ι2 s2 (del H2 L) := by
        have m2 := mv.trans sh
        refine ⟨m2.keep, m2.pre, eh, fun a ha => ?_, m2.lk⟩
        rw [del_ne fun z => nL (by rw [← z]; exact ha)]
        exact kz a ha
      have z := p3 ι2 (del H2 L) acc L (R2.unhide (by rw [eh]; exact nL)) E12 (sh.rpA rA) del_same (by rw [upd_del hA]; exact R2.hf)
      rw [upd_del hA] at z
      exact z
    · exact p2.elim
end Fw
namespace Fw
open PySem PySem.Spec PyProof.Rows L2
theorem ts_nil {X : Cx} {W : XW} : PTs X [] (TTo X.K W mYes) := ⟨fun pins s σ H Q I q => by
  obtain ⟨ι, env, st, R, EV, p⟩ := q
  exact pts_nil.run pins s σ H Q I (p ι H R Ext.refl)⟩
theorem ts_one {X : Cx} {W : XW} {c : Expr} {t : MT} (h : PT X c (TTo X.K W t)) : PTs X [c] (TTo X.K W t) := pts_one h
theorem Gd.blk {X : Cx} (g : Gd X) {s : Shared} {H : Hp} {sc : Scope} {ce : Env} {fp : List Addr} : Gd (X.blk s H sc ce fp) := ⟨g.calm, g.gu, g.un⟩
section
variable {X : Cx} {W : XW} {elt tg iter : Expr} {ifs : List Expr} {scope : Scope} {own : List (Str × Nat)} {pos : Pos} {mi : MI} {g : MG} {t : MT} {m : ME}
theorem xf_lc (gd : Gd X) (hN : X.N.Nodup) (hi : PI X tg iter (TIo X.K W mi)) (ok : BlkOk X.N X.env.scope scope own)
    (hb : ∀ (s : Shared) (H : Hp) (C : Addr) (cl : List (Str × Addr)) (fp : List Addr), PG (X.blk s H scope (compEnvC scope cl C X.env) fp) tg (TGo X.K WF g (some (own.map (·.2)))) ∧ PTs (X.blk s H scope (compEnvC scope cl C X.env) fp) ifs (TTo X.K WF t) ∧ PE (X.blk s H scope (compEnvC scope cl C X.env) fp) elt (TEo X.K WF m))
    (hs : ∀ x, foldedSetIterable iter X.env x = pure x := by intro _; rfl) : PE X (.ListComp elt [⟨tg, iter, ifs, 0⟩] scope pos) (TFo X.K W (mLc mi g t m (own.map (·.2)))) :=
  pf_wrap (pe_lc gd.calm hN hi ok (fun s H C cl fp => (hb s H C cl fp).1) (fun s H C cl fp => (hb s H C cl fp).2.1) (fun s H C cl fp => (hb s H C cl fp).2.2) hs) fun σ H Q q => lc_red q
theorem asg_frz {K : PySem.W.Frag} {m : MF} {i : Nat} {D : Ends} {σ : L2.St} {H : Hp} (q : TSo K W (sAsg (mFrz m) (gNm i)) D σ H) : TFo K W m σ H fun v H' => D.nx (σ.set i (some v)) H' := by
  obtain ⟨ι, env, st, R, EV, p⟩ := q
  refine ⟨ι, env, st, R, EV, Out.post_mono (Out.post_bind (thn_post p)) (fun zs s1 q ι1 H1 xs a R1 E1 ra ha hf => ?_) fun _ _ q => q⟩
  have E2 := Ext.fresh R1 ha (u := .lst xs)
  exact q ι1 _ _ (R1.fresh ha hf) (E1.trans E2) (((EV.ext E1).ext E2).set (x := .ref a) (d := .v (.list zs)) (.lst upd_same (R1.frz_new ha) (ra.ext E2)) i)
theorem s_lcF {i : Nat} {y : Str} {py spos : Pos} (gd : Gd X) (hN : X.N.Nodup) (hy : X.N[i]? = some y) (hyl : X.env.scope.names.lookup y = some .local) (hsw : swapsWith (.ListComp elt [⟨tg, iter, ifs, 0⟩] scope pos) (some (.Name y py)) spos.line X.env = pure true)
    (hi : PI X tg iter (TIo X.K W mi)) (ok : BlkOk X.N X.env.scope scope own)
    (hb : ∀ (s : Shared) (H : Hp) (C : Addr) (cl : List (Str × Addr)) (fp : List Addr), PG (X.blk s H scope (compEnvC scope cl C X.env) fp) tg (TGo X.K WF g (some (own.map (·.2)))) ∧ PTs (X.blk s H scope (compEnvC scope cl C X.env) fp) ifs (TTo X.K WF t) ∧ PE (X.blk s H scope (compEnvC scope cl C X.env) fp) elt (TEo X.K WF m))
    (hs : ∀ x, foldedSetIterable iter X.env x = pure x := by intro _; rfl) : PS X (.Assign [.Name y py] (.ListComp elt [⟨tg, iter, ifs, 0⟩] scope pos) spos) (TSo X.K W (sAsg (mFrz (mLc mi g t m (own.map (·.2)))) (gNm i))) :=
  ps_wrap (ps_setLc gd.calm hN hy hyl hsw hi ok (fun s H C cl fp => (hb s H C cl fp).1) (fun s H C cl fp => (hb s H C cl fp).2.1) (fun s H C cl fp => (hb s H C cl fp).2.2) hs) fun D σ H q => lc_red (asg_frz q)
end
structure RmG (k : Nat) (A : Around) : Prop where
  rm : Room k A
  gu : A.guards = some []
theorem RmG.mono {j k : Nat} {A : Around} (r : RmG k A) (h : j ≤ k) : RmG j A := ⟨r.rm.mono h, r.gu⟩
theorem RmG.deeper {k : Nat} {A : Around} (r : RmG (k + 1) A) (env : Env) : RmG k (A.deeper env) := ⟨r.rm.deeper env, r.gu⟩
theorem RmG.gd {k : Nat} {X : Cx} (r : RmG k X.A) (h : X.calm = true) : Gd X := ⟨h, r.gu, by have := r.rm.un; omega⟩
structure FnG (P : Program) (w : World) (K : PySem.W.Frag) (mg : Str → Option Value) (base : Heap) (CX : CXT) (k : Nat) (f : Addr) (fd : FuncData) (ps : List Str) (sp : Sp) : Prop where
  len : ∀ vs H Q E, sp vs H Q E → vs.length = ps.length
  run : ∀ (A : Around) (outer : List Env) (s : Shared) (H : Hp) (args : Args) (us : List Value) (vs : List V) (Q : VK) (E : XK), RmG k A → Env0 P w K mg base A outer s H → BindsTo s fd args (ps.zip us) → Vals vs us → sp vs H Q E →
    codeAny (model P w) A (.call (.ref f) args) (CR CX outer P w H s Q E) s
section
variable {P : Program} {w : World} {K : PySem.W.Frag} {mg : Str → Option Value} {base : Heap} {CX : CXT} {k : Nat} {f : Addr} {fd : FuncData} {ps : List Str} {sp : Sp}
theorem FnG.mono {j : Nat} (F : FnG P w K mg base CX j f fd ps sp) (h : j ≤ k) : FnG P w K mg base CX k f fd ps sp := ⟨F.len, fun A outer s H args us vs Q E hr => F.run A outer s H args us vs Q E (hr.mono h)⟩
theorem fnG_of {x qual : Str} {params : Arguments} {body : List Stmt} {scope : Scope} {dvs : List V} {kws : List (Str × V)} {N : List Str} (F : FunD K x qual params body scope dvs kws f fd) (S : FnScope N ps scope)
    (len : ∀ vs H Q E, sp vs H Q E → vs.length = ps.length)
    (hbody : ∀ (cdv : Value) (A : Around) (outer : List Env) (s : Shared) (H : Hp) (vs : List V) (Q : VK) (E : XK), RmG k (A.deeper (envOfC qual scope s.heap.objs.size f cdv)) → sp vs H Q E →
      ∃ t, PSs (cxOf CX P w K mg base N qual scope f cdv A outer s H E) body t ∧ t { nx := fun _ H' => Q .non H', rt := Q } (start N vs) H) : FnG P w K mg base CX (k + 1) f fd ps sp := by
  obtain ⟨oc, od, dV, kV, doc, pm, an, cdv, ct, osl, rfl, lk, hcd, _, _⟩ := F.ex
  refine ⟨len, fun A outer s H args us vs Q E hr e0 hb r hsp => ?_⟩
  have KX : K.In s.heap := e0.mod.kin.keeps fun b o e => (e0.bs b o e).1
  have nl : s.heap.NoLimit := e0.mod.nolimit.keeps fun b o e => (e0.bs b o e).1
  have kinds : ∀ y ∈ ps.zip us, scope.names.lookup y.1 = some .local ∨ (scope.names.lookup y.1 = some .cell ∧ ((cellsFrom (s.heap.objs.size + 1) scope.names []).lookup y.1).isSome = true) := by
    rintro ⟨n, v⟩ hy
    exact (S.par n (List.of_mem_zip hy).1).imp id fun q => ⟨q, PySem.W.cellsFrom_some _ _ _ (.inl q)⟩
  refine codeAny_call_function hr.rm.depth (KX _ _ lk) rfl S.co S.gen rfl (PySem.W.codeRec_of KX hcd) (hb _ _ _ _ (wpAny_newFunctionEnv_cells S.kind kinds ?_))
  rintro env rfl s1 x
  refine ⟨nl.keeps x.toInCall.keep, codeAny_func ?_⟩
  obtain ⟨t, ht, hq⟩ := hbody cdv A outer s H vs Q E (hr.deeper _) hsp
  refine wpAny_mono (ht.run [] s1 (start N vs) H _ (inv_start S hr.rm.hd e0 (len _ _ _ _ hsp) r x) hq) (fun fl s' hs => ?_) fun _ _ z => z
  cases fl with
  | ret u =>
    obtain ⟨v, _, H', J, rv, q⟩ := hs
    exact ⟨v, H', J.os, J.bare, J.base, J.hok, rv, q⟩
  | next =>
    obtain ⟨_, H', J, q⟩ := hs
    exact ⟨V.non, H', J.os, J.bare, J.base, J.hok, (rfl : RelV .non Value.none), q⟩
  | brk =>
    obtain ⟨_, _, _, q⟩ := hs
    exact q.elim
  | cont =>
    obtain ⟨_, _, _, q⟩ := hs
    exact q.elim
abbrev FF := List D → Sto → Out D
def fin1 (n : Nat) : SO → Out D
  | .nx _ s => .ok (.v .none) (s.take n)
  | .rt d s => if d.low n then .ok d (s.take n) else .stuck
  | .exn e s => .exn e s
  | _ => .stuck
def fin2 : SO → Out D
  | .nx _ s => .ok (.v .none) s
  | .rt d s => .ok d s
  | .exn e s => .exn e s
  | _ => .stuck
def envE (nN : Nat) (ds : List D) : Ev := ds.map some ++ List.replicate (nN - ds.length) none
def fnT (nN : Nat) (m : MS) : FF := fun ds st => fin1 st.length (m (envE nN ds) st)
def fnK (nN : Nat) (m : MS) : FF := fun ds st => fin2 (m (envE nN ds) st)
def spG (K : PySem.W.Frag) (V : XK → XW) (n : Nat) (f : FF) : Sp := fun vs H Q E => ∃ ι st ds, SRel K ι st H ∧ RDs K ι st H vs ds ∧ ds.length = n ∧ (f ds st).post (PO1 K ι st H Q) (PX1 K (V E) ι st H)
theorem RDs.get {ι : Gh} {st : Sto} {H : Hp} : ∀ {xs : List V} {ds : List D} {i : Nat} {d : D}, RDs K ι st H xs ds → ds[i]? = some d → ∃ x, xs[i]? = some x ∧ RD K ι st H x d
  | _, _, _, _, .nil, e => by simp at e
  | _, _, 0, _, .cons r _, e => by simp at e; subst e; exact ⟨_, rfl, r⟩
  | _, _, i + 1, d, .cons _ r, e => by
    obtain ⟨x, h1, h2⟩ := RDs.get (i := i) (d := d) r (by simpa using e)
    exact ⟨x, by simpa using h1, h2⟩
theorem evR_start {ι : Gh} {st : Sto} {H : Hp} {N : List Str} : ∀ {vs : List V} {ds : List D}, RDs K ι st H vs ds → EvR K ι st H (L2.start N vs) (envE N.length ds) := by
  intro vs ds r
  have hl := RDs.length r
  refine ⟨by unfold L2.start envE; rw [List.length_append, List.length_append, List.length_map, List.length_map, List.length_replicate, List.length_replicate, hl], fun i d q => ?_⟩
  unfold envE at q
  by_cases h : i < ds.length
  · rw [List.getElem?_append_left (by rw [List.length_map]; exact h), List.getElem?_map, List.getElem?_eq_getElem h] at q
    cases q
    obtain ⟨x, h1, h2⟩ := RDs.get r (List.getElem?_eq_getElem h)
    refine ⟨x, ?_, h2⟩
    unfold L2.start
    rw [List.getElem?_append_left (by rw [List.length_map, hl]; exact h), List.getElem?_map, h1]
    rfl
  · rw [List.getElem?_append_right (by rw [List.length_map]; omega), List.getElem?_replicate] at q
    split at q <;> cases q
theorem RDs.append {ι : Gh} {st : Sto} {H : Hp} : ∀ {xs ys : List V} {ds es : List D}, RDs K ι st H xs ds → RDs K ι st H ys es → RDs K ι st H (xs ++ ys) (ds ++ es)
  | _, _, _, _, .nil, s => s
  | _, _, _, _, .cons r t, s => .cons r (RDs.append t s)
theorem ext_take {ι ι' : Gh} {st st' : Sto} {H H' : Hp} (R : SRel K ι st H) (E : Ext ι st H ι' st' H') : Ext ι st H (ι'.tk st.length) (st'.take st.length) H' := by
  refine ⟨fun q u e f => ?_, fun n a h => ?_, E.hid, E.keepZ, fun {n t kvs a} h hi => let ⟨h1, e1⟩ := E.lk h hi; ⟨by rw [List.getElem?_take, if_pos (List.getElem?_eq_some_iff.mp h).1]; exact h1, e1⟩⟩
  · obtain ⟨f1, k1⟩ := E.keep q u e f
    exact ⟨frz_take f1, k1⟩
  · have hn : n < st.length := by
      rw [← R.len]
      by_cases z : n < ι.ad.length
      · exact z
      · rw [List.getElem?_eq_none (by omega)] at h
        cases h
    show (ι'.ad.take st.length)[n]? = _
    rw [List.getElem?_take, if_pos hn]
    exact E.pre n a h
variable {x qual : Str} {params : Arguments} {body : List Stmt} {scope : Scope} {dvs : List V} {kws : List (Str × V)} {N : List Str} {V : XK → XW} {m : MS}
theorem spG_len {n : Nat} {f : FF} {vs : List L2.V} {H : Hp} {Q : VK} {E : XK} (h : spG K V n f vs H Q E) : vs.length = n := by
  obtain ⟨ι, st, ds, R, r, hl, _⟩ := h
  rw [RDs.length r, hl]
theorem fnG_T (F : FunD K x qual params body scope dvs kws f fd) (S : FnScope N ps scope)
    (hb : ∀ (cdv : Value) (A : Around) (outer : List Env) (s : Shared) (H : Hp) (E : XK), RmG k (A.deeper (envOfC qual scope s.heap.objs.size f cdv)) → PSs (cxOf CX P w K mg base N qual scope f cdv A outer s H E) body (TSo K (V E) m)) :
    FnG P w K mg base CX (k + 1) f fd ps (spG K V ps.length (fnT N.length m)) := by
  refine fnG_of F S (fun _ _ _ _ h => spG_len h) fun cdv A outer s H vs Q E hr hsp => ⟨TSo K (V E) m, hb cdv A outer s H E hr, ?_⟩
  obtain ⟨ι, st, ds, R, r, hl, p⟩ := hsp
  refine ⟨ι, envE N.length ds, st, R, evR_start r, ?_⟩
  unfold fnT at p
  cases e : m (envE N.length ds) st with
  | nx e1 s1 =>
    rw [e] at p
    exact fun ι1 H1 σ1 R1 E1 _ => p _ H1 .non (R1.take _) (ext_take R E1) .non
  | rt d s1 =>
    rw [e] at p
    have e2 : fin1 st.length (.rt d s1) = if d.low st.length then .ok d (s1.take st.length) else .stuck := rfl
    rw [e2] at p
    by_cases h : d.low st.length = true
    · rw [if_pos h] at p
      exact fun ι1 H1 x1 R1 E1 r1 => p _ H1 x1 (R1.take _) (ext_take R E1) (r1.take h)
    · rw [if_neg h] at p
      exact p.elim
  | bk e1 s1 => rw [e] at p; exact p.elim
  | ct e1 s1 => rw [e] at p; exact p.elim
  | exn x1 s1 => rw [e] at p; exact p
  | stuck => rw [e] at p; exact p.elim
theorem fnG_K (F : FunD K x qual params body scope dvs kws f fd) (S : FnScope N ps scope)
    (hb : ∀ (cdv : Value) (A : Around) (outer : List Env) (s : Shared) (H : Hp) (E : XK), RmG k (A.deeper (envOfC qual scope s.heap.objs.size f cdv)) → PSs (cxOf CX P w K mg base N qual scope f cdv A outer s H E) body (TSo K (V E) m)) :
    FnG P w K mg base CX (k + 1) f fd ps (spG K V ps.length (fnK N.length m)) := by
  refine fnG_of F S (fun _ _ _ _ h => spG_len h) fun cdv A outer s H vs Q E hr hsp => ⟨TSo K (V E) m, hb cdv A outer s H E hr, ?_⟩
  obtain ⟨ι, st, ds, R, r, hl, p⟩ := hsp
  refine ⟨ι, envE N.length ds, st, R, evR_start r, ?_⟩
  unfold fnK at p
  cases e : m (envE N.length ds) st with
  | nx e1 s1 =>
    rw [e] at p
    exact fun ι1 H1 σ1 R1 E1 _ => p _ H1 .non R1 E1 .non
  | rt d s1 => rw [e] at p; exact p
  | bk e1 s1 => rw [e] at p; exact p.elim
  | ct e1 s1 => rw [e] at p; exact p.elim
  | exn x1 s1 => rw [e] at p; exact p
  | stuck => rw [e] at p; exact p.elim
end
structure MLen (ma : MA) (n : Nat) : Prop where
  of : ∀ env st ds s1, ma env st = .ok ds s1 → ds.length = n
theorem MLen.n : MLen mNil 0 := ⟨fun env st ds s1 e => by cases e; rfl⟩
theorem MLen.c {m : ME} {ma : MA} {n : Nat} (h : MLen ma n) : MLen (mCons m ma) (n + 1) := ⟨fun env st ds s1 e => by
  unfold mCons at e
  cases e1 : m env st with
  | ok d s2 =>
    rw [e1, bind_ok] at e
    cases e2 : ma env s2 with
    | ok us s3 =>
      rw [e2, bind_ok] at e
      cases e
      rw [List.length_cons, h.of _ _ _ _ e2]
    | _ => rw [e2] at e; cases e
  | _ => rw [e1] at e; cases e⟩
def mCall (f : FF) (ma : MA) (xs : List D := []) : ME := fun env st => (ma env st).bind fun ds s1 => f (ds ++ xs) s1
section
variable {X : Cx} {CX : CXT} {k n : Nat} {f : Addr} {fd : FuncData} {ps : List Str} {dvs : List L2.V} {ds : List Value} {xs : List D} {E : XK} {x : Str} {p pos : Pos} {e : Expr} {es : List Expr} {V : XK → XW} {ff : FF} {ma : MA}
theorem run_fnG {sp : Sp} {pins : List (Addr × Obj)} {σ : L2.St} {H : Hp} {s : Shared} {Q : VK} {us : List Value} {vs : List L2.V} (F : FnG X.prog X.w X.K X.mg X.base CX k f fd ps sp) (hr : RmG k X.A) (hb : Binds X.K fd ps ds) (hd : Vals dvs ds) (hx : Passes CX X E)
    (I : Inv X pins σ H s) (r : Vals vs us) (h : sp (vs ++ dvs) H Q E) : wpAny (model X.prog X.w) X.A (call (.ref f) us) (EP X pins σ Q) X.xe s := by
  have r2 := r.append hd
  have hl : (us ++ ds).length = ps.length := by rw [← r2.length]; exact F.len _ _ _ _ h
  refine wpAny_call (codeAny_mono (F.run X.A X.stack s H ⟨us, []⟩ _ _ Q E hr I.env0 (hb s us I.kIn hl) r2 h) fun o s' hq => ?_)
  cases o with
  | error e => exact hx pins σ H s e s' I hq
  | ok fl =>
    cases fl with
    | ret u => exact I.after hq
    | next => exact hq.elim
    | brk => exact hq.elim
    | cont => exact hq.elim
theorem spG_call {K : PySem.W.Frag} {σ : L2.St} {H : Hp} {Q : VK} (hxs : ∀ ι st H, RDs K ι st H dvs xs) (q : TEo K (V E) (mCall ff ma xs) σ H Q) {j : Nat} (hn : MLen ma j) (hj : j + xs.length = n) :
    TAo K (V E) ma σ H fun vs H1 => spG K V n ff (vs ++ dvs) H1 Q E := by
  obtain ⟨ι, env, st, R, EV, p⟩ := q
  unfold mCall at p
  refine ⟨ι, env, st, R, EV, ?_⟩
  cases em : ma env st with
  | ok d s1 =>
    rw [em, bind_ok] at p
    exact fun ι1 H1 vs R1 E1 r1 => ⟨ι1, s1, d ++ xs, R1, RDs.append r1 (hxs _ _ _), by rw [List.length_append, hn.of env st d s1 em]; exact hj, Out.post_mono p (fun _ _ z => z.ext E1) fun _ _ z => z.ext E1⟩
  | exn e s1 => rw [em] at p; exact p
  | stuck => rw [em] at p; exact p.elim
theorem x_call (F : FnG X.prog X.w X.K X.mg X.base CX k f fd ps (spG X.K V n ff)) (hr : RmG k X.A) (hg : Gl X x) (hm : X.mg x = some (.ref f)) (hk : PySem.W.keepIn X.K (.ref f) = true) (hb : Binds X.K fd ps ds) (hd : Vals dvs ds) (hx : Passes CX X E)
    (hxs : ∀ ι st H, RDs X.K ι st H dvs xs) (ha : PA X (e :: es) (TAo X.K (V E) ma)) {j : Nat} (hn : MLen ma j) (hj : j + xs.length = n)
    (hdb : (x == ("__debug__" : Str)) = false := by decide) (he : starEach (e :: es) X.env = (false, eval e X.env) :: starEach es X.env := by rfl) (hpl : (backTo pos (starEach es X.env)).any (·.1) = false := by rfl) :
    PE X (.Call (.Name x p) (e :: es) [] pos) (TEo X.K (V E) (mCall ff ma xs)) := by
  refine ⟨fun pins s σ H Q I h => ?_⟩
  refine wpAny_Call_Name_kw (ld_glob I hg hm ?_ hdb)
  refine PySem.W.callWith_K (h₀ := X.base) I.ok.mod.kin hk (thn (ha.run pos pins s σ H _ I (spG_call hxs h hn hj)) fun us s1 ⟨vs, H1, I1, r, q⟩ => ⟨I1.kIn, ?_⟩) he hpl
  exact run_fnG F hr hb hd hx I1 r q
end
abbrev V0 : XK → XW := fun _ => WF
theorem law_callG {P : Program} {w : World} {K : PySem.W.Frag} {mg mb : Str → Option Value} {k : Nat} {fa a : Addr} {fd : FuncData} {x : Str} {ff : FF} {s₁ : Shared} {vs : List Value} {ns : List Int}
    (KX : K.In s₁.heap) (hns : s₁.heap.Ns mainGlobals mg) (hb : s₁.heap.Ns builtinsNs mb) (hbb : ∀ x : Str, x ≠ "__name__" → mb x = bootBuiltins x) (hlim : s₁.heap.NoLimit) (hg : s₁.gens = #[])
    (ha : s₁.heap.get? a = some { cls := .type "list", data := .seq vs.toArray }) (hi : IntsAre vs ns) (hl : ns.length ≤ sizeLine) (hr : RmG k callerA)
    (F : ∀ base : Heap, K.In base → base.Ns mainGlobals mg → FnG P w K mg base CX0 k fa fd [x] (spG K V0 1 ff)) (hbind : ∀ (s : Shared) (u : Value), BindsTo s fd ⟨[u], []⟩ [(x, u)])
    (hsp : ∃ st, ff [.scr ns] [] = .ok (.v (.bool true)) st) :
    codeAny (model P w) callerA (.call (.ref fa) ⟨[.ref a], []⟩) (fun r s' => r = .ok (.ret (.bool true)) ∧ OldK s₁.heap s'.heap ∧ s'.os = s₁.os ∧ AllBare s'.gens) s₁ := by
  have rv := vals_ints hi
  have lenV := hi.length
  -- from what is tracked: nothing, or the script alone, frozen
  have key : ∀ H : Hp, (∀ b, H b = none ∨ (b = a ∧ ∃ o xs, H b = some (.frz o (.lst xs)))) → (KL K a (ns.map V.int) ∨ ∃ o, H a = some (.frz o (.lst (ns.map V.int)))) → HOk P w H s₁.heap → (H a ≠ none → K.lookup a = none) →
      codeAny (model P w) callerA (.call (.ref fa) ⟨[.ref a], []⟩) (fun r s' => r = .ok (.ret (.bool true)) ∧ OldK s₁.heap s'.heap ∧ s'.os = s₁.os ∧ AllBare s'.gens) s₁ := by
    intro H hO hS hok hK
    have at_a : ∀ {b : Addr} {u : HO}, H b = some u → b = a := fun {b u} e => by
      rcases hO b with z | ⟨z, _⟩
      · rw [z] at e; cases e
      · exact z
    have inB : ∀ {b : Addr} {o : Obj}, s₁.heap.get? b = some o → H b = none → (hidT s₁.heap H).get? b = some o := fun e z => hidT_get e z
    have nsB : ∀ {b : Addr} {m : Str → Option Value}, s₁.heap.Ns b m → (hidT s₁.heap H).Ns b m := by
      rintro b m ⟨o, es, ep, e, d, r⟩
      refine ⟨o, es, ep, inB e ?_, d, r⟩
      cases q : H b with
      | none => rfl
      | some u =>
        have z := at_a q
        subst z
        rw [ha] at e
        cases e
        cases d
    have kB : K.In (hidT s₁.heap H) := fun b o e => inB (KX b o e) (by
      cases q : H b with
      | none => rfl
      | some u =>
        have z := at_a q
        subst z
        rw [hK (by rw [q]; exact Option.some_ne_none u)] at e
        cases e)
    have e0 : Env0 P w K mg (hidT s₁.heap H) callerA [] s₁ H := by
      refine ⟨rfl, ⟨kB, nsB hns, ⟨mb, nsB hb, hbb⟩, ?_⟩, fun b o e => of_hidT e, Nat.le_of_eq (hidT_size _ _), trivial, fun b z => ?_, hok, .of_eq hg⟩
      · obtain ⟨mc, h1, h2⟩ := hlim
        exact ⟨mc, nsB h1, h2⟩
      · cases z
    have R0 : SRel K ⟨[], []⟩ [] H := ⟨rfl, fun n o b h => by simp at h, fun m n b o u h => by simp at h, fun n o h => by simp at h, fun b h => by simp at h, fun b u e => sz_of (hok b u e)⟩
    have r0 : RD K ⟨[], []⟩ [] H (.ref a) (.scr ns) := ⟨a, rfl, hS.imp id fun ⟨o, z⟩ => ⟨o, z, by simp, fun n o h => by simp at h⟩⟩
    have sp : spG K V0 1 ff [.ref a] H (fun v _ => v = .bl true) E0 := by
      obtain ⟨st, e⟩ := hsp
      refine ⟨⟨[], []⟩, [], [.scr ns], R0, .cons r0 .nil, rfl, ?_⟩
      rw [e]
      intro ι1 H1 v R1 E1 rv
      have rv : Rp (Frz ι1 st) H1 v (.bool true) := rv
      cases rv
      rfl
    refine codeAny_mono ((F _ kB (nsB hns)).run callerA [] s₁ H ⟨[.ref a], []⟩ [.ref a] [.ref a] _ _ hr e0 (hbind s₁ (.ref a)) (.cons rfl .nil) sp) fun r s' h => ?_
    cases r with
    | error e => exact h.elim
    | ok fl =>
      cases fl with
      | next => exact h.elim
      | brk => exact h.elim
      | cont => exact h.elim
      | ret u =>
        obtain ⟨v, H', os, bare, un, hok', r', q⟩ := h
        have q' : v = .bl true := q
        subst q'
        obtain rfl : u = Value.bool true := r'
        refine ⟨rfl, OldK.of_keep fun b o e => ?_, os, bare⟩
        rcases hO b with z | ⟨_, ob, xs, z⟩
        · exact un.keep b o e z (by intro y; cases y) (by intro y; cases y)
        · have z2 := un.frzs b ob _ z
          have e1 := (hok b _ z).1
          rw [e] at e1
          cases e1
          exact (hok' b _ z2).1
  cases hk : K.lookup a with
  | some o =>
    have e := KX a o hk
    rw [ha] at e
    cases e
    exact key (fun _ => none) (fun _ => .inl rfl) (.inl ⟨_, vs.toArray, _, hk, rfl, rfl, rfl, by rw [List.size_toArray, lenV]; exact hl, by simpa using rv⟩) (fun b u z => nomatch z) (fun z => absurd rfl z)
  | none =>
    let ob : Obj := { cls := .type "list", data := .seq vs.toArray }
    have same : (fun b => if b = a then some (HO.frz ob (.lst (ns.map V.int))) else none) a = some (HO.frz ob (.lst (ns.map V.int))) := if_pos rfl
    refine key (fun b => if b = a then some (.frz ob (.lst (ns.map V.int))) else none) (fun b => ?_) (.inr ⟨ob, same⟩) (fun b u z => ?_) fun _ => hk
    · by_cases e : b = a
      · exact .inr ⟨e, ob, ns.map V.int, if_pos e⟩
      · exact .inl (if_neg e)
    · by_cases e : b = a
      · subst e
        cases same.symm.trans z
        exact ⟨ha, by rw [List.length_map]; exact hl, vs, _, rv, ha⟩
      · cases (if_neg e : (if b = a then some (HO.frz ob (.lst (ns.map V.int))) else none) = none).symm.trans z
end Fw
namespace Fw
open PySem PySem.Spec PyProof.Rows L2
theorem walkG {l : PySem.W.OpenLaw} {n k : Nat} {q : Program} {loose : List Str} {XP : (Str → Option Value) → Heap → Prop} {YP : World → Heap → Prop} {d : DefRec} {x : Str} {ff : FF}
    (hn : l.most = some n) (hn2 : n ≤ sizeLine) (hdf : d.params.defaults = []) (hr : RmG k callerA)
    (F : ∀ (w : World) (mg : Str → Option Value) (fa : Addr) (h : Heap), YP w h → h.Ns mainGlobals mg → mg d.name = some (.ref fa) →
      ∃ (K : PySem.W.Frag) (fd : FuncData), K.In h ∧ (∀ (s : Shared) (u : Value), BindsTo s fd ⟨[u], []⟩ [(x, u)]) ∧ ∀ base : Heap, K.In base → base.Ns mainGlobals mg → FnG l.prog w K mg base CX0 k fa fd [x] (spG K V0 1 ff))
    (law : ∀ ns : List Int, ns.length ≤ n → ∃ st, ff [.scr ns] [] = .ok (.v (.bool true)) st) :
    PySem.W.WalkO q loose XP YP l.row.toRowW d [] (fun f vs => PySem.call f vs) := by
  refine Att.attach_call hn hdf fun w _ s₁ mg mb fa _ _ _ _ a vs ns G Y _ _ _ hmg ha hi hlen hg => ?_
  obtain ⟨K, fd, KX, hb, hF⟩ := F w mg fa _ Y G.T.g hmg
  exact law_callG KX G.T.g G.T.b G.T.builtins G.T.nolimit hg ha hi (Nat.le_trans hlen hn2) hr hF hb (law ns hlen)
theorem rm0 {k : Nat} (h : k ≤ 60 := by decide) : RmG k callerA := by
  have z : RmG 60 callerA := ⟨⟨rfl, by decide, by decide⟩, rfl⟩
  exact z.mono h
end Fw
namespace Fw
open PySem PySem.Spec PyProof.Rows L2
def mPrs : List (ME × ME) → Ev → Sto → Out (List (D × D))
  | [], _, st => .ok [] st
  | (a, b) :: r, env, st => (a env st).bind fun x s1 => (b env s1).bind fun y s2 => (mPrs r env s2).bind fun ps s3 => .ok ((x, y) :: ps) s3
def keysOf : List (D × D) → Option (List (PyData × D))
  | [] => some []
  | (.v kd, y) :: r => match key1 kd, keysOf r with
    | some _, some kvs => some ((kd, y) :: kvs)
    | _, _ => none
  | _ => none
def putAll (kvs more : List (PyData × D)) : List (PyData × D) := more.foldl (fun acc p => putD acc p.1 p.2) kvs
def mDisp (prs : List (ME × ME)) : ME := fun env st => (mPrs prs env st).noX.bind fun ps s1 => match keysOf ps with
  | some kvs => if kvs.length ≤ 15 ∧ (kvs.all fun p => p.2.low s1.length) = true then .ok (.ref s1.length) (s1 ++ [.dct false (putAll [] kvs)]) else .stuck
  | none => .stuck
def mDnew (t : Bool) : ME := fun _ st => .ok (.ref st.length) (st ++ [.dct t []])
section
variable {K : PySem.W.Frag} {W : XW} {ι : Gh} {st : Sto} {H : Hp}
theorem psh_at (R : SRel K ι st H) {p : Addr} : (ι.psh p).ad[st.length]? = some p := by
  show (ι.ad ++ [p])[st.length]? = _
  rw [← R.len, List.getElem?_append_right (Nat.le_refl _), Nat.sub_self]
  rfl
theorem hf_dK {p : Addr} {xs : List (Key × L2.V)} (h : HF H) (hl : xs.length ≤ sizeLine) : HF (upd H p (.dK xs)) := fun a u e => by
  by_cases z : a = p
  · subst z
    rw [upd_same] at e
    cases e
    exact hl
  · rw [upd_ne z] at e
    exact h a u e
def PV (K : PySem.W.Frag) (ι : Gh) (st : Sto) (H : Hp) : List (L2.V × L2.V) → List (D × D) → Prop := Paired fun x p => RD K ι st H x.1 p.1 ∧ RD K ι st H x.2 p.2
def PQ1 (K : PySem.W.Frag) (ι : Gh) (st : Sto) (H : Hp) (Q : List (L2.V × L2.V) → Hp → Prop) (ps : List (D × D)) (st' : Sto) : Prop := ∀ ι' H' xs, SRel K ι' st' H' → Ext ι st H ι' st' H' → PV K ι' st' H' xs ps → Q xs H'
theorem prs_red : ∀ (prs : List (ME × ME)) {ι : Gh} {env : Ev} {st : Sto} {σ : L2.St} {H : Hp} {Q : List (L2.V × L2.V) → Hp → Prop}, SRel K ι st H → EvR K ι st H σ env → (mPrs prs env st).post (PQ1 K ι st H Q) (fun _ _ => False) →
    tPairs (prs.map fun p => (TEo K W p.1, TEo K W p.2)) σ H Q
  | [], ι, env, st, σ, H, Q, R, EV, p => p ι H [] R Ext.refl .nil
  | (a, b) :: r, ι, env, st, σ, H, Q, R, EV, p => by
    refine ⟨ι, env, st, R, EV, Out.post_mono (Out.post_bind p) (fun x s1 q ι1 H1 u R1 E1 ra => ?_) fun _ _ q => q.elim⟩
    refine ⟨ι1, env, s1, R1, EV.ext E1, Out.post_mono (Out.post_bind q) (fun y s2 q2 ι2 H2 w R2 E2 rb => ?_) fun _ _ q => q.elim⟩
    refine prs_red r R2 ((EV.ext E1).ext E2) (Out.post_mono (Out.post_bind q2) (fun ps s3 q3 ι3 H3 xs R3 E3 rp => ?_) fun _ _ q => q)
    exact q3 ι3 H3 ((u, w) :: xs) R3 ((E1.trans E2).trans E3) (.cons ⟨(ra.ext E2).ext E3, rb.ext E3⟩ rp)
theorem keysOf_at : ∀ {ps : List (D × D)} {kvs : List (PyData × D)} {xs : List (L2.V × L2.V)}, keysOf ps = some kvs → PV K ι st H xs ps → ∃ us : List (Key × L2.V), xs = us.map (fun kv => (kV kv.1, kv.2)) ∧ RK K ι st H kvs us ∧ ∀ p ∈ kvs, ∃ k, key1 p.1 = some k
  | [], kvs, _, e, .nil => by cases e; exact ⟨[], rfl, .nil, fun p hp => nomatch hp⟩
  | (.v kd, y) :: r, kvs, _, e, .cons (a := x) h t => by
    unfold keysOf at e
    split at e
    · rename_i k l h1 h2
      cases e
      obtain ⟨us, rfl, h3, h4⟩ := keysOf_at h2 t
      have rc : Rp (Frz ι st) H x.1 kd := h.1
      have hk := kD_of h1
      rw [hk] at rc
      have ew := kV_of rc
      refine ⟨(k, x.2) :: us, ?_, .cons ⟨hk, h.2⟩ h3, fun p hp => ?_⟩
      · rw [List.map_cons, ← ew]
      · rcases List.mem_cons.mp hp with rfl | hp
        · exact ⟨k, h1⟩
        · exact h4 p hp
    · cases e
theorem rk_putAll : ∀ {kvs acc : List (PyData × D)} {us bs : List (Key × L2.V)}, RK K ι st H kvs us → (∀ p ∈ kvs, ∃ k, key1 p.1 = some k) → RK K ι st H acc bs → RK K ι st H (putAll acc kvs) (mergeK bs us)
  | _, _, _, _, .nil, _, r => r
  | _, acc, _, bs, .cons (a := p) (b := q) h t, hk, r => by
    obtain ⟨k, e⟩ := hk p List.mem_cons_self
    have e2 : k = q.1 := by
      have z := e
      rw [h.1, key1_kD] at z
      exact (Option.some.inj z).symm
    subst e2
    have z := rk_putAll t (fun z hz => hk z (List.mem_cons_of_mem _ hz)) (RK.put e h.2 r)
    exact z
theorem putAll_low {n : Nat} : ∀ {kvs acc : List (PyData × D)}, (kvs.all fun p => p.2.low n) = true → (acc.all fun p => p.2.low n) = true → ((putAll acc kvs).all fun p => p.2.low n) = true
  | [], _, _, h => h
  | p :: r, acc, h1, h2 => by
    rw [List.all_cons, Bool.and_eq_true] at h1
    exact putAll_low (kvs := r) h1.2 (putD_low h2 h1.1)
theorem upd_del2 {p : Addr} {u : HO} : upd (del H p) p u = upd H p u := by
  funext b
  by_cases e : b = p
  · subst e; rw [upd_same, upd_same]
  · rw [upd_ne e, del_ne e, upd_ne e]
theorem ext_show {ι1 : Gh} {s1 : Sto} {H1 : Hp} {p : Addr} {u : HO} (R : SRel K ι st H) (hp : H p = none) (R1 : SRel K ι1 s1 H1) (E : Ext (ι.hide p) st (upd H p u) ι1 s1 H1) : ∃ ι2 : Gh, ι1 = ι2.hide p ∧ ι2.hid = ι.hid ∧ SRel K ι2 s1 (del H1 p) ∧ Ext ι st H ι2 s1 (del H1 p) := by
  have e : ι1 = Gh.hide ⟨ι1.ad, ι.hid⟩ p := by
    have e := E.hid
    cases ι1
    simp only at e
    rw [e]
    rfl
  have np : p ∉ ι.hid := R.hid_new hp
  rw [e] at R1 E
  refine ⟨⟨ι1.ad, ι.hid⟩, e, rfl, R1.unhide np, ?_⟩
  have m := ((mv_hide R hp (u := u)).trans E.mv).trans (mv_show R1)
  refine ⟨m.keep, m.pre, rfl, fun a ha => ?_, m.lk⟩
  have na : a ≠ p := fun z => np (by rw [← z]; exact ha)
  rw [del_ne na, E.keepZ a (List.mem_cons_of_mem _ ha), upd_ne na]
theorem disp_red {prs : List (ME × ME)} {σ : L2.St} {Q : VK} (q : TEo K W (mDisp prs) σ H Q) : tDisp (prs.map fun p => (TEo K W p.1, TEo K W p.2)) σ H (fun v H' => HF H' → Q v H') := by
  obtain ⟨ι, env, st, R, EV, p⟩ := q
  intro a ha
  have R1 := R.hide (u := .dK []) ha trivial (hf_dK R.hf (Nat.zero_le _))
  refine prs_red prs R1 ((mv_hide R ha).ev EV) (noX_post (Out.post_mono (Out.post_bind p) (fun ps s1 q ι1 H1 xs R2 E2 rp => ?_) fun _ _ z => z))
  split at q
  · rename_i kvs hk
    split at q
    · rename_i hc
      obtain ⟨us, e1, h2, h3⟩ := keysOf_at hk rp
      have lu : us.length ≤ 15 := by rw [h2.len]; exact hc.1
      have hA : H1 a = some (.dK []) := by rw [E2.keepZ a List.mem_cons_self, upd_same]
      refine ⟨hA, us, e1, lu, fun hf => ?_⟩
      obtain ⟨ι2, eι, eh, R3, E3⟩ := ext_show R ha R2 E2
      have m : Mv ι1 s1 H1 ι2 s1 (del H1 a) := by rw [eι]; rw [eι] at R2; exact mv_show R2
      rw [← upd_del2] at hf ⊢
      have E4 : Ext ι2 s1 (del H1 a) (ι2.psh a) (s1 ++ [.dct false (putAll [] kvs)]) (upd (del H1 a) a (.dK (mergeK [] us))) := Ext.push R3 del_same
      refine q (ι2.psh a) _ _ (R3.push del_same hf ⟨_, upd_same, RK.ext E4 (rk_putAll (m.rk h2) h3 .nil)⟩ (putAll_low hc.2 rfl)) (E3.trans E4) ⟨a, psh_at R3, rfl⟩
    · exact q.elim
  · exact q.elim
end
section
variable {X : Cx} {W : XW} {pos : Pos}
theorem ps_nil0 : PPs X pos [] [] (([] : List (ME × ME)).map fun p => (TEo X.K W p.1, TEo X.K W p.2)) := pps_nil
theorem ps_cons0 {k v : Expr} {ks : List (Option Expr)} {vs : List Expr} {a b : ME} {prs : List (ME × ME)} (hk : PE X k (TEo X.K W a)) (hv : PE X v (TEo X.K W b)) (hr : PPs X pos ks vs (prs.map fun p => (TEo X.K W p.1, TEo X.K W p.2))) :
    PPs X pos (some k :: ks) (v :: vs) (((a, b) :: prs).map fun p => (TEo X.K W p.1, TEo X.K W p.2)) := pps_cons hk hv hr
theorem x_disp {keys : List (Option Expr)} {values : List Expr} {prs : List (ME × ME)} (h : PPs X pos keys values (prs.map fun p => (TEo X.K W p.1, TEo X.K W p.2))) (hall : keys.all (·.isSome) = true := by rfl) (hl : keys.length = values.length := by rfl) (h0 : keys ≠ [] := by exact fun z => nomatch z)
    (h15 : keys.length ≤ 15 := by decide) : PE X (.Dict keys values pos) (TEo X.K W (mDisp prs)) := pe_wrap (pe_disp h hall hl h0 h15) fun _ _ _ q => disp_red q
theorem x_dnew (t : Bool) : PE X (.Dict [] [] pos) (TEo X.K W (mDnew t)) := by
  cases t with
  | false =>
    exact pe_wrap pe_dnewK fun σ H Q q => by
      obtain ⟨ι, env, st, R, EV, p⟩ := q
      intro a ha hf
      exact p _ _ _ (R.push ha hf ⟨_, upd_same, .nil⟩ rfl) (Ext.push R ha) ⟨a, psh_at R, rfl⟩
  | true =>
    exact pe_wrap pe_dnewT fun σ H Q q => by
      obtain ⟨ι, env, st, R, EV, p⟩ := q
      intro a ha hf
      exact p _ _ _ (R.push ha hf ⟨_, upd_same, .nil⟩ rfl) (Ext.push R ha) ⟨a, psh_at R, rfl⟩
end
end Fw
namespace Fw
open PySem PySem.Spec PyProof.Rows L2
theorem bt_len : bootBuiltins "len" = some (.builtin "len") := by decide +kernel
theorem bt_abs : bootBuiltins "abs" = some (.builtin "abs") := by decide +kernel
theorem bt_sum : bootBuiltins "sum" = some (.builtin "sum") := by decide +kernel
theorem bt_min : bootBuiltins "min" = some (.builtin "min") := by decide +kernel
theorem bt_max : bootBuiltins "max" = some (.builtin "max") := by decide +kernel
theorem bt_repr : bootBuiltins "repr" = some (.builtin "repr") := by decide +kernel
theorem bt_sorted : bootBuiltins "sorted" = some (.builtin "sorted") := by decide +kernel
theorem bt_int : bootBuiltins "int" = some (.type "int") := by decide +kernel
theorem bt_tuple : bootBuiltins "tuple" = some (.type "tuple") := by decide +kernel
theorem bt_list : bootBuiltins "list" = some (.type "list") := by decide +kernel
structure Cal (P : Program) (w : World) (K : PySem.W.Frag) (mg : Str → Option Value) (base : Heap) (k : Nat) (x : Str) (n : Nat) (xs : List D) (ff : FF) : Prop where
  ex : ∃ (f : Addr) (fd : FuncData) (ps : List Str) (dvs : List L2.V) (ds : List Value), FnG P w K mg base CX0 k f fd ps (spG K V0 n ff) ∧ mg x = some (.ref f) ∧ PySem.W.keepIn K (.ref f) = true ∧ Binds K fd ps ds ∧ Vals dvs ds ∧ ∀ ι st H, RDs K ι st H dvs xs
section
variable {P : Program} {w : World} {K : PySem.W.Frag} {mg : Str → Option Value} {base : Heap} {k : Nat} {x qual : Str} {n nN : Nat} {xs : List D} {ff : FF}
theorem Cal.mono {j : Nat} (c : Cal P w K mg base k x n xs ff) (h : k ≤ j) : Cal P w K mg base j x n xs ff := by
  obtain ⟨f, fd, ps, dvs, ds, F, r⟩ := c.ex
  exact ⟨f, fd, ps, dvs, ds, F.mono h, r⟩
theorem Cal.mk0 {f : Addr} {fd : FuncData} {params : Arguments} {body : List Stmt} {scope : Scope} {ps : List Str} (F : FunD K x qual params body scope [] [] f fd) (m : mg x = some (.ref f)) (G : FnG P w K mg base CX0 k f fd ps (spG K V0 n ff))
    (h : ∀ (kV doc pm : Value) (an : Option Addr) (cdv ct : Value) (us : List Value), us.length = ps.length → bindArgs (PySem.W.fnOf x qual params body scope .none kV doc pm an cdv ct) ⟨us, []⟩ = pure (ps.zip us)) : Cal P w K mg base k x n [] ff :=
  ⟨f, fd, ps, [], [], G, m, F.kp, F.bindsN h, .nil, fun _ _ _ => .nil⟩
end
section
variable {X : Cx} {k n j : Nat} {x : Str} {xs : List D} {ff : FF} {p pos : Pos} {e : Expr} {es : List Expr} {ma : MA}
theorem x_cal (c : Cal X.prog X.w X.K X.mg X.base k x n xs ff) (hr : RmG j X.A) (hk : k ≤ j) (hg : Gl X x) (ha : PA X (e :: es) (TAo X.K WF ma)) {i : Nat} (hn : MLen ma i) (hj : i + xs.length = n)
    (hdb : (x == ("__debug__" : Str)) = false := by decide) (he : starEach (e :: es) X.env = (false, eval e X.env) :: starEach es X.env := by rfl) (hpl : (backTo pos (starEach es X.env)).any (·.1) = false := by rfl) :
    PE X (.Call (.Name x p) (e :: es) [] pos) (TEo X.K WF (mCall ff ma xs)) := by
  obtain ⟨f, fd, ps, dvs, ds, F, hm, kp, hb, hd, hxs⟩ := c.ex
  exact x_call (V := V0) (E := E0) F (hr.mono hk) hg hm kp hb hd pass0 hxs ha hn hj hdb he hpl
theorem g_tp {ts : List Expr} {kk m : Nat} {tpos : Pos} {gs : MGs} {W : XW} {vs : Option (List Nat)} (gd : Gd X) (h : PGs X ts (TGso X.K W gs vs)) (hn : (assignEach ts X.env).length = m := by rfl) (hst : (assignEach ts X.env).findIdx? (·.1) = none := by rfl) :
    PG X (.Tuple ts kk tpos) (TGo X.K W (gTp m gs) vs) := g_tup gd.calm h (pg_tup gd.calm h hn hst)
theorem gn (i : Nat) {vs : Option (List Nat)} {W : XW} {y : Str} (hN : X.N.Nodup) (hi : X.N[i]? = some y := by rfl) (hx : Loc X.env.scope y := by first | exact .inl rfl | exact .inr rfl) (hf : X.fn y = true ∨ X.env.scope.names.lookup y = some .local := by first | exact .inl rfl | exact .inr rfl)
    (hv : ∀ ws, vs = some ws → i ∈ ws := by (intro ws z; cases z <;> decide)) : PG X (.Name y pos) (TGo X.K W (gNm i) vs) := g_name i (pg_name (i := i) hN hi hx hf) hv
theorem xv (i : Nat) {W : XW} {y : Str} (hN : X.N[i]? = some y := by rfl) (hv : Vis X.env.scope y := by first | exact Or.inl rfl | exact Or.inr (Or.inl rfl) | exact Or.inr (Or.inr rfl)) (hd : (y == ("__debug__" : Str)) = false := by decide)
    (hcd : (y == ("__classdict__" : Str)) = false := by decide) : PE X (.Name y pos) (TEo X.K W (mVar i)) := x_var i (pe_var hN hv hd hcd)
theorem s_p2 {i j : Nat} {W : XW} {y z : Str} {a b : Expr} {px py pt : Pos} {kt k2 : Nat} {pt2 : Pos} (gd : Gd X) (hN : X.N.Nodup) (ha : PA X [a, b] (TAo X.K W ma)) (hi : X.N[i]? = some y := by rfl) (hj : X.N[j]? = some z := by rfl) (hij : i ≠ j := by decide)
    (hy : X.env.scope.names.lookup y = some .local := by rfl) (hz : X.env.scope.names.lookup z = some .local := by rfl) (hw : swappedStores [.Tuple [.Name y px, .Name z py] kt pt] (.Tuple [a, b] k2 pt2) X.env = pure (some [y, z]) := by rfl)
    (hs : swapsWithSole [.Tuple [.Name y px, .Name z py] kt pt] (.Tuple [a, b] k2 pt2) pos.line X.env = pure false := by rfl) :
    PS X (.Assign [.Tuple [.Name y px, .Name z py] kt pt] (.Tuple [a, b] k2 pt2) pos) (TSo X.K W (sPar2 i j ma)) := s_par2 ha (ps_par gd.calm hN hi hj hij hy hz ha hw hs)
theorem s_p3 {i j l : Nat} {W : XW} {y z u : Str} {a b c : Expr} {px py pz pt : Pos} {kt k2 : Nat} {pt2 : Pos} (gd : Gd X) (hN : X.N.Nodup) (ha : PA X [a, b, c] (TAo X.K W ma)) (hi : X.N[i]? = some y := by rfl) (hj : X.N[j]? = some z := by rfl) (hl : X.N[l]? = some u := by rfl) (hij : i ≠ j := by decide) (hil : i ≠ l := by decide) (hjl : j ≠ l := by decide)
    (hy : X.env.scope.names.lookup y = some .local := by rfl) (hz : X.env.scope.names.lookup z = some .local := by rfl) (hu : X.env.scope.names.lookup u = some .local := by rfl) (hw : swappedStores [.Tuple [.Name y px, .Name z py, .Name u pz] kt pt] (.Tuple [a, b, c] k2 pt2) X.env = pure (some [y, z, u]) := by rfl)
    (hs : swapsWithSole [.Tuple [.Name y px, .Name z py, .Name u pz] kt pt] (.Tuple [a, b, c] k2 pt2) pos.line X.env = pure false := by rfl) :
    PS X (.Assign [.Tuple [.Name y px, .Name z py, .Name u pz] kt pt] (.Tuple [a, b, c] k2 pt2) pos) (TSo X.K W (sPar3 i j l ma)) := s_par3 ha (ps_par3 gd.calm hN hi hj hl hij hil hjl hy hz hu ha hw hs)
theorem s_pT {W : XW} {m kk k2 : Nat} {p1 p2 : Pos} {ts es : List Expr} {gs : MGs} (gd : Gd X) (ha : PA X es (TAo X.K W ma)) (h : PGs X ts (TGso X.K W gs none)) (hn : (assignEach ts X.env).length = m := by rfl) (hst : (assignEach ts X.env).findIdx? (·.1) = none := by rfl)
    (hs : swapsWithSole [.Tuple ts kk p1] (.Tuple es k2 p2) pos.line X.env = pure false := by rfl) (hw : swappedStores [.Tuple ts kk p1] (.Tuple es k2 p2) X.env = pure none := by rfl) : PS X (.Assign [.Tuple ts kk p1] (.Tuple es k2 p2) pos) (TSo X.K W (sAsgT m ma gs)) :=
  s_asgT ha (pg_tup gd.calm h hn hst) hs hw
end
section
variable {X : Cx} {W : XW} {a b : Expr} {m ma mb : ME} {p q pos pos2 : Pos}
end
theorem s_subP {X : Cx} {W : XW} {e o i : Expr} {m mo mi : ME} {pos pos' : Pos} (gd : Gd X) (he : PE X e (TEo X.K W m)) (ho : PE X o (TEo X.K W mo)) (hi : PE X i (TEo X.K W mi))
    (ha : ∀ v, assign (.Subscript o i pos') X.env v = (do
      let ov ← holding [v] (eval o X.env)
      let iv ← holding [v, ov] (eval i X.env)
      standAt pos'
      holding [v, ov, iv] (setItem ov iv v)
      release [v, ov, iv] []) := by intro _; rfl)
    (hs1 : swapsWithSole [.Subscript o i pos'] e pos.line X.env = pure false := by rfl) (hw : swappedStores [.Subscript o i pos'] e X.env = pure none := by rfl) (hs : swapsWith e (some (.Subscript o i pos')) pos.line X.env = pure false := by rfl) :
    PS X (.Assign [.Subscript o i pos'] e pos) (TSo X.K W (sSub m mo mi)) := s_sub gd he ho hi (pg_sub ho hi set_list ha) hs1 hw hs
theorem own_pass {CX : CXT} {P : Program} {w : World} {K : PySem.W.Frag} {mg : Str → Option Value} {base : Heap} {N : List Str} {qual : Str} {scope : Scope} {f : Addr} {cd : Value} {A : Around} {outer : List Env} {s : Shared} {H : Hp} {E : XK} :
    PassesOwn (model P w) (cxOf CX P w K mg base N qual scope f cd A outer s H E).A (cxOf CX P w K mg base N qual scope f cd A outer s H E).env (cxOf CX P w K mg base N qual scope f cd A outer s H E).xe :=
  passes_of (X := cxOf CX P w K mg base N qual scope f cd A outer s H E) (K := fun e s'' => CX outer H s E e s'') (E₁ := fun e' s'' => CX outer H s E e' s'') rfl
end Fw
namespace Fw
open PySem PySem.Spec PyProof.Rows L2
theorem bt_dict : bootBuiltins "dict" = some (.type "dict") := by decide +kernel
end Fw
namespace Fw
open PySem PySem.Spec PyProof.Rows L2
def lexLe : List Int → List Int → Bool
  | [], _ => true
  | _ :: _, [] => false
  | a :: r, b :: q => if a < b then true else if a = b then lexLe r q else false
def insR (a : List Int) : List (List Int) → List (List Int)
  | [] => [a]
  | b :: r => if lexLe a b then a :: b :: r else b :: insR a r
def sortR : List (List Int) → List (List Int)
  | [] => []
  | a :: r => insR a (sortR r)
theorem insR_perm (a : List Int) : ∀ l : List (List Int), (insR a l).Perm (a :: l)
  | [] => .refl _
  | b :: r => by
    unfold insR
    split
    · exact .refl _
    · exact ((insR_perm a r).cons b).trans (.swap a b r)
theorem sortR_perm : ∀ l : List (List Int), (sortR l).Perm l
  | [] => .refl _
  | a :: r => (insR_perm a (sortR r)).trans ((sortR_perm r).cons a)
abbrev TB : Int := 1000000
structure RowOk (d : Nat) (r : List Int) : Prop where
  len : r.length = d
  bd : TS.Bd TB r
theorem code_le : ∀ {a b : List Int}, a.length = b.length → TS.Bd TB a → TS.Bd TB b → (lexLe a b = true ↔ TS.code TB a ≤ TS.code TB b)
  | [], [], _, _, _ => ⟨fun _ => Int.le_refl _, fun _ => rfl⟩
  | x :: a, y :: b, hl, ha, hb => by
    have hl' : a.length = b.length := Nat.succ.inj hl
    have ih := code_le hl' ha.tail hb.tail
    unfold lexLe
    by_cases h1 : x < y
    · rw [if_pos h1]
      exact ⟨fun _ => Int.le_of_lt (TS.code_lt hl' ha.tail hb.tail h1), fun _ => rfl⟩
    · rw [if_neg h1]
      by_cases h2 : x = y
      · subst h2
        rw [if_pos rfl, ih]
        have z := TS.code_same (B := TB) (d := x) (r := b) (q := a) hl'.symm
        omega
      · rw [if_neg h2]
        have z := TS.code_lt (d := y) (e := x) hl'.symm hb.tail ha.tail (by omega)
        exact ⟨(fun w => nomatch w), fun w => by omega⟩
theorem code_inj {d : Nat} {a b : List Int} (ha : RowOk d a) (hb : RowOk d b) (h : TS.code TB a = TS.code TB b) : a = b := by
  have key : ∀ {a b : List Int}, a.length = b.length → TS.Bd TB a → TS.Bd TB b → TS.code TB a = TS.code TB b → a = b := by
    intro a
    induction a with
    | nil => intro b hl _ _ _; exact (List.eq_nil_of_length_eq_zero hl.symm).symm
    | cons x r ih =>
      intro b hl h1 h2 he
      cases b with
      | nil => cases hl
      | cons y q =>
        have hl' : r.length = q.length := Nat.succ.inj hl
        rcases Int.lt_trichotomy x y with z | z | z
        · have := TS.code_lt hl' h1.tail h2.tail z; omega
        · subst z
          have s1 := TS.code_same (B := TB) (d := x) (r := r) (q := q) hl'
          have s2 := TS.code_same (B := TB) (d := x) (r := q) (q := r) hl'.symm
          rw [ih hl' h1.tail h2.tail (by omega)]
        · have := TS.code_lt hl'.symm h2.tail h1.tail z; omega
  exact key (ha.len.trans hb.len.symm) ha.bd hb.bd h
theorem insR_sorted {d : Nat} {a : List Int} (ha : RowOk d a) : ∀ {l : List (List Int)}, (∀ r ∈ l, RowOk d r) → l.Pairwise (fun x y => TS.code TB x ≤ TS.code TB y) → (insR a l).Pairwise fun x y => TS.code TB x ≤ TS.code TB y
  | [], _, _ => by simp [insR]
  | b :: r, hl, h => by
    have hb := hl b List.mem_cons_self
    have cl := code_le (ha.len.trans hb.len.symm) ha.bd hb.bd
    obtain ⟨h1, h2⟩ := List.pairwise_cons.mp h
    unfold insR
    split
    · rename_i z
      refine List.pairwise_cons.mpr ⟨fun c hc => ?_, h⟩
      rcases List.mem_cons.mp hc with rfl | hc
      · exact cl.mp z
      · exact Int.le_trans (cl.mp z) (h1 c hc)
    · rename_i z
      have lt : TS.code TB b ≤ TS.code TB a := by
        have : ¬ TS.code TB a ≤ TS.code TB b := fun w => z (cl.mpr w)
        omega
      refine List.pairwise_cons.mpr ⟨fun c hc => ?_, insR_sorted ha (fun r hr => hl r (List.mem_cons_of_mem _ hr)) h2⟩
      rcases List.mem_cons.mp ((insR_perm a r).mem_iff.mp hc) with rfl | hc
      · exact lt
      · exact h1 c hc
theorem sortR_sorted {d : Nat} : ∀ {l : List (List Int)}, (∀ r ∈ l, RowOk d r) → (sortR l).Pairwise fun x y => TS.code TB x ≤ TS.code TB y
  | [], _ => .nil
  | a :: r, h => insR_sorted (h a List.mem_cons_self) (fun q hq => h q (List.mem_cons_of_mem _ ((sortR_perm r).mem_iff.mp hq))) (sortR_sorted fun q hq => h q (List.mem_cons_of_mem _ hq))
theorem map_inj {d : Nat} : ∀ {a b : List (List Int)}, (∀ r ∈ a, RowOk d r) → (∀ r ∈ b, RowOk d r) → a.map (TS.code TB) = b.map (TS.code TB) → a = b
  | [], [], _, _, _ => rfl
  | x :: a, y :: b, ha, hb, h => by
    rw [List.map_cons, List.map_cons] at h
    obtain ⟨h1, h2⟩ := List.cons.inj h
    rw [code_inj (ha x List.mem_cons_self) (hb y List.mem_cons_self) h1, map_inj (fun r hr => ha r (List.mem_cons_of_mem _ hr)) (fun r hr => hb r (List.mem_cons_of_mem _ hr)) h2]
  | [], _ :: _, _, _, h => by cases h
  | _ :: _, [], _, _, h => by cases h
theorem sortR_uniq {d : Nat} {l m : List (List Int)} (hl : ∀ r ∈ l, RowOk d r) (p : m.Perm l) (h : m.Pairwise fun x y => TS.code TB x ≤ TS.code TB y) : m = sortR l := by
  have hm : ∀ r ∈ m, RowOk d r := fun r hr => hl r (p.mem_iff.mp hr)
  have hs : ∀ r ∈ sortR l, RowOk d r := fun r hr => hl r ((sortR_perm l).mem_iff.mp hr)
  refine map_inj hm hs (sorted_uniq ((p.trans (sortR_perm l).symm).map _) ?_ ?_)
  · rw [List.pairwise_map]; exact h
  · rw [List.pairwise_map]; exact sortR_sorted hl
def rowsOf : List PyData → Option (List (List Int))
  | [] => some []
  | .tuple xs :: r => match intsOf xs, rowsOf r with
    | some ns, some rs => some (ns :: rs)
    | _, _ => none
  | _ :: _ => none
def rowB (d : Nat) (r : List Int) : Bool := decide (r.length = d) && r.all fun m => decide (0 ≤ m ∧ m < TB)
theorem rowB_ok {d : Nat} {r : List Int} (h : rowB d r = true) : RowOk d r := by
  unfold rowB at h
  rw [Bool.and_eq_true] at h
  exact ⟨of_decide_eq_true h.1, fun m hm => of_decide_eq_true (List.all_eq_true.mp h.2 m hm)⟩
def gSortT (d : Nat) : GA := fun ds st => match ds with
  | [x] => match viewL st x with
    | some zs => match rowsOf zs with
      | some rs => if zs.length < 64 ∧ (rs.all (rowB d)) = true then .ok ((sortR rs).map fun r => .tuple (r.map .int)) st else .stuck
      | none => .stuck
    | none => .stuck
  | _ => .stuck
theorem intsOf_eq : ∀ {zs : List PyData} {ns : List Int}, intsOf zs = some ns → zs = ns.map .int
  | [], _, e => by cases e; rfl
  | .int i :: r, ns, e => by
    obtain ⟨ms, h1, rfl⟩ := Option.map_eq_some_iff.mp (show (intsOf r).map (i :: ·) = some ns from e)
    rw [List.map_cons, ← intsOf_eq h1]
theorem rowsOf_eq : ∀ {zs : List PyData} {rs : List (List Int)}, rowsOf zs = some rs → zs = rs.map fun r => .tuple (r.map .int)
  | [], _, e => by cases e; rfl
  | .tuple xs :: r, rs, e => by
    unfold rowsOf at e
    split at e
    · rename_i ns qs e1 e2
      cases e
      rw [List.map_cons, ← rowsOf_eq e2, intsOf_eq e1]
    · cases e
theorem RpA.perm {F : Addr → Prop} {H : Hp} {ys xs : List L2.V} (p : ys.Perm xs) : ∀ {zs : List PyData}, RpA F H xs zs → ∃ zs', RpA F H ys zs' ∧ zs'.Perm zs := by
  induction p with
  | nil => intro zs r; exact ⟨zs, r, .refl _⟩
  | cons x _ ih =>
    intro zs r
    cases r with
    | cons h t =>
      obtain ⟨qs, r2, p2⟩ := ih t
      exact ⟨_ :: qs, .cons h r2, p2.cons _⟩
  | swap x y l =>
    intro zs r
    cases r with
    | cons h t =>
      cases t with
      | cons h2 t2 => exact ⟨_, .cons h2 (.cons h t2), .swap _ _ _⟩
  | trans _ _ h1 h2 =>
    intro zs r
    obtain ⟨q1, r1, p1⟩ := h2 r
    obtain ⟨q2, r2, p2⟩ := h1 r1
    exact ⟨q2, r2, p2.trans p1⟩
theorem perm_unmap {α β : Type} {f : α → β} {ys zs : List β} (p : ys.Perm zs) : ∀ {l : List α}, zs = l.map f → ∃ l' : List α, ys = l'.map f ∧ l'.Perm l := by
  induction p with
  | nil =>
    intro l e
    refine ⟨[], rfl, ?_⟩
    rw [List.map_eq_nil_iff.mp e.symm]
  | cons x _ ih =>
    intro l e
    obtain ⟨a, r, rfl, e1, e2⟩ := List.map_eq_cons_iff.mp e.symm
    obtain ⟨l', h1, h2⟩ := ih e2.symm
    exact ⟨a :: l', by rw [List.map_cons, ← h1, e1], h2.cons a⟩
  | swap x y t =>
    intro l e
    obtain ⟨a, r, rfl, e1, e2⟩ := List.map_eq_cons_iff.mp e.symm
    obtain ⟨b, u, rfl, e3, e4⟩ := List.map_eq_cons_iff.mp e2
    exact ⟨b :: a :: u, by rw [List.map_cons, List.map_cons, e1, e3, e4], .swap a b u⟩
  | trans _ _ h1 h2 =>
    intro l e
    obtain ⟨l1, e1, p1⟩ := h2 e
    obtain ⟨l2, e2, p2⟩ := h1 e1
    exact ⟨l2, e2, p2.trans p1⟩
theorem row_at {F : Addr → Prop} {H : Hp} {K : PySem.W.Frag} {x : L2.V} {r : List Int} (h : Rp F H x (.tuple (r.map .int))) : TupI K H x r := by
  cases h with
  | tup h hd _ t =>
    have e := intsOf_at (ns := r) (ds := r.map .int) (by
      have key : ∀ l : List Int, intsOf (l.map .int) = some l := fun l => by
        induction l with
        | nil => rfl
        | cons i q ih =>
          show (intsOf (q.map .int)).map (i :: ·) = _
          rw [ih]
          rfl
      exact key r) t
    subst e
    exact ⟨_, rfl, KTup.sq ⟨_, h, hd⟩⟩
theorem rows_sorted {F : Addr → Prop} {H : Hp} {K : PySem.W.Frag} : ∀ {ys : List L2.V} {rs : List (List Int)}, RpA F H ys (rs.map fun r => .tuple (r.map .int)) → ys.Pairwise (fun x y => ∀ n m, TupI K H x n → TupI K H y m → TS.code TB n ≤ TS.code TB m) →
    rs.Pairwise fun x y => TS.code TB x ≤ TS.code TB y
  | _, [], _, _ => .nil
  | _, r :: rs, .cons h t, p => by
    obtain ⟨p1, p2⟩ := List.pairwise_cons.mp p
    refine List.pairwise_cons.mpr ⟨fun q hq => ?_, rows_sorted t p2⟩
    obtain ⟨i, hi, e⟩ := List.getElem_of_mem hq
    obtain ⟨y, h1, h2⟩ := RpA.get t (i := i) (d := .tuple (q.map .int)) (by rw [List.getElem?_map, List.getElem?_eq_getElem hi, e]; rfl)
    exact p1 y (List.mem_of_getElem? h1) r q (row_at h) (row_at h2)
theorem opF_sortT {K : PySem.W.Frag} {W : XW} {d : Nat} : OpFA K W (rSortU K d TB) (gSortT d) := by
  intro ι st H xs ds Q R r p
  unfold gSortT at p
  split at p
  · obtain ⟨x, rfl, r1⟩ := r.one
    split at p
    · rename_i zs e
      split at p
      · rename_i rs er
        split at p
        · rename_i hc
          obtain ⟨q, us, rfl, h1, h2⟩ := viewL_at R e r1
          have ez := rowsOf_eq er
          subst ez
          have hrs : ∀ r ∈ rs, RowOk d r := fun r hr => rowB_ok (List.all_eq_true.mp hc.2 r hr)
          refine ⟨q, us, rfl, .of h1, by rw [h2.length]; exact hc.1, fun x hx => ?_, fun ys a hp hs ha hf => ?_⟩
          · obtain ⟨i, hi, e2⟩ := List.getElem_of_mem hx
            have hi2 : i < rs.length := by
              have := h2.length
              rw [List.length_map] at this
              omega
            obtain ⟨y, h3, h4⟩ := RpA.get h2 (i := i) (d := .tuple ((rs[i]).map .int)) (by rw [List.getElem?_map, List.getElem?_eq_getElem hi2]; rfl)
            rw [List.getElem?_eq_getElem hi, e2] at h3
            cases h3
            have ok := hrs _ (List.getElem_mem hi2)
            exact ⟨_, row_at h4, ok.len, ok.bd⟩
          · obtain ⟨zs', r3, p3⟩ := RpA.perm hp h2
            obtain ⟨rs', rfl, p4⟩ := perm_unmap p3 rfl
            have e3 := sortR_uniq hrs p4 (rows_sorted r3 hs)
            subst e3
            exact p.new R r3 a ha hf
        · exact p.elim
      · exact p.elim
    · exact p.elim
  · exact p.elim
def gSort : GA := fun ds st => match ds with
  | [x] => match viewL st x with
    | some zs => match intsOf zs with
      | some ns => .ok ((sortI ns).map .int) st
      | none => match rowsOf zs with
        | some rs => if zs.length < 64 ∧ 1 ≤ (rs.headD []).length ∧ (rs.all (rowB (rs.headD []).length)) = true then .ok ((sortR rs).map fun r => .tuple (r.map .int)) st else .stuck
        | none => .stuck
    | none => .stuck
  | _ => .stuck
theorem cr_sortTs {X : Cx} : CallR X (.builtin "sorted") (fun xs H Q => ∃ d, 1 ≤ d ∧ rSortU X.K d TB xs H Q) := by
  rintro pins s σ H vs us Q I r ⟨d, hd, h⟩
  exact cr_sortT hd pins s σ H vs us Q I r h
theorem opF_sort {K : PySem.W.Frag} {W : XW} : OpFA K W (fun xs H Q => rSortedI K xs H Q ∨ ∃ d, 1 ≤ d ∧ rSortU K d TB xs H Q) gSort := by
  intro ι st H xs ds Q R r p
  unfold gSort at p
  split at p
  · rename_i x
    split at p
    · rename_i zs e
      split at p
      · rename_i ns e2
        refine .inl (opF_sortI (W := W) ι st H xs [x] Q R r ?_)
        show (match viewL st x with
          | some xs => _
          | none => _ : Out (List PyData)).post _ _
        rw [e]
        show (match intsOf zs with
          | some ns => _
          | none => _ : Out (List PyData)).post _ _
        rw [e2]
        exact p
      · split at p
        · rename_i rs er
          split at p
          · rename_i hc
            refine .inr ⟨(rs.headD []).length, hc.2.1, opF_sortT (W := W) ι st H xs [x] Q R r ?_⟩
            show (match viewL st x with
              | some zs => _
              | none => _ : Out (List PyData)).post _ _
            rw [e]
            show (match rowsOf zs with
              | some rs => _
              | none => _ : Out (List PyData)).post _ _
            rw [er]
            show (if _ then _ else _ : Out (List PyData)).post _ _
            rw [if_pos ⟨hc.1, hc.2.2⟩]
            exact p
          · exact p.elim
        · exact p.elim
    · exact p.elim
  · exact p.elim
theorem xf_sort {X : Cx} {W : XW} {e : Expr} {es : List Expr} {m : MA} {p pos : Pos} {x : Str} (hg : Gl X x) (hm : X.mg x = none) (hv : bootBuiltins x = some (.builtin "sorted")) (ha : PA X (e :: es) (TAo X.K W m)) (hn : x ≠ "__name__" := by decide) (hdb : (x == ("__debug__" : Str)) = false := by decide)
    (he : starEach (e :: es) X.env = (false, eval e X.env) :: starEach es X.env := by rfl) (hpl : (backTo pos (starEach es X.env)).any (·.1) = false := by rfl) :
    PE X (.Call (.Name x p) (e :: es) [] pos) (TFo X.K W (mfArg gSort m)) := pf_wrap (pe_callB (cr_sortedI.or cr_sortTs) hg hm hv ha hn hdb he hpl) fun σ H Q q => tf_arg opF_sort q
end Fw
namespace Fw
open PySem PySem.Spec PyProof.Rows L2
mutual
/-- no list within, dicts with keys of whole numbers and texts alone -/
def noL : PyData → Bool
  | .none | .bool _ | .int _ | .str _ => true
  | .list _ => false
  | .tuple xs => noLA xs
  | .dict kvs => noLK kvs
def noLA : List PyData → Bool
  | [] => true
  | x :: r => noL x && noLA r
def noLK : List (PyData × PyData) → Bool
  | [] => true
  | (k, v) :: r => (key1 k).isSome && noL v && noLK r
end
section
variable {X : Cx} {pins : List (Addr × Obj)} {σ : L2.St} {H : Hp} {s : Shared} {F : Addr → Prop}
theorem key_reads {h : Heap} {k : Key} {v : Value} (e : keyIs k v = true) : Reads h v (kD k) [] := by
  rcases keyIs_shape e with ⟨i, t, rfl, rfl⟩ | ⟨x, t, rfl, rfl⟩
  · exact .int i t
  · exact .str x t
mutual
theorem rp_reads (I : Inv X pins σ H s) : ∀ (d : PyData) (v : L2.V) (u : Value), Rp F H v d → noL d = true → RelV v u → ∃ as, Reads s.heap u d as ∧ sysModules ∉ as
  | .none, _, _, h, _, r => by
    cases h
    cases r
    exact ⟨_, .none, by simp⟩
  | .bool b, _, _, h, _, r => by
    cases h
    cases r
    exact ⟨_, .bool b, by simp⟩
  | .int i, _, _, h, _, r => by
    cases h
    obtain ⟨t, rfl⟩ := r
    exact ⟨_, .int i t, by simp⟩
  | .str x, _, _, h, _, r => by
    cases h
    obtain ⟨t, rfl⟩ := r
    exact ⟨_, .str x t, by simp⟩
  | .list _, _, _, _, n, _ => by
    rw [noL] at n
    cases n
  | .tuple ds, _, _, h, n, r => by
    cases h with
    | tup e z f t =>
      cases r
      rw [noL] at n
      obtain ⟨its, rv, ⟨o, ho, hc, k, hd⟩, _⟩ := I.tuple (KTup.sq ⟨_, e, z⟩)
      obtain ⟨as, hr, hn⟩ := rp_readsA I ds _ its t n rv
      exact ⟨as, .tuple ho hc hd hr, hn⟩
  | .dict kvs, _, _, h, n, r => by
    rw [noL] at n
    cases h with
    | dcK e f t =>
      cases r
      obtain ⟨_, hne, vs, kv, o, es, ep, ho, ⟨hc, _, _⟩, hd, _, hp, _⟩ := dk_rd I.hok e
      obtain ⟨as, bs, h1, h2, n1, n2⟩ := rp_readsK I kvs _ vs es.toList t n kv hp
      refine ⟨_, .dict ho hc hd h1 h2, ?_⟩
      simp only [List.mem_cons, List.mem_append, not_or]
      exact ⟨⟨fun z => by rw [z] at hne; simp at hne, n1⟩, n2⟩
    | dcT e f t z =>
      cases t with
      | nil => exact absurd rfl z
      | cons _ _ => rw [noLK] at n; simp [key1] at n
theorem rp_readsA (I : Inv X pins σ H s) : ∀ (ds : List PyData) (vs : List L2.V) (us : List Value), RpA F H vs ds → noLA ds = true → Vals vs us → ∃ as, ReadsAll s.heap us ds as ∧ sysModules ∉ as
  | [], _, _, h, _, r => by
    cases h
    cases r
    exact ⟨_, .nil, by simp⟩
  | d :: ds, _, _, h, n, r => by
    rw [noLA, Bool.and_eq_true] at n
    cases h with
    | cons h1 h2 =>
      cases r with
      | cons r1 r2 =>
        obtain ⟨as, q1, n1⟩ := rp_reads I d _ _ h1 n.1 r1
        obtain ⟨bs, q2, n2⟩ := rp_readsA I ds _ _ h2 n.2 r2
        exact ⟨_, .cons q1 q2, by simp only [List.mem_append, not_or]; exact ⟨n1, n2⟩⟩
theorem rp_readsK (I : Inv X pins σ H s) : ∀ (kvs : List (PyData × PyData)) (xs : List (Key × L2.V)) (vs : List (Key × Value)) (es : List DictEntry), RpK F H xs kvs → noLK kvs = true → KV xs vs → Pairs (mixKind X.prog X.w) es vs →
    ∃ as bs, ReadsAll s.heap (es.map (·.key)) (kvs.map (·.1)) as ∧ ReadsAll s.heap (es.map (·.val)) (kvs.map (·.2)) bs ∧ sysModules ∉ as ∧ sysModules ∉ bs
  | [], xs, vs, es, h, _, k, q => by
    cases h
    cases k
    cases q
    exact ⟨_, _, .nil, .nil, by simp, by simp⟩
  | (kk, d) :: kvs, xs, vs, es, h, n, k, q => by
    rw [noLK, Bool.and_eq_true, Bool.and_eq_true] at n
    cases h with
    | cons h1 h2 =>
      cases k with
      | cons k1 k2 =>
        cases q with
        | cons q1 q2 q3 =>
          obtain ⟨e1, e2⟩ := k1
          obtain ⟨as, r1, n1⟩ := rp_reads I d _ _ h1 n.1.2 e2
          obtain ⟨bs, cs, r2, r3, n2, n3⟩ := rp_readsK I kvs _ _ _ h2 n.2 k2 q3
          refine ⟨[] ++ bs, as ++ cs, .cons ?_ r2, .cons ?_ r3, by simpa using n2, by simp only [List.mem_append, not_or]; exact ⟨n1, n3⟩⟩
          · have e1 : _ = _ := e1
            rw [show kD _ = kD _ from congrArg kD e1]
            exact key_reads q1
          · show Reads s.heap (DictEntry.val _) d as
            rw [q2]
            exact r1
end
end
def rReprK (F : Addr → Prop) : List L2.V → Hp → VK → Prop := fun xs H Q => ∃ x z, xs = [x] ∧ Rp F H x z ∧ noL z = true ∧ z.showable = true ∧ z.depth ≤ 60 ∧ z.shown.length ≤ sizeLine ∧ Q (.str z.shown) H
theorem call_reprK {X : Cx} (g : Gd X) : CallR X (.builtin "repr") (fun xs H Q => ∃ F, rReprK F xs H Q) := by
  rintro pins s σ H xs us Q I r ⟨F, x, z, rfl, hd, hl, h1, h3, h4, q⟩
  obtain ⟨u, rfl, ru⟩ := vals1 r
  obtain ⟨as, rd, hn⟩ := rp_reads I z x u hd hl ru
  cases rd with
  | none => exact PySem.P.repr_of_none ⟨.str _, H, I.tok _, ⟨_, rfl⟩, by simpa only [PyData.shown] using q⟩
  | bool b => exact PySem.P.repr_of_bool ⟨.str _, H, I.tok _, ⟨_, rfl⟩, by simpa only [PyData.shown] using q⟩
  | int i t => exact PySem.P.repr_of_int (by simpa [PyData.showable] using h1) ⟨.str _, H, I.tok _, ⟨_, rfl⟩, by simpa only [PyData.shown] using q⟩
  | str y t => exact PySem.P.repr_of_str ⟨.str _, H, I.tok _, ⟨_, rfl⟩, by simpa only [PyData.shown] using q⟩ (by simpa only [PyData.shown] using h4)
  | list e1 e2 e3 e4 => exact repr_of_reads' (Reads.list e1 e2 e3 e4) h1 (fun _ => hn) g.gu (by have := g.un; omega) (fun _ _ e => e) (fun h' u tk hk => ⟨.str _, H, I.kept hk, ⟨_, rfl⟩, q⟩) h4
  | tuple e1 e2 e3 e4 => exact repr_of_reads' (Reads.tuple e1 e2 e3 e4) h1 (fun _ => hn) g.gu (by have := g.un; omega) (fun _ _ e => e) (fun h' u tk hk => ⟨.str _, H, I.kept hk, ⟨_, rfl⟩, q⟩) h4
  | dict e1 e2 e3 e4 e5 => exact repr_of_reads' (Reads.dict e1 e2 e3 e4 e5) h1 (fun _ => hn) g.gu (by have := g.un; omega) (fun _ _ e => e) (fun h' u tk hk => ⟨.str _, H, I.kept hk, ⟨_, rfl⟩, q⟩) h4
def fReprK : FA := fun ds st => match ds with
  | [.v z] => if noL z && z.showable && decide (z.depth ≤ 60) && decide (z.shown.length ≤ lim) then .ok (.v (.str z.shown)) st else fRepr ds st
  | ds => fRepr ds st
theorem opA_reprK {K : PySem.W.Frag} {W : XW} : OpA K W (fun xs H Q => rRepr K xs H Q ∨ ∃ F, rReprK F xs H Q) fReprK := by
  intro ι st H xs ds Q R r p
  unfold fReprK at p
  split at p
  · rename_i z
    split at p
    · rename_i h
      simp only [Bool.and_eq_true, decide_eq_true_eq] at h
      obtain ⟨x, rfl, r1⟩ := r.one
      exact .inr ⟨Frz ι st, x, z, rfl, r1, h.1.1.1, h.1.1.2, h.1.2, lim_ok h.2, fun _ => p.same R (.str _)⟩
    · exact .inl (opA_repr (W := W) ι st H xs _ Q R r p)
  · exact .inl (opA_repr (W := W) ι st H xs _ Q R r p)
end Fw
namespace Fw
open PySem PySem.Spec PyProof.Rows L2
def Out.Ok {α : Type} (x : Out α) (P : α → Sto → Prop) : Prop := match x with
  | .ok a s => P a s
  | _ => False
theorem Out.Ok.eq {α : Type} {x : Out α} {P : α → Sto → Prop} (h : x.Ok P) : ∃ a s, x = .ok a s ∧ P a s := by
  cases x with
  | ok a s => exact ⟨a, s, rfl, h⟩
  | _ => exact h.elim
theorem Out.Ok.mono {α : Type} {x : Out α} {P Q : α → Sto → Prop} (h : x.Ok P) (i : ∀ a s, P a s → Q a s) : x.Ok Q := by
  cases x with
  | ok a s => exact i a s h
  | _ => exact h
section
variable {α β : Type} {st : Sto} {env : Ev}
@[simp] theorem bOf_bool {b : Bool} : bOf (.v (.bool b)) = some b := rfl
@[simp] theorem low_v {n : Nat} {d : PyData} : (D.v d).low n = true := rfl
@[simp] theorem ok_ok {a : α} {P : α → Sto → Prop} : (Out.ok a st).Ok P ↔ P a st := Iff.rfl
@[simp] theorem ok_stuck {P : α → Sto → Prop} : (Out.stuck : Out α).Ok P ↔ False := Iff.rfl
theorem ok_bind {x : Out α} {f : α → Sto → Out β} {P : β → Sto → Prop} : (x.bind f).Ok P ↔ x.Ok fun a s => (f a s).Ok P := by cases x <;> exact Iff.rfl
@[simp] theorem ok_noX {x : Out α} {P : α → Sto → Prop} : x.noX.Ok P ↔ x.Ok P := by cases x <;> exact Iff.rfl
@[simp] theorem ok_var {i : Nat} {P : D → Sto → Prop} : (mVar i env st).Ok P ↔ ∃ d, env[i]? = some (some d) ∧ P d st := by
  unfold mVar
  constructor
  · intro h
    split at h
    · rename_i d e
      exact ⟨d, e, h⟩
    · exact h.elim
  · rintro ⟨d, e, h⟩
    rw [e]
    exact h
@[simp] theorem ok_C {d : PyData} {P : D → Sto → Prop} : (mC d env st).Ok P ↔ P (.v d) st := Iff.rfl
@[simp] theorem ok_un {f : F1} {a : ME} {P : D → Sto → Prop} : (mUn f a env st).Ok P ↔ (a env st).Ok fun x s => (f x s).Ok P := ok_bind
@[simp] theorem ok_bin {f : F2} {a b : ME} {P : D → Sto → Prop} : (mBin f a b env st).Ok P ↔ (a env st).Ok fun x s => (b env s).Ok fun y s2 => (f x y s2).Ok P := by
  unfold mBin
  simp only [ok_bind]
@[simp] theorem ok_arg {f : FA} {m : MA} {P : D → Sto → Prop} : (mArg f m env st).Ok P ↔ (m env st).Ok fun ds s => (f ds s).Ok P := ok_bind
@[simp] theorem ok_nil {P : List D → Sto → Prop} : (mNil env st).Ok P ↔ P [] st := Iff.rfl
@[simp] theorem ok_cons {a : ME} {m : MA} {P : List D → Sto → Prop} : (mCons a m env st).Ok P ↔ (a env st).Ok fun x s => (m env s).Ok fun ds s2 => P (x :: ds) s2 := by
  unfold mCons
  simp only [ok_bind, ok_ok]
@[simp] theorem ok_call {f : FF} {m : MA} {xs : List D} {P : D → Sto → Prop} : (mCall f m xs env st).Ok P ↔ (m env st).Ok fun ds s => (f (ds ++ xs) s).Ok P := ok_bind
@[simp] theorem ok_TB {m : ME} {P : Bool → Sto → Prop} : (mTB m env st).Ok P ↔ (m env st).Ok fun d s => ∃ k, bOf d = some k ∧ P k s := by
  unfold mTB
  rw [ok_bind]
  constructor
  · intro h
    refine h.mono fun d s q => ?_
    split at q
    · rename_i k e
      exact ⟨k, e, q⟩
    · exact q.elim
  · intro h
    refine h.mono fun d s ⟨k, e, q⟩ => ?_
    rw [e]
    exact q
@[simp] theorem ok_Tru {m : ME} {P : Bool → Sto → Prop} : (mTru' m env st).Ok P ↔ (m env st).Ok fun d s => ∃ k, truS' s d = some k ∧ P k s := by
  unfold mTru'
  rw [ok_bind]
  constructor
  · intro h
    refine h.mono fun d s q => ?_
    split at q
    · rename_i k e
      exact ⟨k, e, q⟩
    · exact q.elim
  · intro h
    refine h.mono fun d s ⟨k, e, q⟩ => ?_
    rw [e]
    exact q
@[simp] theorem ok_notT {t : MT} {P : Bool → Sto → Prop} : (mNotT t env st).Ok P ↔ (t env st).Ok fun k s => P (!k) s := by
  unfold mNotT
  simp only [ok_bind, ok_ok]
theorem ok_ite {c : Bool} {x y : Out α} {P : α → Sto → Prop} : (if c = true then x else y).Ok P ↔ (c = true → x.Ok P) ∧ (c = false → y.Ok P) := by
  cases c <;> simp
@[simp] theorem ok_andT {t u : MT} {P : Bool → Sto → Prop} : (mAndT t u env st).Ok P ↔ (t env st).Ok fun k s => (k = true → (u env s).Ok P) ∧ (k = false → P false s) := by
  unfold mAndT
  simp only [ok_bind, ok_ite, ok_ok]
@[simp] theorem ok_orT {t u : MT} {P : Bool → Sto → Prop} : (mOrT t u env st).Ok P ↔ (t env st).Ok fun k s => (k = true → P true s) ∧ (k = false → (u env s).Ok P) := by
  unfold mOrT
  simp only [ok_bind, ok_ite, ok_ok]
@[simp] theorem ok_andV {a b : ME} {P : D → Sto → Prop} : (mAndV a b env st).Ok P ↔ (a env st).Ok fun d s => ∃ k, truS' s d = some k ∧ (k = true → (b env s).Ok P) ∧ (k = false → P d s) := by
  unfold mAndV
  rw [ok_bind]
  constructor
  · intro h
    refine h.mono fun d s q => ?_
    cases e : truS' s d with
    | none => rw [e] at q; exact q.elim
    | some k =>
      rw [e] at q
      cases k with
      | true => exact ⟨true, rfl, fun _ => q, fun z => nomatch z⟩
      | false => exact ⟨false, rfl, (fun z => nomatch z), fun _ => q⟩
  · intro h
    refine h.mono fun d s ⟨k, e, q1, q2⟩ => ?_
    rw [e]
    cases k with
    | true => exact q1 rfl
    | false => exact q2 rfl
@[simp] theorem ok_orV {a b : ME} {P : D → Sto → Prop} : (mOrV a b env st).Ok P ↔ (a env st).Ok fun d s => ∃ k, truS' s d = some k ∧ (k = true → P d s) ∧ (k = false → (b env s).Ok P) := by
  unfold mOrV
  rw [ok_bind]
  constructor
  · intro h
    refine h.mono fun d s q => ?_
    cases e : truS' s d with
    | none => rw [e] at q; exact q.elim
    | some k =>
      rw [e] at q
      cases k with
      | true => exact ⟨true, rfl, fun _ => q, fun z => nomatch z⟩
      | false => exact ⟨false, rfl, (fun z => nomatch z), fun _ => q⟩
  · intro h
    refine h.mono fun d s ⟨k, e, q1, q2⟩ => ?_
    rw [e]
    cases k with
    | true => exact q1 rfl
    | false => exact q2 rfl
@[simp] theorem ok_notV {a : ME} {P : D → Sto → Prop} : (mNotV a env st).Ok P ↔ (a env st).Ok fun d s => ∃ k, truS' s d = some k ∧ P (.v (.bool (!k))) s := by
  unfold mNotV
  rw [ok_bind]
  constructor
  · intro h
    refine h.mono fun d s q => ?_
    split at q
    · rename_i k e
      exact ⟨k, e, q⟩
    · exact q.elim
  · intro h
    refine h.mono fun d s ⟨k, e, q⟩ => ?_
    rw [e]
    exact q
@[simp] theorem ok_iteE {t : MT} {a b : ME} {P : D → Sto → Prop} : (mIte t a b env st).Ok P ↔ (t env st).Ok fun k s => (k = true → (a env s).Ok P) ∧ (k = false → (b env s).Ok P) := by
  unfold mIte
  simp only [ok_bind, ok_ite]
@[simp] theorem ok_frz {m : MF} {P : D → Sto → Prop} : (mFrz m env st).Ok P ↔ (m env st).Ok fun zs s => P (.v (.list zs)) s := by
  unfold mFrz
  simp only [ok_bind, ok_ok]
@[simp] theorem ok_new {m : MF} {P : D → Sto → Prop} : (mNew m env st).Ok P ↔ (m env st).Ok fun zs s => P (.ref s.length) (s ++ [.lst zs]) := by
  unfold mNew
  simp only [ok_bind, ok_ok]
@[simp] theorem ok_mfArg {f : GA} {m : MA} {P : List PyData → Sto → Prop} : (mfArg f m env st).Ok P ↔ (m env st).Ok fun ds s => (f ds s).Ok P := ok_bind
@[simp] theorem ok_mfBin {f : D → D → Sto → Out (List PyData)} {a b : ME} {P : List PyData → Sto → Prop} : (mfBin f a b env st).Ok P ↔ (a env st).Ok fun x s => (b env s).Ok fun y s2 => (f x y s2).Ok P := by
  unfold mfBin
  simp only [ok_bind]
@[simp] theorem ok_lc {mi : MI} {g : MG} {t : MT} {m : ME} {own : List Nat} {P : List PyData → Sto → Prop} : (mLc mi g t m own env st).Ok P ↔ (mi env st).Ok fun r s => (lcL r.2 g t m (wipeE env own) r.1 s).Ok P := ok_bind
@[simp] theorem ok_M {f : FM} {o : ME} {m : MA} {P : D → Sto → Prop} : (mM f o m env st).Ok P ↔ (o env st).Ok fun x s => isL s x = true ∧ (m env s).Ok fun ds s2 => (f x ds s2).Ok P := by
  unfold mM
  rw [ok_bind]
  constructor
  · intro h
    refine h.mono fun d s q => ?_
    split at q
    · rename_i e
      exact ⟨e, ok_bind.mp q⟩
    · exact q.elim
  · intro h
    refine h.mono fun d s ⟨e, q⟩ => ?_
    rw [if_pos e]
    exact ok_bind.mpr q
@[simp] theorem ok_M0 {f : FM} {o : ME} {P : D → Sto → Prop} : (mM0 f o env st).Ok P ↔ (o env st).Ok fun x s => isL s x = true ∧ (f x [] s).Ok P := by
  unfold mM0
  rw [ok_bind]
  constructor
  · intro h
    refine h.mono fun d s q => ?_
    split at q
    · rename_i e
      exact ⟨e, q⟩
    · exact q.elim
  · intro h
    refine h.mono fun d s ⟨e, q⟩ => ?_
    rw [if_pos e]
    exact q
@[simp] theorem ok_moNone {P : Option Int → Sto → Prop} : (moNone env st).Ok P ↔ P none st := Iff.rfl
@[simp] theorem ok_moSome {m : ME} {P : Option Int → Sto → Prop} : (moSome m env st).Ok P ↔ (m env st).Ok fun d s => ∃ i, iOf d = some i ∧ P (some i) s := by
  unfold moSome
  rw [ok_bind]
  constructor
  · intro h
    refine h.mono fun d s q => ?_
    split at q
    · rename_i k e
      exact ⟨k, e, q⟩
    · exact q.elim
  · intro h
    refine h.mono fun d s ⟨k, e, q⟩ => ?_
    rw [e]
    exact q
@[simp] theorem ok_Sl {m : ME} {lo hi : MO} {P : D → Sto → Prop} : (mSl m lo hi env st).Ok P ↔ (m env st).Ok fun a s => (lo env s).Ok fun l s2 => (hi env s2).Ok fun h s3 => (slD a l h s3).Ok P := by
  unfold mSl
  simp only [ok_bind]
end
theorem lcL_inv {w : Wt} {g : MG} {t : MT} {m : ME} {env0 : Ev} {P : List PyData → Sto → Prop} (I : Nat → List PyData → Sto → Prop) : ∀ (ds : List Itm) (st : Sto) (n : Nat) (acc : List PyData),
    (∀ i d acc s, ds[i]? = some d → I (n + i) acc s → chk w s ∧ (g d env0 s).Ok fun e1 s1 => (t e1 s1).Ok fun k s2 => (k = true → (m e1 s2).Ok fun v s3 => ∃ z, v = .v z ∧ I (n + i + 1) (acc ++ [z]) s3) ∧ (k = false → I (n + i + 1) acc s2)) →
    (∀ acc s, I (n + ds.length) acc s → chk w s ∧ P acc s) → I n acc st → (lcL w g t m env0 ds st).Ok fun zs s => P (acc ++ zs) s
  | [], st, n, acc, _, hE, h => by
    obtain ⟨hc, q⟩ := hE acc st h
    unfold lcL
    rw [if_pos hc]
    show P (acc ++ []) st
    rw [List.append_nil]
    exact q
  | d :: r, st, n, acc, hS, hE, h => by
    obtain ⟨hc, q⟩ := hS 0 d acc st rfl h
    unfold lcL
    rw [if_pos hc]
    rw [ok_bind, ok_noX]
    refine q.mono fun e1 s1 q => ?_
    rw [ok_bind, ok_noX]
    refine q.mono fun k s2 q => ?_
    have rest : ∀ acc' s', I (n + 0 + 1) acc' s' → (lcL w g t m env0 r s').Ok fun zs s => P (acc' ++ zs) s := fun acc' s' h' =>
      lcL_inv I r s' (n + 1) acc' (fun i d acc s hd hi => by
        have z := hS (i + 1) d acc s hd (by rw [show n + (i + 1) = n + 1 + i by omega]; exact hi)
        rw [show n + (i + 1) = n + 1 + i by omega] at z
        exact z) (fun acc s hi => hE acc s (by rw [List.length_cons, show n + (r.length + 1) = n + 1 + r.length by omega]; exact hi)) h'
    cases k with
    | true =>
      rw [if_pos rfl, ok_bind, ok_noX]
      refine (q.1 rfl).mono fun v s3 ⟨z, e, hi⟩ => ?_
      subst e
      show (Out.bind _ _).Ok _
      rw [ok_bind]
      refine (rest _ _ hi).mono fun zs s q => ?_
      show P (acc ++ z :: zs) s
      rw [List.append_assoc] at q
      exact q
    | false =>
      rw [if_neg Bool.false_ne_true]
      exact rest _ _ (q.2 rfl)
theorem lcL_map {g : MG} {t : MT} {m : ME} {env0 : Ev} {st : Sto} (F : Itm → Option PyData) : ∀ (ds : List Itm),
    (∀ d ∈ ds, (g d env0 st).Ok fun e1 s1 => s1 = st ∧ (t e1 st).Ok fun k s2 => s2 = st ∧ (k = true → (m e1 st).Ok fun v s3 => s3 = st ∧ ∃ z, v = .v z ∧ F d = some z) ∧ (k = false → F d = none)) →
    lcL none g t m env0 ds st = .ok (ds.filterMap F) st
  | [], _ => by
    unfold lcL
    rw [if_pos (show chk none st from trivial)]
    rfl
  | d :: r, h => by
    have ih := lcL_map F r fun d hd => h d (List.mem_cons_of_mem _ hd)
    obtain ⟨e1, s1, eg, rfl, q⟩ := (h d List.mem_cons_self).eq
    obtain ⟨k, s2, et, rfl, q1, q2⟩ := q.eq
    unfold lcL
    rw [if_pos (show chk none s2 from trivial), eg, noX_ok, bind_ok, et, noX_ok, bind_ok]
    cases k with
    | true =>
      obtain ⟨v, s3, em, rfl, z, rfl, ez⟩ := (q1 rfl).eq
      rw [if_pos rfl, em, noX_ok, bind_ok]
      show (lcL none g t m env0 r s3).bind _ = _
      rw [ih, bind_ok, List.filterMap_cons, ez]
    | false =>
      rw [if_neg Bool.false_ne_true, ih, List.filterMap_cons, q2 rfl]
def P1i (ds : List D) (f : Int → Prop) : Prop := match ds with
  | [.v (.int j)] => f j
  | _ => False
def P2 (ds : List D) (f : D → D → Prop) : Prop := match ds with
  | [a, b] => f a b
  | _ => False
def P3' (ds : List D) (f : D → D → D → Prop) : Prop := match ds with
  | [a, b, c] => f a b c
  | _ => False
@[simp] theorem p1i_int {j : Int} {f : Int → Prop} : P1i [.v (.int j)] f ↔ f j := Iff.rfl
@[simp] theorem p2_two {a b : D} {f : D → D → Prop} : P2 [a, b] f ↔ f a b := Iff.rfl
@[simp] theorem p3_three {a b c : D} {f : D → D → D → Prop} : P3' [a, b, c] f ↔ f a b c := Iff.rfl
def SO.Ok (x : SO) (N : Ev → Sto → Prop) (T : D → Sto → Prop) : Prop := match x with
  | .nx e s => N e s
  | .rt d s => T d s
  | _ => False
theorem SO.Ok.mono {x : SO} {N N' : Ev → Sto → Prop} {T T' : D → Sto → Prop} (h : x.Ok N T) (hN : ∀ e s, N e s → N' e s) (hT : ∀ d s, T d s → T' d s) : x.Ok N' T' := by
  cases x with
  | nx e s => exact hN e s h
  | rt d s => exact hT d s h
  | _ => exact h
theorem so_to {x : SO} {N : Ev → Sto → Prop} {T : D → Sto → Prop} (M : Ev → Sto → Prop) (h : x.Ok M T) (k : ∀ e s, M e s → N e s) : x.Ok N T := h.mono k fun _ _ z => z
section
variable {N : Ev → Sto → Prop} {T : D → Sto → Prop} {env : Ev} {st : Sto}
theorem so_thn {α : Type} {x : Out α} {f : α → Sto → SO} : (x.thn f).Ok N T ↔ x.Ok fun a s => (f a s).Ok N T := by cases x <;> exact Iff.rfl
@[simp] theorem so_nx {e : Ev} {s : Sto} : (SO.nx e s).Ok N T ↔ N e s := Iff.rfl
@[simp] theorem so_rt {d : D} {s : Sto} : (SO.rt d s).Ok N T ↔ T d s := Iff.rfl
@[simp] theorem so_seq {a b : MS} : (sSeq a b env st).Ok N T ↔ (a env st).Ok (fun e s => (b e s).Ok N T) T := by
  unfold sSeq
  cases a env st <;> exact Iff.rfl
@[simp] theorem so_nil : (sNil env st).Ok N T ↔ N env st := Iff.rfl
@[simp] theorem so_ret {m : ME} : (sRet m env st).Ok N T ↔ (m env st).Ok T := by
  unfold sRet
  rw [so_thn]
  exact Iff.rfl
@[simp] theorem so_retN : (sRetN env st).Ok N T ↔ T (.v .none) st := Iff.rfl
@[simp] theorem so_exp {m : ME} : (sExp m env st).Ok N T ↔ (m env st).Ok fun _ s => N env s := by
  unfold sExp
  rw [so_thn]
  exact Iff.rfl
theorem so_ite {c : Bool} {x y : SO} : (if c = true then x else y).Ok N T ↔ (c = true → x.Ok N T) ∧ (c = false → y.Ok N T) := by cases c <;> simp
@[simp] theorem so_if {t : MT} {a b : MS} : (sIf t a b env st).Ok N T ↔ (t env st).Ok fun k s => (k = true → (a env s).Ok N T) ∧ (k = false → (b env s).Ok N T) := by
  unfold sIf
  simp only [so_thn, so_ite]
@[simp] theorem so_asg {m : ME} {i : Nat} : (sAsg m (gNm i) env st).Ok N T ↔ (m env st).Ok fun d s => N (env.set i (some d)) s := by
  unfold sAsg
  simp only [so_thn]
  exact Iff.rfl
@[simp] theorem so_asgG {m : ME} {n : Nat} {gs : MGs} : (sAsg m (gTp n gs) env st).Ok N T ↔ (m env st).Ok fun d s => (gTp n gs (.one d) env s).Ok fun e1 s1 => N e1 s1 := by
  unfold sAsg
  simp only [so_thn]
  exact Iff.rfl
@[simp] theorem so_par2 {i j : Nat} {m : MA} : (sPar2 i j m env st).Ok N T ↔ (m env st).Ok fun ds s => P2 ds fun a b => N ((env.set i (some a)).set j (some b)) s := by
  unfold sPar2
  rw [so_thn]
  constructor
  · intro h
    refine h.mono fun ds s q => ?_
    split at q
    · exact q
    · exact q.elim
  · intro h
    refine h.mono fun ds s q => ?_
    unfold P2 at q
    split at q
    · exact q
    · exact q.elim
@[simp] theorem so_par3 {i j l : Nat} {m : MA} : (sPar3 i j l m env st).Ok N T ↔ (m env st).Ok fun ds s => P3' ds fun a b c => N (((env.set i (some a)).set j (some b)).set l (some c)) s := by
  unfold sPar3
  rw [so_thn]
  constructor
  · intro h
    refine h.mono fun ds s q => ?_
    split at q
    · exact q
    · exact q.elim
  · intro h
    refine h.mono fun ds s q => ?_
    unfold P3' at q
    split at q
    · exact q
    · exact q.elim
@[simp] theorem so_asgT {n : Nat} {m : MA} {gs : MGs} : (sAsgT n m gs env st).Ok N T ↔ (m env st).Ok fun ds s => (ds.length = n ∧ n ≤ 1000) ∧ (gs ds env s).Ok fun e1 s1 => N e1 s1 := by
  unfold sAsgT
  rw [so_thn]
  constructor
  · intro h
    refine h.mono fun ds s q => ?_
    split at q
    · rename_i e
      exact ⟨e, so_thn.mp q⟩
    · exact q.elim
  · intro h
    refine h.mono fun ds s ⟨e, q⟩ => ?_
    rw [if_pos e]
    exact so_thn.mpr q
@[simp] theorem so_sub {m o i : ME} : (sSub m o i env st).Ok N T ↔ (m env st).Ok fun d s1 => (o env s1).Ok fun x s2 => (i env s2).Ok fun y s3 => (setU x y d s3).Ok fun _ s4 => N env s4 := by
  unfold sSub
  simp only [so_thn]
  exact Iff.rfl
@[simp] theorem so_for {mi : MI} {g : MG} {b : MS} : (sFor mi g b env st).Ok N T ↔ (mi env st).Ok fun r s => (forL r.2 g b r.1 env s).Ok N T := by
  unfold sFor
  rw [so_thn]
end
theorem forL_inv {w : Wt} {g : MG} {b : MS} {N : Ev → Sto → Prop} {T : D → Sto → Prop} (I : Nat → Ev → Sto → Prop) : ∀ (ds : List Itm) (env : Ev) (st : Sto) (n : Nat),
    (∀ i d e s, ds[i]? = some d → I (n + i) e s → chk w s ∧ (g d e s).Ok fun e1 s1 => (b e1 s1).Ok (fun e2 s2 => I (n + i + 1) e2 s2) T) → (∀ e s, I (n + ds.length) e s → chk w s ∧ N e s) → I n env st → (forL w g b ds env st).Ok N T
  | [], env, st, n, _, hE, h => by
    obtain ⟨hc, q⟩ := hE env st h
    unfold forL
    rw [if_pos hc]
    exact q
  | d :: r, env, st, n, hS, hE, h => by
    obtain ⟨hc, q⟩ := hS 0 d env st rfl h
    unfold forL
    rw [if_pos hc, so_thn]
    refine q.mono fun e1 s1 q => ?_
    cases eb : b e1 s1 with
    | nx e2 s2 =>
      rw [eb] at q
      refine forL_inv I r e2 s2 (n + 1) (fun i d e s hd hi => ?_) (fun e s hi => hE e s (by rw [List.length_cons, show n + (r.length + 1) = n + 1 + r.length by omega]; exact hi)) q
      have z := hS (i + 1) d e s hd (by rw [show n + (i + 1) = n + 1 + i by omega]; exact hi)
      rw [show n + (i + 1) = n + 1 + i by omega] at z
      exact z
    | rt d2 s2 => rw [eb] at q; exact q
    | _ => rw [eb] at q; exact q.elim
theorem whileL_inv {t : MT} {b : MS} {N : Ev → Sto → Prop} {T : D → Sto → Prop} (I : Nat → Ev → Sto → Prop)
    (hS : ∀ k e s, I k e s → (t e s).Ok fun c s1 => (c = true → (b e s1).Ok (fun e2 s2 => ∃ j, j < k ∧ I j e2 s2) T) ∧ (c = false → N e s1)) : ∀ (n k : Nat) (env : Ev) (st : Sto), k < n → I k env st → (whileL t b n env st).Ok N T
  | 0, k, env, st, hk, _ => absurd hk (Nat.not_lt_zero _)
  | n + 1, k, env, st, hk, h => by
    unfold whileL
    rw [so_thn]
    refine (hS k env st h).mono fun c s1 q => ?_
    cases c with
    | false => exact q.2 rfl
    | true =>
      rw [if_pos rfl]
      have q := q.1 rfl
      cases eb : b env s1 with
      | nx e2 s2 =>
        rw [eb] at q
        obtain ⟨j, hj, hi⟩ := q
        exact whileL_inv I hS n j e2 s2 (by omega) hi
      | rt d2 s2 => rw [eb] at q; exact q
      | _ => rw [eb] at q; exact q.elim
theorem fnT_ok {nN : Nat} {m : MS} {ds : List D} {st : Sto} {P : D → Sto → Prop} (h : (m (envE nN ds) st).Ok (fun _ s => P (.v .none) (s.take st.length)) (fun d s => d.low st.length = true ∧ P d (s.take st.length))) : (fnT nN m ds st).Ok P := by
  unfold fnT
  cases e : m (envE nN ds) st with
  | nx e1 s => rw [e] at h; exact h
  | rt d s =>
    rw [e] at h
    show (if d.low st.length then Out.ok d (s.take st.length) else .stuck).Ok P
    rw [if_pos h.1]
    exact h.2
  | _ => rw [e] at h; exact h.elim
theorem fnK_ok {nN : Nat} {m : MS} {ds : List D} {st : Sto} {P : D → Sto → Prop} (h : (m (envE nN ds) st).Ok (fun _ s => P (.v .none) s) (fun d s => P d s)) : (fnK nN m ds st).Ok P := by
  unfold fnK
  cases e : m (envE nN ds) st with
  | nx e1 s => rw [e] at h; exact h
  | rt d s => rw [e] at h; exact h
  | _ => rw [e] at h; exact h.elim
theorem Out.Ok.is {α : Type} {x : Out α} {a : α} {s : Sto} (h : x.Ok fun b t => b = a ∧ t = s) : x = .ok a s := by
  obtain ⟨b, t, e, rfl, rfl⟩ := h.eq
  exact e
section
variable {i j : Int} {a b : Bool} {st : Sto} {xs ys : List PyData} {d : PyData} {x y : Str}
theorem iOf_eq {a : D} {k : Int} (h : iOf a = some k) : a = .v (.int k) := by
  cases a with
  | v z =>
    cases z with
    | int j => cases h; rfl
    | _ => cases h
  | _ => cases h
@[simp] theorem iOf_int : iOf (.v (.int i)) = some i := rfl
@[simp] theorem addD_int : addD (.v (.int i)) (.v (.int j)) st = .ok (.v (.int (i + j))) st := rfl
@[simp] theorem subD_int : subD (.v (.int i)) (.v (.int j)) st = .ok (.v (.int (i - j))) st := rfl
@[simp] theorem negD_int : negD (.v (.int i)) st = .ok (.v (.int (-i))) st := rfl
@[simp] theorem ltD_int : ltD (.v (.int i)) (.v (.int j)) st = .ok (.v (.bool (decide (i < j)))) st := rfl
@[simp] theorem leD_int : leD (.v (.int i)) (.v (.int j)) st = .ok (.v (.bool (decide (i ≤ j)))) st := rfl
@[simp] theorem gtD_int : gtD (.v (.int i)) (.v (.int j)) st = .ok (.v (.bool (decide (i > j)))) st := rfl
@[simp] theorem geD_int : geD (.v (.int i)) (.v (.int j)) st = .ok (.v (.bool (decide (i ≥ j)))) st := rfl
theorem mulD_int (h : cMul i j = true) : mulD (.v (.int i)) (.v (.int j)) st = .ok (.v (.int (i * j))) st := by
  show (if cMul i j then _ else _) = _
  rw [if_pos h]
theorem mulD_r (h : -(2 ^ 64) < j ∧ j < 2 ^ 64) : mulD (.v (.int i)) (.v (.int j)) st = .ok (.v (.int (i * j))) st := mulD_int (by
  unfold cMul
  simp only [Bool.or_eq_true, Bool.and_eq_true, decide_eq_true_eq]
  exact .inr h)
theorem mulD_l (h : -(2 ^ 64) < i ∧ i < 2 ^ 64) : mulD (.v (.int i)) (.v (.int j)) st = .ok (.v (.int (i * j))) st := mulD_int (by
  unfold cMul
  simp only [Bool.or_eq_true, Bool.and_eq_true, decide_eq_true_eq]
  exact .inl h)
theorem fdivD_int (h : 0 < j) (h2 : j < 1073741824) : fdivD (.v (.int i)) (.v (.int j)) st = .ok (.v (.int (i / j))) st := by
  show (if cDiv i j then _ else _) = _
  have e : cDiv i j = true := by
    unfold cDiv
    simp only [Bool.and_eq_true, decide_eq_true_eq]
    exact ⟨by omega, by omega⟩
  rw [if_pos e]
  show Out.ok (D.v (.int (i.fdiv j))) st = _
  rw [Int.fdiv_eq_ediv_of_nonneg _ (by omega)]
theorem modD_int (h : 0 < j) : modD (.v (.int i)) (.v (.int j)) st = .ok (.v (.int (i % j))) st := by
  show (if decide (j ≠ 0) then _ else _) = _
  rw [if_pos (decide_eq_true (by omega))]
  show Out.ok (D.v (.int (i.fmod j))) st = _
  rw [Int.fmod_eq_emod_of_nonneg _ (by omega)]
@[simp] theorem isD_bool : isD (.v (.bool a)) (.v (.bool b)) st = .ok (.v (.bool (decide (a = b)))) st := rfl
@[simp] theorem isNotD_bool : isNotD (.v (.bool a)) (.v (.bool b)) st = .ok (.v (.bool (!decide (a = b)))) st := rfl
@[simp] theorem tru_bool : truS' st (.v (.bool b)) = some b := rfl
@[simp] theorem fInt_int : fInt [.v (.int i)] st = .ok (.v (.int i)) st := rfl
theorem fAbs_int : fAbs [.v (.int i)] st = .ok (.v (.int i.natAbs)) st := by
  show Out.ok (D.v (.int (if i < 0 then -i else i))) st = _
  congr 3
  split <;> omega
@[simp] theorem bMin_int : f2I intMin [.v (.int i), .v (.int j)] st = .ok (.v (.int (min i j))) st := by
  show Out.ok (D.v (.int (intMin i j))) st = _
  congr 3
  unfold intMin
  split <;> omega
@[simp] theorem bMax_int : f2I intMax [.v (.int i), .v (.int j)] st = .ok (.v (.int (max i j))) st := by
  show Out.ok (D.v (.int (intMax i j))) st = _
  congr 3
  unfold intMax
  split <;> omega
@[simp] theorem len_list : fLen [.v (.list xs)] st = .ok (.v (.int xs.length)) st := rfl
@[simp] theorem len_tup : fLen [.v (.tuple xs)] st = .ok (.v (.int xs.length)) st := rfl
theorem len_of {a : D} (h : viewS st a = some xs) : fLen [a] st = .ok (.v (.int xs.length)) st := by
  show (match viewS st a with
    | some xs => _
    | none => _) = _
  rw [h]
theorem list_of {a : D} (h : viewS st a = some xs) : gList [a] st = .ok xs st := by
  show (match viewS st a with
    | some xs => _
    | none => _) = _
  rw [h]
@[simp] theorem viewS_list : viewS st (.v (.list xs)) = some xs := rfl
@[simp] theorem viewS_tup : viewS st (.v (.tuple xs)) = some xs := rfl
@[simp] theorem list_tup : gList [.v (.tuple xs)] st = .ok xs st := rfl
@[simp] theorem tup_list : fTuple [.v (.list xs)] st = .ok (.v (.tuple xs)) st := rfl
theorem viewS_ref {n : Nat} (h : st[n]? = some (.lst xs)) : viewS st (.ref n) = some xs := by
  show (match st[n]? with
    | some (.lst xs) => some xs
    | _ => none) = _
  rw [h]
theorem isL_ref {n : Nat} (h : st[n]? = some (.lst xs)) : isL st (.ref n) = true := by
  show (match st[n]? with
    | some (.lst xs) => some xs
    | _ => none).isSome = _
  rw [h]
  rfl
theorem lAt_ref {n : Nat} (h : st[n]? = some (.lst xs)) : lAt st (.ref n) = some (n, xs) := by
  show (match st[n]? with
    | some (.lst zs) => some (n, zs)
    | _ => none) = _
  rw [h]
theorem tup_of {n : Nat} (h : st[n]? = some (.lst xs)) : fTuple [.ref n] st = .ok (.v (.tuple xs)) st := by
  show (match viewL st (.ref n) with
    | some xs => _
    | none => _) = _
  have e : viewL st (.ref n) = some xs := viewS_ref h
  rw [e]
theorem seqIndex_nat {n k : Nat} (h : k < n) : seqIndex? (k : Int) n = some k := by
  unfold seqIndex?
  have h1 : ¬ (k : Int) < 0 := by omega
  simp only [if_neg h1]
  rw [if_pos (by simp; omega)]
  simp
theorem atI_nat {α : Type} {xs : List α} {k : Nat} : atI xs (k : Int) = xs[k]? := by
  unfold atI ixN
  rw [if_pos (by omega)]
  by_cases h : k < xs.length
  · rw [if_pos (by omega)]
    simp
  · rw [if_neg (by omega), List.getElem?_eq_none (by omega)]
    rfl
theorem pop_at {n k : Nat} (h : st[n]? = some (.lst xs)) (hk : k < xs.length) (hl : xs.length ≤ 1000000) : fmPopAt (.ref n) [.v (.int k)] st = .ok (.v xs[k]) (st.set n (.lst (xs.eraseIdx k))) := by
  unfold fmPopAt
  rw [lAt_ref h]
  show (if -1000000 ≤ (k : Int) ∧ (k : Int) ≤ 1000000 then _ else _) = _
  rw [if_pos (by omega), seqIndex_nat hk]
  show (match xs[k]? with
    | some d => _
    | none => _) = _
  rw [List.getElem?_eq_getElem hk]
theorem append_at {n : Nat} (h : st[n]? = some (.lst xs)) (hl : xs.length < 1000000) : fmAppend (.ref n) [.v d] st = .ok (.v .none) (st.set n (.lst (xs ++ [d]))) := by
  unfold fmAppend
  rw [lAt_ref h]
  show (if xs.length < lim then _ else _) = _
  rw [if_pos (show xs.length < lim from hl)]
theorem sub_of {a : D} {k : Nat} (hv : viewK st a = none) (h : viewS st a = some xs) (hk : xs[k]? = some d) : subsD a (.v (.int k)) st = .ok (.v d) st := by
  unfold subsD
  rw [hv]
  show ixD a _ st = _
  unfold ixD
  rw [h]
  show (match atI xs (k : Int) with
    | some d => _
    | none => _) = _
  rw [atI_nat, hk]
theorem sub_list {k : Nat} (hk : xs[k]? = some d) : subsD (.v (.list xs)) (.v (.int k)) st = .ok (.v d) st := sub_of rfl rfl hk
theorem sub_tup {k : Nat} (hk : xs[k]? = some d) : subsD (.v (.tuple xs)) (.v (.int k)) st = .ok (.v d) st := sub_of rfl rfl hk
end
section
variable {m : MA} {me : ME} {env : Ev} {st : Sto} {P : List Itm × Wt → Sto → Prop} {xs ys : List PyData}
theorem ok_R1 : (miR1 m env st).Ok P ↔ (m env st).Ok fun ds s => P1i ds fun j => (-1000000 ≤ j ∧ j ≤ 1000000) ∧ P (rngI 0 j.toNat, none) s := by
  unfold miR1
  rw [ok_bind]
  constructor
  · intro h
    refine h.mono fun ds s q => ?_
    split at q
    · split at q
      · rename_i j e
        split at q
        · rename_i hb
          have ed := (iOf_eq e)
          subst ed
          exact ⟨hb, q⟩
        · exact q.elim
      · exact q.elim
    · exact q.elim
  · intro h
    refine h.mono fun ds s q => ?_
    unfold P1i at q
    split at q
    · rename_i j
      show (if -1000000 ≤ j ∧ j ≤ 1000000 then Out.ok (rngI 0 j.toNat, none) s else .stuck).Ok P
      rw [if_pos q.1]
      exact q.2
    · exact q.elim
def seqW (d : D) (s1 : Sto) : Out (List Itm × Wt) := match d with
  | .scr ns => .ok (ns.map fun n => .one (.v (.int n)), none) s1
  | d => match seqI s1 d with
    | some (zs, w) => .ok (zs.map fun z => .one (.v z), w) s1
    | none => .stuck
theorem ok_seq : (miSeq me env st).Ok P ↔ (me env st).Ok fun d s => (seqW d s).Ok P := ok_bind
@[simp] theorem seqW_list : seqW (.v (.list xs)) st = .ok (xs.map fun z => .one (.v z), none) st := rfl
@[simp] theorem seqW_tup : seqW (.v (.tuple xs)) st = .ok (xs.map fun z => .one (.v z), none) st := rfl
@[simp] theorem seqW_scr {ns : List Int} : seqW (.scr ns) st = .ok (ns.map fun n => .one (.v (.int n)), none) st := rfl
@[simp] theorem ok_gMore {g : MG} {r : MGs} {d : D} {t : List D} {P : Ev → Sto → Prop} : (gMore g r (d :: t) env st).Ok P ↔ (g (.one d) env st).Ok fun e1 s1 => (r t e1 s1).Ok P := ok_bind
@[simp] theorem ok_gNone {P : Ev → Sto → Prop} : (gNone [] env st).Ok P ↔ P env st := Iff.rfl
@[simp] theorem ok_gNm {i : Nat} {d : D} {P : Ev → Sto → Prop} : (gNm i (.one d) env st).Ok P ↔ P (env.set i (some d)) st := Iff.rfl
end
end Fw
namespace Fw
open PySem PySem.Spec PyProof.Rows L2
structure Src where
  stk : List Int
  left : Int
  mixed : Int
  turn : Int
def Src.o (s : Src) : O := .dct false [(.str "cells", .ref 0), (.str "left", .v (.int s.left)), (.str "mixed", .v (.int s.mixed)), (.str "turn", .v (.int s.turn))]
def Src.sto (s : Src) (rest : Sto) : Sto := .lst (s.stk.reverse.map .int) :: s.o :: rest
section
variable {s : Src} {rest : Sto} {x : Int}
@[simp] theorem src_cells : subsD (.ref 1) (.v (.str "cells")) (s.sto rest) = .ok (.ref 0) (s.sto rest) := by rfl
@[simp] theorem src_left : subsD (.ref 1) (.v (.str "left")) (s.sto rest) = .ok (.v (.int s.left)) (s.sto rest) := by rfl
@[simp] theorem src_mixed : subsD (.ref 1) (.v (.str "mixed")) (s.sto rest) = .ok (.v (.int s.mixed)) (s.sto rest) := by rfl
@[simp] theorem src_turn : subsD (.ref 1) (.v (.str "turn")) (s.sto rest) = .ok (.v (.int s.turn)) (s.sto rest) := by rfl
@[simp] theorem set_left : setU (.ref 1) (.v (.str "left")) (.v (.int x)) (s.sto rest) = .ok () (({ s with left := x } : Src).sto rest) := by rfl
@[simp] theorem set_mixed : setU (.ref 1) (.v (.str "mixed")) (.v (.int x)) (s.sto rest) = .ok () (({ s with mixed := x } : Src).sto rest) := by rfl
@[simp] theorem set_turn : setU (.ref 1) (.v (.str "turn")) (.v (.int x)) (s.sto rest) = .ok () (({ s with turn := x } : Src).sto rest) := by rfl
@[simp] theorem src_len : fLen [.ref 0] (s.sto rest) = .ok (.v (.int s.stk.length)) (s.sto rest) := by
  show Out.ok (D.v (.int ((s.stk.reverse.map PyData.int).length))) (s.sto rest) = _
  rw [List.length_map, List.length_reverse]
@[simp] theorem src_isL : isL (s.sto rest) (.ref 0) = true := rfl
theorem src_pop {c : Int} {r : List Int} (h : s.stk = c :: r) : fmPop (.ref 0) [] (s.sto rest) = .ok (.v (.int c)) (({ s with stk := r } : Src).sto rest) := by
  obtain ⟨k, l, m, t⟩ := s
  simp only at h
  subst h
  show fmPop (.ref 0) [] (.lst ((c :: r).reverse.map .int) :: _ :: rest) = _
  unfold fmPop
  show (match ((c :: r).reverse.map PyData.int)[((c :: r).reverse.map PyData.int).length - 1]? with
    | some d => _
    | none => _) = _
  rw [show ((c :: r).reverse.map PyData.int) = r.reverse.map PyData.int ++ [.int c] by simp]
  rw [List.length_append, List.length_singleton, Nat.add_sub_cancel, List.getElem?_append_right (Nat.le_refl _), Nat.sub_self]
  show Out.ok _ _ = _
  simp only [List.dropLast_concat]
  rfl
end
def Src.ok (s : Src) : Prop := s.stk.length < 1000000
def Pick (f : FF) : Prop := ∀ (s : Src) (rest : Sto) (m : Int), m < 1073741824 → s.ok → (f [.ref 1, .v (.int m)] (s.sto rest)).Ok fun d st => ∃ (r : Int) (s' : Src), d = .v (.int r) ∧ st = s'.sto rest ∧ s'.ok ∧ 0 ≤ r ∧ (1 ≤ m → r < m) ∧ (m ≤ 0 → r = 0)
theorem take_sto {s : Src} {s0 : Src} {rest : Sto} : (s.sto rest).take (s0.sto rest).length = s.sto rest := List.take_length (l := s.sto rest)
end Fw
namespace Fw.LA
open PySem PySem.Spec PyProof.Rows L2 Fw
noncomputable def law_pick_T1 : MT := (mAndT (mTB (mBin ltD (mBin subsD (mVar 0) (mC (.str "left"))) (mC (.int 2)))) (mTB (mBin gtD (mArg fLen (mCons (mVar 2) mNil)) (mC (.int 0)))))
noncomputable def law_pick_B1 : MS := (sSub (mM0 fmPop (mVar 2)) (mVar 0) (mC (.str "left")))
noncomputable def S_law_pick_10 : MS := (sRet (mBin modD (mArg fInt (mCons (mBin fdivD (mVar 5) (mC (.int 16))) mNil)) (mVar 1)))
noncomputable def S_law_pick_9 : MS := (sSeq (sAsg (mBin modD (mArg fInt (mCons (mBin addD (mBin mulD (mVar 5) (mVar 5)) (mBin mulD (mVar 4) (mC (.int 17)))) mNil)) (mC (.int 2147483647))) (gNm 5)) S_law_pick_10)
noncomputable def S_law_pick_8 : MS := (sSeq (sAsg (mBin modD (mArg fInt (mCons (mBin addD (mBin subsD (mVar 0) (mC (.str "mixed"))) (mBin mulD (mVar 4) (mC (.int 104729)))) mNil)) (mC (.int 998244353))) (gNm 5)) S_law_pick_9)
noncomputable def S_law_pick_7 : MS := (sSeq (sAsg (mBin subsD (mVar 0) (mC (.str "turn"))) (gNm 4)) S_law_pick_8)
noncomputable def S_law_pick_6 : MS := (sSeq (sSub (mBin addD (mBin subsD (mVar 0) (mC (.str "turn"))) (mC (.int 1))) (mVar 0) (mC (.str "turn"))) S_law_pick_7)
noncomputable def S_law_pick_5 : MS := (sSeq (sIf (mTB (mBin gtD (mVar 3) (mC (.int 1)))) (sSeq (sSub (mBin fdivD (mVar 3) (mVar 1)) (mVar 0) (mC (.str "left"))) (sRet (mBin modD (mArg fInt (mCons (mVar 3) mNil)) (mVar 1)))) sNil) S_law_pick_6)
noncomputable def S_law_pick_4 : MS := (sSeq (sAsg (mBin subsD (mVar 0) (mC (.str "left"))) (gNm 3)) S_law_pick_5)
noncomputable def S_law_pick_3 : MS := (sSeq (whileL law_pick_T1 law_pick_B1 1000000) S_law_pick_4)
noncomputable def S_law_pick_2 : MS := (sSeq (sAsg (mBin subsD (mVar 0) (mC (.str "cells"))) (gNm 2)) S_law_pick_3)
noncomputable def S_law_pick : MS := (sSeq (sIf (mTB (mBin ltD (mVar 1) (mC (.int 2)))) (sRet (mC (.int 0))) sNil) S_law_pick_2)
noncomputable def f_law_pick : FF := fnT 6 S_law_pick
noncomputable def S_law_of : MS := (sRet (mBin subsD (mVar 1) (mCall f_law_pick (mCons (mVar 0) (mCons (mArg fLen (mCons (mVar 1) mNil)) mNil)) [])))
noncomputable def f_law_of : FF := fnT 2 S_law_of
noncomputable def law_source_E1 : MI := (miSeq (mVar 0))
noncomputable def law_source_G1 : MG := (gNm 2)
noncomputable def law_source_B1 : MS := (sAsg (mBin modD (mArg fInt (mCons (mBin addD (mBin addD (mBin mulD (mVar 1) (mC (.int 69069))) (mBin mulD (mVar 2) (mC (.int 31)))) (mC (.int 5))) mNil)) (mC (.int 2147483629))) (gNm 1))
noncomputable def law_source_E2 : MI := (miSeq (mVar 0))
noncomputable def law_source_G2 : MG := (gNm 2)
noncomputable def law_source_T1 : MT := mYes
noncomputable def law_source_M1 : ME := (mArg fAbs (mCons (mVar 2) mNil))
noncomputable def S_law_source_4 : MS := (sRet (mDisp [((mC (.str "cells")), (mNew (mfRev (mVar 3)))), ((mC (.str "left")), (mC (.int 1))), ((mC (.str "mixed")), (mVar 1)), ((mC (.str "turn")), (mC (.int 0)))]))
noncomputable def S_law_source_3 : MS := (sSeq (sAsg (mFrz (mLc law_source_E2 law_source_G2 law_source_T1 law_source_M1 [2])) (gNm 3)) S_law_source_4)
noncomputable def S_law_source_2 : MS := (sSeq (sFor law_source_E1 law_source_G1 law_source_B1) S_law_source_3)
noncomputable def S_law_source : MS := (sSeq (sAsg (mC (.int 11)) (gNm 1)) S_law_source_2)
noncomputable def f_law_source : FF := fnK 4 S_law_source
noncomputable def law_mixed_E1 : MI := (miR1 (mCons (mArg fLen (mCons (mVar 2) mNil)) mNil))
noncomputable def law_mixed_G1 : MG := (gNm 3)
noncomputable def law_mixed_T1 : MT := mYes
noncomputable def law_mixed_M1 : ME := (mM fmPopAt (mVar 2) (mCons (mCall f_law_pick (mCons (mVar 0) (mCons (mArg fLen (mCons (mVar 2) mNil)) mNil)) []) mNil))
noncomputable def S_law_mixed_2 : MS := (sRet (mFrz (mLc law_mixed_E1 law_mixed_G1 law_mixed_T1 law_mixed_M1 [3])))
noncomputable def S_law_mixed : MS := (sSeq (sAsg (mNew (mfArg gList (mCons (mVar 1) mNil))) (gNm 2)) S_law_mixed_2)
noncomputable def f_law_mixed : FF := fnT 4 S_law_mixed
end Fw.LA
namespace Fw.LB
open PySem PySem.Spec PyProof.Rows L2 Fw
noncomputable def law_source_E1 : MI := (miSeq (mVar 0))
noncomputable def law_source_G1 : MG := (gNm 2)
noncomputable def law_source_B1 : MS := (sAsg (mBin modD (mArg fInt (mCons (mBin addD (mBin addD (mBin mulD (mVar 1) (mC (.int 69069))) (mBin mulD (mVar 2) (mC (.int 31)))) (mC (.int 5))) mNil)) (mC (.int 2147483629))) (gNm 1))
noncomputable def law_source_E2 : MI := (miSeq (mVar 0))
noncomputable def law_source_G2 : MG := (gNm 2)
noncomputable def law_source_T1 : MT := mYes
noncomputable def law_source_M1 : ME := (mArg fAbs (mCons (mVar 2) mNil))
noncomputable def S_law_source_3 : MS := (sRet (mDisp [((mC (.str "cells")), (mNew (mfRev (mFrz (mLc law_source_E2 law_source_G2 law_source_T1 law_source_M1 [2]))))), ((mC (.str "left")), (mC (.int 1))), ((mC (.str "mixed")), (mVar 1)), ((mC (.str "turn")), (mC (.int 0)))]))
noncomputable def S_law_source_2 : MS := (sSeq (sFor law_source_E1 law_source_G1 law_source_B1) S_law_source_3)
noncomputable def S_law_source : MS := (sSeq (sAsg (mC (.int 11)) (gNm 1)) S_law_source_2)
noncomputable def f_law_source : FF := fnK 3 S_law_source
noncomputable def law_pick_T1 : MT := (mAndT (mTB (mBin gtD (mVar 1) (mC (.int 1)))) (mAndT (mTB (mBin ltD (mBin subsD (mVar 0) (mC (.str "left"))) (mC (.int 2)))) (mTB (mBin gtD (mArg fLen (mCons (mBin subsD (mVar 0) (mC (.str "cells"))) mNil)) (mC (.int 0))))))
noncomputable def law_pick_B1 : MS := (sSub (mM0 fmPop (mBin subsD (mVar 0) (mC (.str "cells")))) (mVar 0) (mC (.str "left")))
noncomputable def S_law_pick_8 : MS := (sRet (mBin modD (mArg fInt (mCons (mBin fdivD (mVar 3) (mC (.int 16))) mNil)) (mVar 1)))
noncomputable def S_law_pick_7 : MS := (sSeq (sSub (mVar 3) (mVar 0) (mC (.str "mixed"))) S_law_pick_8)
noncomputable def S_law_pick_6 : MS := (sSeq (sAsg (mBin modD (mArg fInt (mCons (mBin addD (mBin mulD (mVar 3) (mVar 3)) (mBin mulD (mBin subsD (mVar 0) (mC (.str "turn"))) (mC (.int 17)))) mNil)) (mC (.int 2147483647))) (gNm 3)) S_law_pick_7)
noncomputable def S_law_pick_5 : MS := (sSeq (sAsg (mBin modD (mArg fInt (mCons (mBin addD (mBin subsD (mVar 0) (mC (.str "mixed"))) (mBin mulD (mBin subsD (mVar 0) (mC (.str "turn"))) (mC (.int 104729)))) mNil)) (mC (.int 998244353))) (gNm 3)) S_law_pick_6)
noncomputable def S_law_pick_4 : MS := (sSeq (sSub (mBin addD (mBin subsD (mVar 0) (mC (.str "turn"))) (mC (.int 1))) (mVar 0) (mC (.str "turn"))) S_law_pick_5)
noncomputable def S_law_pick_3 : MS := (sSeq (sIf (mOrT (mTB (mBin ltD (mVar 1) (mC (.int 2)))) (mTB (mBin gtD (mVar 2) (mC (.int 1))))) (sSeq (sSub (mBin fdivD (mVar 2) (mArg (f2I intMax) (mCons (mC (.int 1)) (mCons (mVar 1) mNil)))) (mVar 0) (mC (.str "left"))) (sRet (mBin modD (mArg fInt (mCons (mVar 2) mNil)) (mArg (f2I intMax) (mCons (mC (.int 1)) (mCons (mVar 1) mNil)))))) sNil) S_law_pick_4)
noncomputable def S_law_pick_2 : MS := (sSeq (sAsg (mBin subsD (mVar 0) (mC (.str "left"))) (gNm 2)) S_law_pick_3)
noncomputable def S_law_pick : MS := (sSeq (whileL law_pick_T1 law_pick_B1 1000000) S_law_pick_2)
noncomputable def f_law_pick : FF := fnT 4 S_law_pick
noncomputable def law_mixed_E1 : MI := (miR1 (mCons (mArg fLen (mCons (mVar 2) mNil)) mNil))
noncomputable def law_mixed_G1 : MG := (gNm 3)
noncomputable def law_mixed_T1 : MT := mYes
noncomputable def law_mixed_M1 : ME := (mM fmPopAt (mVar 2) (mCons (mCall f_law_pick (mCons (mVar 0) (mCons (mArg fLen (mCons (mVar 2) mNil)) mNil)) []) mNil))
noncomputable def S_law_mixed_2 : MS := (sRet (mFrz (mLc law_mixed_E1 law_mixed_G1 law_mixed_T1 law_mixed_M1 [3])))
noncomputable def S_law_mixed : MS := (sSeq (sAsg (mNew (mfArg gList (mCons (mVar 1) mNil))) (gNm 2)) S_law_mixed_2)
noncomputable def f_law_mixed : FF := fnT 4 S_law_mixed
noncomputable def S_law_of : MS := (sRet (mBin subsD (mVar 1) (mCall f_law_pick (mCons (mVar 0) (mCons (mArg fLen (mCons (mVar 1) mNil)) mNil)) [])))
noncomputable def f_law_of : FF := fnT 2 S_law_of
end Fw.LB
namespace Fw.LC
open PySem PySem.Spec PyProof.Rows L2 Fw
noncomputable abbrev f_law_pick : FF := Fw.LA.f_law_pick
noncomputable def S_do_want : MS := (sRet (mAndV (mBin inU (mVar 2) (mBin subsD (mBin subsD (mVar 0) (mC (.int 1))) (mVar 1))) (mBin inU (mVar 1) (mBin subsD (mBin subsD (mVar 0) (mC (.int 1))) (mVar 2)))))
noncomputable def f_do_want : FF := fnT 3 S_do_want
noncomputable def S_has_rather_3 : MS := (sRet (mOrV (mBin notInU (mVar 3) (mVar 4)) (mBin ltD (mIndex (mVar 4) (mCons (mVar 2) mNil)) (mIndex (mVar 4) (mCons (mVar 3) mNil)))))
noncomputable def S_has_rather_2 : MS := (sSeq (sIf (mTB (mBin notInU (mVar 2) (mVar 4))) (sRet (mAndV (mBin isD (mVar 2) (mC .none)) (mAndV (mBin isNotD (mVar 3) (mC .none)) (mBin notInU (mVar 3) (mVar 4))))) sNil) S_has_rather_3)
noncomputable def S_has_rather : MS := (sSeq (sAsg (mBin subsD (mBin subsD (mVar 0) (mC (.int 1))) (mVar 1)) (gNm 4)) S_has_rather_2)
noncomputable def f_has_rather : FF := fnT 5 S_has_rather
noncomputable def partner_of_E1 : MI := (miSeq (mVar 0))
noncomputable def partner_of_G1 : MG := (gNm 3)
noncomputable def partner_of_T1 : MT := (mTB (mBin inU (mVar 1) (mVar 3)))
noncomputable def partner_of_M1 : ME := (mBin subD (mArg fSum (mCons (mVar 3) mNil)) (mVar 1))
noncomputable def S_partner_of_2 : MS := (sRet (mIte (mTB (mBin neD (mVar 2) (mFrz (mfArg gDisp mNil)))) (mBin subsD (mVar 2) (mC (.int 0))) (mC .none)))
noncomputable def S_partner_of : MS := (sSeq (sAsg (mFrz (mLc partner_of_E1 partner_of_G1 partner_of_T1 partner_of_M1 [3])) (gNm 2)) S_partner_of_2)
noncomputable def f_partner_of : FF := fnT 4 S_partner_of
noncomputable def S_law_want : MS := (sRet (mAndV (mBin inU (mVar 2) (mBin subsD (mBin subsD (mVar 0) (mC (.int 1))) (mVar 1))) (mBin inU (mVar 1) (mBin subsD (mBin subsD (mVar 0) (mC (.int 1))) (mVar 2)))))
noncomputable def f_law_want : FF := fnT 3 S_law_want
noncomputable def S_law_place_2 : MS := (sRet (mIte (mTB (mBin isD (mVar 2) (mC .none))) (mArg fLen (mCons (mVar 3) mNil)) (mIte (mTB (mBin inU (mVar 2) (mVar 3))) (mIndex (mVar 3) (mCons (mVar 2) mNil)) (mBin addD (mArg fLen (mCons (mVar 3) mNil)) (mC (.int 1))))))
noncomputable def S_law_place : MS := (sSeq (sAsg (mBin subsD (mBin subsD (mVar 0) (mC (.int 1))) (mVar 1)) (gNm 3)) S_law_place_2)
noncomputable def f_law_place : FF := fnT 4 S_law_place
noncomputable def law_partner_E1 : MI := (miSeq (mVar 0))
noncomputable def law_partner_G1 : MG := (gNm 3)
noncomputable def law_partner_T1 : MT := (mTB (mBin inU (mVar 1) (mVar 3)))
noncomputable def law_partner_M1 : ME := (mBin subD (mBin addD (mBin subsD (mVar 3) (mC (.int 0))) (mBin subsD (mVar 3) (mC (.int 1)))) (mVar 1))
noncomputable def S_law_partner_2 : MS := (sRet (mIte (mTB (mBin neD (mVar 2) (mFrz (mfArg gDisp mNil)))) (mBin subsD (mVar 2) (mC (.int 0))) (mC .none)))
noncomputable def S_law_partner : MS := (sSeq (sAsg (mFrz (mLc law_partner_E1 law_partner_G1 law_partner_T1 law_partner_M1 [3])) (gNm 2)) S_law_partner_2)
noncomputable def f_law_partner : FF := fnT 4 S_law_partner
noncomputable def law_breaking_E1 : MI := (miR2 (mCons (mBin addD (mVar 3) (mC (.int 1))) (mCons (mBin subsD (mVar 0) (mC (.int 0))) mNil)))
noncomputable def law_breaking_G1 : MG := (gNm 4)
noncomputable def law_breaking_T1 : MT := (mTru' (mCall f_law_want (mCons (mVar 0) (mCons (mVar 3) (mCons (mVar 4) mNil))) []))
noncomputable def law_breaking_M1 : ME := (mVar 4)
noncomputable def law_breaking_B2_2 : MS := (sIf (mAndT (mTru' (mVar 5)) (mTB (mBin ltD (mCall f_law_place (mCons (mVar 0) (mCons (mVar 4) (mCons (mVar 3) mNil))) []) (mCall f_law_place (mCons (mVar 0) (mCons (mVar 4) (mCons (mCall f_law_partner (mCons (mVar 1) (mCons (mVar 4) mNil)) []) mNil))) [])))) (sExp (mM fmAppend (mVar 2) (mCons (mArg fTup (mCons (mVar 3) (mCons (mVar 4) mNil))) mNil))) sNil)
noncomputable def law_breaking_E2 : MI := (miSeq (mFrz (mLc law_breaking_E1 law_breaking_G1 law_breaking_T1 law_breaking_M1 [4])))
noncomputable def law_breaking_G2 : MG := (gNm 4)
noncomputable def law_breaking_B2 : MS := (sSeq (sAsg (mBin ltD (mCall f_law_place (mCons (mVar 0) (mCons (mVar 3) (mCons (mVar 4) mNil))) []) (mCall f_law_place (mCons (mVar 0) (mCons (mVar 3) (mCons (mCall f_law_partner (mCons (mVar 1) (mCons (mVar 3) mNil)) []) mNil))) [])) (gNm 5)) law_breaking_B2_2)
noncomputable def law_breaking_E3 : MI := (miR1 (mCons (mBin subsD (mVar 0) (mC (.int 0))) mNil))
noncomputable def law_breaking_G3 : MG := (gNm 3)
noncomputable def law_breaking_B1 : MS := (sFor law_breaking_E2 law_breaking_G2 law_breaking_B2)
noncomputable def S_law_breaking_3 : MS := (sRet (mUn frz1 (mVar 2)))
noncomputable def S_law_breaking_2 : MS := (sSeq (sFor law_breaking_E3 law_breaking_G3 law_breaking_B1) S_law_breaking_3)
noncomputable def S_law_breaking : MS := (sSeq (sAsg (mNew (mfArg gDisp mNil)) (gNm 2)) S_law_breaking_2)
noncomputable def f_law_breaking : FF := fnT 6 S_law_breaking
end Fw.LC
namespace Fw
open PySem PySem.Spec PyProof.Rows L2
theorem sq_small {a : Int} (h : 0 ≤ a) (h2 : a < 998244353) : -(2 ^ 64) < a ∧ a < 2 ^ 64 := ⟨by omega, by omega⟩
theorem pickB_ok : Pick LB.f_law_pick := by
  intro s rest m hm hs
  refine fnT_ok ?_
  unfold LB.S_law_pick
  simp only [envE, so_seq, so_if, so_ret, so_retN, so_exp, so_nil, so_nx, so_rt, so_asg, so_asgG, so_par2, so_par3, ok_gNm, ok_gMore, ok_gNone, so_asgT, so_sub, so_for, ok_TB, ok_Tru, ok_notT, ok_andT, ok_orT, ok_andV, ok_orV, ok_notV, ok_iteE, ok_frz, ok_new, ok_mfArg, ok_mfBin, ok_lc, ok_M, ok_M0, ok_moNone, ok_moSome, ok_Sl,
  ok_bin, ok_un, ok_arg, ok_cons, ok_nil, ok_call, ok_var, ok_C, ok_ok, ok_stuck, ok_noX, bOf_bool, low_v, iOf_int, addD_int, subD_int, negD_int, ltD_int, leD_int, gtD_int, geD_int, fInt_int, isD_bool, isNotD_bool, tru_bool, List.map_cons, List.map_nil, List.length_cons, List.length_nil, List.replicate_succ, List.replicate_zero, List.cons_append, List.nil_append,
  List.append_nil, List.getElem?_cons_zero, List.getElem?_cons_succ, List.set_cons_zero, List.set_cons_succ, Option.some.injEq, exists_eq_left', exists_eq_left, true_and, and_true, true_implies, false_implies, implies_true, Bool.false_eq_true, reduceCtorEq, false_and, and_false, D.v.injEq, PyData.int.injEq, D.ref.injEq, p1i_int, p2_two, p3_three, decide_true, Bool.not_true, Bool.not_false, decide_eq_true_eq, decide_eq_false_iff_not]
  refine so_to (fun e st => ∃ s' : Src, e = [some (D.ref 1), some (D.v (PyData.int m)), none, none] ∧ st = s'.sto rest ∧ s'.ok) ?_ ?_
  · refine whileL_inv (fun k e st => ∃ s' : Src, e = [some (D.ref 1), some (D.v (PyData.int m)), none, none] ∧ st = s'.sto rest ∧ s'.ok ∧ s'.stk.length = k) ?_ 1000000 s.stk.length _ _ hs ⟨s, rfl, rfl, hs, rfl⟩
    rintro k e st ⟨s', rfl, rfl, ok, hk⟩
    unfold LB.law_pick_T1 LB.law_pick_B1
    simp only [envE, so_seq, so_if, so_ret, so_retN, so_exp, so_nil, so_nx, so_rt, so_asg, so_asgG, so_par2, so_par3, ok_gNm, ok_gMore, ok_gNone, so_asgT, so_sub, so_for, ok_TB, ok_Tru, ok_notT, ok_andT, ok_orT, ok_andV, ok_orV, ok_notV, ok_iteE, ok_frz, ok_new, ok_mfArg, ok_mfBin, ok_lc, ok_M, ok_M0, ok_moNone, ok_moSome, ok_Sl,
  ok_bin, ok_un, ok_arg, ok_cons, ok_nil, ok_call, ok_var, ok_C, ok_ok, ok_stuck, ok_noX, bOf_bool, low_v, iOf_int, addD_int, subD_int, negD_int, ltD_int, leD_int, gtD_int, geD_int, fInt_int, isD_bool, isNotD_bool, tru_bool, List.map_cons, List.map_nil, List.length_cons, List.length_nil, List.replicate_succ, List.replicate_zero, List.cons_append, List.nil_append,
  List.append_nil, List.getElem?_cons_zero, List.getElem?_cons_succ, List.set_cons_zero, List.set_cons_succ, Option.some.injEq, exists_eq_left', exists_eq_left, true_and, and_true, true_implies, false_implies, implies_true, Bool.false_eq_true, reduceCtorEq, false_and, and_false, D.v.injEq, PyData.int.injEq, D.ref.injEq, p1i_int, p2_two, p3_three, decide_true, Bool.not_true, Bool.not_false, decide_eq_true_eq, decide_eq_false_iff_not, src_left, src_len, src_isL, src_cells]
    refine ⟨fun _ => ⟨fun h => ⟨fun h2 => ?_, fun h2 => ⟨s', rfl, ok⟩⟩, fun h => ⟨s', rfl, ok⟩⟩, fun h => ⟨s', rfl, ok⟩⟩
    obtain ⟨c, r, e⟩ : ∃ c r, s'.stk = c :: r := by
      cases es : s'.stk with
      | nil => rw [es] at h2; simp at h2
      | cons c r => exact ⟨c, r, rfl⟩
    have hr : s'.stk.length = r.length + 1 := by rw [e]; rfl
    simp only [src_pop e, envE, so_seq, so_if, so_ret, so_retN, so_exp, so_nil, so_nx, so_rt, so_asg, so_asgG, so_par2, so_par3, ok_gNm, ok_gMore, ok_gNone, so_asgT, so_sub, so_for, ok_TB, ok_Tru, ok_notT, ok_andT, ok_orT, ok_andV, ok_orV, ok_notV, ok_iteE, ok_frz, ok_new, ok_mfArg, ok_mfBin, ok_lc, ok_M, ok_M0, ok_moNone, ok_moSome, ok_Sl,
  ok_bin, ok_un, ok_arg, ok_cons, ok_nil, ok_call, ok_var, ok_C, ok_ok, ok_stuck, ok_noX, bOf_bool, low_v, iOf_int, addD_int, subD_int, negD_int, ltD_int, leD_int, gtD_int, geD_int, fInt_int, isD_bool, isNotD_bool, tru_bool, List.map_cons, List.map_nil, List.length_cons, List.length_nil, List.replicate_succ, List.replicate_zero, List.cons_append, List.nil_append,
  List.append_nil, List.getElem?_cons_zero, List.getElem?_cons_succ, List.set_cons_zero, List.set_cons_succ, Option.some.injEq, exists_eq_left', exists_eq_left, true_and, and_true, true_implies, false_implies, implies_true, Bool.false_eq_true, reduceCtorEq, false_and, and_false, D.v.injEq, PyData.int.injEq, D.ref.injEq, p1i_int, p2_two, p3_three, decide_true, Bool.not_true, Bool.not_false, decide_eq_true_eq, decide_eq_false_iff_not, set_left]
    have ok' : s'.stk.length < 1000000 := ok
    exact ⟨r.length, by omega, _, rfl, show r.length < 1000000 by omega, rfl⟩
  · rintro e st ⟨s1, rfl, rfl, ok⟩
    have pos : (0 : Int) < max 1 m := by omega
    have lt : max 1 m < 1073741824 := by omega
    unfold LB.S_law_pick_2 LB.S_law_pick_3
    simp only [envE, so_seq, so_if, so_ret, so_retN, so_exp, so_nil, so_nx, so_rt, so_asg, so_asgG, so_par2, so_par3, ok_gNm, ok_gMore, ok_gNone, so_asgT, so_sub, so_for, ok_TB, ok_Tru, ok_notT, ok_andT, ok_orT, ok_andV, ok_orV, ok_notV, ok_iteE, ok_frz, ok_new, ok_mfArg, ok_mfBin, ok_lc, ok_M, ok_M0, ok_moNone, ok_moSome, ok_Sl,
  ok_bin, ok_un, ok_arg, ok_cons, ok_nil, ok_call, ok_var, ok_C, ok_ok, ok_stuck, ok_noX, bOf_bool, low_v, iOf_int, addD_int, subD_int, negD_int, ltD_int, leD_int, gtD_int, geD_int, fInt_int, isD_bool, isNotD_bool, tru_bool, List.map_cons, List.map_nil, List.length_cons, List.length_nil, List.replicate_succ, List.replicate_zero, List.cons_append, List.nil_append,
  List.append_nil, List.getElem?_cons_zero, List.getElem?_cons_succ, List.set_cons_zero, List.set_cons_succ, Option.some.injEq, exists_eq_left', exists_eq_left, true_and, and_true, true_implies, false_implies, implies_true, Bool.false_eq_true, reduceCtorEq, false_and, and_false, D.v.injEq, PyData.int.injEq, D.ref.injEq, p1i_int, p2_two, p3_three, decide_true, Bool.not_true, Bool.not_false, decide_eq_true_eq, decide_eq_false_iff_not, src_left, set_left, bMax_int, fdivD_int pos lt, modD_int pos]
    have fin : ∃ (r : Int) (s' : Src), s1.left % max 1 m = r ∧ List.take (List.length (s.sto rest)) (({ s1 with left := s1.left / max 1 m } : Src).sto rest) = s'.sto rest ∧ s'.ok ∧ 0 ≤ r ∧ (1 ≤ m → r < m) ∧ (m ≤ 0 → r = 0) := by
      refine ⟨_, _, rfl, take_sto, ok, Int.emod_nonneg _ (by omega), fun z => ?_, fun z => ?_⟩
      · rw [show max 1 m = m by omega]
        exact Int.emod_lt_of_pos _ (by omega)
      · rw [show max 1 m = 1 by omega]
        exact Int.emod_one _
    refine ⟨fun _ => fin, fun h => ⟨fun _ => fin, fun h2 => ?_⟩⟩
    unfold LB.S_law_pick_4 LB.S_law_pick_5 LB.S_law_pick_6 LB.S_law_pick_7 LB.S_law_pick_8
    simp only [envE, so_seq, so_if, so_ret, so_retN, so_exp, so_nil, so_nx, so_rt, so_asg, so_asgG, so_par2, so_par3, ok_gNm, ok_gMore, ok_gNone, so_asgT, so_sub, so_for, ok_TB, ok_Tru, ok_notT, ok_andT, ok_orT, ok_andV, ok_orV, ok_notV, ok_iteE, ok_frz, ok_new, ok_mfArg, ok_mfBin, ok_lc, ok_M, ok_M0, ok_moNone, ok_moSome, ok_Sl,
  ok_bin, ok_un, ok_arg, ok_cons, ok_nil, ok_call, ok_var, ok_C, ok_ok, ok_stuck, ok_noX, bOf_bool, low_v, iOf_int, addD_int, subD_int, negD_int, ltD_int, leD_int, gtD_int, geD_int, fInt_int, isD_bool, isNotD_bool, tru_bool, List.map_cons, List.map_nil, List.length_cons, List.length_nil, List.replicate_succ, List.replicate_zero, List.cons_append, List.nil_append,
  List.append_nil, List.getElem?_cons_zero, List.getElem?_cons_succ, List.set_cons_zero, List.set_cons_succ, Option.some.injEq, exists_eq_left', exists_eq_left, true_and, and_true, true_implies, false_implies, implies_true, Bool.false_eq_true, reduceCtorEq, false_and, and_false, D.v.injEq, PyData.int.injEq, D.ref.injEq, p1i_int, p2_two, p3_three, decide_true, Bool.not_true, Bool.not_false, decide_eq_true_eq, decide_eq_false_iff_not, src_turn, set_turn, src_mixed, set_mixed, mulD_r (show -(2 ^ 64) < (104729 : Int) ∧ (104729 : Int) < 2 ^ 64 by decide), mulD_r (show -(2 ^ 64) < (17 : Int) ∧ (17 : Int) < 2 ^ 64 by decide), modD_int (show (0 : Int) < 998244353 by decide), modD_int (show (0 : Int) < 2147483647 by decide), modD_int (show (0 : Int) < m by omega),
      fdivD_int (show (0 : Int) < 16 by decide) (by decide)]
    rw [mulD_l (sq_small (Int.emod_nonneg _ (by decide)) (Int.emod_lt_of_pos _ (by decide)))]
    simp only [envE, so_seq, so_if, so_ret, so_retN, so_exp, so_nil, so_nx, so_rt, so_asg, so_asgG, so_par2, so_par3, ok_gNm, ok_gMore, ok_gNone, so_asgT, so_sub, so_for, ok_TB, ok_Tru, ok_notT, ok_andT, ok_orT, ok_andV, ok_orV, ok_notV, ok_iteE, ok_frz, ok_new, ok_mfArg, ok_mfBin, ok_lc, ok_M, ok_M0, ok_moNone, ok_moSome, ok_Sl,
  ok_bin, ok_un, ok_arg, ok_cons, ok_nil, ok_call, ok_var, ok_C, ok_ok, ok_stuck, ok_noX, bOf_bool, low_v, iOf_int, addD_int, subD_int, negD_int, ltD_int, leD_int, gtD_int, geD_int, fInt_int, isD_bool, isNotD_bool, tru_bool, List.map_cons, List.map_nil, List.length_cons, List.length_nil, List.replicate_succ, List.replicate_zero, List.cons_append, List.nil_append,
  List.append_nil, List.getElem?_cons_zero, List.getElem?_cons_succ, List.set_cons_zero, List.set_cons_succ, Option.some.injEq, exists_eq_left', exists_eq_left, true_and, and_true, true_implies, false_implies, implies_true, Bool.false_eq_true, reduceCtorEq, false_and, and_false, D.v.injEq, PyData.int.injEq, D.ref.injEq, p1i_int, p2_two, p3_three, decide_true, Bool.not_true, Bool.not_false, decide_eq_true_eq, decide_eq_false_iff_not, src_turn, set_mixed, mulD_r (show -(2 ^ 64) < (17 : Int) ∧ (17 : Int) < 2 ^ 64 by decide), modD_int (show (0 : Int) < 2147483647 by decide), modD_int (show (0 : Int) < m by omega), fdivD_int (show (0 : Int) < 16 by decide) (by decide)]
    exact ⟨_, _, rfl, take_sto, ok, Int.emod_nonneg _ (by omega), fun _ => Int.emod_lt_of_pos _ (by omega), fun z => by omega⟩
theorem sto_app {s : Src} {rest : Sto} {o : O} : s.sto rest ++ [o] = s.sto (rest ++ [o]) := rfl
theorem sto_at {s : Src} {rest more : Sto} {o : O} : (s.sto (rest ++ o :: more))[rest.length + 2]? = some o := by
  show (rest ++ o :: more)[rest.length]? = _
  rw [List.getElem?_append_right (Nat.le_refl _), Nat.sub_self]
  rfl
theorem sto_set {s : Src} {rest : Sto} {o u : O} : (s.sto (rest ++ [o])).set (rest.length + 2) u = s.sto (rest ++ [u]) := by
  show _ :: _ :: (rest ++ [o]).set rest.length u = _
  rw [List.set_append_right _ _ (Nat.le_refl _), Nat.sub_self]
  rfl
theorem sto_len {s : Src} {rest : Sto} : (s.sto rest).length = rest.length + 2 := rfl
theorem sto_take {s : Src} {rest more : Sto} : (s.sto (rest ++ more)).take (rest.length + 2) = s.sto rest := by
  show _ :: _ :: (rest ++ more).take rest.length = _
  rw [List.take_left]
  rfl
theorem perm_out {α : Type} : ∀ (l : List α) (k : Nat) (h : k < l.length), (l[k] :: l.eraseIdx k).Perm l
  | [], k, h => absurd h (Nat.not_lt_zero _)
  | a :: l, 0, h => .refl _
  | a :: l, k + 1, h => (List.Perm.swap a _ _).trans ((perm_out l k (Nat.lt_of_succ_lt_succ h)).cons a)
def Shuf (f : FF) : Prop := ∀ (s : Src) (rest : Sto) (d : D) (xs : List PyData), s.ok → viewS (s.sto rest) d = some xs → xs.length ≤ 1000000 → (f [.ref 1, d] (s.sto rest)).Ok fun r st => ∃ (ys : List PyData) (s' : Src), r = .v (.list ys) ∧ st = s'.sto rest ∧ s'.ok ∧ ys.Perm xs
theorem shuf_ok {pick : FF} (hp : Pick pick) : Shuf (fnT 4 (sSeq (sAsg (mNew (mfArg gList (mCons (mVar 1) mNil))) (gNm 2)) (sRet (mFrz (mLc (miR1 (mCons (mArg fLen (mCons (mVar 2) mNil)) mNil)) (gNm 3) mYes
    (mM fmPopAt (mVar 2) (mCons (mCall pick (mCons (mVar 0) (mCons (mArg fLen (mCons (mVar 2) mNil)) mNil)) []) mNil)) [3]))))) := by
  intro s rest d xs hs hv hl
  refine fnT_ok ?_
  simp only [envE, so_seq, so_if, so_ret, so_retN, so_exp, so_nil, so_nx, so_rt, so_asg, so_asgG, so_par2, so_par3, ok_gNm, ok_gMore, ok_gNone, so_asgT, so_sub, so_for, ok_TB, ok_Tru, ok_notT, ok_andT, ok_orT, ok_andV, ok_orV, ok_notV, ok_iteE, ok_frz, ok_new, ok_mfArg, ok_mfBin, ok_lc, ok_M, ok_M0, ok_moNone, ok_moSome, ok_Sl,
  ok_bin, ok_un, ok_arg, ok_cons, ok_nil, ok_call, ok_var, ok_C, ok_ok, ok_stuck, ok_noX, bOf_bool, low_v, iOf_int, addD_int, subD_int, negD_int, ltD_int, leD_int, gtD_int, geD_int, fInt_int, isD_bool, isNotD_bool, tru_bool, List.map_cons, List.map_nil, List.length_cons, List.length_nil, List.replicate_succ, List.replicate_zero, List.cons_append, List.nil_append,
  List.append_nil, List.getElem?_cons_zero, List.getElem?_cons_succ, List.set_cons_zero, List.set_cons_succ, Option.some.injEq, exists_eq_left', exists_eq_left, true_and, and_true, true_implies, false_implies, implies_true, Bool.false_eq_true, reduceCtorEq, false_and, and_false, D.v.injEq, PyData.int.injEq, D.ref.injEq, p1i_int, p2_two, p3_three, decide_true, Bool.not_true, Bool.not_false, decide_eq_true_eq, decide_eq_false_iff_not, list_of hv, ok_R1, sto_len, sto_app]
  rw [len_of (xs := xs) (viewS_ref sto_at)]
  simp only [envE, so_seq, so_if, so_ret, so_retN, so_exp, so_nil, so_nx, so_rt, so_asg, so_asgG, so_par2, so_par3, ok_gNm, ok_gMore, ok_gNone, so_asgT, so_sub, so_for, ok_TB, ok_Tru, ok_notT, ok_andT, ok_orT, ok_andV, ok_orV, ok_notV, ok_iteE, ok_frz, ok_new, ok_mfArg, ok_mfBin, ok_lc, ok_M, ok_M0, ok_moNone, ok_moSome, ok_Sl,
  ok_bin, ok_un, ok_arg, ok_cons, ok_nil, ok_call, ok_var, ok_C, ok_ok, ok_stuck, ok_noX, bOf_bool, low_v, iOf_int, addD_int, subD_int, negD_int, ltD_int, leD_int, gtD_int, geD_int, fInt_int, isD_bool, isNotD_bool, tru_bool, List.map_cons, List.map_nil, List.length_cons, List.length_nil, List.replicate_succ, List.replicate_zero, List.cons_append, List.nil_append,
  List.append_nil, List.getElem?_cons_zero, List.getElem?_cons_succ, List.set_cons_zero, List.set_cons_succ, Option.some.injEq, exists_eq_left', exists_eq_left, true_and, and_true, true_implies, false_implies, implies_true, Bool.false_eq_true, reduceCtorEq, false_and, and_false, D.v.injEq, PyData.int.injEq, D.ref.injEq, p1i_int, p2_two, p3_three, decide_true, Bool.not_true, Bool.not_false, decide_eq_true_eq, decide_eq_false_iff_not]
  refine ⟨by omega, ?_⟩
  have e0 : wipeE [some (D.ref 1), some d, some (D.ref (rest.length + 2)), none] [3] = [some (D.ref 1), some d, some (D.ref (rest.length + 2)), none] := rfl
  rw [e0]
  refine (lcL_inv (P := fun zs st => ∃ (ys : List PyData) (s' : Src), PyData.list zs = PyData.list ys ∧ List.take (rest.length + 2) st = s'.sto rest ∧ s'.ok ∧ ys.Perm xs) (n := 0) (acc := []) (fun i acc st => ∃ (s' : Src) (zs : List PyData), st = s'.sto (rest ++ [.lst zs]) ∧ s'.ok ∧ zs.length + i = xs.length ∧ (acc ++ zs).Perm xs) (rngI 0 (xs.length : Int).toNat) _ ?_ ?_ ⟨s, xs, rfl, hs, by omega, .refl _⟩).mono fun zs st q => q
  · rintro i d1 acc st hd ⟨s1, zs, rfl, ok, hz, hp1⟩
    obtain ⟨hi, rfl⟩ := rngI_get hd
    rw [Nat.zero_add] at hz
    refine ⟨trivial, ?_⟩
    rw [ok_gNm]
    simp only [List.set_cons_succ, List.set_cons_zero]
    show (Out.ok true _).Ok _
    rw [ok_ok]
    refine ⟨fun _ => ?_, fun z => nomatch z⟩
    simp only [envE, so_seq, so_if, so_ret, so_retN, so_exp, so_nil, so_nx, so_rt, so_asg, so_asgG, so_par2, so_par3, ok_gNm, ok_gMore, ok_gNone, so_asgT, so_sub, so_for, ok_TB, ok_Tru, ok_notT, ok_andT, ok_orT, ok_andV, ok_orV, ok_notV, ok_iteE, ok_frz, ok_new, ok_mfArg, ok_mfBin, ok_lc, ok_M, ok_M0, ok_moNone, ok_moSome, ok_Sl,
  ok_bin, ok_un, ok_arg, ok_cons, ok_nil, ok_call, ok_var, ok_C, ok_ok, ok_stuck, ok_noX, bOf_bool, low_v, iOf_int, addD_int, subD_int, negD_int, ltD_int, leD_int, gtD_int, geD_int, fInt_int, isD_bool, isNotD_bool, tru_bool, List.map_cons, List.map_nil, List.length_cons, List.length_nil, List.replicate_succ, List.replicate_zero, List.cons_append, List.nil_append,
  List.append_nil, List.getElem?_cons_zero, List.getElem?_cons_succ, List.set_cons_zero, List.set_cons_succ, Option.some.injEq, exists_eq_left', exists_eq_left, true_and, and_true, true_implies, false_implies, implies_true, Bool.false_eq_true, reduceCtorEq, false_and, and_false, D.v.injEq, PyData.int.injEq, D.ref.injEq, p1i_int, p2_two, p3_three, decide_true, Bool.not_true, Bool.not_false, decide_eq_true_eq, decide_eq_false_iff_not, isL_ref sto_at]
    rw [len_of (xs := zs) (viewS_ref sto_at)]
    simp only [envE, so_seq, so_if, so_ret, so_retN, so_exp, so_nil, so_nx, so_rt, so_asg, so_asgG, so_par2, so_par3, ok_gNm, ok_gMore, ok_gNone, so_asgT, so_sub, so_for, ok_TB, ok_Tru, ok_notT, ok_andT, ok_orT, ok_andV, ok_orV, ok_notV, ok_iteE, ok_frz, ok_new, ok_mfArg, ok_mfBin, ok_lc, ok_M, ok_M0, ok_moNone, ok_moSome, ok_Sl,
  ok_bin, ok_un, ok_arg, ok_cons, ok_nil, ok_call, ok_var, ok_C, ok_ok, ok_stuck, ok_noX, bOf_bool, low_v, iOf_int, addD_int, subD_int, negD_int, ltD_int, leD_int, gtD_int, geD_int, fInt_int, isD_bool, isNotD_bool, tru_bool, List.map_cons, List.map_nil, List.length_cons, List.length_nil, List.replicate_succ, List.replicate_zero, List.cons_append, List.nil_append,
  List.append_nil, List.getElem?_cons_zero, List.getElem?_cons_succ, List.set_cons_zero, List.set_cons_succ, Option.some.injEq, exists_eq_left', exists_eq_left, true_and, and_true, true_implies, false_implies, implies_true, Bool.false_eq_true, reduceCtorEq, false_and, and_false, D.v.injEq, PyData.int.injEq, D.ref.injEq, p1i_int, p2_two, p3_three, decide_true, Bool.not_true, Bool.not_false, decide_eq_true_eq, decide_eq_false_iff_not]
    refine (hp s1 (rest ++ [.lst zs]) zs.length (by omega) ok).mono ?_
    rintro r st ⟨r, s2, rfl, rfl, ok2, h0, h1, _⟩
    have hr := h1 (by omega)
    obtain ⟨k, rfl⟩ : ∃ k : Nat, r = k := ⟨r.toNat, by omega⟩
    have hk : k < zs.length := by omega
    rw [pop_at sto_at hk (by omega), ok_ok, sto_set]
    refine ⟨_, rfl, s2, _, rfl, ok2, by rw [List.length_eraseIdx_of_lt hk]; omega, ?_⟩
    refine List.Perm.trans ?_ hp1
    rw [List.append_assoc]
    refine List.Perm.append_left _ ?_
    exact perm_out zs k hk
  · rintro acc st ⟨s1, zs, rfl, ok, hz, hp1⟩
    refine ⟨trivial, ?_⟩
    have e : zs = [] := List.eq_nil_of_length_eq_zero (by
      have e2 : (rngI 0 (xs.length : Int).toNat).length = xs.length := by unfold rngI; rw [List.length_map, List.length_range]; omega
      omega)
    subst e
    rw [List.append_nil] at hp1
    exact ⟨acc, s1, rfl, sto_take, ok, hp1⟩
theorem shufB : Shuf LB.f_law_mixed := shuf_ok pickB_ok
def OneOf (f : FF) : Prop := ∀ (s : Src) (rest : Sto) (xs : List PyData), s.ok → 0 < xs.length → xs.length ≤ 1000000 → (f [.ref 1, .v (.list xs)] (s.sto rest)).Ok fun r st => ∃ (z : PyData) (s' : Src), r = .v z ∧ z ∈ xs ∧ st = s'.sto rest ∧ s'.ok
theorem oneOf_ok {pick : FF} (hp : Pick pick) : OneOf (fnT 2 (sRet (mBin subsD (mVar 1) (mCall pick (mCons (mVar 0) (mCons (mArg fLen (mCons (mVar 1) mNil)) mNil)) [])))) := by
  intro s rest xs hs h0 hl
  refine fnT_ok ?_
  simp only [envE, so_seq, so_if, so_ret, so_retN, so_exp, so_nil, so_nx, so_rt, so_asg, so_asgG, so_par2, so_par3, ok_gNm, ok_gMore, ok_gNone, so_asgT, so_sub, so_for, ok_TB, ok_Tru, ok_notT, ok_andT, ok_orT, ok_andV, ok_orV, ok_notV, ok_iteE, ok_frz, ok_new, ok_mfArg, ok_mfBin, ok_lc, ok_M, ok_M0, ok_moNone, ok_moSome, ok_Sl,
  ok_bin, ok_un, ok_arg, ok_cons, ok_nil, ok_call, ok_var, ok_C, ok_ok, ok_stuck, ok_noX, bOf_bool, low_v, iOf_int, addD_int, subD_int, negD_int, ltD_int, leD_int, gtD_int, geD_int, fInt_int, isD_bool, isNotD_bool, tru_bool, List.map_cons, List.map_nil, List.length_cons, List.length_nil, List.replicate_succ, List.replicate_zero, List.cons_append, List.nil_append,
  List.append_nil, List.getElem?_cons_zero, List.getElem?_cons_succ, List.set_cons_zero, List.set_cons_succ, Option.some.injEq, exists_eq_left', exists_eq_left, true_and, and_true, true_implies, false_implies, implies_true, Bool.false_eq_true, reduceCtorEq, false_and, and_false, D.v.injEq, PyData.int.injEq, D.ref.injEq, p1i_int, p2_two, p3_three, decide_true, Bool.not_true, Bool.not_false, decide_eq_true_eq, decide_eq_false_iff_not, len_list]
  refine (hp s rest xs.length (by omega) hs).mono ?_
  rintro r st ⟨r, s2, rfl, rfl, ok2, h0, h1, _⟩
  have hr := h1 (by omega)
  obtain ⟨k, rfl⟩ : ∃ k : Nat, r = k := ⟨r.toNat, by omega⟩
  have hk : k < xs.length := by omega
  rw [sub_list (List.getElem?_eq_getElem hk)]
  exact ⟨rfl, xs[k], s2, rfl, List.getElem_mem hk, take_sto, ok2⟩
theorem oneOfB : OneOf LB.f_law_of := oneOf_ok pickB_ok
def Opens (f : FF) : Prop := ∀ ns : List Int, ns.length < 1000000 → (f [.scr ns] []).Ok fun r st => ∃ s : Src, r = .ref 1 ∧ st = s.sto [] ∧ s.ok
theorem abs_map {env0 : Ev} {st : Sto} {i : Nat} (h : i < env0.length) (ns : List Int) : lcL none (gNm i) mYes (mArg fAbs (mCons (mVar i) mNil)) env0 (ns.map fun n => .one (.v (.int n))) st = .ok (ns.map fun n => PyData.int n.natAbs) st := by
  rw [lcL_map (fun d => match d with | .one (.v (.int n)) => some (.int n.natAbs) | _ => none)]
  · congr 1
    rw [List.filterMap_map]
    induction ns with
    | nil => rfl
    | cons n r ih => rw [List.filterMap_cons, List.map_cons, ih]; rfl
  · intro d hd
    obtain ⟨n, _, rfl⟩ := List.mem_map.mp hd
    rw [ok_gNm]
    refine ⟨rfl, ?_⟩
    show (Out.ok true st).Ok _
    rw [ok_ok]
    refine ⟨rfl, fun _ => ?_, fun z => nomatch z⟩
    simp only [ok_arg, ok_cons, ok_var, ok_nil, List.getElem?_set_self h, Option.some.injEq, exists_eq_left', fAbs_int, ok_ok]
    exact ⟨trivial, _, rfl, rfl⟩
theorem mix_for {k : Nat} {j : Nat} {env0 : Ev} (hj : j ≠ 1) (h1 : 1 < env0.length) (hj2 : j < env0.length) (ns : List Int) {st : Sto} {N : Ev → Sto → Prop} {T : D → Sto → Prop} {x : Int} (e1 : env0[1]? = some (some (.v (.int x))))
    (h : ∀ (e : Ev) (y : Int), e.length = env0.length → (∀ i, i ≠ 1 → i ≠ j → e[i]? = env0[i]?) → e[1]? = some (some (.v (.int y))) → N e st) :
    (forL none (gNm j) (sAsg (mBin modD (mArg fInt (mCons (mBin addD (mBin addD (mBin mulD (mVar 1) (mC (.int 69069))) (mBin mulD (mVar j) (mC (.int 31)))) (mC (.int 5))) mNil)) (mC (.int 2147483629))) (gNm 1)) (ns.map fun n => .one (.v (.int n))) env0 st).Ok N T := by
  refine forL_inv (fun _ e s => s = st ∧ e.length = env0.length ∧ (∀ i, i ≠ 1 → i ≠ j → e[i]? = env0[i]?) ∧ ∃ y : Int, e[1]? = some (some (.v (.int y)))) _ _ _ 0 ?_ ?_ ⟨rfl, rfl, fun _ _ _ => rfl, x, e1⟩
  · rintro i d e s hd ⟨rfl, hl, ho, y, ey⟩
    rw [List.getElem?_map] at hd
    obtain ⟨n, _, rfl⟩ := Option.map_eq_some_iff.mp hd
    refine ⟨trivial, ?_⟩
    have e2 : (e.set j (some (D.v (.int n))))[1]? = some (some (.v (.int y))) := by rw [List.getElem?_set_ne hj]; exact ey
    have e3 : (e.set j (some (D.v (.int n))))[j]? = some (some (.v (.int n))) := List.getElem?_set_self (by omega)
    rw [ok_gNm]
    simp only [so_asg, ok_bin, ok_arg, ok_cons, ok_var, ok_C, ok_nil, e2, e3, Option.some.injEq, exists_eq_left', mulD_r (show -(2 ^ 64) < (69069 : Int) ∧ (69069 : Int) < 2 ^ 64 by decide), mulD_r (show -(2 ^ 64) < (31 : Int) ∧ (31 : Int) < 2 ^ 64 by decide), ok_ok, addD_int, fInt_int, modD_int (show (0 : Int) < 2147483629 by decide)]
    refine ⟨trivial, by rw [List.length_set, List.length_set]; exact hl, fun i h1 h2 => ?_, _, List.getElem?_set_self (by rw [List.length_set]; omega)⟩
    rw [List.getElem?_set_ne (Ne.symm h1), List.getElem?_set_ne (Ne.symm h2)]
    exact ho i h1 h2
  · rintro e s ⟨rfl, hl, ho, y, ey⟩
    exact ⟨trivial, h e y hl ho ey⟩
theorem ok_rev {m : ME} {env : Ev} {st : Sto} {P : List PyData → Sto → Prop} : (mfRev m env st).Ok P ↔ (m env st).Ok fun a s => ∃ xs, viewL s a = some xs ∧ P xs.reverse s := by
  unfold mfRev
  rw [ok_bind]
  constructor
  · intro h
    refine h.mono fun d s q => ?_
    split at q
    · rename_i xs e
      exact ⟨xs, e, q⟩
    · exact q.elim
  · intro h
    refine h.mono fun d s ⟨xs, e, q⟩ => ?_
    rw [e]
    exact q
theorem ok_prs0 {env : Ev} {st : Sto} {P : List (D × D) → Sto → Prop} : (mPrs [] env st).Ok P ↔ P [] st := Iff.rfl
theorem ok_prs1 {a b : ME} {r : List (ME × ME)} {env : Ev} {st : Sto} {P : List (D × D) → Sto → Prop} : (mPrs ((a, b) :: r) env st).Ok P ↔ (a env st).Ok fun x s1 => (b env s1).Ok fun y s2 => (mPrs r env s2).Ok fun ps s3 => P ((x, y) :: ps) s3 := by
  show ((a env st).bind _).Ok P ↔ _
  simp only [ok_bind, ok_ok]
theorem ok_disp {prs : List (ME × ME)} {env : Ev} {st : Sto} {P : D → Sto → Prop} : (mDisp prs env st).Ok P ↔ (mPrs prs env st).Ok fun ps s => ∃ kvs, keysOf ps = some kvs ∧ (kvs.length ≤ 15 ∧ (kvs.all fun p => p.2.low s.length) = true) ∧ P (.ref s.length) (s ++ [.dct false (putAll [] kvs)]) := by
  unfold mDisp
  rw [ok_bind, ok_noX]
  constructor
  · intro h
    refine h.mono fun d s q => ?_
    split at q
    · rename_i xs e
      split at q
      · rename_i hc
        exact ⟨xs, e, hc, q⟩
      · exact q.elim
    · exact q.elim
  · intro h
    refine h.mono fun d s ⟨xs, e, hc, q⟩ => ?_
    rw [e]
    show (if _ then _ else _ : Out D).Ok P
    rw [if_pos hc]
    exact q
theorem keysC {x y z : D} {w : D} : keysOf [(.v (.str "cells"), x), (.v (.str "left"), y), (.v (.str "mixed"), z), (.v (.str "turn"), w)] = some [(.str "cells", x), (.str "left", y), (.str "mixed", z), (.str "turn", w)] := rfl
theorem putC {x y z : D} {w : D} : putAll [] [(.str "cells", x), (.str "left", y), (.str "mixed", z), (.str "turn", w)] = [(.str "cells", x), (.str "left", y), (.str "mixed", z), (.str "turn", w)] := by rfl
theorem opens_disp {ns : List Int} {y : Int} {P : D → Sto → Prop} {st : Sto} (hs : st = [.lst ((ns.map fun n => PyData.int n.natAbs).reverse)]) (hl : ns.length < 1000000) (h : ∀ s : Src, s.ok → P (.ref 1) (s.sto [])) :
    ∃ kvs, keysOf [(.v (.str "cells"), .ref 0), (.v (.str "left"), .v (.int 1)), (.v (.str "mixed"), .v (.int y)), (.v (.str "turn"), .v (.int 0))] = some kvs ∧ (kvs.length ≤ 15 ∧ (kvs.all fun p => p.2.low st.length) = true) ∧ P (.ref st.length) (st ++ [.dct false (putAll [] kvs)]) := by
  subst hs
  refine ⟨_, keysC, ⟨by simp, by rfl⟩, ?_⟩
  rw [putC]
  have z := h ⟨ns.map fun n => (n.natAbs : Int), 1, y, 0⟩ (by show (ns.map _).length < 1000000; rw [List.length_map]; exact hl)
  have e : (Src.mk (ns.map fun n => (n.natAbs : Int)) 1 y 0).sto [] = [.lst ((ns.map fun n => PyData.int n.natAbs).reverse)] ++ [.dct false [(.str "cells", .ref 0), (.str "left", .v (.int 1)), (.str "mixed", .v (.int y)), (.str "turn", .v (.int 0))]] := by
    show ([O.lst (((ns.map fun n => (n.natAbs : Int)).reverse).map PyData.int), _] : Sto) = _
    rw [← List.map_reverse, List.map_map, ← List.map_reverse]
    rfl
  rw [e] at z
  exact z
theorem opensB : Opens LB.f_law_source := by
  intro ns hl
  refine fnK_ok ?_
  unfold LB.S_law_source LB.S_law_source_2 LB.law_source_E1
  simp only [envE, so_seq, so_if, so_ret, so_retN, so_exp, so_nil, so_nx, so_rt, so_asg, so_asgG, so_par2, so_par3, ok_gNm, ok_gMore, ok_gNone, so_asgT, so_sub, so_for, ok_TB, ok_Tru, ok_notT, ok_andT, ok_orT, ok_andV, ok_orV, ok_notV, ok_iteE, ok_frz, ok_new, ok_mfArg, ok_mfBin, ok_lc, ok_M, ok_M0, ok_moNone, ok_moSome, ok_Sl,
  ok_bin, ok_un, ok_arg, ok_cons, ok_nil, ok_call, ok_var, ok_C, ok_ok, ok_stuck, ok_noX, bOf_bool, low_v, iOf_int, addD_int, subD_int, negD_int, ltD_int, leD_int, gtD_int, geD_int, fInt_int, isD_bool, isNotD_bool, tru_bool, List.map_cons, List.map_nil, List.length_cons, List.length_nil, List.replicate_succ, List.replicate_zero, List.cons_append, List.nil_append,
  List.append_nil, List.getElem?_cons_zero, List.getElem?_cons_succ, List.set_cons_zero, List.set_cons_succ, Option.some.injEq, exists_eq_left', exists_eq_left, true_and, and_true, true_implies, false_implies, implies_true, Bool.false_eq_true, reduceCtorEq, false_and, and_false, D.v.injEq, PyData.int.injEq, D.ref.injEq, p1i_int, p2_two, p3_three, decide_true, Bool.not_true, Bool.not_false, decide_eq_true_eq, decide_eq_false_iff_not, ok_seq, seqW_scr]
  refine mix_for (k := 0) (j := 2) (x := 11) (by decide) (by simp) (by simp) ns rfl fun e y hl2 ho ey => ?_
  unfold LB.S_law_source_3 LB.law_source_E2
  have e0 : e[0]? = some (some (.scr ns)) := ho 0 (by decide) (by decide)
  have hl3 : e.length = 3 := hl2
  simp only [so_ret, ok_disp, ok_prs1, ok_prs0, ok_C, ok_new, ok_rev, ok_frz, ok_lc, ok_var, e0, ey, ok_seq, seqW_scr, ok_ok, Option.some.injEq, exists_eq_left']
  have hw : 2 < (wipeE e [2]).length := by show 2 < (e.set 2 none).length; rw [List.length_set]; omega
  unfold LB.law_source_G2 LB.law_source_T1 LB.law_source_M1
  rw [abs_map hw, ok_ok]
  refine ⟨_, rfl, ?_⟩
  exact opens_disp (y := y) (P := fun d st => ∃ s : Src, d = .ref 1 ∧ st = s.sto [] ∧ s.ok) (st := [O.lst ((ns.map fun n => PyData.int n.natAbs).reverse)]) rfl hl fun s hs => ⟨s, rfl, rfl, hs⟩
end Fw
namespace Fw
open PySem PySem.Spec PyProof.Rows L2
structure Rep (d : PyData) (w k : Nat) : Prop where
  sh : d.showable = true
  nd : d.hasDict = false
  ls : d.leavesShort 13 = true
  can : d.canLay0 = true
  bulk : d.bulk ≤ w
  dep : d.depth ≤ k
section
variable {d e : PyData} {w k w' k' : Nat} {xs ys : List PyData} {st : Sto}
theorem Rep.mono (r : Rep d w k) (h1 : w ≤ w') (h2 : k ≤ k') : Rep d w' k' := ⟨r.sh, r.nd, r.ls, r.can, Nat.le_trans r.bulk h1, Nat.le_trans r.dep h2⟩
theorem rep_none : Rep .none w k := ⟨rfl, rfl, rfl, rfl, by simp [PyData.bulk], by simp [PyData.depth]⟩
theorem rep_int {i : Int} (h : i.natAbs < 10 ^ 12) : Rep (.int i) w k := by
  refine ⟨?_, rfl, ?_, rfl, by simp [PyData.bulk], by simp [PyData.depth]⟩
  · simp only [PyData.showable, decide_eq_true_eq]
    by_cases h0 : i.natAbs = 0
    · rw [h0]; decide
    · have := (Nat.log2_lt h0 (k := 40)).mpr (Nat.lt_trans h (by decide))
      omega
  · simp only [PyData.leavesShort, decide_eq_true_eq]
    exact PyData.shown_int_le h
theorem rep_all (h : ∀ x ∈ xs, Rep x w k) : PyData.showableAll xs = true ∧ PyData.hasDictAll xs = false ∧ PyData.leavesShortAll 13 xs = true ∧ PyData.canLayAll0 xs = true ∧ PyData.bulkAll xs ≤ xs.length * (w + 1) ∧ PyData.depthAll xs ≤ k := by
  induction xs with
  | nil => exact ⟨rfl, rfl, rfl, rfl, by simp [PyData.bulkAll], by simp [PyData.depthAll]⟩
  | cons x r ih =>
    obtain ⟨a, b, c, e, f, g⟩ := ih fun y hy => h y (List.mem_cons_of_mem _ hy)
    have hx := h x List.mem_cons_self
    refine ⟨by rw [PyData.showableAll, hx.sh, a]; rfl, by rw [PyData.hasDictAll, hx.nd, b]; rfl, by rw [PyData.leavesShortAll, hx.ls, c]; rfl, by rw [PyData.canLayAll0, hx.can, e]; rfl, ?_, ?_⟩
    · rw [PyData.bulkAll, List.length_cons, Nat.add_mul, Nat.one_mul]
      have := hx.bulk
      omega
    · rw [PyData.depthAll]
      exact Nat.max_le.mpr ⟨hx.dep, g⟩
theorem rep_tup (h : ∀ x ∈ xs, Rep x w k) (hl : xs.length ≤ w') : Rep (.tuple xs) (w' * (w + 1)) (k + 1) := by
  obtain ⟨a, b, c, e, f, g⟩ := rep_all h
  exact ⟨by rw [PyData.showable]; exact a, by rw [PyData.hasDict]; exact b, by rw [PyData.leavesShort]; exact c, by rw [PyData.canLay0]; exact e, by rw [PyData.bulk]; exact Nat.le_trans f (Nat.mul_le_mul_right _ hl), by rw [PyData.depth]; exact Nat.succ_le_succ g⟩
theorem rep_ints {is : List Int} (h : ∀ i ∈ is, i.natAbs < 10 ^ 12) (hl : is.length ≤ w') : Rep (.tuple (is.map .int)) w' 1 := by
  have z := rep_tup (xs := is.map .int) (w := 0) (k := 0) (w' := w') (fun x hx => by
    obtain ⟨i, hi, rfl⟩ := List.mem_map.mp hx
    exact rep_int (h i hi)) (by rw [List.length_map]; exact hl)
  rw [Nat.zero_add, Nat.mul_one] at z
  exact z
theorem repr_of0 (r : Rep d w k) (h1 : w ≤ 60000 := by decide) (h2 : k ≤ 60 := by decide) : fRepr [.v d] st = .ok (.v (.str d.shown)) st := by
  have hl := PyData.shown_le_bulk 13 (by decide) d r.ls
  have hb := r.bulk
  show (if _ then _ else _ : Out D) = _
  rw [if_pos]
  simp only [Bool.and_eq_true, Bool.not_eq_true', decide_eq_true_eq]
  refine ⟨⟨⟨r.sh, r.nd⟩, Nat.le_trans r.dep h2⟩, ?_⟩
  show _ ≤ 1000000
  omega
theorem repr_of (r : Rep d w k) (h1 : w ≤ 60000 := by decide) (h2 : k ≤ 60 := by decide) : fReprK [.v d] st = .ok (.v (.str d.shown)) st := by
  show (if noL d && d.showable && decide (d.depth ≤ 60) && decide (d.shown.length ≤ lim) then Out.ok (D.v (.str d.shown)) st else fRepr [.v d] st) = _
  split
  · rfl
  · exact repr_of0 r h1 h2
theorem shaped_of (r : Rep d w k) (h2 : k ≤ 60 := by decide) : SeqAt.shaped d = true := by
  unfold SeqAt.shaped
  rw [r.can, Bool.true_and]
  exact decide_eq_true (Nat.le_trans r.dep (by omega))
@[simp] theorem eqD_str {x y : Str} : eqD (.v (.str x)) (.v (.str y)) st = .ok (.v (.bool (decide (x = y)))) st := rfl
@[simp] theorem neD_str {x y : Str} : neD (.v (.str x)) (.v (.str y)) st = .ok (.v (.bool (!decide (x = y)))) st := rfl
theorem eqT_of (hd : SeqAt.shaped d = true) (he : SeqAt.shaped e = true) : eqT st (.v d) (.v e) = some (PyData.eqv d e) := by
  show (if SeqAt.shaped d && SeqAt.shaped e then some (PyData.eqv d e) else none) = _
  rw [hd, he]
  rfl
theorem shaped_int {i : Int} : SeqAt.shaped (.int i) = true := by
  unfold SeqAt.shaped
  simp [PyData.canLay0, PyData.depth]
theorem eqS_int {i j : Int} : eqS st (.v (.int i)) (.v (.int j)) = some (decide (i = j)) := by
  refine (eqT_of (st := st) shaped_int shaped_int).trans ?_
  simp only [PyData.eqv]
  exact congrArg some (Bool.eq_iff_iff.mpr (by simp))
@[simp] theorem eqD_int {i j : Int} : eqD (.v (.int i)) (.v (.int j)) st = .ok (.v (.bool (decide (i = j)))) st := by
  unfold eqD
  rw [eqS_int]
end
end Fw
namespace Fw
open PySem PySem.Spec PyProof.Rows L2
section
variable {st : Sto} {xs ys : List PyData} {a b c e : PyData} {is js : List Int}
@[simp] theorem disp0 : gDisp [] st = .ok [] st := rfl
@[simp] theorem disp1 : gDisp [.v a] st = .ok [a] st := rfl
@[simp] theorem disp2 : gDisp [.v a, .v b] st = .ok [a, b] st := rfl
@[simp] theorem disp3 : gDisp [.v a, .v b, .v c] st = .ok [a, b, c] st := rfl
@[simp] theorem tup0 : fTup [] st = .ok (.v (.tuple [])) st := rfl
@[simp] theorem tup1 : fTup [.v a] st = .ok (.v (.tuple [a])) st := rfl
@[simp] theorem tup2 : fTup [.v a, .v b] st = .ok (.v (.tuple [a, b])) st := rfl
theorem intsOf_map : ∀ is : List Int, intsOf (is.map .int) = some is
  | [] => rfl
  | i :: r => by
    show (intsOf (r.map .int)).map (i :: ·) = _
    rw [intsOf_map r]
    rfl
theorem sum_tup : fSum [.v (.tuple (is.map .int))] st = .ok (.v (.int is.sum)) st := by
  show (match intsOf (is.map .int) with
    | some ns => _
    | none => _) = _
  rw [intsOf_map]
theorem cut_take {α : Type} (l : List α) (k : Nat) : cutP l none (some (k : Int)) = l.take k := by
  unfold cutP
  rw [HT.sIx_none, HT.sIx_nat, List.drop_zero, Nat.sub_zero]
  rcases Nat.le_total k l.length with h | h
  · rw [Nat.min_eq_left h]
  · rw [Nat.min_eq_right h, List.take_length, List.take_of_length_le h]
theorem cut_drop {α : Type} (l : List α) (k : Nat) : cutP l (some (k : Int)) none = l.drop k := by
  unfold cutP
  rw [HT.sIx_none, HT.sIx_nat]
  rcases Nat.le_total k l.length with h | h
  · rw [Nat.min_eq_left h, List.take_of_length_le (by rw [List.length_drop]; omega)]
  · rw [Nat.min_eq_right h, Nat.sub_self, List.drop_eq_nil_of_le h]
    rfl
theorem slice_list {lo hi : Option Int} : slD (.v (.list xs)) lo hi st = .ok (.v (.list (cutP xs lo hi))) st := rfl
theorem slice_tup {lo hi : Option Int} : slD (.v (.tuple xs)) lo hi st = .ok (.v (.tuple (cutP xs lo hi))) st := rfl
theorem rep_list0 {k : Int} (h1 : -1000000 ≤ k ∧ k ≤ 1000000) (h : xs.length * k.toNat ≤ 1000000) : gRep (.v (.list xs)) (.v (.int k)) st = .ok (List.replicate k.toNat xs).flatten st := by
  show (if -1000000 ≤ k ∧ k ≤ 1000000 ∧ xs.length * k.toNat ≤ lim then _ else _) = _
  rw [if_pos ⟨h1.1, h1.2, h⟩]
theorem rep_one {n : Nat} (h : n ≤ 1000000) : gRep (.v (.list [a])) (.v (.int n)) st = .ok (List.replicate n a) st := by
  rw [rep_list0 ⟨by omega, by omega⟩ (by rw [List.length_singleton, Int.toNat_natCast]; omega), Int.toNat_natCast]
  congr 1
  induction n with
  | zero => rfl
  | succ n ih => rw [List.replicate_succ, List.replicate_succ, List.flatten_cons, ih (by omega)]; rfl
end
section
variable {m : MA} {env : Ev} {st : Sto} {P : List Itm × Wt → Sto → Prop} {xs ys : List PyData} {is js : List Int}
def enumW (ds : List D) (s1 : Sto) : Out (List Itm × Wt) := match ds with
  | [d] => match seqI s1 d with
    | some (zs, w) => .ok (enumI zs, w) s1
    | none => .stuck
  | _ => .stuck
theorem ok_enum : (miEnum m env st).Ok P ↔ (m env st).Ok fun ds s => (enumW ds s).Ok P := ok_bind
theorem enum_tup : enumW [.v (.tuple xs)] st = .ok (enumI xs, none) st := rfl
theorem ok_gTp2 {i j : Nat} {x y : D} {Q : Ev → Sto → Prop} : (gTp 2 (gMore (gNm i) (gMore (gNm j) gNone)) (.many [x, y]) env st).Ok Q ↔ Q ((env.set i (some x)).set j (some y)) st := Iff.rfl
theorem ok_yes {Q : Bool → Sto → Prop} : (mYes env st).Ok Q ↔ Q true st := Iff.rfl
theorem rngI_nat {n : Nat} : rngI 0 n = (List.range n).map fun i : Nat => .one (.v (.int i)) := by
  unfold rngI
  exact List.map_congr_left fun i _ => by rw [Int.zero_add]
end
theorem lcL_mapA {α : Type} {g : MG} {t : MT} {m : ME} {env0 : Ev} {st : Sto} (f : α → Itm) (F : α → Option PyData) : ∀ (l : List α),
    (∀ a ∈ l, (g (f a) env0 st).Ok fun e1 s1 => s1 = st ∧ (t e1 st).Ok fun k s2 => s2 = st ∧ (k = true → (m e1 st).Ok fun v s3 => s3 = st ∧ ∃ z, v = .v z ∧ F a = some z) ∧ (k = false → F a = none)) →
    lcL none g t m env0 (l.map f) st = .ok (l.filterMap F) st
  | [], _ => by
    unfold List.map lcL
    rw [if_pos (show chk none st from trivial)]
    rfl
  | a :: r, h => by
    have ih := lcL_mapA f F r fun d hd => h d (List.mem_cons_of_mem _ hd)
    obtain ⟨e1, s1, eg, rfl, q⟩ := (h a List.mem_cons_self).eq
    obtain ⟨k, s2, et, rfl, q1, q2⟩ := q.eq
    rw [List.map_cons]
    unfold lcL
    rw [if_pos (show chk none s2 from trivial), eg, noX_ok, bind_ok, et, noX_ok, bind_ok]
    cases k with
    | true =>
      obtain ⟨v, s3, em, rfl, z, rfl, ez⟩ := (q1 rfl).eq
      rw [if_pos rfl, em, noX_ok, bind_ok]
      show (lcL none g t m env0 (r.map f) s3).bind _ = _
      rw [ih, bind_ok, List.filterMap_cons, ez]
    | false =>
      rw [if_neg Bool.false_ne_true, ih, List.filterMap_cons, q2 rfl]
theorem lcL_all {α : Type} {g : MG} {m : ME} {env0 : Ev} {st : Sto} (f : α → Itm) (F : α → PyData) (l : List α)
    (h : ∀ a ∈ l, (g (f a) env0 st).Ok fun e1 s1 => s1 = st ∧ (m e1 st).Ok fun v s3 => s3 = st ∧ v = .v (F a)) : lcL none g mYes m env0 (l.map f) st = .ok (l.map F) st := by
  rw [lcL_mapA f (fun a => some (F a)) l fun a ha => ?_]
  · rw [List.filterMap_eq_map']
  · refine (h a ha).mono fun e1 s1 ⟨e, q⟩ => ⟨e, ?_⟩
    rw [ok_yes]
    exact ⟨rfl, fun _ => q.mono fun v s3 ⟨e3, ev⟩ => ⟨e3, _, ev, rfl⟩, fun z => nomatch z⟩
theorem lcL_draw {g : MG} {m : ME} {env0 : Ev} {rest : Sto} (Q : Itm → PyData → Prop) : ∀ (ds : List Itm) (s : Src), s.ok →
    (∀ d ∈ ds, ∀ s : Src, s.ok → (g d env0 (s.sto rest)).Ok fun e1 st1 => st1 = s.sto rest ∧ (m e1 (s.sto rest)).Ok fun v st2 => ∃ (z : PyData) (s' : Src), v = .v z ∧ st2 = s'.sto rest ∧ s'.ok ∧ Q d z) →
    (lcL none g mYes m env0 ds (s.sto rest)).Ok fun zs st => ∃ s' : Src, st = s'.sto rest ∧ s'.ok ∧ Paired Q ds zs
  | [], s, hs, _ => by
    unfold lcL
    rw [if_pos (show chk none (s.sto rest) from trivial)]
    exact ⟨s, rfl, hs, .nil⟩
  | d :: r, s, hs, h => by
    unfold lcL
    rw [if_pos (show chk none (s.sto rest) from trivial), ok_bind, ok_noX]
    refine (h d List.mem_cons_self s hs).mono ?_
    rintro e1 st1 ⟨rfl, q⟩
    show (Out.bind (Out.noX (Out.ok true _)) _).Ok _
    rw [noX_ok, bind_ok, if_pos rfl, ok_bind, ok_noX]
    refine q.mono ?_
    rintro v st2 ⟨z, s', rfl, rfl, ok', hq⟩
    show (Out.bind _ _).Ok _
    rw [ok_bind]
    refine (lcL_draw Q r s' ok' fun d hd => h d (List.mem_cons_of_mem _ hd)).mono ?_
    rintro zs st ⟨s2, rfl, ok2, f⟩
    exact ⟨s2, rfl, ok2, .cons hq f⟩
theorem paired_mem {α β : Type} {P : α → β → Prop} {ds : List α} {rs : List β} (h : Paired P ds rs) {b : β} (hb : b ∈ rs) : ∃ a ∈ ds, P a b := by
  induction h with
  | nil => cases hb
  | cons h _ ih =>
    rcases List.mem_cons.mp hb with rfl | hb
    · exact ⟨_, List.mem_cons_self, h⟩
    · obtain ⟨a, ha, q⟩ := ih hb
      exact ⟨a, List.mem_cons_of_mem _ ha, q⟩
end Fw
namespace Fw
open PySem PySem.Spec PyProof.Rows L2
abbrev nI (k : Nat) : PyData := .int (k : Int)
abbrev tNs (l : List Nat) : PyData := .tuple (l.map nI)
abbrev lNs (l : List Nat) : PyData := .list (l.map nI)
section
variable {st : Sto} {l row : List Nat} {k b : Nat} {e0 : Ev} {P : D → Sto → Prop}
theorem flat_nats (l : List Nat) : (l.map nI).all flatP = true := by
  rw [List.all_map]
  exact List.all_eq_true.mpr fun _ _ => rfl
theorem eqv_nat {a b : Nat} : PyData.eqv (nI a) (nI b) = decide (a = b) := by
  simp only [PyData.eqv]
  exact Bool.eq_iff_iff.mpr (by simp only [beq_iff_eq, decide_eq_true_eq]; omega)
theorem any_nat (l : List Nat) (b : Nat) : ((l.map nI).any fun y => PyData.eqv y (nI b)) = decide (b ∈ l) := by
  rw [List.any_map]
  induction l with
  | nil => rfl
  | cons a r ih =>
    rw [List.any_cons, ih]
    show (PyData.eqv (nI a) (nI b) || _) = _
    rw [eqv_nat]
    by_cases h : a = b
    · subst h; simp
    · have : ¬ b = a := fun z => h z.symm
      simp [h, this]
theorem inS_tup : inS st (.v (nI b)) (.v (tNs l)) = some (decide (b ∈ l)) := by
  show (if flatP (nI b) && (l.map nI).all flatP then some ((l.map nI).any fun y => PyData.eqv y (nI b)) else _) = _
  rw [flat_nats, any_nat]
  rfl
theorem in_tup : inU (.v (nI b)) (.v (tNs l)) st = .ok (.v (.bool (decide (b ∈ l)))) st := by
  show (match inS st (.v (nI b)) (.v (tNs l)) with
    | some k => Out.ok (D.v (.bool k)) st
    | none => .stuck) = _
  rw [inS_tup]
theorem notIn_tup : notInU (.v (nI b)) (.v (tNs l)) st = .ok (.v (.bool (!decide (b ∈ l)))) st := by
  show (match inS st (.v (nI b)) (.v (tNs l)) with
    | some k => Out.ok (D.v (.bool (!k))) st
    | none => .stuck) = _
  rw [inS_tup]
theorem idxP_nat : ∀ {l : List Nat} {b : Nat}, b ∈ l → idxP (nI b) (l.map nI) = some (l.idxOf b)
  | [], _, h => nomatch h
  | a :: r, b, h => by
    rw [List.map_cons]
    unfold idxP
    rw [eqv_nat]
    by_cases e : a = b
    · subst e
      simp
    · have hb : b ∈ r := (List.mem_cons.mp h).resolve_left fun z => e z.symm
      rw [if_neg (by simpa using e), idxP_nat hb, List.idxOf_cons]
      have e2 : (a == b) = false := by simpa using e
      rw [e2]
      rfl
theorem index_tN (h : b ∈ l) : fmIndex (.v (tNs l)) [.v (nI b)] st = .ok (.v (nI (l.idxOf b))) st := by
  show (if flatP (nI b) && (l.map nI).all flatP then _ else _ : Out D) = _
  have e : (flatP (nI b) && (l.map nI).all flatP) = true := by rw [flat_nats]; rfl
  rw [if_pos e, idxP_nat h]
theorem rep_tNs {w : Nat} (h : ∀ k ∈ l, k < 10 ^ 12) (hl : l.length ≤ w) : Rep (tNs l) w 1 := by
  have e : tNs l = .tuple ((l.map fun k : Nat => (k : Int)).map .int) := by
    rw [List.map_map]
    rfl
  rw [e]
  refine rep_ints (fun x hx => ?_) (by rw [List.length_map]; exact hl)
  obtain ⟨k, hk, rfl⟩ := List.mem_map.mp hx
  exact h k hk
end
theorem shaped_nil {t : List PyData → PyData} (h : t = .list ∨ t = .tuple) : SeqAt.shaped (t []) = true := by
  rcases h with rfl | rfl <;> (unfold SeqAt.shaped; simp [PyData.canLay0, PyData.canLayAll0, PyData.depth, PyData.depthAll])
theorem shaped_nats (l : List Nat) : SeqAt.shaped (lNs l) = true := by
  have key : ∀ l : List Nat, PyData.canLayAll0 (l.map nI) = true ∧ PyData.depthAll (l.map nI) = 0 := fun l => by
    induction l with
    | nil => exact ⟨rfl, rfl⟩
    | cons a r ih =>
      rw [List.map_cons, PyData.canLayAll0, PyData.depthAll, ih.1, ih.2]
      simp [PyData.canLay0, PyData.depth]
  unfold SeqAt.shaped
  rw [PyData.canLay0, PyData.depth, (key l).1, (key l).2]
  rfl
theorem ne_nilL {xs : List PyData} {st : Sto} (h : SeqAt.shaped (.list xs) = true) : neD (.v (.list xs)) (.v (.list [])) st = .ok (.v (.bool (!xs.isEmpty))) st := by
  unfold neD
  have e : eqS st (.v (.list xs)) (.v (.list [])) = some xs.isEmpty := by
    refine (eqT_of (st := st) h (shaped_nil (t := .list) (.inl rfl))).trans ?_
    rw [PyData.eqv]
    cases xs <;> simp [PyData.eqvAll]
  rw [e]
theorem eq_nilL {xs : List PyData} {st : Sto} (h : SeqAt.shaped (.list xs) = true) : eqD (.v (.list xs)) (.v (.list [])) st = .ok (.v (.bool xs.isEmpty)) st := by
  unfold eqD
  have e : eqS st (.v (.list xs)) (.v (.list [])) = some xs.isEmpty := by
    refine (eqT_of (st := st) h (shaped_nil (t := .list) (.inl rfl))).trans ?_
    rw [PyData.eqv]
    cases xs <;> simp [PyData.eqvAll]
  rw [e]
theorem ok_Index {mo : ME} {ma : MA} {env : Ev} {st : Sto} {P : D → Sto → Prop} : (mIndex mo ma env st).Ok P ↔ (mo env st).Ok fun o s => (isL s o || isT o) = true ∧ (ma env s).Ok fun ds s2 => (fmIndex o ds s2).Ok P := by
  unfold mIndex
  rw [ok_bind]
  constructor
  · intro h
    refine h.mono fun d s q => ?_
    split at q
    · rename_i e
      exact ⟨e, ok_bind.mp q⟩
    · exact q.elim
  · intro h
    refine h.mono fun d s ⟨e, q⟩ => ?_
    rw [if_pos e]
    exact ok_bind.mpr q
@[simp] theorem isT_tup {xs : List PyData} : isT (.v (.tuple xs)) = true := rfl
def P2i (ds : List D) (f : Int → Int → Prop) : Prop := match ds with
  | [.v (.int i), .v (.int j)] => f i j
  | _ => False
@[simp] theorem p2i_int {i j : Int} {f : Int → Int → Prop} : P2i [.v (.int i), .v (.int j)] f ↔ f i j := Iff.rfl
theorem ok_R2 {m : MA} {env : Ev} {st : Sto} {P : List Itm × Wt → Sto → Prop} : (miR2 m env st).Ok P ↔ (m env st).Ok fun ds s => P2i ds fun i j => (-1000000 ≤ i ∧ i ≤ 1000000 ∧ -1000000 ≤ j ∧ j ≤ 1000000) ∧ P (rngI i (j - i).toNat, none) s := by
  unfold miR2
  rw [ok_bind]
  constructor
  · intro h
    refine h.mono fun ds s q => ?_
    split at q
    · split at q
      · rename_i i j e1 e2
        split at q
        · rename_i hb
          have ed := iOf_eq e1
          have ee := iOf_eq e2
          subst ed ee
          exact ⟨hb, q⟩
        · exact q.elim
      · exact q.elim
    · exact q.elim
  · intro h
    refine h.mono fun ds s q => ?_
    unfold P2i at q
    split at q
    · rename_i i j
      show (if -1000000 ≤ i ∧ i ≤ 1000000 ∧ -1000000 ≤ j ∧ j ≤ 1000000 then Out.ok (rngI i (j - i).toNat, none) s else .stuck).Ok P
      rw [if_pos q.1]
      exact q.2
    · exact q.elim
def ups (a n : Nat) : List Nat := (List.range (n - a)).map (a + ·)
theorem mem_ups {a n b : Nat} : b ∈ ups a n ↔ a ≤ b ∧ b < n := by
  unfold ups
  rw [List.mem_map]
  constructor
  · rintro ⟨i, hi, rfl⟩
    have := List.mem_range.mp hi
    omega
  · rintro ⟨h1, h2⟩
    exact ⟨b - a, List.mem_range.mpr (by omega), by omega⟩
theorem rng_ups {a n : Nat} : rngI (a : Int) ((n : Int) - (a : Int)).toNat = (ups a n).map fun b : Nat => .one (.v (nI b)) := by
  unfold rngI ups
  rw [List.map_map, show ((n : Int) - (a : Int)).toNat = n - a by omega]
  refine List.map_congr_left fun i _ => ?_
  show Itm.one (.v (.int ((a : Int) + (i : Int)))) = .one (.v (.int ((a + i : Nat) : Int)))
  rw [Int.natCast_add]
theorem cat_list {xs ys : List PyData} {st : Sto} (h : xs.length + ys.length ≤ 1000000) : gCat (.v (.list xs)) (.v (.list ys)) st = .ok (xs ++ ys) st := by
  show (if xs.length + ys.length ≤ lim then _ else _) = _
  rw [if_pos (show xs.length + ys.length ≤ lim from h)]
end Fw
namespace Fw
open PySem PySem.Spec PyProof.Rows L2
section
variable {prog : Program} {w : World} {A : Around} {E : Value → Shared → Prop} {s : Shared}
end
section
variable {X : Cx} {W : XW} {e : Expr} {m : ME} {k : Nat} {p1 p2 p3 pos : Pos}
end
section
variable {st : Sto} {rest : Sto} {xs : List PyData} {z : PyData}
theorem ne_bool {a b : Bool} : neD (.v (.bool a)) (.v (.bool b)) st = .ok (.v (.bool (a != b))) st := by
  cases a <;> cases b <;> rfl
theorem lcL_some {α : Type} {g : MG} {t : MT} {m : ME} {env0 : Ev} (f : α → Itm) (F : α → PyData) : ∀ (l : List α) (s : Src), s.ok →
    (∀ a ∈ l, ∀ s : Src, s.ok → (g (f a) env0 (s.sto rest)).Ok fun e1 st1 => st1 = s.sto rest ∧ (t e1 (s.sto rest)).Ok fun k st2 => ∃ s' : Src, st2 = s'.sto rest ∧ s'.ok ∧ (m e1 (s'.sto rest)).Ok fun v st3 => v = .v (F a) ∧ st3 = s'.sto rest) →
    (lcL none g t m env0 (l.map f) (s.sto rest)).Ok fun zs st => ∃ (s' : Src) (l' : List α), st = s'.sto rest ∧ s'.ok ∧ l'.Sublist l ∧ zs = l'.map F
  | [], s, hs, _ => by
    unfold List.map lcL
    rw [if_pos (show chk none (s.sto rest) from trivial)]
    exact ⟨s, [], rfl, hs, .slnil, rfl⟩
  | a :: r, s, hs, h => by
    rw [List.map_cons]
    unfold lcL
    rw [if_pos (show chk none (s.sto rest) from trivial), ok_bind, ok_noX]
    refine (h a List.mem_cons_self s hs).mono ?_
    rintro e1 st1 ⟨rfl, q⟩
    show (Out.bind (Out.noX _) _).Ok _
    rw [ok_bind, ok_noX]
    refine q.mono ?_
    rintro k st2 ⟨s2, rfl, ok2, q2⟩
    cases k with
    | true =>
      rw [if_pos rfl, ok_bind, ok_noX]
      refine q2.mono ?_
      rintro v st3 ⟨rfl, rfl⟩
      show (Out.bind _ _).Ok _
      rw [ok_bind]
      refine (lcL_some f F r s2 ok2 fun d hd => h d (List.mem_cons_of_mem _ hd)).mono ?_
      rintro zs st ⟨s3, l', rfl, ok3, hsub, rfl⟩
      exact ⟨s3, a :: l', rfl, ok3, hsub.cons₂ a, rfl⟩
    | false =>
      rw [if_neg Bool.false_ne_true]
      refine (lcL_some f F r s2 ok2 fun d hd => h d (List.mem_cons_of_mem _ hd)).mono ?_
      rintro zs st ⟨s3, l', rfl, ok3, hsub, rfl⟩
      exact ⟨s3, l', rfl, ok3, hsub.cons a, rfl⟩
theorem ok_gTpT {i j : Nat} {env : Ev} {x y : PyData} {Q : Ev → Sto → Prop} : (gTp 2 (gMore (gNm i) (gMore (gNm j) gNone)) (.one (.v (.tuple [x, y]))) env st).Ok Q ↔ Q ((env.set i (some (.v x))).set j (some (.v y))) st := Iff.rfl
def tyB : PyData → Bool
  | .dict kvs => !isTK kvs
  | _ => true
end
end Fw
namespace Fw
open PySem PySem.Spec PyProof.Rows L2
section
variable {K : PySem.W.Frag} {ι ι' : Gh} {st st' : Sto} {H H' : Hp}
structure Mk (ι : Gh) (st : Sto) (H : Hp) (ι' : Gh) (st' : Sto) (H' : Hp) : Prop where
  keep : ∀ q u, H q = some u → Frz ι st q → Frz ι' st' q ∧ H' q = some u
  pre : ∀ (n : Nat) (a : Addr), ι.ad[n]? = some a → ι'.ad[n]? = some a
theorem Mk.rp (m : Mk ι st H ι' st' H') {v : V} {d : PyData} (h : Rp (Frz ι st) H v d) : Rp (Frz ι' st') H' v d := Rp.mv (fun q u e f => let ⟨a, b⟩ := m.keep q u e f; ⟨a, .inl b⟩) h
theorem Mk.rpA (m : Mk ι st H ι' st' H') {v : List V} {d : List PyData} (h : RpA (Frz ι st) H v d) : RpA (Frz ι' st') H' v d := RpA.mv (fun q u e f => let ⟨a, b⟩ := m.keep q u e f; ⟨a, .inl b⟩) h
theorem Mk.rd (m : Mk ι st H ι' st' H') {x : V} : ∀ {d : D}, RD K ι st H x d → RD K ι' st' H' x d
  | .v d, h => m.rp h
  | .ref n, ⟨a, h1, h2⟩ => ⟨a, m.pre n a h1, h2⟩
  | .scr ns, ⟨a, h1, h2⟩ => ⟨a, h1, h2.imp id fun ⟨o, h, f⟩ => let ⟨a, b⟩ := m.keep _ _ h f; ⟨o, b, a⟩⟩
theorem Mk.rk (m : Mk ι st H ι' st' H') : ∀ {kvs : List (PyData × D)} {xs : List (Key × V)}, RK K ι st H kvs xs → RK K ι' st' H' kvs xs
  | _, _, .nil => .nil
  | _, _, .cons h r => .cons ⟨h.1, m.rd h.2⟩ (Mk.rk m r)
theorem Mk.rt (m : Mk ι st H ι' st' H') : ∀ {kvs : List (PyData × D)} {xs : List (List Key × V)}, RT K ι st H kvs xs → RT K ι' st' H' kvs xs
  | _, _, .nil => .nil
  | _, _, .cons h r => .cons ⟨h.1, m.rd h.2⟩ (Mk.rt m r)
theorem Mk.rtab (m : Mk ι st H ι' st' H') : ∀ {kvs : List (PyData × D)} {xs : List (NestedKey × Addr × V)}, RTab K ι st H kvs xs → RTab K ι' st' H' kvs xs
  | _, _, .nil => .nil
  | _, _, .cons h r => .cons ⟨h.1, m.rp h.2.1, m.rd h.2.2⟩ (Mk.rtab m r)
theorem Mk.rda (m : Mk ι st H ι' st' H') : ∀ {ds : List D} {xs : List V}, RDA K ι st H ds xs → RDA K ι' st' H' ds xs
  | _, _, .nil => .nil
  | _, _, .cons h r => .cons (m.rd h) (Mk.rda m r)
theorem Mk.ro (m : Mk ι st H ι' st' H') {a : Addr} (h : ∀ u, H a = some u → H' a = some u) : ∀ {o : O}, RO K ι st H a o → RO K ι' st' H' a o
  | .dead, _ => trivial
  | .lst _, ⟨xs, q, r⟩ => ⟨xs, h _ q, m.rpA r⟩
  | .dct false _, ⟨xs, q, r⟩ => ⟨xs, h _ q, m.rk r⟩
  | .dct true _, ⟨xs, q, r⟩ => ⟨xs, h _ q, m.rt r⟩
  | .lck false _, ⟨xs, o, q, r⟩ => ⟨xs, o, h _ q, m.rk r⟩
  | .lck true _, ⟨xs, o, q, r⟩ => ⟨xs, o, h _ q, m.rt r⟩
  | .tpl _, ⟨xs, o, q, r⟩ => ⟨xs, o, h _ q, m.rda r⟩
  | .tab _, ⟨xs, q, r⟩ => ⟨xs, h _ q, r.1, r.2.1, r.2.2.1, m.rtab r.2.2.2⟩
theorem mk_set {n : Nat} {o o' : O} {a : Addr} {u : HO} (h : st[n]? = some o) (hi : ι.ad[n]? = some a) (hl : o ≠ O.dead) : Mk ι st H ι (st.set n o') (upd H a u) :=
  ⟨fun q v e f => ⟨frz_set h hl f, by rw [upd_ne fun z => by subst z; exact hl (f.2 n o h hi)]; exact e⟩, fun _ _ e => e⟩
theorem SRel.unlock (R : SRel K ι st H) {n : Nat} {t : Bool} {kvs : List (PyData × D)} {o' : O} {a : Addr} {u : HO} (h : st[n]? = some (.lck t kvs)) (hi : ι.ad[n]? = some a) (hf : HF (upd H a u)) (ho : RO K ι (st.set n o') (upd H a u) a o') (hw : o'.low n = true) : SRel K ι (st.set n o') (upd H a u) := by
  have hl : O.lck t kvs ≠ O.dead := fun z => nomatch z
  have m := mk_set (H := H) (o' := o') (u := u) h hi hl
  refine ⟨by rw [List.length_set]; exact R.len, fun k v b hm hb => ?_, fun i j b v w hib hjb h1 h2 l1 l2 => ?_, fun k v hm => ?_, fun b hb => ⟨?_, fun k v hm hi' => ?_⟩, hf⟩
  · by_cases e : n = k
    · subst e
      rw [List.getElem?_set_self (List.getElem?_eq_some_iff.mp h).1] at hm
      cases hm
      rw [hi] at hb; cases hb
      exact ho
    · rw [List.getElem?_set_ne e] at hm
      by_cases ed : v = O.dead
      · subst ed; trivial
      · have nb : b ≠ a := fun z => by subst z; exact e (R.inj n k b _ v hi hb h hm hl ed)
        exact m.ro (fun z q => by rw [upd_ne nb]; exact q) (R.obj k v b hm hb)
  · have live : ∀ {i : Nat} {v : O}, (st.set n o')[i]? = some v → v ≠ O.dead → ∃ v', st[i]? = some v' ∧ v' ≠ O.dead := fun {i v} q l => by
      by_cases e : n = i
      · subst e; exact ⟨_, h, hl⟩
      · rw [List.getElem?_set_ne e] at q
        exact ⟨v, q, l⟩
    obtain ⟨v', a1, a2⟩ := live h1 l1
    obtain ⟨w', b1, b2⟩ := live h2 l2
    exact R.inj i j b v' w' hib hjb a1 b1 a2 b2
  · by_cases e : n = k
    · subst e
      rw [List.getElem?_set_self (List.getElem?_eq_some_iff.mp h).1] at hm
      rw [← Option.some.inj hm]
      exact hw
    · rw [List.getElem?_set_ne e] at hm
      exact R.low k v hm
  · obtain ⟨xs, e, d⟩ := (R.hid b hb).1
    have nb : b ≠ a := fun z => by subst z; exact hl ((R.hid b hb).2 n _ h hi)
    exact ⟨xs, by rw [upd_ne nb]; exact e, d⟩
  · by_cases e : n = k
    · subst e
      exact absurd ((R.hid b hb).2 n _ h hi') hl
    · rw [List.getElem?_set_ne e] at hm
      exact (R.hid b hb).2 k v hm hi'
end
def mLock (i : Nat) (m : ME) : ME := fun env st => match env[i]? with
  | some (some (.ref n)) => match st[n]? with
    | some (.dct false kvs) => (m env (st.set n (.lck false kvs))).bind fun d s1 => .ok d (s1.set n (.dct false kvs))
    | _ => .stuck
  | _ => .stuck
theorem x_lock {X : Cx} {W : XW} {e : Expr} {m : ME} (i : Nat) (h : PE X e (TEo X.K W m)) : PE X e (TEo X.K W (mLock i m)) := pe_wrap (pe_lock h) fun σ H Q q => by
  obtain ⟨ι, env, st, R, EV, p⟩ := q
  unfold mLock at p
  split at p
  · rename_i n e1
    split at p
    · rename_i kvs e2
      obtain ⟨x, hx, a, hi, rfl⟩ := EV.2 i _ e1
      obtain ⟨xs, hH, hk⟩ := R.obj n _ a e2 hi
      refine ⟨a, .dK xs, hH, trivial, fun od => ?_⟩
      have hlen : xs.length ≤ sizeLine := R.hf a _ hH
      have E1 : Ext ι st H ι (st.set n (.lck false kvs)) (upd H a (.frz od (.dK xs))) := Ext.write R e2 hi (fun z => nomatch z) (fun _ _ z => nomatch z)
      have R1 : SRel X.K ι (st.set n (.lck false kvs)) (upd H a (.frz od (.dK xs))) := R.write e2 hi (fun z => nomatch z) (fun _ _ z => nomatch z) (fun b u hb => by
        by_cases e : b = a
        · rw [e, upd_same] at hb; cases hb; exact hlen
        · rw [upd_ne e] at hb; exact R.hf b u hb) ⟨xs, od, upd_same, RK.ext E1 hk⟩ (R.low n (.dct false kvs) e2)
      have hn : n < st.length := (List.getElem?_eq_some_iff.mp e2).1
      have hset : (st.set n (.lck false kvs))[n]? = some (.lck false kvs) := List.getElem?_set_self hn
      refine ⟨ι, env, _, R1, EV.ext E1, Out.post_mono (Out.post_bind p) (fun d s1 q ι1 H1 x R2 E2 rd => ?_) fun _ _ z => z.ext E1⟩
      obtain ⟨l1, l2⟩ := E2.lk hset hi
      have hi1 := E2.pre n a hi
      have hfz : H1 a = some (.frz od (.dK xs)) := l2.trans upd_same
      refine ⟨hfz, fun hf => ?_⟩
      have m := mk_set (H := H1) (o' := .dct false kvs) (u := .dK xs) l1 hi1 (fun z => nomatch z)
      obtain ⟨xs', o', hf', hk'⟩ := R2.obj n _ a l1 hi1
      rw [hfz] at hf'
      cases hf'
      have hn1 : n < s1.length := (List.getElem?_eq_some_iff.mp l1).1
      have R3 : SRel X.K ι1 (s1.set n (.dct false kvs)) (upd H1 a (.dK xs)) := R2.unlock l1 hi1 hf ⟨xs, upd_same, m.rk hk'⟩ (R.low n (.dct false kvs) e2)
      refine q ι1 _ x R3 ⟨fun b u hb fb => ?_, fun k b hb => E2.pre k b hb, E2.hid, fun b hb => ?_, fun {k t l b} hk hb => ?_⟩ (m.rd rd)
      · obtain ⟨f1, k1⟩ := E1.keep b u hb fb
        obtain ⟨f2, k2⟩ := E2.keep b u k1 f1
        exact m.keep b u k2 f2
      · have nb : b ≠ a := fun z => by subst z; exact nomatch (R.hid b hb).2 n _ e2 hi
        rw [upd_ne nb, E2.keepZ b hb, upd_ne nb]
      · have nk : n ≠ k := fun z => by subst z; rw [e2] at hk; cases hk
        have nb : b ≠ a := fun z => by subst z; exact nk (R.inj n k b _ _ hi hb e2 hk (fun z => nomatch z) (fun z => nomatch z))
        obtain ⟨g1, g2⟩ := E2.lk (by rw [List.getElem?_set_ne nk]; exact hk) hb
        exact ⟨by rw [List.getElem?_set_ne nk]; exact g1, by rw [upd_ne nb, g2, upd_ne nb]⟩
    · exact p.elim
  · exact p.elim
def itemsI (kvs : List (PyData × D)) : List Itm := kvs.map fun p => .many [.v p.1, p.2]
def miItems (m : ME) : MI := fun env st => (m env st).bind fun d s1 => match d with
  | .ref n => match s1[n]? with
    | some (.lck false kvs) => .ok (itemsI kvs, none) s1
    | _ => .stuck
  | _ => .stuck
theorem kv_rp {F : Addr → Prop} {H : Hp} : ∀ {k : Key}, Rp F H (kV k) (kD k)
  | .inl i => .int i
  | .inr x => .str x
theorem rk_at {K : PySem.W.Frag} {ι : Gh} {st : Sto} {H : Hp} : ∀ {kvs : List (PyData × D)} {xs : List (Key × V)}, RK K ι st H kvs xs → kvs.length = xs.length ∧ ∀ (i : Nat) (p : PyData × D), kvs[i]? = some p → ∃ q : Key × V, xs[i]? = some q ∧ p.1 = kD q.1 ∧ RD K ι st H q.2 p.2
  | _, _, .nil => ⟨rfl, fun i p z => by simp at z⟩
  | _, _, .cons (a := p0) (b := q0) h r => by
    obtain ⟨h1, h2⟩ := rk_at r
    refine ⟨by rw [List.length_cons, List.length_cons, h1], fun i p e => ?_⟩
    cases i with
    | zero =>
      have e : p0 = p := by simpa using e
      subst e
      exact ⟨q0, rfl, h.1, h.2⟩
    | succ i => exact h2 i p (by simpa using e)
theorem i_items {X : Cx} {W : XW} {e : Expr} {m : ME} {apos cpos : Pos} {elts : List Expr} {kk : Nat} {tpos : Pos} (he : PE X e (TEo X.K W m)) (hbase : attributeBase e "items" X.env (eval e X.env) = eval e X.env := by rfl) (hline : (apos.endLine == cpos.line) = true := by rfl) :
    PI X (.Tuple elts kk tpos) (.Call (.Attribute e "items" apos) [] [] cpos) (TIo X.K W (miItems m)) :=
  pi_wrap (pi_items he hbase hline) fun σ H Rr q => by
    obtain ⟨ι, env, st, R, EV, p⟩ := q
    refine ⟨ι, env, st, R, EV, Out.post_mono (Out.post_bind p) (fun d s1 q ι1 H1 x R1 E1 rd => ?_) fun _ _ z => z⟩
    split at q
    · rename_i n
      obtain ⟨a, hi, rfl⟩ := rd
      split at q
      · rename_i kvs e2
        obtain ⟨xs, o, hH, hk⟩ := R1.obj n _ a e2 hi
        obtain ⟨hlen, hat⟩ := rk_at hk
        refine ⟨a, o, xs, rfl, hH, fun _ => q ι1 H1 _ R1 E1 ⟨fun i d ι2 s2 H2 hd R2 M hc => ?_, fun ι2 s2 H2 R2 M hc => ?_, ?_⟩⟩
        · obtain ⟨l1, l2⟩ := M.lk e2 hi
          unfold itemsI at hd
          rw [List.getElem?_map] at hd
          obtain ⟨pp, hp, rfl⟩ := Option.map_eq_some_iff.mp hd
          obtain ⟨⟨k, v⟩, hq, hk1, hv⟩ := hat i pp hp
          have hil : i < xs.length := (List.getElem?_eq_some_iff.mp hq).1
          refine ⟨⟨l2.trans hH, hil⟩, fun y H3 hy => ?_⟩
          obtain ⟨T, k', v', hq', rfl, hT, rfl⟩ := hy
          rw [hq] at hq'
          cases hq'
          exact ri_new R2 hT (show 2 ≤ 3 by decide) (.cons (by rw [hk1]; exact kv_rp) (.cons (M.rd hv) .nil))
        · obtain ⟨l1, l2⟩ := M.lk e2 hi
          unfold itemsI
          rw [List.length_map, hlen]
          exact ⟨l2.trans hH, Nat.le_refl _⟩
        · unfold itemsI
          rw [List.length_map, hlen]
          exact R1.hf a _ hH
      · exact q.elim
    · exact q.elim
section
variable {K : PySem.W.Frag} {ι : Gh} {st : Sto} {H : Hp}
end
section
variable {prog : Program} {w : World} {A : Around} {E : Value → Shared → Prop} {s : Shared}
theorem gather_tup {l : Addr} {us : List Value} {Q : List Value → Shared → Prop} (ht : IsTup s.heap l us.toArray) (hz : us.length ≤ sizeLine)
    (h : Q us { s with heap := (s.heap.push (seqObj "list" #[] 0)).update s.heap.objs.size (Obj.mapSeq (· ++ us.toArray)) }) : wpAny (model prog w) A (collect (.ref l)) Q E s := by
  obtain ⟨ob, g1, g2, k, g3⟩ := id ht
  have g1' : (s.heap.push (seqObj "list" #[] 0)).get? l = some ob := Heap.get?_push_of_some _ g1
  unfold collect
  refine wpAny_bind (wpAny_runValue (codeAny_builtin entry_proto_collect' ?_))
  show wpAny _ _ (do again (.builtin "list.__iadd__" ⟨[← newList [], .ref l], []⟩)) _ _ s
  refine wpAny_bind ?_
  refine wpAny_newList ?_
  refine wpAny_pure ⟨Code.quiet_builtin _ (by decide +kernel), ?_⟩
  refine codeAny_builtin entry_list_iadd' ?_
  show wpAny _ _ (Builtin.List.listExtendWith (.ref s.heap.objs.size) (.ref l) (.ref s.heap.objs.size)) _ _ { s with heap := s.heap.push (seqObj "list" #[] 0) }
  unfold Builtin.List.listExtendWith
  refine wpAny_bind (wpAny_typeOf (T := "tuple") ⟨ob, g1', g2⟩ ?_)
  rw [if_pos (by rw [show (Value.type "tuple" == Value.type "tuple") = true from rfl, Bool.or_true])]
  refine wpAny_bind (listItems_at g1' g3 ?_)
  refine wpAny_bind ?_
  refine listItems_at (xs := #[]) (n := 0) (Heap.get?_push_size _ rfl) rfl ?_
  rw [if_neg (by simp)]
  refine wpAny_bind ?_
  refine listUpdate_at (xs := #[]) (n := 0) (Heap.get?_push_size _ rfl) rfl ?_ (Nat.zero_le _) (by show (#[] ++ us.toArray).size ≤ sizeLine + 1; simp only [Array.size_append, List.size_toArray, List.length_nil]; omega)
  refine wpAny_pure ?_
  refine wpAny_bind (m := load s.heap.objs.size) ?_
  refine wpAny_load (get?_update_seq (Heap.get?_push_size _ rfl) _) ?_
  show wpAny _ _ (pure ((#[] : Array Value) ++ us.toArray).toList) Q E _
  have e : ((#[] : Array Value) ++ us.toArray).toList = us := by simp
  rw [e]
  exact wpAny_pure h
end
def gSortV : GA := fun ds st => match ds with
  | [.v (.tuple zs)] => match rowsOf zs with
    | some rs => if zs.length < 64 ∧ 1 ≤ (rs.headD []).length ∧ (rs.all (rowB (rs.headD []).length)) = true then .ok ((sortR rs).map fun r => .tuple (r.map .int)) st else .stuck
    | none => .stuck
  | _ => .stuck
end Fw
namespace Fw.LD
open PySem PySem.Spec PyProof.Rows L2 Fw
noncomputable abbrev f_do_want : FF := Fw.LC.f_do_want
noncomputable abbrev f_has_rather : FF := Fw.LC.f_has_rather
noncomputable abbrev f_law_place : FF := Fw.LC.f_law_place
noncomputable abbrev f_law_partner : FF := Fw.LC.f_law_partner
noncomputable abbrev f_law_want : FF := Fw.LC.f_law_want
noncomputable def law_pairings_E1 : MI := (miR2 (mCons (mBin addD (mVar 2) (mC (.int 1))) (mCons (mBin subsD (mVar 0) (mC (.int 0))) mNil)))
noncomputable def law_pairings_G1 : MG := (gNm 6)
noncomputable def law_pairings_T1 : MT := (mTru' (mCall f_law_want (mCons (mVar 0) (mCons (mVar 2) (mCons (mVar 6) mNil))) []))
noncomputable def law_pairings_M1 : ME := (mVar 6)
noncomputable def law_pairings_E2 : MI := (miSeq (mVar 5))
noncomputable def law_pairings_G2 : MG := (gNm 6)
noncomputable def law_pairings_T2 : MT := (mTB (mBin isD (mCall f_law_partner (mCons (mVar 4) (mCons (mVar 6) mNil)) []) (mC .none)))
noncomputable def law_pairings_M2 : ME := (mVar 6)
noncomputable def law_pairings_E3 : MI := (miSeq (mVar 5))
noncomputable def law_pairings_G3 : MG := (gNm 6)
noncomputable def law_pairings_T3 : MT := mYes
noncomputable def law_pairings_M3 : ME := (mArg fTuple (mCons (mFrz (mfArg gSortV (mCons (mBin addD (mVar 4) (mArg fTup (mCons (mArg fTup (mCons (mVar 2) (mCons (mVar 6) mNil))) mNil))) mNil))) mNil))
noncomputable def law_pairings_E4 : MI := (miSeq (mVar 1))
noncomputable def law_pairings_G4 : MG := (gNm 4)
noncomputable def law_pairings_B2 : MS := (sIf (mTB (mBin isD (mCall f_law_partner (mCons (mVar 4) (mCons (mVar 2) mNil)) []) (mC .none))) (sSeq (sAsg (mFrz (mLc law_pairings_E1 law_pairings_G1 law_pairings_T1 law_pairings_M1 [6])) (gNm 5)) (sSeq (sAsg (mFrz (mLc law_pairings_E2 law_pairings_G2 law_pairings_T2 law_pairings_M2 [6])) (gNm 5)) (sAsg (mFrz (mfBin gCat (mVar 3) (mFrz (mLc law_pairings_E3 law_pairings_G3 law_pairings_T3 law_pairings_M3 [6])))) (gNm 3)))) sNil)
noncomputable def law_pairings_B1_3 : MS := (sAsg (mVar 3) (gNm 1))
noncomputable def law_pairings_B1_2 : MS := (sSeq (sFor law_pairings_E4 law_pairings_G4 law_pairings_B2) law_pairings_B1_3)
noncomputable def law_pairings_E5 : MI := (miR1 (mCons (mBin subsD (mVar 0) (mC (.int 0))) mNil))
noncomputable def law_pairings_G5 : MG := (gNm 2)
noncomputable def law_pairings_B1 : MS := (sSeq (sAsg (mFrz (mfArg gList (mCons (mVar 1) mNil))) (gNm 3)) law_pairings_B1_2)
noncomputable def S_law_pairings_3 : MS := (sRet (mVar 1))
noncomputable def S_law_pairings_2 : MS := (sSeq (sFor law_pairings_E5 law_pairings_G5 law_pairings_B1) S_law_pairings_3)
noncomputable def S_law_pairings : MS := (sSeq (sAsg (mFrz (mfArg gDisp (mCons (mArg fTup mNil) mNil))) (gNm 1)) S_law_pairings_2)
noncomputable def f_law_pairings : FF := fnT 7 S_law_pairings
end Fw.LD
set_option maxHeartbeats 400000
namespace PySem.SeqAt
open AutoSeq1 (wpAny_loadPart')
open MeetsSeq
end PySem.SeqAt
namespace Fw
open PySem PySem.Spec PyProof.Rows L2
section
variable {X : Cx} {W : XW} {a b : Expr} {ma mb : ME}
end
end Fw
namespace Fw
open PySem PySem.Spec PyProof.Rows L2
section
variable {K : PySem.W.Frag} {ι ι' : Gh} {st st' : Sto} {H H' : Hp}
end
section
variable {X : Cx} {W : XW} {o i e : Expr} {mo mi me : ME} {pos tpos : Pos} {vs : Option (List Nat)}
end
def PD1 (K : PySem.W.Frag) (ι : Gh) (st : Sto) (H : Hp) (Q : VK) (kvs : List (PyData × D)) (st' : Sto) : Prop :=
  ∀ ι' H' xs p, SRel K ι' st' H' → Ext ι st H ι' st' H' → RK K ι' st' H' kvs xs → H' p = none → HF (upd H' p (.dK xs)) → Q (.ref p) (upd H' p (.dK xs))
theorem PD1.ext {K : PySem.W.Frag} {ι ι' : Gh} {st st' s2 : Sto} {H H' : Hp} {Q : VK} {kvs : List (PyData × D)} (h : PD1 K ι st H Q kvs s2) (e : Ext ι st H ι' st' H') : PD1 K ι' st' H' Q kvs s2 :=
  fun ι2 H2 xs p R E r => h ι2 H2 xs p R (e.trans E) r
section
variable {X : Cx} {W : XW} {kx vx tg iter : Expr} {ifs : List Expr} {scope : Scope} {own : List (Str × Nat)} {pos : Pos} {mi : MI} {g : MG} {t : MT} {mk mv : ME}
end
section
variable {st : Sto} {env : Ev} {N : Ev → Sto → Prop} {T : D → Sto → Prop}
end
end Fw
namespace Fw
open PySem PySem.Spec PyProof.Rows L2
section
variable {K : PySem.W.Frag} {ι ι1 : Gh} {st s1 : Sto} {H H1 : Hp}
theorem Mk.ev {ι' : Gh} {st' : Sto} {H' : Hp} (m : Mk ι st H ι' st' H') {σ : L2.St} {env : Ev} (h : EvR K ι st H σ env) : EvR K ι' st' H' σ env :=
  ⟨h.1, fun i d q => let ⟨x, h1, h2⟩ := h.2 i d q; ⟨x, h1, m.rd h2⟩⟩
end
def gSortW : GA := fun ds st => match ds with
  | [.v (.tuple [])] => .ok [] st
  | _ => gSortV ds st
def gSortU : GA := fun ds st => match ds with
  | [.v (.tuple _)] => gSortW ds st
  | _ => gSort ds st
end Fw
namespace Fw.LE
open PySem PySem.Spec PyProof.Rows L2 Fw
noncomputable abbrev f_do_want : FF := Fw.LC.f_do_want
noncomputable abbrev f_has_rather : FF := Fw.LC.f_has_rather
noncomputable abbrev f_law_pick : FF := Fw.LA.f_law_pick
noncomputable def law_trim_E1 : MI := (miSeq (mVar 2))
noncomputable def law_trim_G1 : MG := (gNm 3)
noncomputable def law_trim_T1 : MT := (mTB (mBin inU (mVar 1) (mBin subsD (mBin subsD (mVar 0) (mC (.int 1))) (mVar 3))))
noncomputable def law_trim_M1 : ME := (mVar 3)
noncomputable def law_trim_E2 : MI := (miEnum (mCons (mBin subsD (mVar 0) (mC (.int 1))) mNil))
noncomputable def law_trim_G2 : MG := (gTp 2 (gMore (gNm 1) (gMore (gNm 2) gNone)))
noncomputable def law_trim_T2 : MT := mYes
noncomputable def law_trim_M2 : ME := (mFrz (mLc law_trim_E1 law_trim_G1 law_trim_T1 law_trim_M1 [3]))
noncomputable def S_law_trim : MS := (sRet (mFrz (mLc law_trim_E2 law_trim_G2 law_trim_T2 law_trim_M2 [1, 2])))
noncomputable def f_law_trim : FF := fnT 4 S_law_trim
noncomputable def S_law_rather_2 : MS := (sRet (mBin ltD (mIndex (mVar 4) (mCons (mVar 2) mNil)) (mIndex (mVar 4) (mCons (mVar 3) mNil))))
noncomputable def S_law_rather : MS := (sSeq (sAsg (mFrz (mfBin gCat (mFrz (mfArg gList (mCons (mBin subsD (mBin subsD (mVar 0) (mC (.int 1))) (mVar 1)) mNil))) (mFrz (mfArg gDisp (mCons (mC .none) mNil))))) (gNm 4)) S_law_rather_2)
noncomputable def f_law_rather : FF := fnT 5 S_law_rather
noncomputable def law_flat_E1 : MI := (miSeq (mVar 0))
noncomputable def law_flat_G1 : MG := (gTp 2 (gMore (gNm 2) (gMore (gNm 3) gNone)))
noncomputable def law_flat_B1 : MS := (sAsg (mFrz (mfBin gCat (mVar 1) (mFrz (mfArg gDisp (mCons (mVar 2) (mCons (mVar 3) mNil)))))) (gNm 1))
noncomputable def S_law_flat_3 : MS := (sRet (mVar 1))
noncomputable def S_law_flat_2 : MS := (sSeq (sFor law_flat_E1 law_flat_G1 law_flat_B1) S_law_flat_3)
noncomputable def S_law_flat : MS := (sSeq (sAsg (mFrz (mfArg gDisp mNil)) (gNm 1)) S_law_flat_2)
noncomputable def f_law_flat : FF := fnT 4 S_law_flat
noncomputable def law_pairings_E1 : MI := (miSeq (mVar 3))
noncomputable def law_pairings_G1 : MG := (gNm 7)
noncomputable def law_pairings_T1 : MT := (mAndT (mTB (mBin gtD (mVar 7) (mVar 2))) (mTB (mBin notInU (mVar 7) (mVar 6))))
noncomputable def law_pairings_M1 : ME := (mBin addD (mVar 5) (mArg fTup (mCons (mArg fTup (mCons (mVar 2) (mCons (mVar 7) mNil))) mNil)))
noncomputable def law_pairings_B2_2 : MS := (sIf (mTB (mBin notInU (mVar 2) (mVar 6))) (sAsg (mFrz (mfBin gCat (mVar 4) (mFrz (mLc law_pairings_E1 law_pairings_G1 law_pairings_T1 law_pairings_M1 [7])))) (gNm 4)) sNil)
noncomputable def law_pairings_E2 : MI := (miSeq (mVar 1))
noncomputable def law_pairings_G2 : MG := (gNm 5)
noncomputable def law_pairings_B2 : MS := (sSeq (sAsg (mCall f_law_flat (mCons (mVar 5) mNil) []) (gNm 6)) law_pairings_B2_2)
noncomputable def law_pairings_B1_3 : MS := (sAsg (mFrz (mfBin gCat (mVar 1) (mVar 4))) (gNm 1))
noncomputable def law_pairings_B1_2 : MS := (sSeq (sFor law_pairings_E2 law_pairings_G2 law_pairings_B2) law_pairings_B1_3)
noncomputable def law_pairings_E3 : MI := (miEnum (mCons (mCall f_law_trim (mCons (mVar 0) mNil) []) mNil))
noncomputable def law_pairings_G3 : MG := (gTp 2 (gMore (gNm 2) (gMore (gNm 3) gNone)))
noncomputable def law_pairings_B1 : MS := (sSeq (sAsg (mFrz (mfArg gDisp mNil)) (gNm 4)) law_pairings_B1_2)
noncomputable def law_pairings_E4 : MI := (miSeq (mVar 1))
noncomputable def law_pairings_G4 : MG := (gNm 5)
noncomputable def law_pairings_T2 : MT := mYes
noncomputable def law_pairings_M2 : ME := (mArg fTuple (mCons (mFrz (mfArg gSortU (mCons (mVar 5) mNil))) mNil))
noncomputable def S_law_pairings_3 : MS := (sRet (mFrz (mLc law_pairings_E4 law_pairings_G4 law_pairings_T2 law_pairings_M2 [5])))
noncomputable def S_law_pairings_2 : MS := (sSeq (sFor law_pairings_E3 law_pairings_G3 law_pairings_B1) S_law_pairings_3)
noncomputable def S_law_pairings : MS := (sSeq (sAsg (mFrz (mfArg gDisp (mCons (mArg fTup mNil) mNil))) (gNm 1)) S_law_pairings_2)
noncomputable def f_law_pairings : FF := fnT 8 S_law_pairings
noncomputable abbrev f_partner_of : FF := Fw.LC.f_partner_of
end Fw.LE
namespace Fw
open PySem PySem.Spec PyProof.Rows L2
theorem RDs.app {K : PySem.W.Frag} {ι : Gh} {st : Sto} {H : Hp} : ∀ {xs ys : List V} {ds es : List D}, RDs K ι st H xs ds → RDs K ι st H ys es → RDs K ι st H (xs ++ ys) (ds ++ es)
  | _, _, _, _, .nil, s => s
  | _, _, _, _, .cons h r, s => .cons h (RDs.app r s)
end Fw
namespace L2
open PySem PySem.Spec PyProof.Rows
section
variable {X : Cx} {e : Expr} {te : TE} {p apos cpos pos : Pos}
end
end L2
namespace Fw
open PySem PySem.Spec PyProof.Rows L2
end Fw
namespace Fw
open PySem PySem.Spec PyProof.Rows L2
section
variable {X : Cx} {W : XW} {elt tg iter tg1 iter1 : Expr} {ifs ifs1 : List Expr} {scope : Scope} {own own1 : List (Str × Nat)} {pos : Pos} {mi mi1 : MI} {g g1 : MG} {t t1 : MT} {m : ME}
end
def isK (st : Sto) (d : D) : Bool := (viewK st d).isSome
theorem isK_at {K : PySem.W.Frag} {ι : Gh} {st : Sto} {H : Hp} (R : SRel K ι st H) {o : D} {x : V} (e : isK st o = true) (r : RD K ι st H x o) : ∃ a, x = .ref a ∧ IsD H a := by
  obtain ⟨⟨b, kvs⟩, e1⟩ := Option.isSome_iff_exists.mp e
  obtain ⟨a, rfl, h⟩ := viewK_at R e1 r
  refine ⟨a, rfl, ?_⟩
  rcases h with ⟨_, xs, h1, _⟩ | ⟨_, xs, h1, _⟩
  · exact .inl ⟨xs, h1⟩
  · exact .inr ⟨xs, h1⟩
end Fw
namespace L2
open PySem PySem.Spec PyProof.Rows
section
variable {X : Cx}
end
end L2
namespace Fw
open PySem PySem.Spec PyProof.Rows L2
section
variable {K : PySem.W.Frag} {ι : Gh} {st : Sto} {H : Hp}
end
section
variable {X : Cx} {W : XW} {a b : Expr} {m ma mb : ME} {p q pos pos2 : Pos}
end
end Fw
namespace Fw.LF
open PySem PySem.Spec PyProof.Rows L2 Fw
noncomputable abbrev f_do_want : FF := Fw.LC.f_do_want
noncomputable abbrev f_has_rather : FF := Fw.LC.f_has_rather
noncomputable abbrev f_law_pick : FF := Fw.LA.f_law_pick
noncomputable abbrev f_law_trim : FF := Fw.LE.f_law_trim
noncomputable abbrev f_law_rather : FF := Fw.LE.f_law_rather
end Fw.LF
namespace Fw
open PySem PySem.Spec PyProof.Rows L2
end Fw
namespace RZ
open PySem PySem.Spec PyProof.Rows L2
end RZ
namespace Fw
open PySem PySem.Spec PyProof.Rows L2
end Fw
namespace Fw
open PySem PySem.Spec PyProof.Rows L2
end Fw
namespace L2
open PySem PySem.Spec PyProof.Rows
section
variable {X : Cx} {pins : List (Addr × Obj)} {σ : St} {H : Hp} {s : Shared} {a b : Addr} {kvs more : List (Key × V)} {A : Around} {E : Value → Shared → Prop}
end
end L2
namespace Fw
open PySem PySem.Spec PyProof.Rows L2
end Fw
namespace RZ
open PySem PySem.Spec PyProof.Rows L2
end RZ
namespace Fw
open PySem PySem.Spec PyProof.Rows L2
end Fw
namespace Fw
open PySem PySem.Spec PyProof.Rows L2
end Fw
namespace Fw
open PySem PySem.Spec PyProof.Rows L2
open PySem.W (AllAlike Sortable dataLe dataLt alike alikeAll sortVals dataKind sortingHeap EachIs)
section
variable {prog : Program} {w : World} {A : Around} {E : Value → Shared → Prop} {s : Shared} {M : Model}
theorem mapM_fun {α β : Type} {f : α → Sem β} (g : α → β) : ∀ (l : List α) {Q : List β → Shared → Prop}, (∀ v ∈ l, ∀ Q' : β → Shared → Prop, Q' (g v) s → wpAny M A (f v) Q' E s) → Q (l.map g) s → wpAny M A (l.mapM f) Q E s
  | [], _, _, h => by rw [List.mapM_nil]; exact wpAny_pure h
  | x :: l, Q, hf, h => by
    rw [List.mapM_cons]
    exact wpAny_bind (hf x (.head _) _ (wpAny_bind (mapM_fun g l (Q := fun bs s' => wpAny M A (pure (g x :: bs)) Q E s') (fun v hv => hf v (.tail _ hv)) (wpAny_pure h))))
def fstV (h : Heap) (v : Value) : Option Value := match v with
  | .ref a => match h.get? a with
    | some o => match o.data with
      | .seq xs _ => xs[0]?
      | _ => none
    | none => none
  | _ => none
theorem tups_kind {vs : List Value} {ds : List PyData} {Q : SortKind → Shared → Prop} (e : EachIs (fun v d => ∃ as, Reads s.heap v d as) vs ds) (ht : ∀ d ∈ ds, ∃ xs, d = .tuple xs) (hne : .tuple [] ∈ ds) (h : Q (if ((vs.map (fstV s.heap)).toArray[0]?.bind id).isSome = true then general' else oneType') s) :
    wpAny M A (keyKind' vs.toArray) Q E s := by
  have look : ∀ v ∈ vs, ∃ a o xs n, v = .ref a ∧ s.heap.get? a = some o ∧ o.cls = .type "tuple" ∧ o.data = .seq xs n := fun v hv => by
    obtain ⟨d, hd, as, r⟩ := e.left v hv
    obtain ⟨xs, rfl⟩ := ht d hd
    cases r with
    | tuple h1 h2 h3 h4 => exact ⟨_, _, _, _, rfl, h1, h2, h3⟩
  have ty : ∀ v ∈ vs, PySem.W.Looks M s.heap (typeOf v) (Value.type "tuple") := fun v hv => by
    obtain ⟨d, hd, as, r⟩ := e.left v hv
    obtain ⟨xs, rfl⟩ := ht d hd
    exact PySem.W.looks_reads r
  have emp : ∃ v ∈ vs, fstV s.heap v = none := by
    have : ∀ {vs : List Value} {ds : List PyData}, EachIs (fun v d => ∃ as, Reads s.heap v d as) vs ds → .tuple [] ∈ ds → ∃ v ∈ vs, ∃ as, Reads s.heap v (.tuple []) as := fun {vs ds} e => by
      induction e with
      | nil => intro h; cases h
      | cons r t ih =>
        intro h
        rcases List.mem_cons.mp h with q | q
        · exact ⟨_, List.mem_cons_self, by rw [q]; exact r⟩
        · obtain ⟨v, hv, q⟩ := ih q
          exact ⟨v, List.mem_cons_of_mem _ hv, q⟩
    obtain ⟨v, hv, as, r⟩ := this e hne
    refine ⟨v, hv, ?_⟩
    cases r with
    | @tuple a o xs n _ _ h1 h2 h3 h4 =>
      have : xs.toList = [] := by
        cases q : xs.toList with
        | nil => rfl
        | cons x r => rw [q] at h4; cases h4
      have hx : xs = #[] := Array.toList_inj.mp (by rw [this])
      show (match s.heap.get? a with
        | some o => match o.data with
          | .seq xs _ => xs[0]?
          | _ => none
        | none => none) = none
      rw [h1]
      show (match o.data with
        | .seq xs _ => xs[0]?
        | _ => none) = none
      rw [h3, hx]
      rfl
  rw [kat_kind_eq, List.mapM_toArray, map_eq_pure_bind]
  refine wpAny_bind (wpAny_bind (mapM_fun (fstV s.heap) vs (fun v hv Q' hq => ?_) (wpAny_pure ?_)))
  · obtain ⟨a, o, xs, n, rfl, h1, h2, h3⟩ := look v hv
    rw [PySem.W.kas_first_eq]
    refine wpAny_bind ((ty _ hv).here ?_)
    rw [if_neg (by simp)]
    refine wpAny_bind (listItems_at h1 h3 ?_)
    refine wpAny_pure ?_
    have e0 : fstV s.heap (.ref a) = xs[0]? := by
      show (match s.heap.get? a with
        | some o => match o.data with
          | .seq xs _ => xs[0]?
          | _ => none
        | none => none) = _
      rw [h1]
      show (match o.data with
        | .seq xs _ => xs[0]?
        | _ => none) = _
      rw [h3]
    rw [e0] at hq
    exact hq
  · have hall : ((vs.map (fstV s.heap)).toArray.all fun x => x.isSome) = false := by
      obtain ⟨v, hv, hn⟩ := emp
      rw [List.all_toArray, List.all_eq_false]
      exact ⟨_, List.mem_map.mpr ⟨v, hv, hn⟩, by simp⟩
    rw [hall, if_neg Bool.false_ne_true]
    by_cases hg : ((vs.map (fstV s.heap)).toArray[0]?.bind id).isSome = true
    · rw [if_pos hg] at h ⊢
      exact wpAny_pure h
    · rw [if_neg hg] at h ⊢
      rw [oneTypeOnly'_eq, List.mapM_toArray, map_eq_pure_bind]
      refine wpAny_bind (wpAny_bind (wpAny_bind (PySem.W.kas_mapM (r := Value.type "tuple") _ (fun v hv Q' hq => (ty v hv).here hq) (wpAny_pure ?_))))
      obtain ⟨v, hv, _⟩ := emp
      cases vs with
      | nil => cases hv
      | cons v1 rest =>
        have hall2 : ((List.map (fun _ => Value.type "tuple") (v1 :: rest)).toArray.all fun x => x == Value.type "tuple") = true := by
          simp only [List.all_toArray, List.all_map, List.all_eq_true]
          intro _ _
          exact beq_self_eq_true _
        have h0 : (List.map (fun _ => Value.type "tuple") (v1 :: rest)).toArray[0]? = some (Value.type "tuple") := by simp
        rw [h0]
        simp only [hall2, if_true]
        exact wpAny_pure (wpAny_pure h)
theorem oneLt_tups {f : Bool} {xs ys : List PyData} {a b : Value} {as bs : List Addr} {Q : Bool → Shared → Prop} (ra : Reads s.heap a (.tuple xs) as) (rb : Reads s.heap b (.tuple ys) bs) (h : alike (.tuple xs) (.tuple ys) = true)
    (hu : A.units + min (PyData.tuple xs).depth (PyData.tuple ys).depth < cLine) (hq : Q (dataLt (.tuple xs) (.tuple ys)) s) : wpAny (model prog w) A (oneLt' f a b) Q E s := by
  cases f with
  | false =>
    rw [oneLt'_eq]
    simp only [Bool.false_eq_true, if_false]
    exact wpAny_bind (PySem.W.rcLt_alike _ _ A s a b as bs ra rb h nofun hu prog w E _ (wpAny_truthy_bool hq))
  | true =>
    have hal : alikeAll xs ys = true := by simpa [alike] using h
    cases ra with
    | @tuple l o vs n _ as1 h1 h2 h3 h4 =>
      cases rb with
      | @tuple l' o' vs' n' _ bs1 k1 k2 k3 k4 =>
        have n1 : vs.size = xs.length := by simpa using PySem.SeqAt.ReadsAll.length _ _ _ h4
        have n2 : vs'.size = ys.length := by simpa using PySem.SeqAt.ReadsAll.length _ _ _ k4
        rw [PySem.W.dataLt_tuple, ← PySem.W.firstLt_toks xs ys hal, ← n1, ← n2] at hq
        rw [oneLt'_eq]
        simp only [if_true]
        refine wpAny_bind (wpAny_cRoomFor (PySem.SeqAt.room_here hu) ?_)
        have hl : s.heap.IsTuple l vs := ⟨_, h1, h2, _, h3⟩
        have hb : s.heap.IsTuple l' vs' := ⟨_, k1, k2, _, k3⟩
        have he : ∀ j (j1 : j < vs.size) (j2 : j < vs'.size), PySem.SeqAt.EqAt A.in1 s vs[j] vs'[j] (PySem.SeqAt.pairEq xs ys j) := fun j j1 j2 => by
          have := PySem.W.eqAt_alikeAll xs ys A.in1 s vs.toList vs'.toList _ _ h4 k4 hal (PySem.SeqAt.room_in hu) j (by simpa using j1) (by simpa using j2)
          simpa using this
        have hr : ∀ j (j1 : j < vs.size) (j2 : j < vs'.size), PySem.SeqAt.pairEq xs ys j = false → PySem.SeqAt.RcLt A.in1 s vs[j] vs'[j] ((fun j => dataLt (xs.getD j .none) (ys.getD j .none)) j) := fun j j1 j2 hj => by
          have := PySem.W.rcLt_alikeAll xs ys A.in1 s vs.toList vs'.toList _ _ h4 k4 hal (PySem.SeqAt.room_in hu) j (by simpa using j1) (by simpa using j2) hj
          simpa using this
        obtain ⟨⟨cls, dd, data, sl⟩, ho, hc, m, hd⟩ := id hl
        obtain ⟨⟨cls2, dd2, data2, sl2⟩, ho2, hc2, m2, hd2⟩ := id hb
        simp only at hc hd hc2 hd2
        subst hc hd hc2 hd2
        refine wpAny_bind (wpAny_callSpecialIfBound?_slot (T := "tuple") ⟨_, ho, rfl⟩ F.slot_tuple_lt (call_meets F.slot_tuple_lt ⟨_, ho, rfl⟩ F.entry_tuple_lt (F.args_tuple_lt_2 _ _) (PySem.SeqAt.tuple_ltAt l l' vs vs' m m2 dd dd2 sl sl2 (PySem.SeqAt.pairEq xs ys) (fun j => dataLt (xs.getD j .none) (ys.getD j .none))) ⟨ho, ho2, he, hr, ?_⟩))
        exact wpAny_truthy_bool hq
theorem sortsAt_tups {vs : List Value} {ds : List PyData} (e : EachIs (fun v d => ∃ as, Reads s.heap v d as) vs ds) (hal : AllAlike ds) (ht : ∀ d ∈ ds, ∃ xs, d = .tuple xs) (hne : .tuple [] ∈ ds) (hu : ∀ d, d ∈ ds → A.units + d.depth < cLine) : PySem.W.SortsAt prog w A s (dataKind s.heap ds) vs := by
  refine ⟨fun v hv => ?_, ?_⟩
  · obtain ⟨d, hd, as, r⟩ := e.left v hv
    exact ⟨_, PySem.W.dataKind_some hal hd r⟩
  · have both : ∀ kd, (kd = general' ∨ kd = oneType') → H.LtAt prog w A s (dataKind s.heap ds) kd := fun kd hkd E x y a b Q ha hb hq => by
      obtain ⟨d, as, hd, ra, rfl⟩ := PySem.W.dataKind_inv ha
      obtain ⟨d', as', hd', rb, rfl⟩ := PySem.W.dataKind_inv hb
      obtain ⟨xs, rfl⟩ := ht d hd
      obtain ⟨ys, rfl⟩ := ht d' hd'
      have room : A.units + min (PyData.tuple xs).depth (PyData.tuple ys).depth < cLine := Nat.lt_of_le_of_lt (Nat.add_le_add_left (Nat.min_le_left _ _) _) (hu _ hd)
      rcases hkd with rfl | rfl
      · rw [show keyLt' general' x y = oneLt' false x y from rfl]
        exact oneLt_tups ra rb (hal _ hd _ hd') room hq
      · rw [keyLt'_oneType]
        exact oneLt_tups ra rb (hal _ hd _ hd') room hq
    refine ⟨if ((vs.map (fstV s.heap)).toArray[0]?.bind id).isSome = true then general' else oneType', both _ ?_, fun _ E Q q => tups_kind e ht hne q⟩
    split
    · exact .inl rfl
    · exact .inr rfl
end
def Sort2 (ds : List PyData) : Prop := Sortable ds ∨ ∀ d ∈ ds, ∃ xs, d = .tuple xs
theorem sortsAt2 {prog : Program} {w : World} {A : Around} {s : Shared} {vs : List Value} {ds : List PyData} (e : EachIs (fun v d => ∃ as, Reads s.heap v d as) vs ds) (hal : AllAlike ds) (hk : Sort2 ds) (hu : ∀ d, d ∈ ds → A.units + d.depth < cLine) : PySem.W.SortsAt prog w A s (dataKind s.heap ds) vs := by
  rcases hk with hk | hk
  · exact PySem.W.SortsAt.data e hal hk hu
  · by_cases hne : PyData.tuple [] ∈ ds
    · exact sortsAt_tups e hal hk hne hu
    · refine PySem.W.SortsAt.data e hal (.inl fun d hd => ?_) hu
      obtain ⟨xs, rfl⟩ := hk d hd
      cases xs with
      | nil => exact absurd hd hne
      | cons x r => exact ⟨x, r, rfl⟩
section
variable {prog : Program} {w : World} {A : Around} {E : Value → Shared → Prop} {s : Shared}
theorem sorted_col {x : Value} {us : List Value} {β : Type} {bs : List β} {enc : β → PyData} {R : Value → β → Prop} {Q : Value → Shared → Prop}
    (col : ∀ (R : List Value → Shared → Prop) (E' : Value → Shared → Prop), (∀ h' tk, (∀ b o, s.heap.get? b = some o → h'.get? b = some o) → R us { s with heap := h', toks := tk }) → wpAny (model prog w) A.in1 (collect x) R E' s)
    (e : EachIs R us bs) (er : EachIs (fun v b => ∃ as, Reads s.heap v (enc b) as) us bs) (hal : AllAlike (bs.map enc)) (hk : Sort2 (bs.map enc)) (hL : bs.length ≤ sizeLine) (hu : ∀ b, b ∈ bs → A.units + 2 + (enc b).depth < cLine)
    (h : ∀ (out : List Value) (h1 h2 : Heap) (tk c : Nat), (∀ b o, s.heap.get? b = some o → h1.get? b = some o) → (∀ b o, h1.get? b = some o → h2.get? b = some o) → h2.get? h1.objs.size = some (seqObj "list" (List.toArray out) c) → EachIs R out (bs.mergeSort (dataLe false enc)) → Q (.ref h1.objs.size) { s with heap := h2, toks := tk }) :
    wpAny (model prog w) A (call (.builtin "sorted") [x]) Q E s := by
  have hl : us.length = bs.length := e.length
  refine Calls.call_function_entry kind_sorted plain_sorted entry_sorted (args_sorted1 _) ?_
  unfold Builtin.«sorted»
  refine wpAny_bind (m := checkCount "sorted" 1 1 _) (wpAny_pure ?_)
  refine wpAny_bind (col _ _ fun h1 tk hk1 => ?_)
  refine wpAny_bind (wpAny_newList ?_ (by rw [hl]; exact hL))
  have hoL : (h1.push (seqObj "list" us.toArray 0)).get? h1.objs.size = some (seqObj "list" us.toArray 0) := Heap.get?_push_size _ rfl
  have k1 : ∀ b o, h1.get? b = some o → (h1.push (seqObj "list" us.toArray 0)).get? b = some o := fun b o q => Heap.get?_push_of_some _ q
  have ne : ∀ b o, h1.get? b = some o → b ≠ h1.objs.size := fun b o q => Nat.ne_of_lt (Heap.lt_size q)
  have k2 : ∀ b o, h1.get? b = some o → (sortingHeap (h1.push (seqObj "list" us.toArray 0)) h1.objs.size us).get? b = some o := fun b o q => PySem.W.sortingHeap_old (ne b o q) (k1 b o q)
  have er' : EachIs (fun v b => ∃ as, Reads (sortingHeap (h1.push (seqObj "list" us.toArray 0)) h1.objs.size us) v (enc b) as) us bs := er.mono fun _ _ ⟨as, r⟩ => ⟨as, PyProof.Rows.Reads.keeps (fun b o q => k2 b o (hk1 b o q)) r⟩
  show wpAny _ _ _ _ _ { s with heap := h1.push (seqObj "list" us.toArray 0), toks := tk }
  refine wpAny_bind (wpAny_holding (wpAny_call_entry slot_list_sort ⟨_, hoL, rfl⟩ entry_list_sort ?_ (args_list_sort _)))
  refine PySem.W.list_sort_vals (κ := dataKind (sortingHeap (h1.push (seqObj "list" us.toArray 0)) h1.objs.size us) (bs.map enc)) hoL (sortsAt2 (s := { s with heap := sortingHeap (h1.push (seqObj "list" us.toArray 0)) h1.objs.size us, toks := tk }) (PySem.W.each_map (R := fun v d => ∃ as, Reads (sortingHeap (h1.push (seqObj "list" us.toArray 0)) h1.objs.size us) v d as) enc er') hal hk (PySem.W.bound_map (A := A.in1.in1) hu)) (by rw [hl]; exact hL) ⟨.none, rfl, ?_⟩
  refine wpAny_pure ⟨_, rfl, ?_⟩
  obtain ⟨c, hc⟩ := PyProof.Rows.sortedHeap_at (vs := us) (out := (sortVals (dataKind (sortingHeap (h1.push (seqObj "list" us.toArray 0)) h1.objs.size us) (bs.map enc)) false us us).toArray) hoL
  refine h _ h1 _ tk c hk1 (fun b o q => ?_) hc (PySem.W.sortVals_data false e er' hal)
  rw [PyProof.Rows.sortedHeap_old (ne b o q) (Heap.lt_size (k1 b o q))]
  exact k1 b o q
theorem collect_tup {l : Addr} {us : List Value} (ht : IsTup s.heap l us.toArray) (hz : us.length ≤ sizeLine) (R : List Value → Shared → Prop) (E' : Value → Shared → Prop)
    (h : ∀ h' tk, (∀ b o, s.heap.get? b = some o → h'.get? b = some o) → R us { s with heap := h', toks := tk }) : wpAny (model prog w) A (collect (.ref l)) R E' s :=
  gather_tup ht hz (h _ s.toks fun b o q => by
    have hlt : b < s.heap.objs.size := Heap.lt_size q
    rw [Heap.get?_update_ne _ _ _ _ (Nat.ne_of_lt hlt), Heap.get?_push_ne _ _ _ (Nat.ne_of_lt hlt)]
    exact q)
theorem collect_lst {l : Addr} {us : List Value} (ht : s.heap.IsList l us.toArray) (hz : us.length ≤ sizeLine) (R : List Value → Shared → Prop) (E' : Value → Shared → Prop)
    (h : ∀ h' tk, (∀ b o, s.heap.get? b = some o → h'.get? b = some o) → R us { s with heap := h', toks := tk }) : wpAny (model prog w) A (collect (.ref l)) R E' s :=
  collect_list ht (h _ s.toks fun b o q => by
    have hlt : b < s.heap.objs.size := Heap.lt_size q
    rw [Heap.get?_update_ne _ _ _ _ (Nat.ne_of_lt hlt), Heap.get?_push_ne _ _ _ (Nat.ne_of_lt hlt)]
    exact q) hz
end
def rSortG (K : PySem.W.Frag) : List V → Hp → VK → Prop := fun vs H Q => ∃ (a : Addr) (xs : List V) (zs : List PyData), vs = [V.ref a] ∧ (SqL K H a xs ∨ SqT K H a xs) ∧ DpAll K H xs zs ∧ AllAlike zs ∧ Sort2 zs ∧ (∀ d ∈ zs, d.depth ≤ 50) ∧
  ∀ (ps : List (V × PyData)) (p : Addr), ps.Perm (xs.zip zs) → ps.map (·.2) = zs.mergeSort (dataLe false id) → H p = none → Q (.ref p) (upd H p (.lst (ps.map (·.1))))
theorem dpAll_len {K : PySem.W.Frag} {H : Hp} : ∀ {xs : List V} {zs : List PyData}, DpAll K H xs zs → xs.length = zs.length
  | _, _, .nil => rfl
  | _, _, .cons _ r => by rw [List.length_cons, List.length_cons, dpAll_len r]
section
variable {X : Cx} {pins : List (Addr × Obj)} {σ : L2.St} {H : Hp} {s : Shared}
theorem each_vals : ∀ {xs : List V} {zs : List PyData} {us : List Value}, Vals xs us → DpAll X.K H xs zs → EachIs (fun v (b : V × PyData) => RelV b.1 v) us (xs.zip zs)
  | _, _, _, .nil, .nil => .nil
  | _, _, _, .cons h r, .cons h2 r2 => .cons h (each_vals r r2)
theorem each_reads (I : Inv X pins σ H s) : ∀ {xs : List V} {zs : List PyData} {us : List Value}, Vals xs us → DpAll X.K H xs zs → EachIs (fun v (b : V × PyData) => ∃ as, Reads s.heap v b.2 as) us (xs.zip zs)
  | _, _, _, .nil, .nil => .nil
  | _, _, _, .cons h r, .cons h2 r2 => .cons (Dp.reads I _ _ _ h2 h) (each_reads I r r2)
theorem vals_each : ∀ {us : List Value} {ps : List (V × PyData)}, EachIs (fun v (b : V × PyData) => RelV b.1 v) us ps → Vals (ps.map (·.1)) us
  | _, _, .nil => .nil
  | _, _, .cons h r => .cons h (vals_each r)
theorem cr_sortG (g : Gd X) : CallR X (.builtin "sorted") (rSortG X.K) := by
  rintro pins s σ H vs us Q I r ⟨a, xs, zs, rfl, hs, hd, hal, hk, hdep, q⟩
  rw [Vals.ref1 r]
  have hlz := dpAll_len hd
  have key : ∀ its : List Value, Vals xs its → xs.length ≤ sizeLine → (∀ (R : List Value → Shared → Prop) (E' : Value → Shared → Prop), (∀ h' tk, (∀ b o, s.heap.get? b = some o → h'.get? b = some o) → R its { s with heap := h', toks := tk }) → wpAny (model X.prog X.w) X.A.in1 (collect (.ref a)) R E' s) →
      wpAny (model X.prog X.w) X.A (call (.builtin "sorted") [.ref a]) (EP X pins σ Q) X.xe s := by
    intro its rv hz col
    have e2 : (xs.zip zs).map (fun b : V × PyData => b.2) = zs := by
      rw [List.map_snd_zip]
      exact Nat.le_of_eq hlz.symm
    refine sorted_col (enc := fun b : V × PyData => b.2) col (each_vals rv hd) (each_reads I rv hd) (by rw [e2]; exact hal) (by rw [e2]; exact hk) (by rw [List.length_zip]; omega) (fun b hb => ?_) fun out h1 h2 tk c k1 k2 hc eo => ?_
    · have := hdep b.2 (by rw [← e2]; exact List.mem_map.mpr ⟨b, hb, rfl⟩)
      have := g.un
      omega
    · have I1 : Inv X pins σ H { s with heap := h1, toks := tk } := I.kept k1
      have hp := List.mergeSort_perm (xs.zip zs) (dataLe false fun b : V × PyData => b.2)
      have hlen : (((xs.zip zs).mergeSort (dataLe false fun b : V × PyData => b.2)).map (·.1)).length ≤ sizeLine := by
        rw [List.length_map, hp.length_eq, List.length_zip]
        omega
      refine ⟨.ref _, _, I1.laid (t' := tk) (o := .lst (((xs.zip zs).mergeSort (dataLe false fun b : V × PyData => b.2)).map (·.1))) k2 (Nat.le_refl _) ⟨hlen, out, c, vals_each eo, hc⟩, rfl, q _ _ hp ?_ (I1.hok.fresh (Nat.le_refl _))⟩
      rw [List.map_mergeSort (r := dataLe false fun b : V × PyData => b.2) (s := dataLe false id) (f := fun b : V × PyData => b.2) fun _ _ _ _ => rfl, e2]
  rcases hs with hs | hs
  · obtain ⟨its, rv, hl, hz⟩ := I.list hs
    exact key its rv hz fun R E' h => collect_lst hl.isList (by rw [← rv.length]; exact hz) R E' h
  · obtain ⟨its, rv, hl, hz⟩ := I.tuple hs
    exact key its rv hz fun R E' h => collect_tup hl (by rw [← rv.length]; exact hz) R E' h
end
def alikeB (zs : List PyData) : Bool := zs.all fun d => zs.all fun e => alike d e
def sortB (zs : List PyData) : Bool := (zs.all fun d => match d with
  | .tuple _ => true
  | _ => false) || zs.all fun d => match d with
  | .tuple _ => false
  | .none => false
  | _ => true
theorem alikeB_ok {zs : List PyData} (h : alikeB zs = true) : AllAlike zs := fun d hd e he => List.all_eq_true.mp (List.all_eq_true.mp h d hd) e he
theorem sortB_ok {zs : List PyData} (h : sortB zs = true) : Sort2 zs := by
  unfold sortB at h
  rcases (Bool.or_eq_true _ _).mp h with h | h
  · refine .inr fun d hd => ?_
    have := List.all_eq_true.mp h d hd
    split at this
    · exact ⟨_, rfl⟩
    · cases this
  · refine .inl (.inr fun d hd => ?_)
    have := List.all_eq_true.mp h d hd
    split at this
    · cases this
    · cases this
    · rename_i h1 h2
      exact ⟨h2, h1⟩
def sorB (zs : List PyData) : Bool := alikeB zs && sortB zs && (zs.all fun d => decide (d.depth ≤ 50)) && !PyData.hasDictAll zs
def gSortG : GA := fun ds st => match ds with
  | [x] => match viewS st x with
    | some zs => if sorB zs then .ok (zs.mergeSort (dataLe false id)) st else .stuck
    | none => .stuck
  | _ => .stuck
theorem rpA_of_perm {F : Addr → Prop} {H : Hp} : ∀ {xs : List V} {zs : List PyData}, RpA F H xs zs → ∀ b ∈ xs.zip zs, Rp F H b.1 b.2
  | _, _, .nil, b, hb => by cases hb
  | _, _, .cons h r, b, hb => by
    rw [List.zip_cons_cons] at hb
    rcases List.mem_cons.mp hb with rfl | hb
    · exact h
    · exact rpA_of_perm r b hb
theorem rpA_all {F : Addr → Prop} {H : Hp} : ∀ {ps : List (V × PyData)}, (∀ b ∈ ps, Rp F H b.1 b.2) → RpA F H (ps.map (·.1)) (ps.map (·.2))
  | [], _ => .nil
  | b :: r, h => .cons (h b List.mem_cons_self) (rpA_all fun c hc => h c (List.mem_cons_of_mem _ hc))
theorem opF_sortG {K : PySem.W.Frag} {W : XW} : OpFA K W (rSortG K) gSortG := by
  intro ι st H xs ds Q R r p
  unfold gSortG at p
  split at p
  · rename_i x
    obtain ⟨y, rfl, r1⟩ := r.one
    split at p
    · rename_i zs e
      split at p
      · rename_i hc
        unfold sorB at hc
        simp only [Bool.and_eq_true, Bool.not_eq_true'] at hc
        obtain ⟨⟨⟨h1, h2⟩, h3⟩, h4⟩ := hc
        obtain ⟨q, us, rfl, hq, hr⟩ := viewS_atF R e r1
        refine ⟨q, us, zs, rfl, ?_, hr.dp h4, alikeB_ok h1, sortB_ok h2, fun d hd => of_decide_eq_true (List.all_eq_true.mp h3 d hd), fun ps b hp hs hb hf => ?_⟩
        · rcases hq with hq | ⟨⟨o, hq, _⟩, _⟩
          · exact .inl (.of hq)
          · exact .inr (.inl (.inr ⟨o, hq⟩))
        · have := rpA_all (fun c hc => rpA_of_perm hr c (hp.mem_iff.mp hc))
          rw [hs] at this
          exact p.new R this b hb hf
      · exact p.elim
    · exact p.elim
  · exact p.elim
theorem xf_sortG {X : Cx} {W : XW} {e : Expr} {es : List Expr} {m : MA} {p pos : Pos} {x : Str} (gd : Gd X) (hg : Gl X x) (hm : X.mg x = none) (hv : bootBuiltins x = some (.builtin "sorted")) (ha : PA X (e :: es) (TAo X.K W m)) (hn : x ≠ "__name__" := by decide) (hdb : (x == ("__debug__" : Str)) = false := by decide)
    (he : starEach (e :: es) X.env = (false, eval e X.env) :: starEach es X.env := by rfl) (hpl : (backTo pos (starEach es X.env)).any (·.1) = false := by rfl) :
    PE X (.Call (.Name x p) (e :: es) [] pos) (TFo X.K W (mfArg gSortG m)) := pf_wrap (pe_callB (cr_sortG gd) hg hm hv ha hn hdb he hpl) fun σ H Q q => tf_arg opF_sortG q
end Fw
namespace Fw
open PySem PySem.Spec PyProof.Rows L2
def OffSys (h0 : Heap) (as : List Addr) : Prop := (∃ o, h0.get? sysModules = some o ∧ o.cls = .type "dict") → sysModules ∉ as
section
variable {prog : Program} {w : World} {h0 : Heap}
theorem OffSys.sub {as bs : List Addr} (h : OffSys h0 as) (s : ∀ b ∈ bs, b ∈ as) : OffSys h0 bs := fun q m => h q (s _ m)
variable {A : Around} {E : Value → Shared → Prop} {s : Shared} {Q : Value → Shared → Prop} {a : Addr} {d : PyData} {as : List Addr}
end
mutual
/-- dicts with keys of whole numbers and texts alone -/
def kOk : PyData → Bool
  | .none | .bool _ | .int _ | .str _ => true
  | .list xs => kOkA xs
  | .tuple xs => kOkA xs
  | .dict kvs => kOkK kvs
def kOkA : List PyData → Bool
  | [] => true
  | x :: r => kOk x && kOkA r
def kOkK : List (PyData × PyData) → Bool
  | [] => true
  | (k, v) :: r => (key1 k).isSome && kOk v && kOkK r
end
section
variable {X : Cx} {pins : List (Addr × Obj)} {σ : L2.St} {H : Hp} {s : Shared} {F : Addr → Prop}
end
def fReprM : FA := fun ds st => match ds with
  | [.v z] => if kOk z && z.showable && decide (z.depth ≤ 60) && decide (z.shown.length ≤ lim) then .ok (.v (.str z.shown)) st else fReprK ds st
  | ds => fReprK ds st
end Fw
namespace Fw
open PySem PySem.Spec PyProof.Rows L2
section
variable {X : Cx} {pins : List (Addr × Obj)} {σ : L2.St} {H : Hp} {s : Shared} {x y : V} {v u : Value} {k : Bool} {Q : VK}
end
section
variable {X : Cx} {W : XW} {a b : Expr} {ma mb : ME}
end
section
variable {xs ys : List PyData} {st : Sto}
end
end Fw
namespace Fw
open PySem PySem.Spec PyProof.Rows L2
end Fw
namespace Fw.LG
open PySem PySem.Spec PyProof.Rows L2 Fw
noncomputable abbrev f_law_pick : FF := Fw.LA.f_law_pick
noncomputable abbrev f_law_of : FF := Fw.LA.f_law_of
end Fw.LG
namespace Fw
open PySem PySem.Spec PyProof.Rows L2
mutual
theorem keyN_hash (w w' : World) : ∀ (d : PyData) (k : NestedKey), keyN d = some k → k.hash w = k.hash w'
  | .none, k, e => by rw [keyN] at e; cases e; rfl
  | .int i, k, e => by rw [keyN] at e; cases e; rfl
  | .tuple ds, k, e => by
    rw [keyN] at e
    obtain ⟨ks, e1, rfl⟩ := Option.map_eq_some_iff.mp e
    rw [NestedKey.hash, NestedKey.hash, keyNA_hash w w' ds ks e1]
  | .bool _, k, e => by rw [keyN] at e <;> first | cases e | (intros; intro z; cases z)
  | .str _, k, e => by rw [keyN] at e <;> first | cases e | (intros; intro z; cases z)
  | .list _, k, e => by rw [keyN] at e <;> first | cases e | (intros; intro z; cases z)
  | .dict _, k, e => by rw [keyN] at e <;> first | cases e | (intros; intro z; cases z)
theorem keyNA_hash (w w' : World) : ∀ (ds : List PyData) (ks : List NestedKey), keyNA ds = some ks → NestedKey.hashes w ks = NestedKey.hashes w' ks
  | [], ks, e => by rw [keyNA] at e; cases e; rfl
  | d :: ds, ks, e => by
    rw [keyNA] at e
    split at e
    · rename_i k l h1 h2
      cases e
      rw [NestedKey.hashes, NestedKey.hashes, keyN_hash w w' d k h1, keyNA_hash w w' ds l h2]
    · cases e
end
theorem keyP_at {d : PyData} {k : NestedKey} (e : keyP d = some k) : keyN d = some k ∧ k.depth ≤ 8 := by
  unfold keyP at e
  split at e
  · split at e
    · rename_i k' h
      split at e
      · rename_i hd
        cases e
        exact ⟨h, hd⟩
      · cases e
    · cases e
  · cases e
section
variable {X : Cx} {pins : List (Addr × Obj)} {σ : L2.St} {H : Hp} {s : Shared} {F : Addr → Prop}
mutual
theorem rp_nest (I : Inv X pins σ H s) : ∀ (d : PyData) (v : L2.V) (u : Value) (k : NestedKey), Rp F H v d → keyN d = some k → RelV v u → NestedIs s.heap k u
  | .none, _, u, k, .non, e, r => by rw [keyN] at e; cases e; cases r; exact .none
  | .int i, _, u, k, .int _, e, r => by
    rw [keyN] at e
    cases e
    obtain ⟨t, rfl⟩ := r
    exact .int i t
  | .tuple ds, _, u, k, .tup (a := a) (xs := xs) (o := o) h1 _ _ h4, e, r => by
    rw [keyN] at e
    obtain ⟨ks, e1, rfl⟩ := Option.map_eq_some_iff.mp e
    cases (show u = Value.ref a from r)
    obtain ⟨h5, h6, its, rv, ob, h7, h8, n, h9⟩ := I.hok a _ h1
    exact .tup h7 h8 h9 (by simpa using rp_nestA I ds xs its ks h4 e1 rv)
  | .bool _, _, _, k, _, e, _ => by rw [keyN] at e <;> first | cases e | (intros; intro z; cases z)
  | .str _, _, _, k, _, e, _ => by rw [keyN] at e <;> first | cases e | (intros; intro z; cases z)
  | .list _, _, _, k, _, e, _ => by rw [keyN] at e <;> first | cases e | (intros; intro z; cases z)
  | .dict _, _, _, k, _, e, _ => by rw [keyN] at e <;> first | cases e | (intros; intro z; cases z)
theorem rp_nestA (I : Inv X pins σ H s) : ∀ (ds : List PyData) (vs : List L2.V) (us : List Value) (ks : List NestedKey), RpA F H vs ds → keyNA ds = some ks → Vals vs us → NestedAll s.heap ks us
  | [], _, _, ks, .nil, e, .nil => by rw [keyNA] at e; cases e; exact .nil
  | d :: ds, _, _, ks, .cons h t, e, .cons r rr => by
    rw [keyNA] at e
    split at e
    · rename_i k l h1 h2
      cases e
      exact .cons (rp_nest I d _ _ k h h1 r) (rp_nestA I ds _ _ l t h2 rr)
    · cases e
end
end
def KyH (H : Hp) (v : L2.V) (k : NestedKey) : Prop := ∃ F d, Rp F H v d ∧ keyP d = some k
structure TabH (H : Hp) (a : Addr) (xs : List (NestedKey × Addr × L2.V)) : Prop where
  at' : H a = some (TabO a xs)
  sys : (a == sysModules) = false
  nd : (xs.map (·.1)).Nodup
  len : xs.length ≤ sizeLine
  key : ∀ x ∈ xs, KyH H (.ref x.2.1) x.1
abbrev TR : List (NestedKey × Addr × L2.V) → List (NestedKey × Addr × Value) → Prop := Paired (fun p q => p.1 = q.1 ∧ p.2.1 = q.2.1 ∧ RelV p.2.2 q.2.2)
def hasT (xs : List (NestedKey × Addr × L2.V)) (k : NestedKey) : Bool := xs.any fun x => decide (x.1 = k)
def getT (xs : List (NestedKey × Addr × L2.V)) (k : NestedKey) : Option L2.V := (xs.find? fun x => decide (x.1 = k)).map (·.2.2)
def putT (xs : List (NestedKey × Addr × L2.V)) (k : NestedKey) (p : Addr) (v : L2.V) : List (NestedKey × Addr × L2.V) :=
  if hasT xs k = true then xs.map fun x => if x.1 = k then (x.1, x.2.1, v) else x else xs ++ [(k, p, v)]
theorem TR.keys : ∀ {xs ys}, TR xs ys → ys.map (·.1) = xs.map (·.1)
  | _, _, .nil => rfl
  | _, _, .cons h r => by rw [List.map_cons, List.map_cons, TR.keys r, h.1]
theorem TR.len : ∀ {xs ys}, TR xs ys → ys.length = xs.length
  | _, _, .nil => rfl
  | _, _, .cons h r => by rw [List.length_cons, List.length_cons, TR.len r]
theorem TR.mem : ∀ {xs ys}, TR xs ys → ∀ y ∈ ys, ∃ x ∈ xs, x.1 = y.1 ∧ x.2.1 = y.2.1
  | _, _, .nil, y, hy => by cases hy
  | _, _, .cons h r, y, hy => by
    rcases List.mem_cons.mp hy with rfl | hy
    · exact ⟨_, List.mem_cons_self, h.1, h.2.1⟩
    · obtain ⟨x, hx, e⟩ := TR.mem r y hy
      exact ⟨x, List.mem_cons_of_mem _ hx, e⟩
theorem TR.at : ∀ {xs ys} {k : NestedKey}, TR xs ys → RelO ((xs.find? fun x => decide (x.1 = k)).map (·.2.2)) ((atKey ys k).map (·.2))
  | _, _, _, .nil => trivial
  | x :: xs, y :: ys, k, .cons h r => by
    have ih := TR.at (k := k) r
    unfold atKey at ih ⊢
    rw [List.find?_cons, List.find?_cons, h.1]
    by_cases e : y.1 = k
    · rw [decide_eq_true e]
      exact h.2.2
    · rw [decide_eq_false e]
      exact ih
theorem TR.has {xs ys} {k : NestedKey} (r : TR xs ys) : (atKey ys k).isSome = hasT xs k := by
  have h := r.at (k := k)
  have e : hasT xs k = ((xs.find? fun x => decide (x.1 = k)).map (·.2.2)).isSome := by
    unfold hasT
    rw [Option.isSome_map, Bool.eq_iff_iff, List.any_eq_true, List.find?_isSome]
  rw [e]
  cases h1 : (xs.find? fun x => decide (x.1 = k)).map (·.2.2) with
  | none =>
    rw [h1] at h
    cases h2 : atKey ys k with
    | none => rfl
    | some p => rw [h2] at h; exact h.elim
  | some v =>
    rw [h1] at h
    cases h2 : atKey ys k with
    | none => rw [h2] at h; exact h.elim
    | some p => rfl
theorem TR.append : ∀ {xs ys xs' ys'}, TR xs ys → TR xs' ys' → TR (xs ++ xs') (ys ++ ys')
  | _, _, _, _, .nil, s => s
  | _, _, _, _, .cons h r, s => .cons h (TR.append r s)
theorem TR.putAt {k : NestedKey} {v : L2.V} {u : Value} (rv : RelV v u) : ∀ {xs ys}, TR xs ys → TR (xs.map fun x => if x.1 = k then (x.1, x.2.1, v) else x) (ys.map (PySem.putAt k u))
  | _, _, .nil => .nil
  | x :: xs, y :: ys, .cons h r => by
    refine .cons ?_ (TR.putAt rv r)
    unfold PySem.putAt
    rw [← h.1]
    dsimp only
    by_cases e : x.1 = k
    · rw [if_pos e, if_pos e]
      exact ⟨rfl, h.2.1, rv⟩
    · rw [if_neg e, if_neg e]
      exact h
theorem TR.put {k : NestedKey} {p : Addr} {v : L2.V} {u : Value} {xs ys} (r : TR xs ys) (rv : RelV v u) : TR (putT xs k p v) (storedH ys k p u) := by
  unfold putT storedH
  rw [r.has]
  split
  · exact r.putAt rv
  · exact r.append (.cons ⟨rfl, rfl, rv⟩ .nil)
section
variable {X : Cx} {pins : List (Addr × Obj)} {σ : L2.St} {H : Hp} {s : Shared} {a p : Addr} {k : NestedKey} {xs : List (NestedKey × Addr × L2.V)}
theorem KyH.is (I : Inv X pins σ H s) (h : KyH H (.ref p) k) : (nestedKind X.prog X.w).is s.heap k p := by
  obtain ⟨F, d, r, e⟩ := h
  obtain ⟨e1, e2⟩ := keyP_at e
  exact ⟨rp_nest I d _ _ k r e1 rfl, e2⟩
theorem TabH.dict (I : Inv X pins σ H s) (T : TabH H a xs) : ∃ ys, TR xs ys ∧ s.heap.DictOfH (nestedKind X.prog X.w) a ys := by
  obtain ⟨⟨w, ys, hp, o, es, ep, h1, h2, h3, h4⟩, _, _⟩ := I.hok a _ T.at'
  have hk : ∀ y ∈ ys, (nestedKind X.prog X.w).is s.heap y.1 y.2.1 := fun y hy => by
    obtain ⟨x, hx, e1, e2⟩ := TR.mem hp y hy
    rw [← e1, ← e2]
    exact (T.key x hx).is I
  refine ⟨ys, hp, o, es, ep, h1, h2, h3, ?_, hk, by rw [TR.keys hp]; exact T.nd⟩
  rw [h4]
  refine List.map_congr_left fun y hy => ?_
  obtain ⟨x, hx, e1, e2⟩ := TR.mem hp y hy
  obtain ⟨F, d, _, e⟩ := T.key x hx
  show (⟨y.1.hash w, _, _⟩ : DictEntry) = ⟨y.1.hash X.w, _, _⟩
  rw [← e1, keyN_hash w X.w d x.1 (keyP_at e).1]
theorem tab_new {P : Program} {w : World} {H' : Hp} {h : Heap} {ys : List (NestedKey × Addr × Value)} (r : TR xs ys) (d : h.DictOfH (nestedKind P w) a ys) : ObjOk P w H' h a (TabO a xs) := by
  obtain ⟨o, es, ep, h1, h2, h3, h4, _, _⟩ := d
  refine ⟨⟨w, ys, r, o, es, ep, h1, h2, h3, h4⟩, ⟨o, h1⟩, fun g1 g2 ⟨w', zs, r', o', es', ep', k1, k2, k3, k4⟩ hk => ⟨w', zs, r', o', es', ep', hk o' k1, k2, k3, k4⟩⟩
def rSetT : TSet := fun o i v H Q => ∃ a p k xs, o = .ref a ∧ i = .ref p ∧ TabH H a xs ∧ KyH H (.ref p) k ∧ xs.length < sizeLine ∧ Q (upd H a (TabO a (putT xs k p v)))
theorem set_tab (gd : Gd X) : PSet X rSetT := by
  intro pins s σ H o i v ov iv u Q I ro ri rv h
  obtain ⟨a, p, k, xs, rfl, rfl, T, ky, hl, q⟩ := h
  cases (show ov = Value.ref a from ro)
  cases (show iv = Value.ref p from ri)
  obtain ⟨ys, r, d⟩ := T.dict I
  have un := gd.un
  refine wpAny_setItem_heap (knd := nestedKind X.prog X.w) (hsz := by rw [TR.len r]; exact T.len) (show X.A.in1.units + 8 < cLine from by show X.A.units + 1 + 8 < cLine; omega) (ky.is I) d fun h' d' hs => ⟨_, ?_, q⟩
  exact d_write I (by rw [T.at']; exact True.intro) hs (let ⟨o, _, _, ho, _⟩ := d'; ⟨o, ho⟩) (tab_new (r.put rv) d')
def rInT (neg : Bool) : R2 := fun y x H Q => ∃ a p k xs, x = .ref a ∧ y = .ref p ∧ TabH H a xs ∧ KyH H (.ref p) k ∧ Q (.bl (neg ^^ hasT xs k)) H
theorem op_notInTab (gd : Gd X) : OpR X (compareOp .NotIn) (rInT true) := by
  intro pins s σ H y x v u Q I ry rx h
  obtain ⟨a, p, k, xs, rfl, rfl, T, ky, q⟩ := h
  cases (show u = Value.ref a from rx)
  cases (show v = Value.ref p from ry)
  obtain ⟨ys, r, d⟩ := T.dict I
  have un := gd.un
  refine notIn_keyed (knd := nestedKind X.prog X.w) (show X.A.in1.units + 8 < cLine from by show X.A.units + 1 + 8 < cLine; omega) (ky.is I) T.sys ⟨ys, d, rfl⟩ ⟨.bl (!(hasT xs k)), H, I.tok _, ?_, by simpa using q⟩
  rw [valueAt_pairsH, Option.isSome_map, r.has]
  rfl
def tTNew : TE := fun _ H Q => ∀ a, H a = none → (a == sysModules) = false → Q (.ref a) (upd H a (TabO a []))
theorem pe_tnew {pos : Pos} : PE X (.Dict [] [] pos) tTNew := ⟨fun pins s σ H Q I h =>
  wpAny_Dict_empty ⟨.ref s.heap.objs.size, _, I.laid (a := s.heap.objs.size) (o := TabO s.heap.objs.size []) (t' := s.toks) (fun _ _ q => Heap.get?_push_of_some _ q) (Nat.le_refl _) (tab_new (w := X.w) .nil (Heap.DictOfH.new s.heap)), rfl, h _ (I.hok.fresh (Nat.le_refl _)) (beq_eq_false_iff_ne.mpr (Ne.symm (Nat.ne_of_lt I.big)))⟩⟩
end
def tabS (st : Sto) (d : D) : Option (Nat × List (PyData × D)) := match d with
  | .ref n => match st[n]? with
    | some (.tab kvs) => some (n, kvs)
    | _ => none
  | _ => none
def kOf (d : D) : Option (PyData × NestedKey) := match d with
  | .v kd => match keyP kd with
    | some k => some (kd, k)
    | none => none
  | _ => none
def hasK (kvs : List (PyData × D)) (k : NestedKey) : Bool := kvs.any fun p => decide (keyP p.1 = some k)
def getKT (kvs : List (PyData × D)) (k : NestedKey) : Option D := (kvs.find? fun p => decide (keyP p.1 = some k)).map (·.2)
def putKT (kvs : List (PyData × D)) (kd : PyData) (k : NestedKey) (d : D) : List (PyData × D) :=
  if hasK kvs k = true then kvs.map fun p => if keyP p.1 = some k then (p.1, d) else p else kvs ++ [(kd, d)]
def notInT : F2 := fun a b st => match tabS st b, kOf a with
  | some (_, kvs), some (_, k) => .ok (.v (.bool (!hasK kvs k))) st
  | _, _ => .stuck
def setT (o i d : D) (st : Sto) : Out Unit := match tabS st o, kOf i with
  | some (n, kvs), some (kd, k) => if kvs.length < lim ∧ d.low n = true then .ok () (st.set n (.tab (putKT kvs kd k d))) else .stuck
  | _, _ => .stuck
def gAtT (mo mi : ME) : MG := fun x env st => match x with
  | .one d => (mo env st).bind fun o s1 => (mi env s1).bind fun i s2 => (setT o i d s2).bind fun _ s3 => .ok env s3
  | .many _ => .stuck
def mTnew : ME := fun _ st => .ok (.ref st.length) (st ++ [.tab []])
section
variable {K : PySem.W.Frag} {ι : Gh} {st : Sto} {H : Hp} {k : NestedKey}
theorem RTab.len : ∀ {kvs xs}, RTab K ι st H kvs xs → kvs.length = xs.length
  | _, _, .nil => rfl
  | _, _, .cons _ r => by rw [List.length_cons, List.length_cons, RTab.len r]
theorem RTab.has : ∀ {kvs xs} {k : NestedKey}, RTab K ι st H kvs xs → hasK kvs k = hasT xs k
  | _, _, _, .nil => rfl
  | _, _, k, .cons h r => by
    have ih := RTab.has (k := k) r
    unfold hasK hasT at ih ⊢
    rw [List.any_cons, List.any_cons, ih, h.1]
    congr 1
    exact decide_eq_decide.mpr ⟨fun z => Option.some.inj z, fun z => congrArg some z⟩
theorem RTab.get : ∀ {kvs xs} {d : D}, RTab K ι st H kvs xs → getKT kvs k = some d → ∃ v, getT xs k = some v ∧ RD K ι st H v d
  | _, _, d, .nil, e => by cases e
  | p :: kvs, x :: xs, d, .cons h r, e => by
    unfold getKT getT at *
    rw [List.find?_cons, h.1] at e
    rw [List.find?_cons]
    by_cases z : x.1 = k
    · rw [decide_eq_true (congrArg some z)] at e
      rw [decide_eq_true z]
      cases e
      exact ⟨_, rfl, h.2.2⟩
    · rw [decide_eq_false fun q => z (Option.some.inj q)] at e
      rw [decide_eq_false z]
      exact RTab.get r e
theorem RTab.append : ∀ {kvs xs kvs' xs'}, RTab K ι st H kvs xs → RTab K ι st H kvs' xs' → RTab K ι st H (kvs ++ kvs') (xs ++ xs')
  | _, _, _, _, .nil, s => s
  | _, _, _, _, .cons h r, s => .cons h (RTab.append r s)
theorem RTab.putAt {d : D} {v : L2.V} (rd : RD K ι st H v d) : ∀ {kvs xs}, RTab K ι st H kvs xs → RTab K ι st H (kvs.map fun p => if keyP p.1 = some k then (p.1, d) else p) (xs.map fun x => if x.1 = k then (x.1, x.2.1, v) else x)
  | _, _, .nil => .nil
  | p :: kvs, x :: xs, .cons h r => by
    refine .cons ?_ (RTab.putAt rd r)
    dsimp only
    rw [h.1]
    by_cases z : x.1 = k
    · rw [if_pos z, if_pos (congrArg some z)]
      exact ⟨h.1, h.2.1, rd⟩
    · rw [if_neg z, if_neg fun q => z (Option.some.inj q)]
      exact h
theorem RTab.put {d : D} {v : L2.V} {kd : PyData} {p : Addr} {kvs xs} (r : RTab K ι st H kvs xs) (rd : RD K ι st H v d) (hk : keyP kd = some k) (rk : Rp (Frz ι st) H (.ref p) kd) : RTab K ι st H (putKT kvs kd k d) (putT xs k p v) := by
  unfold putKT putT
  rw [r.has]
  split
  · exact r.putAt rd
  · exact r.append (.cons ⟨hk, rk, rd⟩ .nil)
theorem RTab.key : ∀ {kvs xs}, RTab K ι st H kvs xs → ∀ x ∈ xs, KyH H (.ref x.2.1) x.1
  | _, _, .nil, x, hx => by cases hx
  | _, _, .cons h r, x, hx => by
    rcases List.mem_cons.mp hx with rfl | hx
    · exact ⟨_, _, h.2.1, h.1⟩
    · exact RTab.key r x hx
theorem tabS_at (R : SRel K ι st H) {x : L2.V} {d : D} {n : Nat} {kvs : List (PyData × D)} (e : tabS st d = some (n, kvs)) (r : RD K ι st H x d) :
    ∃ a xs, d = .ref n ∧ x = .ref a ∧ st[n]? = some (.tab kvs) ∧ ι.ad[n]? = some a ∧ TabH H a xs ∧ RTab K ι st H kvs xs := by
  unfold tabS at e
  split at e
  · rename_i m
    split at e
    · rename_i kvs' h
      cases e
      obtain ⟨a, h1, rfl⟩ := r
      obtain ⟨xs, q1, q2, q3, q4, q5⟩ := R.obj _ _ a h h1
      exact ⟨a, xs, rfl, rfl, h, h1, ⟨q1, q2, q3, q4, q5.key⟩, q5⟩
    · cases e
  · cases e
theorem kOf_at {x : L2.V} {d : D} {kd : PyData} (e : kOf d = some (kd, k)) (r : RD K ι st H x d) : ∃ p, x = .ref p ∧ Rp (Frz ι st) H (.ref p) kd ∧ keyP kd = some k := by
  unfold kOf at e
  split at e
  · rename_i kd'
    split at e
    · rename_i k' h
      cases e
      have r' : Rp (Frz ι st) H x kd := r
      unfold keyP at h
      split at h
      · rename_i ds
        cases r' with
        | tup h1 h2 h3 h4 => exact ⟨_, rfl, .tup h1 h2 h3 h4, by unfold keyP; exact h⟩
      · cases h
    · cases e
  · cases e
theorem op2_notInT {W : XW} : Op2 K W (rInT true) notInT := by
  intro ι st H x y a b Q R ra rb p
  unfold notInT at p
  split at p
  · rename_i n kvs kd k e1 e2
    obtain ⟨a', xs, rfl, rfl, h1, h2, T, r⟩ := tabS_at R e1 rb
    obtain ⟨q, rfl, h3, h4⟩ := kOf_at e2 ra
    refine ⟨a', q, k, xs, rfl, rfl, T, ⟨_, _, h3, h4⟩, fun _ => ?_⟩
    rw [Bool.true_xor, ← r.has]
    exact p.same R (.bl _)
  · exact p.elim
theorem putKT_low {n : Nat} {kvs : List (PyData × D)} {kd : PyData} {d : D} (h : O.low n (.tab kvs) = true) (hd : d.low n = true) : O.low n (.tab (putKT kvs kd k d)) = true := by
  have h : (kvs.all fun p => p.2.low n) = true := h
  show ((putKT kvs kd k d).all fun p => p.2.low n) = true
  unfold putKT
  rw [List.all_eq_true] at *
  split
  · intro p hp
    obtain ⟨q, hq, rfl⟩ := List.mem_map.mp hp
    split
    · exact hd
    · exact h q hq
  · intro p hp
    rcases List.mem_append.mp hp with hp | hp
    · exact h p hp
    · cases List.mem_singleton.mp hp
      exact hd
theorem putT_nd {xs : List (NestedKey × Addr × L2.V)} {p : Addr} {v : L2.V} (h : (xs.map (·.1)).Nodup) : ((putT xs k p v).map (·.1)).Nodup := by
  unfold putT
  split
  · rw [List.map_map]
    have e : (xs.map ((·.1) ∘ fun x => if x.1 = k then (x.1, x.2.1, v) else x)) = xs.map (·.1) := List.map_congr_left fun x _ => by
      show (if x.1 = k then (x.1, x.2.1, v) else x).1 = x.1
      split <;> rfl
    rw [e]
    exact h
  · rename_i hk
    rw [List.map_append]
    refine List.nodup_append.mpr ⟨h, by simp, fun x hx y hy e => hk ?_⟩
    subst e
    have hy : x = k := by simpa using hy
    subst hy
    obtain ⟨z, hz, e⟩ := List.mem_map.mp hx
    exact List.any_eq_true.mpr ⟨z, hz, decide_eq_true e⟩
theorem putT_len {xs : List (NestedKey × Addr × L2.V)} {p : Addr} {v : L2.V} (h : xs.length < sizeLine) : (putT xs k p v).length ≤ sizeLine := by
  unfold putT
  split
  · rw [List.length_map]; omega
  · rw [List.length_append]; exact h
theorem setT_red {o i d : D} {x w y : L2.V} {s2 : Sto} {Q : Hp → Prop} (R : SRel K ι st H) (ro : RD K ι st H x o) (ri : RD K ι st H w i) (rd : RD K ι st H y d) (e : setT o i d st = .ok () s2)
    (q : ∀ H', SRel K ι s2 H' → Ext ι st H ι s2 H' → Q H') : rSetT x w y H (fun H' => HF H' → Q H') := by
  unfold setT at e
  split at e
  · rename_i n kvs kd k e1 e2
    split at e
    · rename_i hc
      cases e
      obtain ⟨a, xs, rfl, rfl, h3, h4, T, r⟩ := tabS_at R e1 ro
      obtain ⟨p, rfl, h5, h6⟩ := kOf_at e2 ri
      have hl : xs.length < sizeLine := by rw [← r.len]; exact Nat.lt_of_lt_of_le hc.1 (lim_ok (Nat.le_refl _))
      refine ⟨a, p, k, xs, rfl, rfl, T, ⟨_, _, h5, h6⟩, hl, fun hf => ?_⟩
      have E4 : Ext ι st H ι (st.set n (.tab (putKT kvs kd k d))) (upd H a (TabO a (putT xs k p y))) := Ext.write R h3 h4 (fun z => nomatch z) (fun _ _ z => nomatch z)
      exact q _ (R.write h3 h4 (fun z => nomatch z) (fun _ _ z => nomatch z) hf ⟨_, upd_same, T.sys, putT_nd T.nd, putT_len hl, RTab.ext E4 (r.put rd h6 h5)⟩ (putKT_low (R.low n _ h3) hc.2)) E4
    · cases e
  · cases e
theorem setT_noX {o i d : D} {e : Exn} {s2 : Sto} : setT o i d st ≠ .exn e s2 := fun z => by
  unfold setT at z
  split at z
  · split at z <;> cases z
  · cases z
end
section
variable {X : Cx} {W : XW} {o i e : Expr} {mo mi me : ME} {pos tpos : Pos} {vs : Option (List Nat)}
theorem g_atT (gd : Gd X) (ho : PE X o (TEo X.K W mo)) (hi : PE X i (TEo X.K W mi))
    (ha : ∀ v, assign (.Subscript o i pos) X.env v = (do
      let ov ← holding [v] (eval o X.env)
      let iv ← holding [v, ov] (eval i X.env)
      standAt pos
      holding [v, ov, iv] (setItem ov iv v)
      release [v, ov, iv] []) := by intro _; rfl) : PG X (.Subscript o i pos) (TGo X.K W (gAtT mo mi) vs) := pg_wrap (pg_sub ho hi (set_tab gd) ha) fun x σ H Q q => by
  obtain ⟨ι, env, st, d, R, EV, r, p⟩ := q
  cases d with
  | many _ => exact p.elim
  | one d =>
    refine ⟨ι, env, st, R, EV, Out.post_mono (Out.post_bind p) (fun o1 s1 q ι1 H1 y R1 E1 ro => ?_) fun _ _ z => z⟩
    refine ⟨ι1, env, s1, R1, EV.ext E1, Out.post_mono (Out.post_bind q) (fun i1 s2 q ι2 H2 w R2 E2 ri => ?_) fun _ _ z => z.ext E1⟩
    cases es : setT o1 i1 d s2 with
    | stuck => rw [es] at q; exact q.elim
    | exn x s => exact absurd es setT_noX
    | ok u s3 =>
      rw [es] at q
      have E := E1.trans E2
      exact setT_red R2 (ro.ext E2) ri (RD.ext E (show RD X.K ι st H x d from r)) es fun H' R3 E3 => q ι2 H' σ R3 (E.trans E3) (EV.ext (E.trans E3)) Wp.refl
theorem c_notInT (g : Gd X) (ha : PE X o (TEo X.K W mo)) (hb : PE X i (TEo X.K W mi)) : PC X .NotIn o i (TEo X.K W (mBin notInT mo mi)) := c_op (op_notInTab g) op2_notInT ha hb
theorem x_tnew : PE X (.Dict [] [] pos) (TEo X.K W mTnew) :=
  pe_wrap pe_tnew fun σ H Q q => by
    obtain ⟨ι, env, st, R, EV, p⟩ := q
    intro a ha hs hf
    exact p _ _ _ (R.push ha hf ⟨[], upd_same, hs, List.nodup_nil, Nat.zero_le _, .nil⟩ rfl) (Ext.push R ha) ⟨a, psh_at R, rfl⟩
end
end Fw
namespace L2
open PySem PySem.Spec PyProof.Rows
theorem vals_no_contains : typeLookup (.type "dict_values") "__contains__" = pure none := by rw [typeLookup_type, builtinLookup_eq_fast]; kernel_rfl
theorem plain_cin : plainId "proto.contains_iter" = true := by decide +kernel
theorem entry_cin : entryFor table "proto.contains_iter" = some Builtin.«proto.contains_iter» := entryFor_of_fast (by kernel_rfl)
def ivB (x : Int) (v : Value) : Bool := match v with
  | .int j _ => j == x
  | _ => false
section
variable {prog : Program} {w : World} {A : Around} {E : Value → Shared → Prop} {s : Shared} {d : Addr} {es : Array DictEntry} {ep : Nat} {x : Int} {t : Tok}
theorem code_cin {R : Result → Shared → Prop} {it : Addr} (hh : A.in1.handled = none) (hne : d ≠ it) (hin : ∀ i (hi : i < es.size), ∃ j u, es[i].val = .int j u) :
    ∀ (k i : Nat) (s : Shared), es.size - i = k → i ≤ es.size → s.heap.IsValIter it d i es.size ep → s.heap.DictRaw d es ep →
    (∀ h', (∀ b o, b ≠ it → s.heap.get? b = some o → h'.get? b = some o) → R (.ok (.ret (.bool ((es.toList.drop i).any fun e => ivB x e.val)))) { s with heap := h' }) →
    codeAny (model prog w) A (.builtin "proto.contains_iter" ⟨[.ref it, .int x t], []⟩) R s := by
  intro k
  induction k with
  | zero =>
    intro i s hk hi hit hm hR
    refine codeAny_builtin entry_cin ?_
    rw [Around.under_plainId plain_cin _]
    show wpAny _ A.in1 (pyNext (.ref it) >>= _) _ _ s
    refine wpAny_bind (wpAny_pyNext_values_end_raw hh hit hm (by omega) fun h' hx => ?_)
    show wpAny _ A.in1 (rule "in.by-iteration.exhausted" >>= fun _ => ret (.bool false)) _ _ _
    refine wpAny_bind (wpAny_rule (wpAny_pure ?_))
    have e : (es.toList.drop i).any (fun e => ivB x e.val) = false := by
      rw [List.drop_eq_nil_of_le (by rw [Array.length_toList]; omega)]
      rfl
    have := hR h' fun b o hb e => hx b o hb e
    rw [e] at this
    exact this
  | succ k ih =>
    intro i s hk hi hit hm hR
    have hlt : i < es.size := by omega
    obtain ⟨j, u, hj⟩ := hin i hlt
    refine codeAny_builtin entry_cin ?_
    rw [Around.under_plainId plain_cin _]
    show wpAny _ A.in1 (pyNext (.ref it) >>= _) _ _ s
    refine wpAny_bind (wpAny_pyNext_values_item_raw hit hm hlt fun h' hit' hs => ?_)
    rw [hj]
    show wpAny _ A.in1 (eqBool (.int j u) (.int x t) >>= _) _ _ _
    refine wpAny_bind (wpAny_eqBool_int ?_)
    have hd : (es.toList.drop i).any (fun e => ivB x e.val) = ((j == x) || (es.toList.drop (i + 1)).any fun e => ivB x e.val) := by
      rw [List.drop_eq_getElem_cons (by rw [Array.length_toList]; exact hlt), List.any_cons, Array.getElem_toList, hj]
      rfl
    rw [hd] at hR
    have keep : ∀ b o, b ≠ it → s.heap.get? b = some o → h'.get? b = some o := fun b o hb e => (hs.2 b hb).trans e
    by_cases hjx : (j == x) = true
    · rw [if_pos hjx]
      show wpAny _ A.in1 (rule "in.by-iteration.found" >>= fun _ => ret (.bool true)) _ _ _
      refine wpAny_bind (wpAny_rule (wpAny_pure ?_))
      have := hR h' keep
      rw [hjx] at this
      exact this
    · rw [if_neg hjx]
      refine wpAny_pure ⟨plainId_quiet plain_cin _, ih (i + 1) _ (by omega) hlt hit' (hm.at fun o e => keep d o hne e) fun h'' hk2 => ?_⟩
      have := hR h'' fun b o hb e => hk2 b o hb (keep b o hb e)
      rw [Bool.eq_false_iff.mpr hjx, Bool.false_or] at this
      exact this
theorem contains_vals {v : Addr} {Q : Bool → Shared → Prop} (hh : A.handled = none) (hv : s.heap.IsValuesView v d) (hm : s.heap.DictRaw d es ep) (hin : ∀ i (hi : i < es.size), ∃ j u, es[i].val = .int j u)
    (h : ∀ h', (∀ b o, s.heap.get? b = some o → h'.get? b = some o) → Q (es.toList.any fun e => ivB x e.val) { s with heap := h' }) :
    wpAny (model prog w) A (contains (.ref v) (.int x t)) Q E s := by
  have hT := hv.typeIs
  unfold contains
  refine wpAny_holding ?_
  rw [stdlibNamesSay?_of_typeIs hT]
  refine wpAny_bind (wpAny_specialOf hT vals_no_contains ?_)
  show wpAny _ A (if (none == some Value.none) = true then _ else _) Q E s
  rw [if_neg (by simp)]
  refine wpAny_bind ?_
  unfold callSpecialUnlessNone?
  refine wpAny_bind (wpAny_specialOf hT vals_no_contains (wpAny_pure ?_))
  show wpAny _ A (rule "in.by-iteration" >>= _) Q E s
  refine wpAny_bind (wpAny_rule ?_)
  refine wpAny_bind ?_
  refine wpAny_tryCatch (wpAny_pyIter_values_raw hv hm ?_)
  have hlt : d < s.heap.objs.size := let ⟨_, ho, _⟩ := hm; Heap.lt_size ho
  refine wpAny_bind (wpAny_runValue ?_)
  refine code_cin (i := 0) (it := s.heap.objs.size) hh (Nat.ne_of_lt hlt) hin es.size _ rfl (Nat.zero_le _) ⟨_, Heap.get?_push_size _ rfl, rfl, rfl⟩ (hm.at fun o e => Heap.get?_push_of_some _ e) fun h' hk => ?_
  refine wpAny_pure ?_
  rw [List.drop_zero]
  exact h h' fun b o e => hk b o (Nat.ne_of_lt (Heap.lt_size e)) (Heap.get?_push_of_some _ e)
end
def vinB (i : Int) (v : L2.V) : Bool := match v with
  | .int j => j == i
  | _ => false
theorem vin_kv {i : Int} : ∀ {kvs : List (Key × L2.V)} {vs : List (Key × Value)}, KV kvs vs → (∀ p ∈ kvs, ∃ j, p.2 = .int j) → (kvs.any fun p => vinB i p.2) = ((vs.map (·.2)).any (ivB i)) ∧ ∀ v ∈ vs.map (·.2), ∃ j u, v = .int j u
  | [], _, .nil, _ => ⟨rfl, fun v hv => by cases hv⟩
  | p :: kvs, q :: vs, .cons h r, hi => by
    obtain ⟨h1, h2⟩ := vin_kv r fun p hp => hi p (List.mem_cons_of_mem _ hp)
    obtain ⟨j, hj⟩ := hi p List.mem_cons_self
    have hr := h.2
    rw [hj] at hr
    obtain ⟨t, ht⟩ := hr
    refine ⟨?_, fun v hv => ?_⟩
    · rw [List.any_cons, List.map_cons, List.any_cons, h1, hj, ht]
      rfl
    · rw [List.map_cons] at hv
      rcases List.mem_cons.mp hv with rfl | hv
      · exact ⟨j, t, ht⟩
      · exact h2 v hv
def tVIn (neg : Bool) (ty td : TE) : TE := fun σ H Q => ty σ H fun y H1 => td σ H1 fun x H2 => ∃ i d kvs, y = .int i ∧ x = .ref d ∧ Rd H2 d (.dK kvs) ∧ (∀ p ∈ kvs, ∃ j, p.2 = .int j) ∧ Q (.bl (neg ^^ kvs.any fun p => vinB i p.2)) H2
section
variable {X : Cx} {e o : Expr} {ty td : TE} {apos cpos : Pos}
theorem vals_any {es : Array DictEntry} {vs : List (Key × Value)} (hs : es.size = vs.length) (h : ∀ i (hi : i < es.size), ∃ k, vs[i]? = some (k, es[i].val)) : es.toList.map (·.val) = vs.map (·.2) := by
  refine List.ext_getElem? fun i => ?_
  rw [List.getElem?_map, List.getElem?_map]
  by_cases hi : i < es.size
  · obtain ⟨k, hk⟩ := h i hi
    rw [hk, Array.getElem?_toList, Array.getElem?_eq_getElem hi]
    rfl
  · rw [List.getElem?_eq_none (by rw [Array.length_toList]; omega), List.getElem?_eq_none (by omega)]
    rfl
theorem vals_eval (hc : X.calm = true) {neg : Bool} {op : CmpOp} (hop : ∀ (u v : Value) (Q : Value → Shared → Prop) (s : Shared), wpAny (model X.prog X.w) X.A (contains u v) (fun b s' => Q (.bool (neg ^^ b)) s') X.xe s → wpAny (model X.prog X.w) X.A (compareOp op v u) Q X.xe s)
    (hi : PE X e ty) (ho : PE X o td) (hbase : attributeBase o "values" X.env (eval o X.env) = eval o X.env) (hline : (apos.endLine == cpos.line) = true) :
    PC X op e (.Call (.Attribute o "values" apos) [] [] cpos) (tVIn neg ty td) := by
  refine ⟨fun pins s σ H Q I h => ?_⟩
  refine thn (hi.run pins s σ H _ I h) fun iv s1 ⟨y, H1, I1, ry, q1⟩ => ?_
  refine wpAny_Call_method (T := "dict") (id := "dict.values") hbase rfl hline F.plainAttrs_dict F.slot_dict_values F.type_dict_values (thn (ho.run pins s1 σ H1 _ I1 q1) fun u s2 ⟨x, H2, I2, rx, i, d, kvs, ey, ex, hd, hall, q⟩ => ?_)
  subst ex ey
  obtain rfl : u = Value.ref d := rx
  obtain ⟨t, rfl⟩ := ry
  obtain ⟨hz, hs0, vs, kv, hdo⟩ := dk_rd I2.hok hd
  have I3 : Inv X pins σ H2 { s2 with heap := s2.heap.push { cls := .type "dict_values", data := .fields #[.ref d] } } := I2.kept (t' := s2.toks) fun b ob q => Heap.get?_push_of_some _ q
  refine ⟨hdo.typeIs, hdo.mapOf.noDict, ?_⟩
  show wpAny _ _ (callWith cpos (.builtin "dict.values") [.ref d] [] []) _ X.xe s2
  refine method_meetsIn F.slot_dict_values F.entry_dict_values rfl (PySem.evalArgs_none ⟨rfl, hdo.typeIs, F.args_dict_values_1 _, _, meets_dict_values (mixKind X.prog X.w) d hs0, ⟨vs, hdo⟩, ?_⟩)
  obtain ⟨es, ep, hr, hsz, hes⟩ := hdo.raw
  obtain ⟨e1, e2⟩ := vin_kv (i := i) kv hall
  have hmap : es.toList.map (·.val) = vs.map (·.2) := vals_any hsz fun j hj => by
    have hjv : j < vs.length := hsz ▸ hj
    obtain ⟨_, h2⟩ := hes j hj vs[j].1 vs[j].2 (by rw [List.getElem?_eq_getElem hjv])
    exact ⟨vs[j].1, by rw [List.getElem?_eq_getElem hjv, h2]⟩
  refine hop _ _ _ _ ?_
  refine contains_vals (I2.ok.hd hc) ⟨_, Heap.get?_push_size _ rfl, rfl, rfl⟩ (hr.at fun o e => Heap.get?_push_of_some _ e) (fun j hj => ?_) fun h' hk => ?_
  · exact e2 _ (by rw [← hmap]; exact List.mem_map.mpr ⟨es[j], Array.getElem_mem_toList hj, rfl⟩)
  · refine ⟨.bl (neg ^^ kvs.any fun p => vinB i p.2), H2, I3.kept (t' := s2.toks) hk, ?_, q⟩
    show Value.bool _ = Value.bool _
    rw [e1, ← hmap, List.any_map]
    rfl
theorem pc_vnotin (hc : X.calm = true) (hi : PE X e ty) (ho : PE X o td) (hbase : attributeBase o "values" X.env (eval o X.env) = eval o X.env) (hline : (apos.endLine == cpos.line) = true) :
    PC X .NotIn e (.Call (.Attribute o "values" apos) [] [] cpos) (tVIn true ty td) := vals_eval hc (fun u v Q s h => by
  show wpAny _ _ (do return .bool (!(← contains u v))) Q _ s
  exact wpAny_bind (wpAny_mono h (fun b s' q => wpAny_pure (by rw [Bool.true_xor] at q; exact q)) fun _ _ z => z)) hi ho hbase hline
end
end L2
namespace Fw
open PySem PySem.Spec PyProof.Rows L2
def intV : List (PyData × D) → Option (List Int)
  | [] => some []
  | (_, .v (.int i)) :: r => (intV r).map (i :: ·)
  | _ => none
def vIn (neg : Bool) : F2 := fun a b st => match iOf a, viewK st b with
  | some i, some (false, kvs) => match intV kvs with
    | some is => .ok (.v (.bool (neg ^^ is.any (· == i)))) st
    | none => .stuck
  | _, _ => .stuck
theorem intV_at {K : PySem.W.Frag} {ι : Gh} {st : Sto} {H : Hp} {i : Int} : ∀ {kvs : List (PyData × D)} {xs : List (Key × L2.V)} {is : List Int}, intV kvs = some is → RK K ι st H kvs xs → (∀ p ∈ xs, ∃ j, p.2 = .int j) ∧ (xs.any fun p => vinB i p.2) = is.any (· == i)
  | [], _, _, e, .nil => by cases e; exact ⟨(fun p hp => nomatch hp), rfl⟩
  | (k, .v (.int j)) :: r, x :: xs, is, e, .cons h t => by
    unfold intV at e
    obtain ⟨js, e1, rfl⟩ := Option.map_eq_some_iff.mp e
    obtain ⟨h1, h2⟩ := intV_at (i := i) e1 t
    have hx : x.2 = .int j := by
      have := h.2
      cases x with
      | mk a b => cases (show Rp (Frz ι st) H b (.int j) from this); rfl
    refine ⟨fun p hp => ?_, ?_⟩
    · rcases List.mem_cons.mp hp with rfl | hp
      · exact ⟨j, hx⟩
      · exact h1 p hp
    · rw [List.any_cons, List.any_cons, h2, hx]
      rfl
  | (k, .ref n) :: r, _, _, e, _ => by cases e
  | (k, .scr n) :: r, _, _, e, _ => by cases e
  | (k, .v (.none)) :: r, _, _, e, _ => by cases e
  | (k, .v (.bool _)) :: r, _, _, e, _ => by cases e
  | (k, .v (.str _)) :: r, _, _, e, _ => by cases e
  | (k, .v (.list _)) :: r, _, _, e, _ => by cases e
  | (k, .v (.tuple _)) :: r, _, _, e, _ => by cases e
  | (k, .v (.dict _)) :: r, _, _, e, _ => by cases e
section
variable {X : Cx} {W : XW} {e o f : Expr} {me mo mf : ME} {apos cpos : Pos}
theorem vin_red {neg : Bool} {σ : L2.St} {H : Hp} {Q : VK} (q : TEo X.K W (mBin (vIn neg) me mo) σ H Q) : tVIn neg (TEo X.K W me) (TEo X.K W mo) σ H (fun v H' => HF H' → Q v H') := by
  obtain ⟨ι, env, st, R, EV, p⟩ := q
  refine ⟨ι, env, st, R, EV, Out.post_mono (Out.post_bind p) (fun a s1 q ι1 H1 y R1 E1 ra => ?_) fun _ _ z => z⟩
  refine ⟨ι1, env, s1, R1, EV.ext E1, Out.post_mono (Out.post_bind q) (fun b s2 q2 ι2 H2 x R2 E2 rb => ?_) fun _ _ z => z.ext E1⟩
  unfold vIn at q2
  split at q2
  · rename_i i kvs e1 e2
    split at q2
    · rename_i is e3
      obtain ⟨d, rfl, ⟨_, xs, h1, h2⟩ | ⟨z, _⟩⟩ := viewK_at R2 e2 rb
      · obtain ⟨h3, h4⟩ := intV_at (i := i) e3 h2
        refine ⟨i, d, xs, iOf_at e1 (ra.ext E2), rfl, h1, h3, fun _ => ?_⟩
        rw [h4]
        exact q2 ι2 H2 _ R2 (E1.trans E2) (.bl _)
      · cases z
    · exact q2.elim
  · exact q2.elim
theorem c_vnotin (g : Gd X) (he : PE X e (TEo X.K W me)) (ho : PE X o (TEo X.K W mo)) (hbase : attributeBase o "values" X.env (eval o X.env) = eval o X.env := by rfl) (hline : (apos.endLine == cpos.line) = true := by rfl) :
    PC X .NotIn e (.Call (.Attribute o "values" apos) [] [] cpos) (TEo X.K W (mBin (vIn true) me mo)) := pc_wrap (pc_vnotin g.calm he ho hbase hline) fun _ _ _ q => vin_red q
def mGet2 (mo mi mf : ME) : ME := fun env st => (mo env st).bind fun o s1 => if isK s1 o then (mi env s1).bind fun i s2 => (mf env s2).bind fun x s3 => match findS s3 o i with
  | some (some d) => .ok d s3
  | some none => .ok x s3
  | none => .stuck else .stuck
theorem x_get2 (gd : Gd X) (ho : PE X o (TEo X.K W mo)) (he : PE X e (TEo X.K W me)) (hf : PE X f (TEo X.K W mf)) (m : M2 X o "get" apos e f cpos := by exact ⟨by rfl, by rfl, by rfl, by rfl⟩) : PE X (.Call (.Attribute o "get" apos) [e, f] [] cpos) (TEo X.K W (mGet2 mo me mf)) :=
  pe_wrap (pe_dget2 (by have := gd.un; omega) ho he hf m) fun σ H Q q => by
    obtain ⟨ι, env, st, R, EV, p⟩ := q
    refine ⟨ι, env, st, R, EV, Out.post_mono (Out.post_bind p) (fun o1 s1 q ι1 H1 x R1 E1 ro => ?_) fun _ _ z => z⟩
    split at q
    · rename_i hk
      obtain ⟨a, rfl, hd⟩ := isK_at R1 hk ro
      refine ⟨a, rfl, hd, ι1, env, s1, R1, EV.ext E1, Out.post_mono (Out.post_bind q) (fun i1 s2 q2 ι2 H2 y R2 E2 ri => ?_) fun _ _ z => z.ext E1⟩
      refine ⟨ι2, env, s2, R2, (EV.ext E1).ext E2, Out.post_mono (Out.post_bind q2) (fun f1 s3 q3 ι3 H3 w R3 E3 rf => ?_) fun _ _ z => z.ext (E1.trans E2)⟩
      split at q3
      · rename_i d e1
        obtain ⟨b, r, h1, h2, h3⟩ := findS_at R3 e1 ((ro.ext E2).ext E3) (ri.ext E3)
        cases h1
        cases r with
        | none => exact h3.elim
        | some v => exact ⟨some v, h2, fun _ => q3 ι3 H3 v R3 ((E1.trans E2).trans E3) h3⟩
      · rename_i e1
        obtain ⟨b, r, h1, h2, h3⟩ := findS_at R3 e1 ((ro.ext E2).ext E3) (ri.ext E3)
        cases h1
        cases r with
        | some v => exact h3.elim
        | none => exact ⟨none, h2, fun _ => q3 ι3 H3 w R3 ((E1.trans E2).trans E3) rf⟩
      · exact q3.elim
    · exact q.elim
end
end Fw
namespace Fw
open PySem PySem.Spec PyProof.Rows L2
section
variable {st : Sto} {env : Ev}
theorem ok_Tnew {P : D → Sto → Prop} : (mTnew env st).Ok P ↔ P (.ref st.length) (st ++ [O.tab []]) := Iff.rfl
theorem ok_gAtT {mo mi : ME} {d : D} {P : Ev → Sto → Prop} : (gAtT mo mi (.one d) env st).Ok P ↔ (mo env st).Ok fun o s1 => (mi env s1).Ok fun i s2 => (setT o i d s2).Ok fun _ s3 => P env s3 := by
  show ((mo env st).bind _).Ok P ↔ _
  simp only [ok_bind, ok_ok]
theorem ok_get2 {mo mi mf : ME} {P : D → Sto → Prop} : (mGet2 mo mi mf env st).Ok P ↔ (mo env st).Ok fun o s1 => isK s1 o = true ∧ (mi env s1).Ok fun i s2 => (mf env s2).Ok fun x s3 => ∃ r, findS s3 o i = some r ∧ P (r.getD x) s3 := by
  unfold mGet2
  rw [ok_bind]
  refine ⟨fun h => h.mono fun o s h => ?_, fun h => h.mono fun o s ⟨c, h⟩ => ?_⟩
  · split at h
    · rename_i c
      rw [ok_bind] at h
      refine ⟨c, h.mono fun i s2 h => ?_⟩
      rw [ok_bind] at h
      refine h.mono fun x s3 h => ?_
      split at h
      · rename_i d e
        exact ⟨_, e, h⟩
      · rename_i e
        exact ⟨_, e, h⟩
      · exact h.elim
    · exact h.elim
  · rw [if_pos c, ok_bind]
    refine h.mono fun i s2 h => ?_
    rw [ok_bind]
    refine h.mono fun x s3 ⟨r, e, h⟩ => ?_
    rw [e]
    cases r <;> exact h
end
end Fw
namespace Fw
open PySem PySem.Spec PyProof.Rows L2
def pairO : List D → Option (PyData × D)
  | [.v kd, v] => match key1 kd with
    | some _ => some (kd, v)
    | none => none
  | _ => none
theorem pairO_at {ds : List D} {kv : PyData × D} (e : pairO ds = some kv) : ds = [.v kv.1, kv.2] ∧ ∃ k, key1 kv.1 = some k := by
  unfold pairO at e
  split at e
  · rename_i kd v
    split at e
    · rename_i k hk
      cases e
      exact ⟨rfl, k, hk⟩
    · cases e
  · cases e
open Classical in
noncomputable def lpL (w : Wt) (g : MG) (t : MT) (m : MA) (env0 : Ev) : List Itm → Sto → Out (List (PyData × D))
  | [] => fun st => if chk w st then .ok [] st else .stuck
  | d :: r => fun st => if chk w st then (g d env0 st).noX.bind fun e1 s1 => (t e1 s1).noX.bind fun k s2 =>
      if k then (m e1 s2).noX.bind fun ds s3 => match pairO ds with
        | some kv => (lpL w g t m env0 r s3).bind fun kvs s4 => .ok (kv :: kvs) s4
        | none => .stuck
      else lpL w g t m env0 r s2
    else .stuck
theorem lpL_noX (w : Wt) (g : MG) (t : MT) (m : MA) (env0 : Ev) : ∀ (ds : List Itm) (st : Sto), (lpL w g t m env0 ds st).noX = lpL w g t m env0 ds st
  | [], st => by
    unfold lpL
    split <;> rfl
  | d :: r, st => by
    unfold lpL
    split
    · refine noX_bind fun e1 s1 => noX_bind fun k s2 => ?_
      split
      · refine noX_bind fun y s3 => ?_
        split
        · rw [← lpL_noX w g t m env0 r s3]
          exact noX_bind fun kvs s4 => rfl
        · rfl
      · exact lpL_noX w g t m env0 r s2
    · rfl
noncomputable def mLp (mi : MI) (g : MG) (t : MT) (m : MA) (own : List Nat) : Ev → Sto → Out (List (PyData × D)) := fun env st => (mi env st).bind fun r s1 => lpL r.2 g t m (wipeE env own) r.1 s1
def PrR (K : PySem.W.Frag) (ι : Gh) (st : Sto) (H : Hp) (p : PyData × D) (x : V) : Prop := ∃ t o kx vx, x = .ref t ∧ H t = some (.frz o (.tup [kx, vx])) ∧ Frz ι st t ∧ Rp (Frz ι st) H kx p.1 ∧ (∃ k, key1 p.1 = some k) ∧ RD K ι st H vx p.2
abbrev RPs (K : PySem.W.Frag) (ι : Gh) (st : Sto) (H : Hp) : List (PyData × D) → List V → Prop := Paired (PrR K ι st H)
section
variable {K : PySem.W.Frag} {ι ι' : Gh} {st st' : Sto} {H H' : Hp}
theorem PrR.mv (m : Mv ι st H ι' st' H') {p : PyData × D} {x : V} (h : PrR K ι st H p x) : PrR K ι' st' H' p x := by
  obtain ⟨t, o, kx, vx, rfl, h1, h2, h3, h4, h5⟩ := h
  obtain ⟨f, e⟩ := m.keep t _ h1 h2
  exact ⟨t, o, kx, vx, rfl, e, f, m.rp h3, h4, m.rd h5⟩
theorem RPs.mv (m : Mv ι st H ι' st' H') : ∀ {kvs xs}, RPs K ι st H kvs xs → RPs K ι' st' H' kvs xs
  | _, _, .nil => .nil
  | _, _, .cons h r => .cons (h.mv m) (RPs.mv m r)
theorem RPs.snoc {p : PyData × D} {x : V} (h : PrR K ι st H p x) : ∀ {kvs xs}, RPs K ι st H kvs xs → RPs K ι st H (kvs ++ [p]) (xs ++ [x])
  | _, _, .nil => .cons h .nil
  | _, _, .cons h' r => .cons h' (RPs.snoc h r)
end
def PP1 (K : PySem.W.Frag) (ι : Gh) (st : Sto) (H : Hp) (Q : VK) (kvs : List (PyData × D)) (st' : Sto) : Prop :=
  ∀ ι' H' xs p, SRel K ι' st' H' → Ext ι st H ι' st' H' → RPs K ι' st' H' kvs xs → H' p = none → HF (upd H' p (.lst xs)) → Q (.ref p) (upd H' p (.lst xs))
theorem PP1.ext {K : PySem.W.Frag} {ι ι' : Gh} {st st' s2 : Sto} {H H' : Hp} {Q : VK} {kvs : List (PyData × D)} (h : PP1 K ι st H Q kvs s2) (e : Ext ι st H ι' st' H') : PP1 K ι' st' H' Q kvs s2 :=
  fun ι2 H2 xs p R E r => h ι2 H2 xs p R (e.trans E) r
def TPo (K : PySem.W.Frag) (W : XW) (m : Ev → Sto → Out (List (PyData × D))) : TE := fun σ H Q => ∃ ι env st, SRel K ι st H ∧ EvR K ι st H σ env ∧ (m env st).post (PP1 K ι st H Q) (PX1 K W ι st H)
theorem hf_tup2 {H : Hp} (h : HF H) {p : Addr} {o : Obj} {x y : V} : HF (upd H p (.frz o (.tup [x, y]))) := hf_upd h (show 2 ≤ sizeLine from lim1000 (by decide))
theorem lp_red {K : PySem.W.Frag} {W : XW} {mi : MI} {g : MG} {t : MT} {m : MA} {own : List Nat} {σ : L2.St} {H : Hp} {Q : VK} (q : TPo K W (mLp mi g t m own) σ H Q) :
    tLc (TIo K W mi) (TGo K WF g (some own)) (TTo K WF t) (fun σ H Q => TAo K WF m σ H fun xs H1 => xs.length ≤ sizeLine ∧ NewT H1 xs Q) own σ H (fun v H' => HF H' → Q v H') := by
  obtain ⟨ι, env, st, R, EV, p⟩ := q
  refine ⟨ι, env, st, R, EV, Out.post_mono (Out.post_bind p) (fun r s1 q ι1 H1 J R1 E1 hW L hL => ?_) fun _ _ q => q⟩
  obtain ⟨ds, w⟩ := r
  have EW := (EV.ext E1).wipe own
  let Inv (i k : Nat) (H : Hp) : Prop := k + i = ds.length ∧ ∃ (acc : List V) (zs : List (PyData × D)) (ι' : Gh) (st' : Sto), ι'.hid = ι1.hid ∧ H L = some (.lst acc) ∧ acc.length ≤ i ∧ SRel K (ι'.hide L) st' H ∧
    Mv ι1 s1 H1 (ι'.hide L) st' H ∧ (∀ a, a ∈ ι1.hid → H a = H1 a) ∧
    RPs K (ι'.hide L) st' H zs acc ∧ (lpL w g t m (wipeE env own) (ds.drop i) st').post (fun ws s2 => PP1 K ι1 s1 H1 Q (zs ++ ws) s2) fun _ _ => False
  have nL : L ∉ ι1.hid := R1.hid_new hL
  refine ⟨Inv, ⟨ds.length, Nat.add_zero _, [], [], ι1, s1, rfl, upd_same, Nat.le_refl _, R1.hide hL trivial (hf_lst R1.hf (Nat.zero_le _)), mv_hide R1 hL, fun a ha => upd_ne fun z => nL (by rw [← z]; exact ha), .nil, ?_⟩, ?_⟩
  · have q' : (lpL w g t m (wipeE env own) ds s1).noX.post (PP1 K ι st H Q) (PX1 K W ι st H) := by rw [lpL_noX]; exact q
    have q2 : (lpL w g t m (wipeE env own) ds s1).post (PP1 K ι st H Q) fun _ _ => False := noX_post q'
    exact Out.post_mono q2 (fun zs s2 z => PP1.ext z E1) fun _ _ z => z
  rintro i k H2 ⟨hk, acc, zs, ι2, s2, eh, hA, hal, R2, mv, kz, rA, p2⟩
  by_cases hi : i < ds.length
  · right
    have hd : ds.drop i = ds[i] :: ds.drop (i + 1) := List.drop_eq_getElem_cons hi
    rw [hd] at p2
    unfold lpL at p2
    split at p2
    · rename_i hc
      obtain ⟨hgo, hy⟩ := hW.go i ds[i] (ι2.hide L) s2 H2 (List.getElem?_eq_getElem hi) R2 mv hc
      have hlen : acc.length < sizeLine := Nat.lt_of_le_of_lt hal (Nat.lt_of_lt_of_le hi hW.len)
      have fin : ∀ {ι6 : Gh} {s6 : Sto} {H6 : Hp}, SRel K ι6 s6 H6 → Ext (ι2.hide L) s2 H2 ι6 s6 H6 → ∃ ι' : Gh, ι6 = ι'.hide L ∧ ι'.hid = ι1.hid ∧ H6 L = some (.lst acc) ∧ ∀ a, a ∈ ι1.hid → H6 a = H1 a := by
        intro ι6 s6 H6 R6 E6
        refine ⟨⟨ι6.ad, ι1.hid⟩, ?_, rfl, ?_, fun a ha => ?_⟩
        · have e := E6.hid
          have e2 : (ι2.hide L).hid = L :: ι1.hid := by rw [← eh]; rfl
          rw [e2] at e
          cases ι6
          simp only at e
          rw [e]
          rfl
        · rw [E6.keepZ L List.mem_cons_self]; exact hA
        · rw [E6.keepZ a (List.mem_cons_of_mem _ (by rw [eh]; exact ha))]
          exact kz a ha
      refine ⟨hgo, Inv (i + 1) (k - 1), fun H' hN => ⟨k - 1, by omega, hN⟩, fun x H3 hyl => ?_⟩
      obtain ⟨R3, E3, ri⟩ := hy x H3 hyl
      refine ⟨ι2.hide L, wipeE env own, s2, ds[i], R3, (mv.ev EW).ext E3, ri, noX_post (Out.post_mono (Out.post_bind p2) (fun e1 s4 q4 => ?_) fun _ _ z => z)⟩
      refine fun ι4 H4 σ4 R4 E4 EV4 hw => ⟨(show L2.wipe σ4 own = _ from hw).trans (wipe_wipe σ own), ?_⟩
      have E34 := E3.trans E4
      refine ⟨ι4, e1, s4, R4, EV4, noX_post (Out.post_mono (Out.post_bind q4) (fun b s5 q5 ι5 H5 R5 E5 => ?_) fun _ _ z => z)⟩
      have E35 := E34.trans E5
      cases b with
      | false =>
        obtain ⟨ι', e6, e7, e8, e9⟩ := fin R5 E35
        subst e6
        refine iteF ⟨by omega, acc, zs, ι', s5, e7, e8, Nat.le_succ_of_le hal, R5, mv.trans E35.mv, e9, RPs.mv E35.mv rA, ?_⟩
        exact q5
      | true =>
        refine iteT ⟨ι5, e1, s5, R5, EV4.ext E5, noX_post (Out.post_mono (Out.post_bind q5) (fun ds6 s6 q6 ι6 H6 ys R6 E6 ry => ?_) fun _ _ z => z)⟩
        split at q6
        · rename_i kv hkv
          obtain ⟨rfl, hk1⟩ := pairO_at hkv
          obtain ⟨kx, vx, rfl, r1, r2⟩ := ry.two
          refine ⟨lim1000 (show 2 ≤ 1000 by decide), fun tp o hn ho => ?_⟩
          have R7 : SRel K ι6 s6 (upd H6 tp (.frz o (.tup [kx, vx]))) := R6.fresh hn (hf_tup2 R6.hf)
          have E7 : Ext ι6 s6 H6 ι6 s6 (upd H6 tp (.frz o (.tup [kx, vx]))) := Ext.fresh R6 hn
          have E37 := (E35.trans E6).trans E7
          have hp : PrR K ι6 s6 (upd H6 tp (.frz o (.tup [kx, vx]))) kv (.ref tp) := ⟨tp, o, kx, vx, rfl, upd_same, R6.frz_new hn, Rp.ext E7 r1, hk1, RD.ext E7 r2⟩
          obtain ⟨ι', e6, e7, e8, e9⟩ := fin R7 E37
          subst e6
          have hm := mv_hset (u := .lst (acc ++ [.ref tp])) (ι := ι'.hide L) (st := s6) (H := upd H6 tp (.frz o (.tup [kx, vx]))) R7 List.mem_cons_self
          refine ⟨acc, e8, hlen, by omega, acc ++ [.ref tp], zs ++ [kv], ι', s6, e7, upd_same, by rw [List.length_append]; exact Nat.succ_le_succ hal, R7.hset List.mem_cons_self trivial (hf_lst R7.hf (by rw [List.length_append]; exact hlen)), (mv.trans E37.mv).trans hm, fun a ha => ?_, RPs.mv hm (RPs.snoc hp (RPs.mv E37.mv rA)), ?_⟩
          · rw [upd_ne fun z => nL (by rw [← z]; exact ha)]
            exact e9 a ha
          · refine Out.post_mono (Out.post_bind q6) (fun ws s7 z7 => ?_) fun _ _ z => z
            show PP1 K ι1 s1 H1 Q (zs ++ [kv] ++ ws) s7
            rw [List.append_assoc]
            exact z7
        · exact q6.elim
    · exact p2.elim
  · left
    have hd : ds.drop i = [] := List.drop_eq_nil_of_le (by omega)
    rw [hd] at p2
    unfold lpL at p2
    split at p2
    · rename_i hc
      have e : i = ds.length := by omega
      subst e
      refine ⟨hW.stop (ι2.hide L) s2 H2 R2 mv hc, fun hf => ?_⟩
      have p3 : PP1 K ι1 s1 H1 Q zs s2 := by
        have z : PP1 K ι1 s1 H1 Q (zs ++ []) s2 := p2
        rw [List.append_nil] at z
        exact z
      have sh := mv_show R2
      have E12 : Ext ι1 s1 H1 ι2 s2 (del H2 L) := by
        have m2 := mv.trans sh
        refine ⟨m2.keep, m2.pre, eh, fun a ha => ?_, m2.lk⟩
        rw [del_ne fun z => nL (by rw [← z]; exact ha)]
        exact kz a ha
      have z := p3 ι2 (del H2 L) acc L (R2.unhide (by rw [eh]; exact nL)) E12 (RPs.mv sh rA) del_same (by rw [upd_del hA]; exact R2.hf)
      rw [upd_del hA] at z
      exact z
    · exact p2.elim
noncomputable def mDictLp (mi : MI) (g : MG) (t : MT) (m : MA) (own : List Nat) : ME := fun env st => (mLp mi g t m own env st).bind fun kvs s => if (kvs.all fun p => p.2.low s.length) = true then .ok (.ref s.length) (s ++ [.dct false (putAll [] kvs)]) else .stuck
theorem rps_rk {K : PySem.W.Frag} {ι : Gh} {st : Sto} {H : Hp} : ∀ {kvs : List (PyData × D)} {us : List V}, RPs K ι st H kvs us → ∃ (ps : List Addr) (xs : List (Key × V)), us = ps.map V.ref ∧ Paired (fun p kv => SqT K H p [kV kv.1, kv.2]) ps xs ∧ RK K ι st H kvs xs ∧ ∀ p ∈ kvs, ∃ k, key1 p.1 = some k
  | _, _, .nil => ⟨[], [], rfl, .nil, .nil, fun p hp => nomatch hp⟩
  | p :: kvs, _ :: us, .cons h r => by
    obtain ⟨ps, xs, rfl, h1, h2, h3⟩ := rps_rk r
    obtain ⟨t, o, kx, vx, rfl, g1, g2, g3, ⟨k, hk⟩, g5⟩ := h
    have e := kD_of hk
    rw [e] at g3
    have ek := kV_of g3
    subst ek
    refine ⟨t :: ps, (k, vx) :: xs, rfl, .cons (.inl (.inr ⟨o, g1⟩)) h1, .cons ⟨e, g5⟩ h2, fun q hq => ?_⟩
    rcases List.mem_cons.mp hq with rfl | hq
    · exact ⟨k, hk⟩
    · exact h3 q hq
section
variable {X : Cx} {W : XW} {tg iter : Expr} {es : List Expr} {ifs : List Expr} {scope : Scope} {own : List (Str × Nat)} {pos tpos cpos p : Pos} {mi : MI} {g : MG} {t : MT} {m : MA} {x : Str} {kk : Nat}
theorem x_lp (gd : Gd X) (hN : X.N.Nodup) (hi : PI X tg iter (TIo X.K W mi)) (ok : BlkOk X.N X.env.scope scope own)
    (hb : ∀ (s : Shared) (H : Hp) (C : Addr) (cl : List (Str × Addr)) (fp : List Addr), PG (X.blk s H scope (compEnvC scope cl C X.env) fp) tg (TGo X.K WF g (some (own.map (·.2)))) ∧ PTs (X.blk s H scope (compEnvC scope cl C X.env) fp) ifs (TTo X.K WF t) ∧ PA (X.blk s H scope (compEnvC scope cl C X.env) fp) es (TAo X.K WF m))
    (hs : ∀ x, foldedSetIterable iter X.env x = pure x := by intro _; rfl) : PE X (.ListComp (.Tuple es kk tpos) [⟨tg, iter, ifs, 0⟩] scope pos) (TPo X.K W (mLp mi g t m (own.map (·.2)))) := by
  have h := pe_lc (pos := pos) gd.calm hN hi ok (fun s H C cl fp => (hb s H C cl fp).1) (fun s H C cl fp => (hb s H C cl fp).2.1) (fun s H C cl fp => pe_tupN (x1 := kk) (pos := tpos) (hb s H C cl fp).2.2) hs
  exact ⟨fun pins s σ H Q I q => thn (h.run pins s σ H _ I (lp_red q)) fun _ _ ⟨v, H', I', r, q'⟩ => ⟨v, H', I', r, q' (hf_of I')⟩⟩
theorem x_dictLp {e : Expr} (gd : Gd X) (hg : Gl X x) (hm : X.mg x = none) (hv : bootBuiltins x = some (.type "dict")) (he : PE X e (TPo X.K W (mLp mi g t m (own.map (·.2))))) (hn : x ≠ "__name__" := by decide) (hdb : (x == ("__debug__" : Str)) = false := by decide)
    (hs : starEach [e] X.env = (false, eval e X.env) :: starEach [] X.env := by rfl) (hpl : (backTo cpos (starEach [] X.env)).any (·.1) = false := by rfl) :
    PE X (.Call (.Name x p) [e] [] cpos) (TEo X.K W (mDictLp mi g t m (own.map (·.2)))) :=
  pe_wrap (pe_callTy (call_dictP gd.calm) hg hm hv (pa_cons he pa_nil hs) hn hdb hs hpl) fun σ H Q q => by
    obtain ⟨ι, env, st, R, EV, pp⟩ := q
    refine ⟨ι, env, st, R, EV, Out.post_mono (Out.post_bind pp) (fun kvs s1 q ι1 H1 us a R1 E1 rp ha hf => ?_) fun _ _ z => z⟩
    split at q
    · rename_i hlow
      have E2 : Ext ι1 s1 H1 ι1 s1 (upd H1 a (.lst us)) := Ext.fresh R1 ha
      have R2 : SRel X.K ι1 s1 (upd H1 a (.lst us)) := R1.fresh ha hf
      obtain ⟨ps, xs, rfl, h1, h2, h3⟩ := rps_rk (RPs.mv E2.mv rp)
      refine ⟨a, ps, xs, rfl, .of upd_same, h1, fun b hb hf2 => ?_⟩
      have E3 : Ext ι1 s1 (upd H1 a (.lst (ps.map V.ref))) (ι1.psh b) (s1 ++ [.dct false (putAll [] kvs)]) (upd (upd H1 a (.lst (ps.map V.ref))) b (.dK (mergeK [] xs))) := Ext.push R2 hb
      exact q (ι1.psh b) _ _ (R2.push hb hf2 ⟨_, upd_same, RK.ext E3 (rk_putAll h2 h3 .nil)⟩ (putAll_low hlow rfl)) ((E1.trans E2).trans E3) ⟨b, psh_at R2, rfl⟩
    · exact q.elim
end
end Fw
namespace Fw.LH
open PySem PySem.Spec PyProof.Rows L2 Fw
noncomputable abbrev f_do_want : FF := Fw.LC.f_do_want
noncomputable abbrev f_has_rather : FF := Fw.LC.f_has_rather
noncomputable abbrev f_partner_of : FF := Fw.LC.f_partner_of
noncomputable def asked_next_E1 : MI := (miSeq (mBin subsD (mBin subsD (mVar 0) (mC (.int 1))) (mVar 2)))
noncomputable def asked_next_G1 : MG := (gNm 3)
noncomputable def asked_next_T1 : MT := (mAndT (mTru' (mCall f_do_want (mCons (mVar 0) (mCons (mVar 2) (mCons (mVar 3) mNil))) [])) (mTB (mBin notInT (mArg fTup (mCons (mVar 2) (mCons (mVar 3) mNil))) (mVar 1))))
noncomputable def asked_next_M1 : ME := (mVar 3)
noncomputable def S_asked_next : MS := (sRet (mFrz (mLc asked_next_E1 asked_next_G1 asked_next_T1 asked_next_M1 [3])))
noncomputable def f_asked_next : FF := fnT 4 S_asked_next
noncomputable def pairing_by_B2_3 : MS := (sIf (mTB (mBin isNotD (mVar 8) (mC .none))) (sSeq (sAsg (mC (.bool true)) (gAtT (mVar 3) (mArg fTup (mCons (mVar 8) (mCons (mVar 6) mNil))))) (sExp (mM fmAppend (mVar 4) (mCons (mVar 8) mNil)))) sNil)
noncomputable def pairing_by_B2_2 : MS := (sSeq (sIf (mTru' (mCall f_has_rather (mCons (mVar 0) (mCons (mVar 6) (mCons (mVar 5) (mCons (mVar 7) mNil)))) [])) (sSeq (sSub (mVar 5) (mVar 2) (mVar 6)) (sAsg (mVar 7) (gNm 8))) (sAsg (mVar 5) (gNm 8))) pairing_by_B2_3)
noncomputable def pairing_by_E1 : MI := (miSeq (mSl (mCall f_asked_next (mCons (mVar 0) (mCons (mVar 3) (mCons (mVar 5) mNil))) []) moNone (moSome (mC (.int 1)))))
noncomputable def pairing_by_G1 : MG := (gNm 6)
noncomputable def pairing_by_B2 : MS := (sSeq (sAsg (mGet2 (mVar 2) (mVar 6) (mC .none)) (gNm 7)) pairing_by_B2_2)
noncomputable def pairing_by_B1_2 : MS := (sFor pairing_by_E1 pairing_by_G1 pairing_by_B2)
noncomputable def pairing_by_T1 : MT := (mTB (mBin neD (mVar 4) (mFrz (mfArg gDisp mNil))))
noncomputable def pairing_by_B1 : MS := (sSeq (sAsg (mM0 fmPop (mVar 4)) (gNm 5)) pairing_by_B1_2)
noncomputable def pairing_by_E2 : MI := (miItems (mVar 2))
noncomputable def pairing_by_G2 : MG := (gTp 2 (gMore (gNm 6) (gMore (gNm 9) gNone)))
noncomputable def pairing_by_T2 : MT := mYes
noncomputable def pairing_by_M1 : ME := (mArg fTup (mCons (mArg (f2I intMin) (mCons (mVar 9) (mCons (mVar 6) mNil))) (mCons (mArg (f2I intMax) (mCons (mVar 9) (mCons (mVar 6) mNil))) mNil)))
noncomputable def S_pairing_by_3 : MS := (sRet (mArg fTuple (mCons (mFrz (mfArg gSort (mCons (mLock 2 (mFrz (mLc pairing_by_E2 pairing_by_G2 pairing_by_T2 pairing_by_M1 [6, 9]))) mNil))) mNil)))
noncomputable def S_pairing_by_2 : MS := (sSeq (whileL pairing_by_T1 pairing_by_B1 1000000) S_pairing_by_3)
noncomputable def S_pairing_by : MS := (sSeq (sPar3 2 3 4 (mCons (mDnew false) (mCons mTnew (mCons (mNew (mfArg gList (mCons (mVar 1) mNil))) mNil)))) S_pairing_by_2)
noncomputable def f_pairing_by : FF := fnT 10 S_pairing_by
noncomputable def S_low_pairing : MS := (sRet (mCall f_pairing_by (mCons (mVar 0) (mCons (mVar 1) mNil)) []))
noncomputable def f_low_pairing : FF := fnT 2 S_low_pairing
noncomputable def high_pairing_E1 : MI := (miR1 (mCons (mBin subsD (mVar 0) (mC (.int 0))) mNil))
noncomputable def high_pairing_G1 : MG := (gNm 2)
noncomputable def high_pairing_T1 : MT := (mTB (mBin notInU (mVar 2) (mVar 1)))
noncomputable def high_pairing_M1 : ME := (mVar 2)
noncomputable def S_high_pairing : MS := (sRet (mCall f_pairing_by (mCons (mVar 0) (mCons (mFrz (mLc high_pairing_E1 high_pairing_G1 high_pairing_T1 high_pairing_M1 [2])) mNil)) []))
noncomputable def f_high_pairing : FF := fnT 3 S_high_pairing
noncomputable abbrev f_law_pick : FF := Fw.LB.f_law_pick
noncomputable abbrev f_law_of : FF := Fw.LB.f_law_of
noncomputable abbrev f_law_mixed : FF := Fw.LB.f_law_mixed
noncomputable abbrev f_law_want : FF := Fw.LC.f_law_want
noncomputable def S_law_rather_3 : MS := (sRet (mBin ltD (mVar 5) (mIte (mTB (mBin inU (mVar 3) (mVar 4))) (mIndex (mVar 4) (mCons (mVar 3) mNil)) (mArg fLen (mCons (mVar 4) mNil)))))
noncomputable def S_law_rather_2 : MS := (sSeq (sAsg (mIte (mTB (mBin inU (mVar 2) (mVar 4))) (mIndex (mVar 4) (mCons (mVar 2) mNil)) (mArg fLen (mCons (mVar 4) mNil))) (gNm 5)) S_law_rather_3)
noncomputable def S_law_rather : MS := (sSeq (sAsg (mFrz (mfBin gCat (mFrz (mfArg gList (mCons (mBin subsD (mBin subsD (mVar 0) (mC (.int 1))) (mVar 1)) mNil))) (mFrz (mfArg gDisp (mCons (mC .none) mNil))))) (gNm 4)) S_law_rather_2)
noncomputable def f_law_rather : FF := fnT 6 S_law_rather
noncomputable def law_partner_E1 : MI := (miSeq (mVar 0))
noncomputable def law_partner_G1 : MG := (gTp 2 (gMore (gNm 3) (gMore (gNm 4) gNone)))
noncomputable def law_partner_T1 : MT := (mTB (mBin inU (mVar 1) (mArg fTup (mCons (mVar 3) (mCons (mVar 4) mNil)))))
noncomputable def law_partner_M1 : ME := (mBin subD (mBin addD (mVar 3) (mVar 4)) (mVar 1))
noncomputable def S_law_partner_2 : MS := (sRet (mIte (mTB (mBin neD (mVar 2) (mFrz (mfArg gDisp mNil)))) (mBin subsD (mVar 2) (mC (.int 0))) (mC .none)))
noncomputable def S_law_partner : MS := (sSeq (sAsg (mFrz (mLc law_partner_E1 law_partner_G1 law_partner_T1 law_partner_M1 [3, 4])) (gNm 2)) S_law_partner_2)
noncomputable def f_law_partner : FF := fnT 5 S_law_partner
noncomputable def law_breaking_E1 : MI := (miR2 (mCons (mBin addD (mVar 3) (mC (.int 1))) (mCons (mBin subsD (mVar 0) (mC (.int 0))) mNil)))
noncomputable def law_breaking_G1 : MG := (gNm 4)
noncomputable def law_breaking_B2 : MS := (sIf (mAndT (mTru' (mCall f_law_want (mCons (mVar 0) (mCons (mVar 3) (mCons (mVar 4) mNil))) [])) (mTru' (mCall f_law_rather (mCons (mVar 0) (mCons (mVar 3) (mCons (mVar 4) (mCons (mCall f_law_partner (mCons (mVar 1) (mCons (mVar 3) mNil)) []) mNil)))) []))) (sAsg (mFrz (mfBin gCat (mVar 2) (mFrz (mfBin gRep (mFrz (mfArg gDisp (mCons (mArg fTup (mCons (mVar 3) (mCons (mVar 4) mNil))) mNil))) (mArg fInt (mCons (mCall f_law_rather (mCons (mVar 0) (mCons (mVar 4) (mCons (mVar 3) (mCons (mCall f_law_partner (mCons (mVar 1) (mCons (mVar 4) mNil)) []) mNil)))) []) mNil)))))) (gNm 2)) sNil)
noncomputable def law_breaking_E2 : MI := (miR1 (mCons (mBin subsD (mVar 0) (mC (.int 0))) mNil))
noncomputable def law_breaking_G2 : MG := (gNm 3)
noncomputable def law_breaking_B1 : MS := (sFor law_breaking_E1 law_breaking_G1 law_breaking_B2)
noncomputable def S_law_breaking_3 : MS := (sRet (mVar 2))
noncomputable def S_law_breaking_2 : MS := (sSeq (sFor law_breaking_E2 law_breaking_G2 law_breaking_B1) S_law_breaking_3)
noncomputable def S_law_breaking : MS := (sSeq (sAsg (mFrz (mfArg gDisp mNil)) (gNm 2)) S_law_breaking_2)
noncomputable def f_law_breaking : FF := fnT 5 S_law_breaking
noncomputable def law_pairings_E1 : MI := (miSeq (mVar 1))
noncomputable def law_pairings_G1 : MG := (gNm 5)
noncomputable def law_pairings_T1 : MT := (mAndT (mTB (mBin isD (mCall f_law_partner (mCons (mVar 5) (mCons (mVar 2) mNil)) []) (mC .none))) (mTB (mBin isD (mCall f_law_partner (mCons (mVar 5) (mCons (mVar 3) mNil)) []) (mC .none))))
noncomputable def law_pairings_M1 : ME := (mVar 5)
noncomputable def law_pairings_E2 : MI := (miSeq (mVar 4))
noncomputable def law_pairings_G2 : MG := (gNm 5)
noncomputable def law_pairings_T2 : MT := mYes
noncomputable def law_pairings_M2 : ME := (mBin addD (mVar 5) (mArg fTup (mCons (mArg fTup (mCons (mVar 2) (mCons (mVar 3) mNil))) mNil)))
noncomputable def law_pairings_E3 : MI := (miR2 (mCons (mBin addD (mVar 2) (mC (.int 1))) (mCons (mBin subsD (mVar 0) (mC (.int 0))) mNil)))
noncomputable def law_pairings_G3 : MG := (gNm 3)
noncomputable def law_pairings_B2 : MS := (sIf (mTru' (mCall f_law_want (mCons (mVar 0) (mCons (mVar 2) (mCons (mVar 3) mNil))) [])) (sSeq (sAsg (mFrz (mLc law_pairings_E1 law_pairings_G1 law_pairings_T1 law_pairings_M1 [5])) (gNm 4)) (sAsg (mFrz (mfBin gCat (mVar 1) (mFrz (mLc law_pairings_E2 law_pairings_G2 law_pairings_T2 law_pairings_M2 [5])))) (gNm 1))) sNil)
noncomputable def law_pairings_E4 : MI := (miR1 (mCons (mBin subsD (mVar 0) (mC (.int 0))) mNil))
noncomputable def law_pairings_G4 : MG := (gNm 2)
noncomputable def law_pairings_B1 : MS := (sFor law_pairings_E3 law_pairings_G3 law_pairings_B2)
noncomputable def S_law_pairings_3 : MS := (sRet (mFrz (mfArg gSortG (mCons (mVar 1) mNil))))
noncomputable def S_law_pairings_2 : MS := (sSeq (sFor law_pairings_E4 law_pairings_G4 law_pairings_B1) S_law_pairings_3)
noncomputable def S_law_pairings : MS := (sSeq (sAsg (mFrz (mfArg gDisp (mCons (mArg fTup mNil) mNil))) (gNm 1)) S_law_pairings_2)
noncomputable def f_law_pairings : FF := fnT 6 S_law_pairings
noncomputable def law_two_sides_E1 : MI := (miR1 (mCons (mVar 3) mNil))
noncomputable def law_two_sides_G1 : MG := (gNm 6)
noncomputable def law_two_sides_T1 : MT := (mTB (mBin eqD (mCall f_law_pick (mCons (mVar 0) (mCons (mC (.int 2)) mNil)) []) (mC (.int 0))))
noncomputable def law_two_sides_M1 : ME := (mVar 6)
noncomputable def law_two_sides_E2 : MI := (miR1 (mCons (mVar 3) mNil))
noncomputable def law_two_sides_G2 : MG := (gNm 8)
noncomputable def law_two_sides_T2 : MT := (mTB (mBin neD (mBin inU (mVar 8) (mVar 5)) (mBin inU (mVar 6) (mVar 5))))
noncomputable def law_two_sides_M2 : ME := (mVar 8)
noncomputable def law_two_sides_B1_3 : MS := (sExp (mM fmAppend (mVar 4) (mCons (mArg fTuple (mCons (mSl (mVar 7) moNone (moSome (mArg (f2I intMax) (mCons (mC (.int 0)) (mCons (mBin subD (mArg fLen (mCons (mVar 7) mNil)) (mVar 9)) mNil))))) mNil)) mNil)))
noncomputable def law_two_sides_B1_2 : MS := (sSeq (sAsg (mCall f_law_of (mCons (mVar 0) (mCons (mFrz (mfArg gDisp (mCons (mC (.int 0)) (mCons (mC (.int 0)) (mCons (mC (.int 0)) (mCons (mC (.int 0)) (mCons (mC (.int 1)) (mCons (mC (.int 2)) mNil)))))))) mNil)) []) (gNm 9)) law_two_sides_B1_3)
noncomputable def law_two_sides_E3 : MI := (miR1 (mCons (mVar 3) mNil))
noncomputable def law_two_sides_G3 : MG := (gNm 6)
noncomputable def law_two_sides_B1 : MS := (sSeq (sAsg (mCall f_law_mixed (mCons (mVar 0) (mCons (mFrz (mLc law_two_sides_E2 law_two_sides_G2 law_two_sides_T2 law_two_sides_M2 [8])) mNil)) []) (gNm 7)) law_two_sides_B1_2)
noncomputable def S_law_two_sides_4 : MS := (sRet (mArg fTup (mCons (mArg fTup (mCons (mVar 3) (mCons (mArg fTuple (mCons (mVar 4) mNil)) mNil))) (mCons (mVar 5) mNil))))
noncomputable def S_law_two_sides_3 : MS := (sSeq (sFor law_two_sides_E3 law_two_sides_G3 law_two_sides_B1) S_law_two_sides_4)
noncomputable def S_law_two_sides_2 : MS := (sSeq (sAsg (mArg fTuple (mCons (mFrz (mLc law_two_sides_E1 law_two_sides_G1 law_two_sides_T1 law_two_sides_M1 [6])) mNil)) (gNm 5)) S_law_two_sides_3)
noncomputable def S_law_two_sides : MS := (sSeq (sPar2 3 4 (mCons (mBin addD (mVar 1) (mCall f_law_pick (mCons (mVar 0) (mCons (mBin addD (mBin subD (mVar 2) (mVar 1)) (mC (.int 1))) mNil)) [])) (mCons (mNew (mfArg gDisp mNil)) mNil))) S_law_two_sides_2)
noncomputable def f_law_two_sides : FF := fnT 10 S_law_two_sides
noncomputable def S_law_told_by : MS := (sRet (mArg fTup (mCons (mBin subsD (mVar 0) (mC (.int 0))) (mCons (mBin addD (mBin addD (mSl (mBin subsD (mVar 0) (mC (.int 1))) moNone (moSome (mVar 1))) (mArg fTup (mCons (mVar 2) mNil))) (mSl (mBin subsD (mVar 0) (mC (.int 1))) (moSome (mBin addD (mVar 1) (mC (.int 1)))) moNone)) mNil))))
noncomputable def f_law_told_by : FF := fnT 3 S_law_told_by
noncomputable def law_asking_E1 : MI := (miSeq (mBin subsD (mBin subsD (mVar 0) (mC (.int 1))) (mVar 4)))
noncomputable def law_asking_G1 : MG := (gNm 5)
noncomputable def law_asking_T1 : MT := (mTru' (mCall f_law_want (mCons (mVar 0) (mCons (mVar 4) (mCons (mVar 5) mNil))) []))
noncomputable def law_asking_M1 : ME := (mVar 5)
noncomputable def law_asking_E2 : MI := (miSeq (mVar 1))
noncomputable def law_asking_G2 : MG := (gNm 4)
noncomputable def law_asking_T2 : MT := mYes
noncomputable def law_asking_M2 : MA := (mCons (mVar 4) (mCons (mNew (mLc law_asking_E1 law_asking_G1 law_asking_T1 law_asking_M1 [5])) mNil))
noncomputable def law_asking_E3 : MI := (miSeq (mVar 1))
noncomputable def law_asking_G3 : MG := (gNm 4)
noncomputable def law_asking_T3 : MT := (mAndT (mTB (mBin (vIn true) (mVar 4) (mVar 3))) (mTB (mBin neD (mBin subsD (mVar 2) (mVar 4)) (mFrz (mfArg gDisp mNil)))))
noncomputable def law_asking_M3 : ME := (mVar 4)
noncomputable def law_asking_B2_2 : MS := (sIf (mTru' (mCall f_law_rather (mCons (mVar 0) (mCons (mVar 5) (mCons (mVar 4) (mCons (mGet2 (mVar 3) (mVar 5) (mC .none)) mNil)))) [])) (sSub (mVar 4) (mVar 3) (mVar 5)) sNil)
noncomputable def law_asking_E4 : MI := (miSeq (mFrz (mfSl (mVar 7) moNone (moSome (mC (.int 1))))))
noncomputable def law_asking_G4 : MG := (gNm 4)
noncomputable def law_asking_B2 : MS := (sSeq (sAsg (mM fmPopAt (mBin subsD (mVar 2) (mVar 4)) (mCons (mC (.int 0)) mNil)) (gNm 5)) law_asking_B2_2)
noncomputable def law_asking_B1_2 : MS := (sFor law_asking_E4 law_asking_G4 law_asking_B2)
noncomputable def law_asking_E5 : MI := (miR1 (mCons (mBin mulD (mBin subsD (mVar 0) (mC (.int 0))) (mBin subsD (mVar 0) (mC (.int 0)))) mNil))
noncomputable def law_asking_G5 : MG := (gNm 6)
noncomputable def law_asking_B1 : MS := (sSeq (sAsg (mFrz (mLc law_asking_E3 law_asking_G3 law_asking_T3 law_asking_M3 [4])) (gNm 7)) law_asking_B1_2)
noncomputable def law_asking_E6 : MI := (miItems (mVar 3))
noncomputable def law_asking_G6 : MG := (gTp 2 (gMore (gNm 5) (gMore (gNm 4) gNone)))
noncomputable def law_asking_T4 : MT := mYes
noncomputable def law_asking_M4 : ME := (mArg fTup (mCons (mArg (f2I intMin) (mCons (mVar 4) (mCons (mVar 5) mNil))) (mCons (mArg (f2I intMax) (mCons (mVar 4) (mCons (mVar 5) mNil))) mNil)))
noncomputable def S_law_asking_3 : MS := (sRet (mArg fTuple (mCons (mFrz (mfArg gSort (mCons (mLock 3 (mFrz (mLc law_asking_E6 law_asking_G6 law_asking_T4 law_asking_M4 [5, 4]))) mNil))) mNil)))
noncomputable def S_law_asking_2 : MS := (sSeq (sFor law_asking_E5 law_asking_G5 law_asking_B1) S_law_asking_3)
noncomputable def S_law_asking : MS := (sSeq (sAsgT 2 (mCons (mDictLp law_asking_E2 law_asking_G2 law_asking_T2 law_asking_M2 [4]) (mCons (mDnew false) mNil)) (gMore (gNm 2) (gMore (gNm 3) gNone))) S_law_asking_2)
noncomputable def f_law_asking : FF := fnT 8 S_law_asking
noncomputable def law_others_E1 : MI := (miR1 (mCons (mBin subsD (mVar 0) (mC (.int 0))) mNil))
noncomputable def law_others_G1 : MG := (gNm 2)
noncomputable def law_others_T1 : MT := (mTB (mBin notInU (mVar 2) (mVar 1)))
noncomputable def law_others_M1 : ME := (mVar 2)
noncomputable def S_law_others : MS := (sRet (mArg fTuple (mCons (mFrz (mLc law_others_E1 law_others_G1 law_others_T1 law_others_M1 [2])) mNil)))
noncomputable def f_law_others : FF := fnT 3 S_law_others
noncomputable def S_law_gains_2 : MS := (sRet (mCall f_law_rather (mCons (mVar 0) (mCons (mVar 2) (mCons (mCall f_law_partner (mCons (mVar 5) (mCons (mVar 2) mNil)) []) (mCons (mCall f_law_partner (mCons (mVar 4) (mCons (mVar 2) mNil)) []) mNil)))) []))
noncomputable def S_law_gains : MS := (sSeq (sPar2 4 5 (mCons (mCall f_law_asking (mCons (mVar 0) (mCons (mVar 1) mNil)) []) (mCons (mCall f_law_asking (mCons (mCall f_law_told_by (mCons (mVar 0) (mCons (mVar 2) (mCons (mVar 3) mNil))) []) (mCons (mVar 1) mNil)) []) mNil))) S_law_gains_2)
noncomputable def f_law_gains : FF := fnT 6 S_law_gains
noncomputable def law_rows_of_E1 : MI := (miSeq (mVar 0))
noncomputable def law_rows_of_G1 : MG := (gNm 6)
noncomputable def law_rows_of_T1 : MT := (mTB (mBin notInU (mVar 6) (mVar 5)))
noncomputable def law_rows_of_M1 : ME := (mBin addD (mVar 5) (mArg fTup (mCons (mVar 6) mNil)))
noncomputable def law_rows_of_E2 : MI := (miSeq (mVar 2))
noncomputable def law_rows_of_G2 : MG := (gNm 5)
noncomputable def law_rows_of_B2 : MS := (sAsg (mFrz (mfBin gCat (mVar 4) (mFrz (mLc law_rows_of_E1 law_rows_of_G1 law_rows_of_T1 law_rows_of_M1 [6])))) (gNm 4))
noncomputable def law_rows_of_B1_3 : MS := (sPar2 1 2 (mCons (mFrz (mfBin gCat (mVar 1) (mVar 4))) (mCons (mFrz (mfArg gList (mCons (mVar 4) mNil))) mNil)))
noncomputable def law_rows_of_B1_2 : MS := (sSeq (sFor law_rows_of_E2 law_rows_of_G2 law_rows_of_B2) law_rows_of_B1_3)
noncomputable def law_rows_of_E3 : MI := (miR1 (mCons (mArg fLen (mCons (mVar 0) mNil)) mNil))
noncomputable def law_rows_of_G3 : MG := (gNm 3)
noncomputable def law_rows_of_B1 : MS := (sSeq (sAsg (mFrz (mfArg gDisp mNil)) (gNm 4)) law_rows_of_B1_2)
noncomputable def S_law_rows_of_3 : MS := (sRet (mVar 1))
noncomputable def S_law_rows_of_2 : MS := (sSeq (sFor law_rows_of_E3 law_rows_of_G3 law_rows_of_B1) S_law_rows_of_3)
noncomputable def S_law_rows_of : MS := (sSeq (sPar2 1 2 (mCons (mFrz (mfArg gDisp (mCons (mArg fTup mNil) mNil))) (mCons (mFrz (mfArg gDisp (mCons (mArg fTup mNil) mNil))) mNil))) S_law_rows_of_2)
noncomputable def f_law_rows_of : FF := fnT 7 S_law_rows_of
noncomputable def law_drawn_row_E1 : MI := (miR1 (mCons (mBin subsD (mVar 1) (mC (.int 0))) mNil))
noncomputable def law_drawn_row_G1 : MG := (gNm 5)
noncomputable def law_drawn_row_T1 : MT := (mTB (mBin neD (mBin inU (mVar 5) (mVar 2)) (mBin inU (mVar 3) (mVar 2))))
noncomputable def law_drawn_row_M1 : ME := (mVar 5)
noncomputable def S_law_drawn_row_2 : MS := (sRet (mArg fTuple (mCons (mSl (mVar 4) moNone (moSome (mCall f_law_pick (mCons (mVar 0) (mCons (mBin addD (mArg fLen (mCons (mVar 4) mNil)) (mC (.int 1))) mNil)) []))) mNil)))
noncomputable def S_law_drawn_row : MS := (sSeq (sAsg (mCall f_law_mixed (mCons (mVar 0) (mCons (mFrz (mLc law_drawn_row_E1 law_drawn_row_G1 law_drawn_row_T1 law_drawn_row_M1 [5])) mNil)) []) (gNm 4)) S_law_drawn_row_2)
noncomputable def f_law_drawn_row : FF := fnT 6 S_law_drawn_row
end Fw.LH
namespace L2
open PySem PySem.Spec PyProof.Rows
abbrev IsLs (h : Heap) (l : Addr) (vs : List Value) : Prop := ∃ n, h.get? l = some { cls := .type "list", data := .seq vs.toArray n }
section
variable {prog : Program} {w : World} {A : Around} {E : Value → Shared → Prop} {l it S : Addr}
end
section
variable {X : Cx} {pins : List (Addr × Obj)} {σ : L2.St} {H : Hp} {s : Shared}
abbrev LsR (s : Shared) : List (Addr × List V) → List (Addr × List Value) → Prop := Paired (fun q p => q.1 = p.1 ∧ Vals q.2 p.2 ∧ IsLs s.heap p.1 p.2)
theorem LsR.mem : ∀ {xs ls}, LsR s xs ls → ∀ p ∈ ls, IsLs s.heap p.1 p.2
  | _, _, .nil, p, hp => by cases hp
  | _, _, .cons h r, p, hp => by
    rcases List.mem_cons.mp hp with rfl | hp
    · exact h.2.2
    · exact LsR.mem r p hp
end
end L2
namespace Fw
open PySem PySem.Spec PyProof.Rows L2
end Fw
namespace Fw
open PySem PySem.Spec PyProof.Rows L2
open PySem.W (dataLt alike AlikeAll minD)
section
variable {X : Cx} {pins : List (Addr × Obj)} {σ : L2.St} {H : Hp} {s : Shared}
end
end Fw
namespace Wk47
open PySem PySem.Spec PyProof.Rows L2 Fw
abbrev top (i : Nat) : Stmt := PySem.Challenge.pw_pairsandprices_k47_whole_who_is_asked.main.body.getD i (.Pass ⟨0, 0, 0, 0⟩)
abbrev FnP (K : PySem.W.Frag) (x : Str) (st : Stmt) (f : Addr) (fd : FuncData) : Prop := FunD K x x (defArgs st) (defBody st) (defScope st) [] [] f fd
-- not reached: _law_hall, _law_pairing
noncomputable abbrev f_law_source : FF := Fw.LB.f_law_source
noncomputable abbrev f_law_pick : FF := Fw.LB.f_law_pick
noncomputable abbrev f_law_mixed : FF := Fw.LB.f_law_mixed
noncomputable abbrev f_law_of : FF := Fw.LB.f_law_of
noncomputable abbrev f_law_two_sides : FF := Fw.LH.f_law_two_sides
noncomputable abbrev f_law_others : FF := Fw.LH.f_law_others
noncomputable abbrev f_law_want : FF := Fw.LC.f_law_want
noncomputable abbrev f_law_rather : FF := Fw.LH.f_law_rather
noncomputable abbrev f_law_asking : FF := Fw.LH.f_law_asking
noncomputable abbrev f_law_partner : FF := Fw.LH.f_law_partner
noncomputable abbrev f_do_want : FF := Fw.LC.f_do_want
noncomputable abbrev f_asked_next : FF := Fw.LH.f_asked_next
noncomputable abbrev f_has_rather : FF := Fw.LC.f_has_rather
noncomputable abbrev f_pairing_by : FF := Fw.LH.f_pairing_by
noncomputable abbrev f_high_pairing : FF := Fw.LH.f_high_pairing
noncomputable abbrev f_partner_of : FF := Fw.LC.f_partner_of
noncomputable def S_best_told : MS := (sRet (mCall f_partner_of (mCons (mCall f_high_pairing (mCons (mVar 0) (mCons (mVar 1) mNil)) []) (mCons (mVar 2) mNil)) []))
noncomputable def f_best_told : FF := fnT 3 S_best_told
noncomputable abbrev f_law_rows_of : FF := Fw.LH.f_law_rows_of
noncomputable abbrev f_law_drawn_row : FF := Fw.LH.f_law_drawn_row
noncomputable abbrev f_law_told_by : FF := Fw.LH.f_law_told_by
noncomputable def S_law_come : MS := (sRet (mCall f_law_partner (mCons (mCall f_law_asking (mCons (mCall f_law_told_by (mCons (mVar 0) (mCons (mVar 2) (mCons (mVar 3) mNil))) []) (mCons (mVar 1) mNil)) []) (mCons (mVar 2) mNil)) []))
noncomputable def f_law_come : FF := fnT 4 S_law_come
noncomputable def S_cut_list_2 : MS := (sRet (mIte (mTB (mBin isNotD (mVar 2) (mC .none))) (mSl (mVar 3) moNone (moSome (mBin addD (mIndex (mVar 3) (mCons (mVar 2) mNil)) (mC (.int 1))))) (mArg fTup mNil)))
noncomputable def S_cut_list : MS := (sSeq (sAsg (mBin subsD (mBin subsD (mVar 0) (mC (.int 1))) (mVar 1)) (gNm 3)) S_cut_list_2)
noncomputable def f_cut_list : FF := fnT 4 S_cut_list
noncomputable abbrev f_low_pairing : FF := Fw.LH.f_low_pairing
noncomputable def S_gain_paper_3 : MS := (sRet (mArg fTup (mCons (mC (.str "list")) (mCons (mCall f_cut_list (mCons (mVar 0) (mCons (mVar 2) (mCons (mCall f_partner_of (mCons (mVar 4) (mCons (mVar 2) mNil)) []) mNil))) []) mNil))))
noncomputable def S_gain_paper_2 : MS := (sSeq (sIf (mTB (mBin eqD (mCall f_partner_of (mCons (mVar 3) (mCons (mVar 2) mNil)) []) (mCall f_partner_of (mCons (mVar 4) (mCons (mVar 2) mNil)) []))) (sRet (mArg fTup (mCons (mC (.str "same")) (mCons (mVar 3) (mCons (mVar 4) mNil))))) sNil) S_gain_paper_3)
noncomputable def S_gain_paper : MS := (sSeq (sPar2 3 4 (mCons (mCall f_low_pairing (mCons (mVar 0) (mCons (mVar 1) mNil)) []) (mCons (mCall f_high_pairing (mCons (mVar 0) (mCons (mVar 1) mNil)) []) mNil))) S_gain_paper_2)
noncomputable def f_gain_paper : FF := fnT 5 S_gain_paper
noncomputable abbrev f_law_gains : FF := Fw.LH.f_law_gains
noncomputable abbrev f_law_pairings : FF := Fw.LH.f_law_pairings
noncomputable abbrev f_law_breaking : FF := Fw.LH.f_law_breaking
noncomputable def cut_to_B1_2 : MS := (sExp (mM fmAppend (mVar 3) (mCons (mIte (mTB (mBin inU (mVar 4) (mVar 1))) (mVar 5) (mCall f_cut_list (mCons (mVar 0) (mCons (mVar 4) (mCons (mCall f_partner_of (mCons (mVar 2) (mCons (mVar 4) mNil)) []) mNil))) [])) mNil)))
noncomputable def cut_to_E1 : MI := (miR1 (mCons (mBin subsD (mVar 0) (mC (.int 0))) mNil))
noncomputable def cut_to_G1 : MG := (gNm 4)
noncomputable def cut_to_B1 : MS := (sSeq (sAsg (mBin subsD (mBin subsD (mVar 0) (mC (.int 1))) (mVar 4)) (gNm 5)) cut_to_B1_2)
noncomputable def S_cut_to_3 : MS := (sRet (mArg fTup (mCons (mBin subsD (mVar 0) (mC (.int 0))) (mCons (mArg fTuple (mCons (mVar 3) mNil)) mNil))))
noncomputable def S_cut_to_2 : MS := (sSeq (sFor cut_to_E1 cut_to_G1 cut_to_B1) S_cut_to_3)
noncomputable def S_cut_to : MS := (sSeq (sAsg (mNew (mfArg gDisp mNil)) (gNm 3)) S_cut_to_2)
noncomputable def f_cut_to : FF := fnT 6 S_cut_to
noncomputable def law_cut_B1_2 : MS := (sExp (mM fmAppend (mVar 3) (mCons (mIte (mTB (mBin inU (mVar 4) (mVar 1))) (mVar 5) (mSl (mVar 5) moNone (moSome (mVar 6)))) mNil)))
noncomputable def law_cut_E1 : MI := (miEnum (mCons (mBin subsD (mVar 0) (mC (.int 1))) mNil))
noncomputable def law_cut_G1 : MG := (gTp 2 (gMore (gNm 4) (gMore (gNm 5) gNone)))
noncomputable def law_cut_B1 : MS := (sSeq (sAsg (mIte (mTB (mBin inU (mCall f_law_partner (mCons (mVar 2) (mCons (mVar 4) mNil)) []) (mVar 5))) (mBin addD (mIndex (mVar 5) (mCons (mCall f_law_partner (mCons (mVar 2) (mCons (mVar 4) mNil)) []) mNil)) (mC (.int 1))) (mC (.int 0))) (gNm 6)) law_cut_B1_2)
noncomputable def S_law_cut_3 : MS := (sRet (mArg fTup (mCons (mBin subsD (mVar 0) (mC (.int 0))) (mCons (mArg fTuple (mCons (mVar 3) mNil)) mNil))))
noncomputable def S_law_cut_2 : MS := (sSeq (sFor law_cut_E1 law_cut_G1 law_cut_B1) S_law_cut_3)
noncomputable def S_law_cut : MS := (sSeq (sAsg (mNew (mfArg gDisp mNil)) (gNm 3)) S_law_cut_2)
noncomputable def f_law_cut : FF := fnT 7 S_law_cut
noncomputable def law_E1 : MI := (miR1 (mCons (mC (.int 4)) mNil))
noncomputable def law_G1 : MG := (gNm 12)
noncomputable def law_T1 : MT := mYes
noncomputable def law_M1 : ME := (mCall f_law_drawn_row (mCons (mVar 1) (mCons (mVar 3) (mCons (mVar 4) (mCons (mVar 9) mNil)))) [])
noncomputable def law_E2 : MI := (miSeq (mVar 11))
noncomputable def law_G2 : MG := (gNm 13)
noncomputable def law_B3 : MS := (sIf (mTru' (mCall f_law_rather (mCons (mVar 3) (mCons (mVar 9) (mCons (mCall f_law_come (mCons (mVar 3) (mCons (mVar 4) (mCons (mVar 9) (mCons (mVar 13) mNil)))) []) (mCons (mVar 10) mNil)))) [])) (sRet (mC (.bool false))) sNil)
noncomputable def law_B2_10 : MS := (sIf (mAndT (mTB (mBin eqD (mBin subsD (mVar 15) (mC (.int 0))) (mC (.str "list")))) (mNotT (mTru' (mCall f_law_gains (mCons (mVar 3) (mCons (mVar 4) (mCons (mVar 9) (mCons (mVar 14) mNil)))) [])))) (sRet (mC (.bool false))) sNil)
noncomputable def law_B2_9 : MS := (sSeq (sIf (mTB (mBin neD (mArg fReprK (mCons (mCall f_gain_paper (mCons (mVar 3) (mCons (mVar 4) (mCons (mVar 9) mNil))) []) mNil)) (mArg fReprK (mCons (mVar 15) mNil)))) (sRet (mC (.bool false))) sNil) law_B2_10)
noncomputable def law_B2_8 : MS := (sSeq (sAsg (mIte (mTB (mBin eqD (mVar 10) (mCall f_law_partner (mCons (mVar 7) (mCons (mVar 9) mNil)) []))) (mArg fTup (mCons (mC (.str "same")) (mCons (mVar 7) (mCons (mVar 8) mNil)))) (mArg fTup (mCons (mC (.str "list")) (mCons (mVar 14) mNil)))) (gNm 15)) law_B2_9)
noncomputable def law_B2_7 : MS := (sSeq (sIf (mOrT (mTB (mBin neD (mArg fReprK (mCons (mCall f_cut_list (mCons (mVar 3) (mCons (mVar 9) (mCons (mVar 10) mNil))) []) mNil)) (mArg fReprK (mCons (mVar 14) mNil)))) (mTB (mBin neD (mCall f_law_come (mCons (mVar 3) (mCons (mVar 4) (mCons (mVar 9) (mCons (mVar 14) mNil)))) []) (mVar 10)))) (sRet (mC (.bool false))) sNil) law_B2_8)
noncomputable def law_B2_6 : MS := (sSeq (sAsg (mIte (mTB (mBin isNotD (mVar 10) (mC .none))) (mSl (mBin subsD (mBin subsD (mVar 3) (mC (.int 1))) (mVar 9)) moNone (moSome (mBin addD (mIndex (mBin subsD (mBin subsD (mVar 3) (mC (.int 1))) (mVar 9)) (mCons (mVar 10) mNil)) (mC (.int 1))))) (mArg fTup mNil)) (gNm 14)) law_B2_7)
noncomputable def law_B2_5 : MS := (sSeq (sFor law_E2 law_G2 law_B3) law_B2_6)
noncomputable def law_B2_4 : MS := (sSeq (sAsg (mFrz (mfBin gCat (mVar 11) (mFrz (mLc law_E1 law_G1 law_T1 law_M1 [12])))) (gNm 11)) law_B2_5)
noncomputable def law_B2_3 : MS := (sSeq (sAsg (mIte (mTB (mBin ltD (mArg fLen (mCons (mVar 4) mNil)) (mC (.int 4)))) (mCall f_law_rows_of (mCons (mFrz (mfArg gList (mCons (mVar 4) mNil))) mNil) []) (mFrz (mfArg gDisp mNil))) (gNm 11)) law_B2_4)
noncomputable def law_B2_2 : MS := (sSeq (sIf (mTB (mBin neD (mArg fReprK (mCons (mCall f_best_told (mCons (mVar 3) (mCons (mVar 4) (mCons (mVar 9) mNil))) []) mNil)) (mArg fReprK (mCons (mVar 10) mNil)))) (sRet (mC (.bool false))) sNil) law_B2_3)
noncomputable def law_E3 : MI := (miSeq (mSl (mVar 6) moNone (moSome (mC (.int 4)))))
noncomputable def law_G3 : MG := (gNm 9)
noncomputable def law_B2 : MS := (sSeq (sAsg (mCall f_law_partner (mCons (mVar 8) (mCons (mVar 9) mNil)) []) (gNm 10)) law_B2_2)
noncomputable def law_E4 : MI := (miSeq (mCall f_law_pairings (mCons (mVar 3) mNil) []))
noncomputable def law_G4 : MG := (gNm 17)
noncomputable def law_T2 : MT := (mTB (mBin eqD (mCall f_law_breaking (mCons (mVar 3) (mCons (mVar 17) mNil)) []) (mFrz (mfArg gDisp mNil))))
noncomputable def law_M2 : ME := (mVar 17)
noncomputable def law_B4_2 : MS := (sIf (mOrT (mTB (mBin neD (mArg fReprK (mCons (mVar 18) mNil)) (mArg fReprK (mCons (mCall f_law_cut (mCons (mVar 3) (mCons (mVar 4) (mCons (mVar 17) mNil))) []) mNil)))) (mTB (mBin neD (mArg fReprK (mCons (mCall f_low_pairing (mCons (mVar 18) (mCons (mVar 4) mNil)) []) mNil)) (mArg fReprK (mCons (mVar 17) mNil))))) (sRet (mC (.bool false))) sNil)
noncomputable def law_E5 : MI := (miSeq (mVar 16))
noncomputable def law_G5 : MG := (gNm 17)
noncomputable def law_B4 : MS := (sSeq (sAsg (mCall f_cut_to (mCons (mVar 3) (mCons (mVar 4) (mCons (mVar 17) mNil))) []) (gNm 18)) law_B4_2)
noncomputable def law_B1_7 : MS := (sIf (mTB (mBin neD (mArg fReprK (mCons (mVar 3) mNil)) (mVar 5))) (sRet (mC (.bool false))) sNil)
noncomputable def law_B1_6 : MS := (sSeq (sFor law_E5 law_G5 law_B4) law_B1_7)
noncomputable def law_B1_5 : MS := (sSeq (sAsg (mIte (mTB (mBin ltD (mBin subsD (mVar 3) (mC (.int 0))) (mC (.int 7)))) (mFrz (mLc law_E4 law_G4 law_T2 law_M2 [17])) (mFrz (mfArg gDisp (mCons (mVar 7) (mCons (mVar 8) mNil))))) (gNm 16)) law_B1_6)
noncomputable def law_B1_4 : MS := (sSeq (sFor law_E3 law_G3 law_B2) law_B1_5)
noncomputable def law_B1_3 : MS := (sSeq (sPar2 7 8 (mCons (mCall f_law_asking (mCons (mVar 3) (mCons (mVar 4) mNil)) []) (mCons (mCall f_law_asking (mCons (mVar 3) (mCons (mVar 6) mNil)) []) mNil))) law_B1_4)
noncomputable def law_B1_2 : MS := (sSeq (sPar2 5 6 (mCons (mArg fReprK (mCons (mVar 3) mNil)) (mCons (mCall f_law_others (mCons (mVar 3) (mCons (mVar 4) mNil)) []) mNil))) law_B1_3)
noncomputable def law_E6 : MI := (miR1 (mCons (mC (.int 3)) mNil))
noncomputable def law_G6 : MG := (gNm 2)
noncomputable def law_B1 : MS := (sSeq (sAsg (mCall f_law_two_sides (mCons (mVar 1) (mCons (mC (.int 2)) (mCons (mBin subsD (mFrz (mfArg gDisp (mCons (mC (.int 6)) (mCons (mC (.int 7)) (mCons (mC (.int 9)) mNil))))) (mVar 2)) mNil))) []) (gTp 2 (gMore (gNm 3) (gMore (gNm 4) gNone)))) law_B1_2)
noncomputable def S_law_3 : MS := (sRet (mC (.bool true)))
noncomputable def S_law_2 : MS := (sSeq (sFor law_E6 law_G6 law_B1) S_law_3)
noncomputable def S_law : MS := (sSeq (sAsg (mCall f_law_source (mCons (mVar 0) mNil) []) (gNm 1)) S_law_2)
noncomputable def f_law : FF := fnT 19 S_law
section
variable {P : Program} {w : World} {K : PySem.W.Frag} {mg : Str → Option Value} {base : Heap}
abbrev N_law_source : List Str := ["script", "mixed", "cell"]
theorem sc_law_source : FnScope N_law_source ["script"] (defScope (top 16)) := ⟨rfl, rfl, rfl, by decide +kernel, rfl, by decide +kernel, by decide +kernel⟩
theorem ok_law_source {f : Addr} {fd : FuncData} (F : FnP K "_law_source" (top 16) f fd) (h_int : mg "int" = none) (h_abs : mg "abs" = none) : FnG P w K mg base CX0 1 f fd ["script"] (spG K V0 1 f_law_source) := by
  refine fnG_K F sc_law_source fun cdv A outer s H E hr => ?_
  have sc := sc_law_source
  have gd := hr.gd (X := cxOf CX0 P w K mg base N_law_source "_law_source" (defScope (top 16)) f cdv A outer s H E) rfl
  exact (ss_cons (s_asg x_int (gn 1 sc.nd)) (ss_cons (s_for gd own_pass (i_seq (xv 0)) (gn 2 sc.nd) (ss_one (s_asg (x_mod (x_callT call_int1 opA_int rfl h_int bt_int (xa_cons (x_add (x_add (x_mul (xv 1) x_int) (x_mul (xv 2) x_int)) x_int) xa_nil)) x_int) (gn 1 sc.nd)))) (ss_one (s_ret (x_disp (ps_cons0 x_str (x_new (xf_rev (x_frz (xf_lc (own := [("cell", 2)]) gd sc.nd (i_seq (xv 0)) (blkOk_by (N := N_law_source) (sc := defScope (top 16)) (by decide +kernel)) (fun _ _ _ _ _ => ⟨(gn 2 sc.nd), ts_nil, (x_callB call_abs opA_abs rfl h_abs bt_abs (xa_cons (xv 2) xa_nil))⟩))))) (ps_cons0 x_str x_int (ps_cons0 x_str (xv 1) (ps_cons0 x_str x_int ps_nil0)))))))))
abbrev N_law_pick : List Str := ["source", "many", "left", "mixed"]
theorem sc_law_pick : FnScope N_law_pick ["source", "many"] (defScope (top 17)) := ⟨rfl, rfl, rfl, by decide +kernel, rfl, by decide +kernel, by decide +kernel⟩
theorem ok_law_pick {f : Addr} {fd : FuncData} (F : FnP K "_law_pick" (top 17) f fd) (h_len : mg "len" = none) (h_max : mg "max" = none) (h_int : mg "int" = none) : FnG P w K mg base CX0 1 f fd ["source", "many"] (spG K V0 2 f_law_pick) := by
  refine fnG_T F sc_law_pick fun cdv A outer s H E hr => ?_
  have sc := sc_law_pick
  have gd := hr.gd (X := cxOf CX0 P w K mg base N_law_pick "_law_pick" (defScope (top 17)) f cdv A outer s H E) rfl
  exact (ss_cons (s_while 1000000 own_pass (PW.pt (t_and (t_c (c_gt (xv 1) x_int)) (t_and (t_c (c_lt (x_sub' gd (xv 0) x_str) x_int)) (t_and1 (t_c (c_gt (x_callB call_len opA_len rfl h_len bt_len (xa_cons (x_sub' gd (xv 0) x_str) xa_nil)) x_int)))))) (ss_one (s_subP gd (x_m0 PySem.F.plainAttrs_list PySem.F.slot_list_pop PySem.F.type_list_pop mt_pop opM_pop (x_sub' gd (xv 0) x_str)) (xv 0) x_str))) (ss_cons (s_asg (x_sub' gd (xv 0) x_str) (gn 2 sc.nd)) (ss_cons (s_if (PW.pt (t_or (t_c (c_lt (xv 1) x_int)) (t_or1 (t_c (c_gt (xv 2) x_int))))) (ss_cons (s_subP gd (x_fdiv (xv 2) (x_callB (call_max2 gd.calm) opA_2I rfl h_max bt_max (xa_cons x_int (xa_cons (xv 1) xa_nil)))) (xv 0) x_str) (ss_one (s_ret (x_mod (x_callT call_int1 opA_int rfl h_int bt_int (xa_cons (xv 2) xa_nil)) (x_callB (call_max2 gd.calm) opA_2I rfl h_max bt_max (xa_cons x_int (xa_cons (xv 1) xa_nil))))))) ss_nil) (ss_cons (s_subP gd (x_add (x_sub' gd (xv 0) x_str) x_int) (xv 0) x_str) (ss_cons (s_asg (x_mod (x_callT call_int1 opA_int rfl h_int bt_int (xa_cons (x_add (x_sub' gd (xv 0) x_str) (x_mul (x_sub' gd (xv 0) x_str) x_int)) xa_nil)) x_int) (gn 3 sc.nd)) (ss_cons (s_asg (x_mod (x_callT call_int1 opA_int rfl h_int bt_int (xa_cons (x_add (x_mul (xv 3) (xv 3)) (x_mul (x_sub' gd (xv 0) x_str) x_int)) xa_nil)) x_int) (gn 3 sc.nd)) (ss_cons (s_subP gd (xv 3) (xv 0) x_str) (ss_one (s_ret (x_mod (x_callT call_int1 opA_int rfl h_int bt_int (xa_cons (x_fdiv (xv 3) x_int) xa_nil)) (xv 1)))))))))))
abbrev N_law_mixed : List Str := ["source", "things", "rest", "lap"]
theorem sc_law_mixed : FnScope N_law_mixed ["source", "things"] (defScope (top 19)) := ⟨rfl, rfl, rfl, by decide +kernel, rfl, by decide +kernel, by decide +kernel⟩
theorem ok_law_mixed {f : Addr} {fd : FuncData} (F : FnP K "_law_mixed" (top 19) f fd) (h_list : mg "list" = none) (h_len : mg "len" = none) (h_range : mg "range" = none) (C_law_pick : Cal P w K mg base 1 "_law_pick" 2 [] f_law_pick) : FnG P w K mg base CX0 2 f fd ["source", "things"] (spG K V0 2 f_law_mixed) := by
  refine fnG_T F sc_law_mixed fun cdv A outer s H E hr => ?_
  have sc := sc_law_mixed
  have gd := hr.gd (X := cxOf CX0 P w K mg base N_law_mixed "_law_mixed" (defScope (top 19)) f cdv A outer s H E) rfl
  exact (ss_cons (s_asg (x_new (xf_list rfl h_list bt_list (xa_cons (xv 1) xa_nil))) (gn 2 sc.nd)) (ss_one (s_ret (x_frz (xf_lc (own := [("lap", 3)]) gd sc.nd (i_range1 rfl h_range (xa_cons (x_callB call_len opA_len rfl h_len bt_len (xa_cons (xv 2) xa_nil)) xa_nil)) (blkOk_by (N := N_law_mixed) (sc := defScope (top 19)) (by decide +kernel)) (fun _ _ _ _ _ => ⟨(gn 3 sc.nd), ts_nil, (x_m PySem.F.plainAttrs_list PySem.F.slot_list_pop PySem.F.type_list_pop mt_popAt opM_popAt (xv 2) (xa_cons (x_cal C_law_pick hr (by decide) rfl (xa_cons (xv 0) (xa_cons (x_callB call_len opA_len rfl h_len bt_len (xa_cons (xv 2) xa_nil)) xa_nil)) (.c (.c .n)) rfl) xa_nil))⟩))))))
abbrev N_law_of : List Str := ["source", "some"]
theorem sc_law_of : FnScope N_law_of ["source", "some"] (defScope (top 18)) := ⟨rfl, rfl, rfl, by decide +kernel, rfl, by decide +kernel, by decide +kernel⟩
theorem ok_law_of {f : Addr} {fd : FuncData} (F : FnP K "_law_of" (top 18) f fd) (h_len : mg "len" = none) (C_law_pick : Cal P w K mg base 1 "_law_pick" 2 [] f_law_pick) : FnG P w K mg base CX0 2 f fd ["source", "some"] (spG K V0 2 f_law_of) := by
  refine fnG_T F sc_law_of fun cdv A outer s H E hr => ?_
  have sc := sc_law_of
  have gd := hr.gd (X := cxOf CX0 P w K mg base N_law_of "_law_of" (defScope (top 18)) f cdv A outer s H E) rfl
  exact (ss_one (s_ret (x_sub' gd (xv 1) (x_cal C_law_pick hr (by decide) rfl (xa_cons (xv 0) (xa_cons (x_callB call_len opA_len rfl h_len bt_len (xa_cons (xv 1) xa_nil)) xa_nil)) (.c (.c .n)) rfl))))
abbrev N_law_two_sides : List Str := ["source", "least", "most", "n", "rows", "askers", "a", "some", "b", "less"]
theorem sc_law_two_sides : FnScope N_law_two_sides ["source", "least", "most"] (defScope (top 27)) := ⟨rfl, rfl, rfl, by decide +kernel, rfl, by decide +kernel, by decide +kernel⟩
theorem ok_law_two_sides {f : Addr} {fd : FuncData} (F : FnP K "_law_two_sides" (top 27) f fd) (h_range : mg "range" = none) (h_tuple : mg "tuple" = none) (h_len : mg "len" = none) (h_max : mg "max" = none) (C_law_pick : Cal P w K mg base 1 "_law_pick" 2 [] f_law_pick) (C_law_mixed : Cal P w K mg base 2 "_law_mixed" 2 [] f_law_mixed) (C_law_of : Cal P w K mg base 2 "_law_of" 2 [] f_law_of) : FnG P w K mg base CX0 3 f fd ["source", "least", "most"] (spG K V0 3 f_law_two_sides) := by
  refine fnG_T F sc_law_two_sides fun cdv A outer s H E hr => ?_
  have sc := sc_law_two_sides
  have gd := hr.gd (X := cxOf CX0 P w K mg base N_law_two_sides "_law_two_sides" (defScope (top 27)) f cdv A outer s H E) rfl
  exact (ss_cons (s_p2 gd sc.nd (xa_cons (x_add (xv 1) (x_cal C_law_pick hr (by decide) rfl (xa_cons (xv 0) (xa_cons (x_add (x_sub (xv 2) (xv 1)) x_int) xa_nil)) (.c (.c .n)) rfl)) (xa_cons (x_new (xf_disp xa_nil)) xa_nil))) (ss_cons (s_asg (x_callT call_tupleN opA_tuple rfl h_tuple bt_tuple (xa_cons (x_frz (xf_lc (own := [("a", 6)]) gd sc.nd (i_range1 rfl h_range (xa_cons (xv 3) xa_nil)) (blkOk_by (N := N_law_two_sides) (sc := defScope (top 27)) (by decide +kernel)) (fun _ _ _ _ _ => ⟨(gn 6 sc.nd), (ts_one (t_c (c_eq gd.blk (x_cal C_law_pick hr (by decide) rfl (xa_cons (xv 0) (xa_cons x_int xa_nil)) (.c (.c .n)) rfl) x_int))), (xv 6)⟩))) xa_nil)) (gn 5 sc.nd)) (ss_cons (s_for gd own_pass (i_range1 rfl h_range (xa_cons (xv 3) xa_nil)) (gn 6 sc.nd) (ss_cons (s_asg (x_cal C_law_mixed hr (by decide) rfl (xa_cons (xv 0) (xa_cons (x_frz (xf_lc (own := [("b", 8)]) gd sc.nd (i_range1 rfl h_range (xa_cons (xv 3) xa_nil)) (blkOk_by (N := N_law_two_sides) (sc := defScope (top 27)) (by decide +kernel)) (fun _ _ _ _ _ => ⟨(gn 8 sc.nd), (ts_one (t_c (c_ne gd.blk (x_c (c_in gd.blk (xv 8) (xv 5))) (x_c (c_in gd.blk (xv 6) (xv 5)))))), (xv 8)⟩))) xa_nil)) (.c (.c .n)) rfl) (gn 7 sc.nd)) (ss_cons (s_asg (x_cal C_law_of hr (by decide) rfl (xa_cons (xv 0) (xa_cons (x_frz (xf_disp (xa_cons x_int (xa_cons x_int (xa_cons x_int (xa_cons x_int (xa_cons x_int (xa_cons x_int xa_nil)))))))) xa_nil)) (.c (.c .n)) rfl) (gn 9 sc.nd)) (ss_one (s_expr (x_m PySem.F.plainAttrs_list PySem.F.slot_list_append PySem.F.type_list_append mt_append opM_append (xv 4) (xa_cons (x_callT call_tupleN opA_tuple rfl h_tuple bt_tuple (xa_cons (x_slice (xv 7) xo_none (xo_some (x_callB (call_max2 gd.calm) opA_2I rfl h_max bt_max (xa_cons x_int (xa_cons (x_sub (x_callB call_len opA_len rfl h_len bt_len (xa_cons (xv 7) xa_nil)) (xv 9)) xa_nil))))) xa_nil)) xa_nil))))))) (ss_one (s_ret (x_tup (xa_cons (x_tup (xa_cons (xv 3) (xa_cons (x_callT call_tupleN opA_tuple rfl h_tuple bt_tuple (xa_cons (xv 4) xa_nil)) xa_nil))) (xa_cons (xv 5) xa_nil))))))))
abbrev N_law_others : List Str := ["hall", "askers", "a"]
theorem sc_law_others : FnScope N_law_others ["hall", "askers"] (defScope (top 30)) := ⟨rfl, rfl, rfl, by decide +kernel, rfl, by decide +kernel, by decide +kernel⟩
theorem ok_law_others {f : Addr} {fd : FuncData} (F : FnP K "_law_others" (top 30) f fd) (h_range : mg "range" = none) (h_tuple : mg "tuple" = none) : FnG P w K mg base CX0 1 f fd ["hall", "askers"] (spG K V0 2 f_law_others) := by
  refine fnG_T F sc_law_others fun cdv A outer s H E hr => ?_
  have sc := sc_law_others
  have gd := hr.gd (X := cxOf CX0 P w K mg base N_law_others "_law_others" (defScope (top 30)) f cdv A outer s H E) rfl
  exact (ss_one (s_ret (x_callT call_tupleN opA_tuple rfl h_tuple bt_tuple (xa_cons (x_frz (xf_lc (own := [("a", 2)]) gd sc.nd (i_range1 rfl h_range (xa_cons (x_sub' gd (xv 0) x_int) xa_nil)) (blkOk_by (N := N_law_others) (sc := defScope (top 30)) (by decide +kernel)) (fun _ _ _ _ _ => ⟨(gn 2 sc.nd), (ts_one (t_c (c_notIn gd.blk (xv 2) (xv 1)))), (xv 2)⟩))) xa_nil))))
abbrev N_law_want : List Str := ["hall", "a", "b"]
theorem sc_law_want : FnScope N_law_want ["hall", "a", "b"] (defScope (top 21)) := ⟨rfl, rfl, rfl, by decide +kernel, rfl, by decide +kernel, by decide +kernel⟩
theorem ok_law_want {f : Addr} {fd : FuncData} (F : FnP K "_law_want" (top 21) f fd)  : FnG P w K mg base CX0 1 f fd ["hall", "a", "b"] (spG K V0 3 f_law_want) := by
  refine fnG_T F sc_law_want fun cdv A outer s H E hr => ?_
  have sc := sc_law_want
  have gd := hr.gd (X := cxOf CX0 P w K mg base N_law_want "_law_want" (defScope (top 21)) f cdv A outer s H E) rfl
  exact (ss_one (s_ret (x_and (x_c (c_in gd (xv 2) (x_sub' gd (x_sub' gd (xv 0) x_int) (xv 1)))) (x_one (x_c (c_in gd (xv 1) (x_sub' gd (x_sub' gd (xv 0) x_int) (xv 2))))))))
abbrev N_law_rather : List Str := ["hall", "a", "b", "c", "row", "first"]
theorem sc_law_rather : FnScope N_law_rather ["hall", "a", "b", "c"] (defScope (top 22)) := ⟨rfl, rfl, rfl, by decide +kernel, rfl, by decide +kernel, by decide +kernel⟩
theorem ok_law_rather {f : Addr} {fd : FuncData} (F : FnP K "_law_rather" (top 22) f fd) (h_list : mg "list" = none) (h_len : mg "len" = none) : FnG P w K mg base CX0 1 f fd ["hall", "a", "b", "c"] (spG K V0 4 f_law_rather) := by
  refine fnG_T F sc_law_rather fun cdv A outer s H E hr => ?_
  have sc := sc_law_rather
  have gd := hr.gd (X := cxOf CX0 P w K mg base N_law_rather "_law_rather" (defScope (top 22)) f cdv A outer s H E) rfl
  exact (ss_cons (s_asg (x_frz (xf_cat (x_frz (xf_list rfl h_list bt_list (xa_cons (x_sub' gd (x_sub' gd (xv 0) x_int) (xv 1)) xa_nil))) (x_frz (xf_disp (xa_cons x_non xa_nil))))) (gn 4 sc.nd)) (ss_cons (s_asg (x_ite (t_c (c_in gd (xv 2) (xv 4))) (x_index (xv 4) (xa_cons (xv 2) xa_nil)) (x_callB call_len opA_len rfl h_len bt_len (xa_cons (xv 4) xa_nil))) (gn 5 sc.nd)) (ss_one (s_ret (x_c (c_lt (xv 5) (x_ite (t_c (c_in gd (xv 3) (xv 4))) (x_index (xv 4) (xa_cons (xv 3) xa_nil)) (x_callB call_len opA_len rfl h_len bt_len (xa_cons (xv 4) xa_nil)))))))))
abbrev N_law_asking : List Str := ["hall", "askers", "asks", "had", "a", "b", "lap", "free"]
theorem sc_law_asking : FnScope N_law_asking ["hall", "askers"] (defScope (top 29)) := ⟨rfl, rfl, rfl, by decide +kernel, rfl, by decide +kernel, by decide +kernel⟩
theorem ok_law_asking {f : Addr} {fd : FuncData} (F : FnP K "_law_asking" (top 29) f fd) (h_dict : mg "dict" = none) (h_range : mg "range" = none) (h_max : mg "max" = none) (h_min : mg "min" = none) (h_sorted : mg "sorted" = none) (h_tuple : mg "tuple" = none) (C_law_want : Cal P w K mg base 1 "_law_want" 3 [] f_law_want) (C_law_rather : Cal P w K mg base 1 "_law_rather" 4 [] f_law_rather) : FnG P w K mg base CX0 2 f fd ["hall", "askers"] (spG K V0 2 f_law_asking) := by
  refine fnG_T F sc_law_asking fun cdv A outer s H E hr => ?_
  have sc := sc_law_asking
  have gd := hr.gd (X := cxOf CX0 P w K mg base N_law_asking "_law_asking" (defScope (top 29)) f cdv A outer s H E) rfl
  exact (ss_cons (s_pT gd (xa_cons (x_dictLp (own := [("a", 4)]) gd rfl h_dict bt_dict (x_lp (own := [("a", 4)]) gd sc.nd (i_seq (xv 1)) (blkOk_by (N := N_law_asking) (sc := defScope (top 29)) (by decide +kernel)) (fun _ _ _ _ _ => ⟨(gn 4 sc.nd), ts_nil, (xa_cons (xv 4) (xa_cons (x_new (xf_lc (own := [("b", 5)]) gd.blk sc.nd (i_seq (x_sub' gd.blk (x_sub' gd.blk (xv 0) x_int) (xv 4))) (blkOk_by (by kernel_rfl)) (fun _ _ _ _ _ => ⟨(gn 5 sc.nd), (ts_one (t_v (x_cal C_law_want hr (by decide) rfl (xa_cons (xv 0) (xa_cons (xv 4) (xa_cons (xv 5) xa_nil))) (.c (.c (.c .n))) rfl))), (xv 5)⟩))) xa_nil))⟩))) (xa_cons (x_dnew false) xa_nil)) (gs_cons (gn 2 sc.nd) (gs_cons (gn 3 sc.nd) gs_nil))) (ss_cons (s_for gd own_pass (i_range1 rfl h_range (xa_cons (x_mul (x_sub' gd (xv 0) x_int) (x_sub' gd (xv 0) x_int)) xa_nil)) (gn 6 sc.nd) (ss_cons (s_lcF (i := 7) (own := [("a", 4)]) gd sc.nd rfl rfl (sw_true rfl rfl rfl (by decide +kernel)) (i_seq (xv 1)) (blkOk_by (N := N_law_asking) (sc := defScope (top 29)) (by decide +kernel)) (fun _ _ _ _ _ => ⟨(gn 4 sc.nd), (ts_one (PW.pt (t_and (t_c (c_vnotin gd.blk (xv 4) (xv 3))) (t_and1 (t_c (c_ne gd.blk (x_sub' gd.blk (xv 2) (xv 4)) (x_frz (xf_disp xa_nil)))))))), (xv 4)⟩)) (ss_one (s_for gd own_pass (i_seq (x_frz (xf_slice (xv 7) xo_none (xo_some x_int)))) (gn 4 sc.nd) (ss_cons (s_asg (x_m PySem.F.plainAttrs_list PySem.F.slot_list_pop PySem.F.type_list_pop mt_popAt opM_popAt (x_sub' gd (xv 2) (xv 4)) (xa_cons x_int xa_nil)) (gn 5 sc.nd)) (ss_one (s_if (t_v (x_cal C_law_rather hr (by decide) rfl (xa_cons (xv 0) (xa_cons (xv 5) (xa_cons (xv 4) (xa_cons (x_get2 gd (xv 3) (xv 5) x_non) xa_nil)))) (.c (.c (.c (.c .n)))) rfl)) (ss_one (s_subP gd (xv 4) (xv 3) (xv 5))) ss_nil))))))) (ss_one (s_ret (x_callT call_tupleN opA_tuple rfl h_tuple bt_tuple (xa_cons (x_frz (xf_sort rfl h_sorted bt_sorted (xa_cons (x_lock 3 (x_frz (xf_lc (own := [("b", 5), ("a", 4)]) gd sc.nd (i_items (xv 3)) (blkOk_by (N := N_law_asking) (sc := defScope (top 29)) (by decide +kernel)) (fun _ _ _ _ _ => ⟨(g_tp gd.blk (gs_cons (gn 5 sc.nd) (gs_cons (gn 4 sc.nd) gs_nil))), ts_nil, (x_tup (xa_cons (x_callB (call_min2 gd.blk.calm) opA_2I rfl h_min bt_min (xa_cons (xv 4) (xa_cons (xv 5) xa_nil))) (xa_cons (x_callB (call_max2 gd.blk.calm) opA_2I rfl h_max bt_max (xa_cons (xv 4) (xa_cons (xv 5) xa_nil))) xa_nil)))⟩)))) xa_nil))) xa_nil))))))
abbrev N_law_partner : List Str := ["pairing", "a", "some", "x", "y"]
theorem sc_law_partner : FnScope N_law_partner ["pairing", "a"] (defScope (top 23)) := ⟨rfl, rfl, rfl, by decide +kernel, rfl, by decide +kernel, by decide +kernel⟩
theorem ok_law_partner {f : Addr} {fd : FuncData} (F : FnP K "_law_partner" (top 23) f fd)  : FnG P w K mg base CX0 1 f fd ["pairing", "a"] (spG K V0 2 f_law_partner) := by
  refine fnG_T F sc_law_partner fun cdv A outer s H E hr => ?_
  have sc := sc_law_partner
  have gd := hr.gd (X := cxOf CX0 P w K mg base N_law_partner "_law_partner" (defScope (top 23)) f cdv A outer s H E) rfl
  exact (ss_cons (s_lcF (i := 2) (own := [("x", 3), ("y", 4)]) gd sc.nd rfl rfl (sw_true rfl rfl rfl (by decide +kernel)) (i_seq (xv 0)) (blkOk_by (N := N_law_partner) (sc := defScope (top 23)) (by decide +kernel)) (fun _ _ _ _ _ => ⟨(g_tp gd.blk (gs_cons (gn 3 sc.nd) (gs_cons (gn 4 sc.nd) gs_nil))), (ts_one (t_c (c_in gd.blk (xv 1) (x_tup (xa_cons (xv 3) (xa_cons (xv 4) xa_nil)))))), (x_sub (x_add (xv 3) (xv 4)) (xv 1))⟩)) (ss_one (s_ret (x_ite (t_c (c_ne gd (xv 2) (x_frz (xf_disp xa_nil)))) (x_sub' gd (xv 2) x_int) x_non))))
abbrev N_do_want : List Str := ["hall", "a", "b"]
theorem sc_do_want : FnScope N_do_want ["hall", "a", "b"] (defScope (top 1)) := ⟨rfl, rfl, rfl, by decide +kernel, rfl, by decide +kernel, by decide +kernel⟩
theorem ok_do_want {f : Addr} {fd : FuncData} (F : FnP K "do_want" (top 1) f fd)  : FnG P w K mg base CX0 1 f fd ["hall", "a", "b"] (spG K V0 3 f_do_want) := by
  refine fnG_T F sc_do_want fun cdv A outer s H E hr => ?_
  have sc := sc_do_want
  have gd := hr.gd (X := cxOf CX0 P w K mg base N_do_want "do_want" (defScope (top 1)) f cdv A outer s H E) rfl
  exact (ss_one (s_ret (x_and (x_c (c_in gd (xv 2) (x_sub' gd (x_sub' gd (xv 0) x_int) (xv 1)))) (x_one (x_c (c_in gd (xv 1) (x_sub' gd (x_sub' gd (xv 0) x_int) (xv 2))))))))
abbrev N_asked_next : List Str := ["hall", "sent", "asker", "b"]
theorem sc_asked_next : FnScope N_asked_next ["hall", "sent", "asker"] (defScope (top 6)) := ⟨rfl, rfl, rfl, by decide +kernel, rfl, by decide +kernel, by decide +kernel⟩
theorem ok_asked_next {f : Addr} {fd : FuncData} (F : FnP K "asked_next" (top 6) f fd)  (C_do_want : Cal P w K mg base 1 "do_want" 3 [] f_do_want) : FnG P w K mg base CX0 2 f fd ["hall", "sent", "asker"] (spG K V0 3 f_asked_next) := by
  refine fnG_T F sc_asked_next fun cdv A outer s H E hr => ?_
  have sc := sc_asked_next
  have gd := hr.gd (X := cxOf CX0 P w K mg base N_asked_next "asked_next" (defScope (top 6)) f cdv A outer s H E) rfl
  exact (ss_one (s_ret (x_frz (xf_lc (own := [("b", 3)]) gd sc.nd (i_seq (x_sub' gd (x_sub' gd (xv 0) x_int) (xv 2))) (blkOk_by (N := N_asked_next) (sc := defScope (top 6)) (by decide +kernel)) (fun _ _ _ _ _ => ⟨(gn 3 sc.nd), (ts_one (PW.pt (t_and (t_v (x_cal C_do_want hr (by decide) rfl (xa_cons (xv 0) (xa_cons (xv 2) (xa_cons (xv 3) xa_nil))) (.c (.c (.c .n))) rfl)) (t_and1 (t_c (c_notInT gd.blk (x_tup (xa_cons (xv 2) (xa_cons (xv 3) xa_nil))) (xv 1))))))), (xv 3)⟩)))))
abbrev N_has_rather : List Str := ["hall", "a", "b", "c", "row"]
theorem sc_has_rather : FnScope N_has_rather ["hall", "a", "b", "c"] (defScope (top 2)) := ⟨rfl, rfl, rfl, by decide +kernel, rfl, by decide +kernel, by decide +kernel⟩
theorem ok_has_rather {f : Addr} {fd : FuncData} (F : FnP K "has_rather" (top 2) f fd)  : FnG P w K mg base CX0 1 f fd ["hall", "a", "b", "c"] (spG K V0 4 f_has_rather) := by
  refine fnG_T F sc_has_rather fun cdv A outer s H E hr => ?_
  have sc := sc_has_rather
  have gd := hr.gd (X := cxOf CX0 P w K mg base N_has_rather "has_rather" (defScope (top 2)) f cdv A outer s H E) rfl
  exact (ss_cons (s_asg (x_sub' gd (x_sub' gd (xv 0) x_int) (xv 1)) (gn 4 sc.nd)) (ss_cons (s_if (t_c (c_notIn gd (xv 2) (xv 4))) (ss_one (s_ret (x_and (x_c (c_is (xv 2) x_non)) (x_and (x_c (c_isNot (xv 3) x_non)) (x_one (x_c (c_notIn gd (xv 3) (xv 4)))))))) ss_nil) (ss_one (s_ret (x_or (x_c (c_notIn gd (xv 3) (xv 4))) (x_one (x_c (c_lt (x_index (xv 4) (xa_cons (xv 2) xa_nil)) (x_index (xv 4) (xa_cons (xv 3) xa_nil))))))))))
abbrev N_pairing_by : List Str := ["hall", "askers", "had", "sent", "line", "asker", "b", "other", "loser", "a"]
theorem sc_pairing_by : FnScope N_pairing_by ["hall", "askers"] (defScope (top 7)) := ⟨rfl, rfl, rfl, by decide +kernel, rfl, by decide +kernel, by decide +kernel⟩
theorem ok_pairing_by {f : Addr} {fd : FuncData} (F : FnP K "pairing_by" (top 7) f fd) (h_list : mg "list" = none) (h_max : mg "max" = none) (h_min : mg "min" = none) (h_sorted : mg "sorted" = none) (h_tuple : mg "tuple" = none) (C_asked_next : Cal P w K mg base 2 "asked_next" 3 [] f_asked_next) (C_has_rather : Cal P w K mg base 1 "has_rather" 4 [] f_has_rather) : FnG P w K mg base CX0 3 f fd ["hall", "askers"] (spG K V0 2 f_pairing_by) := by
  refine fnG_T F sc_pairing_by fun cdv A outer s H E hr => ?_
  have sc := sc_pairing_by
  have gd := hr.gd (X := cxOf CX0 P w K mg base N_pairing_by "pairing_by" (defScope (top 7)) f cdv A outer s H E) rfl
  exact (ss_cons (s_p3 gd sc.nd (xa_cons (x_dnew false) (xa_cons x_tnew (xa_cons (x_new (xf_list rfl h_list bt_list (xa_cons (xv 1) xa_nil))) xa_nil)))) (ss_cons (s_while 1000000 own_pass (t_c (c_ne gd (xv 4) (x_frz (xf_disp xa_nil)))) (ss_cons (s_asg (x_m0 PySem.F.plainAttrs_list PySem.F.slot_list_pop PySem.F.type_list_pop mt_pop opM_pop (xv 4)) (gn 5 sc.nd)) (ss_one (s_for gd own_pass (i_seq (x_slice (x_cal C_asked_next hr (by decide) rfl (xa_cons (xv 0) (xa_cons (xv 3) (xa_cons (xv 5) xa_nil))) (.c (.c (.c .n))) rfl) xo_none (xo_some x_int))) (gn 6 sc.nd) (ss_cons (s_asg (x_get2 gd (xv 2) (xv 6) x_non) (gn 7 sc.nd)) (ss_cons (s_if (t_v (x_cal C_has_rather hr (by decide) rfl (xa_cons (xv 0) (xa_cons (xv 6) (xa_cons (xv 5) (xa_cons (xv 7) xa_nil)))) (.c (.c (.c (.c .n)))) rfl)) (ss_cons (s_subP gd (xv 5) (xv 2) (xv 6)) (ss_one (s_asg (xv 7) (gn 8 sc.nd)))) (ss_one (s_asg (xv 5) (gn 8 sc.nd)))) (ss_one (s_if (t_c (c_isNot (xv 8) x_non)) (ss_cons (s_asg x_bl (g_atT gd (xv 3) (x_tup (xa_cons (xv 8) (xa_cons (xv 6) xa_nil))))) (ss_one (s_expr (x_m PySem.F.plainAttrs_list PySem.F.slot_list_append PySem.F.type_list_append mt_append opM_append (xv 4) (xa_cons (xv 8) xa_nil))))) ss_nil)))))))) (ss_one (s_ret (x_callT call_tupleN opA_tuple rfl h_tuple bt_tuple (xa_cons (x_frz (xf_sort rfl h_sorted bt_sorted (xa_cons (x_lock 2 (x_frz (xf_lc (own := [("b", 6), ("a", 9)]) gd sc.nd (i_items (xv 2)) (blkOk_by (N := N_pairing_by) (sc := defScope (top 7)) (by decide +kernel)) (fun _ _ _ _ _ => ⟨(g_tp gd.blk (gs_cons (gn 6 sc.nd) (gs_cons (gn 9 sc.nd) gs_nil))), ts_nil, (x_tup (xa_cons (x_callB (call_min2 gd.blk.calm) opA_2I rfl h_min bt_min (xa_cons (xv 9) (xa_cons (xv 6) xa_nil))) (xa_cons (x_callB (call_max2 gd.blk.calm) opA_2I rfl h_max bt_max (xa_cons (xv 9) (xa_cons (xv 6) xa_nil))) xa_nil)))⟩)))) xa_nil))) xa_nil))))))
abbrev N_high_pairing : List Str := ["hall", "askers", "person"]
theorem sc_high_pairing : FnScope N_high_pairing ["hall", "askers"] (defScope (top 9)) := ⟨rfl, rfl, rfl, by decide +kernel, rfl, by decide +kernel, by decide +kernel⟩
theorem ok_high_pairing {f : Addr} {fd : FuncData} (F : FnP K "high_pairing" (top 9) f fd) (h_range : mg "range" = none) (C_pairing_by : Cal P w K mg base 3 "pairing_by" 2 [] f_pairing_by) : FnG P w K mg base CX0 4 f fd ["hall", "askers"] (spG K V0 2 f_high_pairing) := by
  refine fnG_T F sc_high_pairing fun cdv A outer s H E hr => ?_
  have sc := sc_high_pairing
  have gd := hr.gd (X := cxOf CX0 P w K mg base N_high_pairing "high_pairing" (defScope (top 9)) f cdv A outer s H E) rfl
  exact (ss_one (s_ret (x_cal C_pairing_by hr (by decide) rfl (xa_cons (xv 0) (xa_cons (x_frz (xf_lc (own := [("person", 2)]) gd sc.nd (i_range1 rfl h_range (xa_cons (x_sub' gd (xv 0) x_int) xa_nil)) (blkOk_by (N := N_high_pairing) (sc := defScope (top 9)) (by decide +kernel)) (fun _ _ _ _ _ => ⟨(gn 2 sc.nd), (ts_one (t_c (c_notIn gd.blk (xv 2) (xv 1)))), (xv 2)⟩))) xa_nil)) (.c (.c .n)) rfl)))
abbrev N_partner_of : List Str := ["pairing", "person", "some", "pair"]
theorem sc_partner_of : FnScope N_partner_of ["pairing", "person"] (defScope (top 4)) := ⟨rfl, rfl, rfl, by decide +kernel, rfl, by decide +kernel, by decide +kernel⟩
theorem ok_partner_of {f : Addr} {fd : FuncData} (F : FnP K "partner_of" (top 4) f fd) (h_sum : mg "sum" = none) : FnG P w K mg base CX0 1 f fd ["pairing", "person"] (spG K V0 2 f_partner_of) := by
  refine fnG_T F sc_partner_of fun cdv A outer s H E hr => ?_
  have sc := sc_partner_of
  have gd := hr.gd (X := cxOf CX0 P w K mg base N_partner_of "partner_of" (defScope (top 4)) f cdv A outer s H E) rfl
  exact (ss_cons (s_lcF (i := 2) (own := [("pair", 3)]) gd sc.nd rfl rfl (sw_true rfl rfl rfl (by decide +kernel)) (i_seq (xv 0)) (blkOk_by (N := N_partner_of) (sc := defScope (top 4)) (by decide +kernel)) (fun _ _ _ _ _ => ⟨(gn 3 sc.nd), (ts_one (t_c (c_in gd.blk (xv 1) (xv 3)))), (x_sub (x_callB ((cr_sum gd.blk.calm).or (cr_sumT gd.blk.calm)) opA_sum rfl h_sum bt_sum (xa_cons (xv 3) xa_nil)) (xv 1))⟩)) (ss_one (s_ret (x_ite (t_c (c_ne gd (xv 2) (x_frz (xf_disp xa_nil)))) (x_sub' gd (xv 2) x_int) x_non))))
abbrev N_best_told : List Str := ["hall", "askers", "person"]
theorem sc_best_told : FnScope N_best_told ["hall", "askers", "person"] (defScope (top 11)) := ⟨rfl, rfl, rfl, by decide +kernel, rfl, by decide +kernel, by decide +kernel⟩
theorem ok_best_told {f : Addr} {fd : FuncData} (F : FnP K "best_told" (top 11) f fd)  (C_high_pairing : Cal P w K mg base 4 "high_pairing" 2 [] f_high_pairing) (C_partner_of : Cal P w K mg base 1 "partner_of" 2 [] f_partner_of) : FnG P w K mg base CX0 5 f fd ["hall", "askers", "person"] (spG K V0 3 f_best_told) := by
  refine fnG_T F sc_best_told fun cdv A outer s H E hr => ?_
  have sc := sc_best_told
  have gd := hr.gd (X := cxOf CX0 P w K mg base N_best_told "best_told" (defScope (top 11)) f cdv A outer s H E) rfl
  exact (ss_one (s_ret (x_cal C_partner_of hr (by decide) rfl (xa_cons (x_cal C_high_pairing hr (by decide) rfl (xa_cons (xv 0) (xa_cons (xv 1) xa_nil)) (.c (.c .n)) rfl) (xa_cons (xv 2) xa_nil)) (.c (.c .n)) rfl)))
abbrev N_law_rows_of : List Str := ["some", "found", "late", "lap", "longer", "row", "one"]
theorem sc_law_rows_of : FnScope N_law_rows_of ["some"] (defScope (top 32)) := ⟨rfl, rfl, rfl, by decide +kernel, rfl, by decide +kernel, by decide +kernel⟩
theorem ok_law_rows_of {f : Addr} {fd : FuncData} (F : FnP K "_law_rows_of" (top 32) f fd) (h_len : mg "len" = none) (h_range : mg "range" = none) (h_list : mg "list" = none) : FnG P w K mg base CX0 1 f fd ["some"] (spG K V0 1 f_law_rows_of) := by
  refine fnG_T F sc_law_rows_of fun cdv A outer s H E hr => ?_
  have sc := sc_law_rows_of
  have gd := hr.gd (X := cxOf CX0 P w K mg base N_law_rows_of "_law_rows_of" (defScope (top 32)) f cdv A outer s H E) rfl
  exact (ss_cons (s_p2 gd sc.nd (xa_cons (x_frz (xf_disp (xa_cons (x_tup xa_nil) xa_nil))) (xa_cons (x_frz (xf_disp (xa_cons (x_tup xa_nil) xa_nil))) xa_nil))) (ss_cons (s_for gd own_pass (i_range1 rfl h_range (xa_cons (x_callB call_len opA_len rfl h_len bt_len (xa_cons (xv 0) xa_nil)) xa_nil)) (gn 3 sc.nd) (ss_cons (s_asg (x_frz (xf_disp xa_nil)) (gn 4 sc.nd)) (ss_cons (s_for gd own_pass (i_seq (xv 2)) (gn 5 sc.nd) (ss_one (s_asg (x_frz (xf_cat (xv 4) (x_frz (xf_lc (own := [("one", 6)]) gd sc.nd (i_seq (xv 0)) (blkOk_by (N := N_law_rows_of) (sc := defScope (top 32)) (by decide +kernel)) (fun _ _ _ _ _ => ⟨(gn 6 sc.nd), (ts_one (t_c (c_notIn gd.blk (xv 6) (xv 5)))), (x_add (xv 5) (x_tup (xa_cons (xv 6) xa_nil)))⟩))))) (gn 4 sc.nd)))) (ss_one (s_p2 gd sc.nd (xa_cons (x_frz (xf_cat (xv 1) (xv 4))) (xa_cons (x_frz (xf_list rfl h_list bt_list (xa_cons (xv 4) xa_nil))) xa_nil))))))) (ss_one (s_ret (xv 1)))))
abbrev N_law_drawn_row : List Str := ["source", "hall", "askers", "a", "some", "b"]
theorem sc_law_drawn_row : FnScope N_law_drawn_row ["source", "hall", "askers", "a"] (defScope (top 33)) := ⟨rfl, rfl, rfl, by decide +kernel, rfl, by decide +kernel, by decide +kernel⟩
theorem ok_law_drawn_row {f : Addr} {fd : FuncData} (F : FnP K "_law_drawn_row" (top 33) f fd) (h_range : mg "range" = none) (h_len : mg "len" = none) (h_tuple : mg "tuple" = none) (C_law_mixed : Cal P w K mg base 2 "_law_mixed" 2 [] f_law_mixed) (C_law_pick : Cal P w K mg base 1 "_law_pick" 2 [] f_law_pick) : FnG P w K mg base CX0 3 f fd ["source", "hall", "askers", "a"] (spG K V0 4 f_law_drawn_row) := by
  refine fnG_T F sc_law_drawn_row fun cdv A outer s H E hr => ?_
  have sc := sc_law_drawn_row
  have gd := hr.gd (X := cxOf CX0 P w K mg base N_law_drawn_row "_law_drawn_row" (defScope (top 33)) f cdv A outer s H E) rfl
  exact (ss_cons (s_asg (x_cal C_law_mixed hr (by decide) rfl (xa_cons (xv 0) (xa_cons (x_frz (xf_lc (own := [("b", 5)]) gd sc.nd (i_range1 rfl h_range (xa_cons (x_sub' gd (xv 1) x_int) xa_nil)) (blkOk_by (N := N_law_drawn_row) (sc := defScope (top 33)) (by decide +kernel)) (fun _ _ _ _ _ => ⟨(gn 5 sc.nd), (ts_one (t_c (c_ne gd.blk (x_c (c_in gd.blk (xv 5) (xv 2))) (x_c (c_in gd.blk (xv 3) (xv 2)))))), (xv 5)⟩))) xa_nil)) (.c (.c .n)) rfl) (gn 4 sc.nd)) (ss_one (s_ret (x_callT call_tupleN opA_tuple rfl h_tuple bt_tuple (xa_cons (x_slice (xv 4) xo_none (xo_some (x_cal C_law_pick hr (by decide) rfl (xa_cons (xv 0) (xa_cons (x_add (x_callB call_len opA_len rfl h_len bt_len (xa_cons (xv 4) xa_nil)) x_int) xa_nil)) (.c (.c .n)) rfl))) xa_nil)))))
abbrev N_law_told_by : List Str := ["hall", "a", "row"]
theorem sc_law_told_by : FnScope N_law_told_by ["hall", "a", "row"] (defScope (top 28)) := ⟨rfl, rfl, rfl, by decide +kernel, rfl, by decide +kernel, by decide +kernel⟩
theorem ok_law_told_by {f : Addr} {fd : FuncData} (F : FnP K "_law_told_by" (top 28) f fd)  : FnG P w K mg base CX0 1 f fd ["hall", "a", "row"] (spG K V0 3 f_law_told_by) := by
  refine fnG_T F sc_law_told_by fun cdv A outer s H E hr => ?_
  have sc := sc_law_told_by
  have gd := hr.gd (X := cxOf CX0 P w K mg base N_law_told_by "_law_told_by" (defScope (top 28)) f cdv A outer s H E) rfl
  exact (ss_one (s_ret (x_tup (xa_cons (x_sub' gd (xv 0) x_int) (xa_cons (x_add (x_add (x_slice (x_sub' gd (xv 0) x_int) xo_none (xo_some (xv 1))) (x_tup (xa_cons (xv 2) xa_nil))) (x_slice (x_sub' gd (xv 0) x_int) (xo_some (x_add (xv 1) x_int)) xo_none)) xa_nil)))))
abbrev N_law_come : List Str := ["hall", "askers", "b", "row"]
theorem sc_law_come : FnScope N_law_come ["hall", "askers", "b", "row"] (defScope (top 34)) := ⟨rfl, rfl, rfl, by decide +kernel, rfl, by decide +kernel, by decide +kernel⟩
theorem ok_law_come {f : Addr} {fd : FuncData} (F : FnP K "_law_come" (top 34) f fd)  (C_law_told_by : Cal P w K mg base 1 "_law_told_by" 3 [] f_law_told_by) (C_law_asking : Cal P w K mg base 2 "_law_asking" 2 [] f_law_asking) (C_law_partner : Cal P w K mg base 1 "_law_partner" 2 [] f_law_partner) : FnG P w K mg base CX0 3 f fd ["hall", "askers", "b", "row"] (spG K V0 4 f_law_come) := by
  refine fnG_T F sc_law_come fun cdv A outer s H E hr => ?_
  have sc := sc_law_come
  have gd := hr.gd (X := cxOf CX0 P w K mg base N_law_come "_law_come" (defScope (top 34)) f cdv A outer s H E) rfl
  exact (ss_one (s_ret (x_cal C_law_partner hr (by decide) rfl (xa_cons (x_cal C_law_asking hr (by decide) rfl (xa_cons (x_cal C_law_told_by hr (by decide) rfl (xa_cons (xv 0) (xa_cons (xv 2) (xa_cons (xv 3) xa_nil))) (.c (.c (.c .n))) rfl) (xa_cons (xv 1) xa_nil)) (.c (.c .n)) rfl) (xa_cons (xv 2) xa_nil)) (.c (.c .n)) rfl)))
abbrev N_cut_list : List Str := ["hall", "person", "partner", "row"]
theorem sc_cut_list : FnScope N_cut_list ["hall", "person", "partner"] (defScope (top 12)) := ⟨rfl, rfl, rfl, by decide +kernel, rfl, by decide +kernel, by decide +kernel⟩
theorem ok_cut_list {f : Addr} {fd : FuncData} (F : FnP K "cut_list" (top 12) f fd)  : FnG P w K mg base CX0 1 f fd ["hall", "person", "partner"] (spG K V0 3 f_cut_list) := by
  refine fnG_T F sc_cut_list fun cdv A outer s H E hr => ?_
  have sc := sc_cut_list
  have gd := hr.gd (X := cxOf CX0 P w K mg base N_cut_list "cut_list" (defScope (top 12)) f cdv A outer s H E) rfl
  exact (ss_cons (s_asg (x_sub' gd (x_sub' gd (xv 0) x_int) (xv 1)) (gn 3 sc.nd)) (ss_one (s_ret (x_ite (t_c (c_isNot (xv 2) x_non)) (x_slice (xv 3) xo_none (xo_some (x_add (x_index (xv 3) (xa_cons (xv 2) xa_nil)) x_int))) (x_tup xa_nil)))))
abbrev N_low_pairing : List Str := ["hall", "askers"]
theorem sc_low_pairing : FnScope N_low_pairing ["hall", "askers"] (defScope (top 8)) := ⟨rfl, rfl, rfl, by decide +kernel, rfl, by decide +kernel, by decide +kernel⟩
theorem ok_low_pairing {f : Addr} {fd : FuncData} (F : FnP K "low_pairing" (top 8) f fd)  (C_pairing_by : Cal P w K mg base 3 "pairing_by" 2 [] f_pairing_by) : FnG P w K mg base CX0 4 f fd ["hall", "askers"] (spG K V0 2 f_low_pairing) := by
  refine fnG_T F sc_low_pairing fun cdv A outer s H E hr => ?_
  have sc := sc_low_pairing
  have gd := hr.gd (X := cxOf CX0 P w K mg base N_low_pairing "low_pairing" (defScope (top 8)) f cdv A outer s H E) rfl
  exact (ss_one (s_ret (x_cal C_pairing_by hr (by decide) rfl (xa_cons (xv 0) (xa_cons (xv 1) xa_nil)) (.c (.c .n)) rfl)))
abbrev N_gain_paper : List Str := ["hall", "askers", "person", "low", "high"]
theorem sc_gain_paper : FnScope N_gain_paper ["hall", "askers", "person"] (defScope (top 13)) := ⟨rfl, rfl, rfl, by decide +kernel, rfl, by decide +kernel, by decide +kernel⟩
theorem ok_gain_paper {f : Addr} {fd : FuncData} (F : FnP K "gain_paper" (top 13) f fd)  (C_high_pairing : Cal P w K mg base 4 "high_pairing" 2 [] f_high_pairing) (C_low_pairing : Cal P w K mg base 4 "low_pairing" 2 [] f_low_pairing) (C_partner_of : Cal P w K mg base 1 "partner_of" 2 [] f_partner_of) (C_cut_list : Cal P w K mg base 1 "cut_list" 3 [] f_cut_list) : FnG P w K mg base CX0 5 f fd ["hall", "askers", "person"] (spG K V0 3 f_gain_paper) := by
  refine fnG_T F sc_gain_paper fun cdv A outer s H E hr => ?_
  have sc := sc_gain_paper
  have gd := hr.gd (X := cxOf CX0 P w K mg base N_gain_paper "gain_paper" (defScope (top 13)) f cdv A outer s H E) rfl
  exact (ss_cons (s_p2 gd sc.nd (xa_cons (x_cal C_low_pairing hr (by decide) rfl (xa_cons (xv 0) (xa_cons (xv 1) xa_nil)) (.c (.c .n)) rfl) (xa_cons (x_cal C_high_pairing hr (by decide) rfl (xa_cons (xv 0) (xa_cons (xv 1) xa_nil)) (.c (.c .n)) rfl) xa_nil))) (ss_cons (s_if (t_c (c_eq gd (x_cal C_partner_of hr (by decide) rfl (xa_cons (xv 3) (xa_cons (xv 2) xa_nil)) (.c (.c .n)) rfl) (x_cal C_partner_of hr (by decide) rfl (xa_cons (xv 4) (xa_cons (xv 2) xa_nil)) (.c (.c .n)) rfl))) (ss_one (s_ret (x_tup (xa_cons x_str (xa_cons (xv 3) (xa_cons (xv 4) xa_nil)))))) ss_nil) (ss_one (s_ret (x_tup (xa_cons x_str (xa_cons (x_cal C_cut_list hr (by decide) rfl (xa_cons (xv 0) (xa_cons (xv 2) (xa_cons (x_cal C_partner_of hr (by decide) rfl (xa_cons (xv 4) (xa_cons (xv 2) xa_nil)) (.c (.c .n)) rfl) xa_nil))) (.c (.c (.c .n))) rfl) xa_nil)))))))
abbrev N_law_gains : List Str := ["hall", "askers", "a", "row", "here", "late"]
theorem sc_law_gains : FnScope N_law_gains ["hall", "askers", "a", "row"] (defScope (top 31)) := ⟨rfl, rfl, rfl, by decide +kernel, rfl, by decide +kernel, by decide +kernel⟩
theorem ok_law_gains {f : Addr} {fd : FuncData} (F : FnP K "_law_gains" (top 31) f fd)  (C_law_told_by : Cal P w K mg base 1 "_law_told_by" 3 [] f_law_told_by) (C_law_asking : Cal P w K mg base 2 "_law_asking" 2 [] f_law_asking) (C_law_partner : Cal P w K mg base 1 "_law_partner" 2 [] f_law_partner) (C_law_rather : Cal P w K mg base 1 "_law_rather" 4 [] f_law_rather) : FnG P w K mg base CX0 3 f fd ["hall", "askers", "a", "row"] (spG K V0 4 f_law_gains) := by
  refine fnG_T F sc_law_gains fun cdv A outer s H E hr => ?_
  have sc := sc_law_gains
  have gd := hr.gd (X := cxOf CX0 P w K mg base N_law_gains "_law_gains" (defScope (top 31)) f cdv A outer s H E) rfl
  exact (ss_cons (s_p2 gd sc.nd (xa_cons (x_cal C_law_asking hr (by decide) rfl (xa_cons (xv 0) (xa_cons (xv 1) xa_nil)) (.c (.c .n)) rfl) (xa_cons (x_cal C_law_asking hr (by decide) rfl (xa_cons (x_cal C_law_told_by hr (by decide) rfl (xa_cons (xv 0) (xa_cons (xv 2) (xa_cons (xv 3) xa_nil))) (.c (.c (.c .n))) rfl) (xa_cons (xv 1) xa_nil)) (.c (.c .n)) rfl) xa_nil))) (ss_one (s_ret (x_cal C_law_rather hr (by decide) rfl (xa_cons (xv 0) (xa_cons (xv 2) (xa_cons (x_cal C_law_partner hr (by decide) rfl (xa_cons (xv 5) (xa_cons (xv 2) xa_nil)) (.c (.c .n)) rfl) (xa_cons (x_cal C_law_partner hr (by decide) rfl (xa_cons (xv 4) (xa_cons (xv 2) xa_nil)) (.c (.c .n)) rfl) xa_nil)))) (.c (.c (.c (.c .n)))) rfl))))
abbrev N_law_pairings : List Str := ["hall", "found", "a", "b", "free", "one"]
theorem sc_law_pairings : FnScope N_law_pairings ["hall"] (defScope (top 25)) := ⟨rfl, rfl, rfl, by decide +kernel, rfl, by decide +kernel, by decide +kernel⟩
theorem ok_law_pairings {f : Addr} {fd : FuncData} (F : FnP K "_law_pairings" (top 25) f fd) (h_range : mg "range" = none) (h_sorted : mg "sorted" = none) (C_law_want : Cal P w K mg base 1 "_law_want" 3 [] f_law_want) (C_law_partner : Cal P w K mg base 1 "_law_partner" 2 [] f_law_partner) : FnG P w K mg base CX0 2 f fd ["hall"] (spG K V0 1 f_law_pairings) := by
  refine fnG_T F sc_law_pairings fun cdv A outer s H E hr => ?_
  have sc := sc_law_pairings
  have gd := hr.gd (X := cxOf CX0 P w K mg base N_law_pairings "_law_pairings" (defScope (top 25)) f cdv A outer s H E) rfl
  exact (ss_cons (s_asg (x_frz (xf_disp (xa_cons (x_tup xa_nil) xa_nil))) (gn 1 sc.nd)) (ss_cons (s_for gd own_pass (i_range1 rfl h_range (xa_cons (x_sub' gd (xv 0) x_int) xa_nil)) (gn 2 sc.nd) (ss_one (s_for gd own_pass (i_range2 rfl h_range (xa_cons (x_add (xv 2) x_int) (xa_cons (x_sub' gd (xv 0) x_int) xa_nil))) (gn 3 sc.nd) (ss_one (s_if (t_v (x_cal C_law_want hr (by decide) rfl (xa_cons (xv 0) (xa_cons (xv 2) (xa_cons (xv 3) xa_nil))) (.c (.c (.c .n))) rfl)) (ss_cons (s_lcF (i := 4) (own := [("one", 5)]) gd sc.nd rfl rfl (sw_true rfl rfl rfl (by decide +kernel)) (i_seq (xv 1)) (blkOk_by (N := N_law_pairings) (sc := defScope (top 25)) (by decide +kernel)) (fun _ _ _ _ _ => ⟨(gn 5 sc.nd), (ts_one (PW.pt (t_and (t_c (c_is (x_cal C_law_partner hr (by decide) rfl (xa_cons (xv 5) (xa_cons (xv 2) xa_nil)) (.c (.c .n)) rfl) x_non)) (t_and1 (t_c (c_is (x_cal C_law_partner hr (by decide) rfl (xa_cons (xv 5) (xa_cons (xv 3) xa_nil)) (.c (.c .n)) rfl) x_non)))))), (xv 5)⟩)) (ss_one (s_asg (x_frz (xf_cat (xv 1) (x_frz (xf_lc (own := [("one", 5)]) gd sc.nd (i_seq (xv 4)) (blkOk_by (N := N_law_pairings) (sc := defScope (top 25)) (by decide +kernel)) (fun _ _ _ _ _ => ⟨(gn 5 sc.nd), ts_nil, (x_add (xv 5) (x_tup (xa_cons (x_tup (xa_cons (xv 2) (xa_cons (xv 3) xa_nil))) xa_nil)))⟩))))) (gn 1 sc.nd)))) ss_nil))))) (ss_one (s_ret (x_frz (xf_sortG gd rfl h_sorted bt_sorted (xa_cons (xv 1) xa_nil)))))))
abbrev N_law_breaking : List Str := ["hall", "pairing", "found", "a", "b"]
theorem sc_law_breaking : FnScope N_law_breaking ["hall", "pairing"] (defScope (top 24)) := ⟨rfl, rfl, rfl, by decide +kernel, rfl, by decide +kernel, by decide +kernel⟩
theorem ok_law_breaking {f : Addr} {fd : FuncData} (F : FnP K "_law_breaking" (top 24) f fd) (h_range : mg "range" = none) (h_int : mg "int" = none) (C_law_partner : Cal P w K mg base 1 "_law_partner" 2 [] f_law_partner) (C_law_rather : Cal P w K mg base 1 "_law_rather" 4 [] f_law_rather) (C_law_want : Cal P w K mg base 1 "_law_want" 3 [] f_law_want) : FnG P w K mg base CX0 2 f fd ["hall", "pairing"] (spG K V0 2 f_law_breaking) := by
  refine fnG_T F sc_law_breaking fun cdv A outer s H E hr => ?_
  have sc := sc_law_breaking
  have gd := hr.gd (X := cxOf CX0 P w K mg base N_law_breaking "_law_breaking" (defScope (top 24)) f cdv A outer s H E) rfl
  exact (ss_cons (s_asg (x_frz (xf_disp xa_nil)) (gn 2 sc.nd)) (ss_cons (s_for gd own_pass (i_range1 rfl h_range (xa_cons (x_sub' gd (xv 0) x_int) xa_nil)) (gn 3 sc.nd) (ss_one (s_for gd own_pass (i_range2 rfl h_range (xa_cons (x_add (xv 3) x_int) (xa_cons (x_sub' gd (xv 0) x_int) xa_nil))) (gn 4 sc.nd) (ss_one (s_if (PW.pt (t_and (t_v (x_cal C_law_want hr (by decide) rfl (xa_cons (xv 0) (xa_cons (xv 3) (xa_cons (xv 4) xa_nil))) (.c (.c (.c .n))) rfl)) (t_and1 (t_v (x_cal C_law_rather hr (by decide) rfl (xa_cons (xv 0) (xa_cons (xv 3) (xa_cons (xv 4) (xa_cons (x_cal C_law_partner hr (by decide) rfl (xa_cons (xv 1) (xa_cons (xv 3) xa_nil)) (.c (.c .n)) rfl) xa_nil)))) (.c (.c (.c (.c .n)))) rfl))))) (ss_one (s_asg (x_frz (xf_cat (xv 2) (x_frz (xf_rep (x_frz (xf_disp (xa_cons (x_tup (xa_cons (xv 3) (xa_cons (xv 4) xa_nil))) xa_nil))) (x_callT call_int1 opA_int rfl h_int bt_int (xa_cons (x_cal C_law_rather hr (by decide) rfl (xa_cons (xv 0) (xa_cons (xv 4) (xa_cons (xv 3) (xa_cons (x_cal C_law_partner hr (by decide) rfl (xa_cons (xv 1) (xa_cons (xv 4) xa_nil)) (.c (.c .n)) rfl) xa_nil)))) (.c (.c (.c (.c .n)))) rfl) xa_nil)))))) (gn 2 sc.nd))) ss_nil))))) (ss_one (s_ret (xv 2)))))
abbrev N_cut_to : List Str := ["hall", "askers", "pairing", "rows", "person", "row"]
theorem sc_cut_to : FnScope N_cut_to ["hall", "askers", "pairing"] (defScope (top 14)) := ⟨rfl, rfl, rfl, by decide +kernel, rfl, by decide +kernel, by decide +kernel⟩
theorem ok_cut_to {f : Addr} {fd : FuncData} (F : FnP K "cut_to" (top 14) f fd) (h_range : mg "range" = none) (h_tuple : mg "tuple" = none) (C_partner_of : Cal P w K mg base 1 "partner_of" 2 [] f_partner_of) (C_cut_list : Cal P w K mg base 1 "cut_list" 3 [] f_cut_list) : FnG P w K mg base CX0 2 f fd ["hall", "askers", "pairing"] (spG K V0 3 f_cut_to) := by
  refine fnG_T F sc_cut_to fun cdv A outer s H E hr => ?_
  have sc := sc_cut_to
  have gd := hr.gd (X := cxOf CX0 P w K mg base N_cut_to "cut_to" (defScope (top 14)) f cdv A outer s H E) rfl
  exact (ss_cons (s_asg (x_new (xf_disp xa_nil)) (gn 3 sc.nd)) (ss_cons (s_for gd own_pass (i_range1 rfl h_range (xa_cons (x_sub' gd (xv 0) x_int) xa_nil)) (gn 4 sc.nd) (ss_cons (s_asg (x_sub' gd (x_sub' gd (xv 0) x_int) (xv 4)) (gn 5 sc.nd)) (ss_one (s_expr (x_m PySem.F.plainAttrs_list PySem.F.slot_list_append PySem.F.type_list_append mt_append opM_append (xv 3) (xa_cons (x_ite (t_c (c_in gd (xv 4) (xv 1))) (xv 5) (x_cal C_cut_list hr (by decide) rfl (xa_cons (xv 0) (xa_cons (xv 4) (xa_cons (x_cal C_partner_of hr (by decide) rfl (xa_cons (xv 2) (xa_cons (xv 4) xa_nil)) (.c (.c .n)) rfl) xa_nil))) (.c (.c (.c .n))) rfl)) xa_nil)))))) (ss_one (s_ret (x_tup (xa_cons (x_sub' gd (xv 0) x_int) (xa_cons (x_callT call_tupleN opA_tuple rfl h_tuple bt_tuple (xa_cons (xv 3) xa_nil)) xa_nil)))))))
abbrev N_law_cut : List Str := ["hall", "askers", "pairing", "rows", "a", "row", "k"]
theorem sc_law_cut : FnScope N_law_cut ["hall", "askers", "pairing"] (defScope (top 35)) := ⟨rfl, rfl, rfl, by decide +kernel, rfl, by decide +kernel, by decide +kernel⟩
theorem ok_law_cut {f : Addr} {fd : FuncData} (F : FnP K "_law_cut" (top 35) f fd) (h_enumerate : mg "enumerate" = none) (h_tuple : mg "tuple" = none) (C_law_partner : Cal P w K mg base 1 "_law_partner" 2 [] f_law_partner) : FnG P w K mg base CX0 2 f fd ["hall", "askers", "pairing"] (spG K V0 3 f_law_cut) := by
  refine fnG_T F sc_law_cut fun cdv A outer s H E hr => ?_
  have sc := sc_law_cut
  have gd := hr.gd (X := cxOf CX0 P w K mg base N_law_cut "_law_cut" (defScope (top 35)) f cdv A outer s H E) rfl
  exact (ss_cons (s_asg (x_new (xf_disp xa_nil)) (gn 3 sc.nd)) (ss_cons (s_for gd own_pass (i_enum rfl h_enumerate (xa_cons (x_sub' gd (xv 0) x_int) xa_nil)) (g_tp gd (gs_cons (gn 4 sc.nd) (gs_cons (gn 5 sc.nd) gs_nil))) (ss_cons (s_asg (x_ite (t_c (c_in gd (x_cal C_law_partner hr (by decide) rfl (xa_cons (xv 2) (xa_cons (xv 4) xa_nil)) (.c (.c .n)) rfl) (xv 5))) (x_add (x_index (xv 5) (xa_cons (x_cal C_law_partner hr (by decide) rfl (xa_cons (xv 2) (xa_cons (xv 4) xa_nil)) (.c (.c .n)) rfl) xa_nil)) x_int) x_int) (gn 6 sc.nd)) (ss_one (s_expr (x_m PySem.F.plainAttrs_list PySem.F.slot_list_append PySem.F.type_list_append mt_append opM_append (xv 3) (xa_cons (x_ite (t_c (c_in gd (xv 4) (xv 1))) (xv 5) (x_slice (xv 5) xo_none (xo_some (xv 6)))) xa_nil)))))) (ss_one (s_ret (x_tup (xa_cons (x_sub' gd (xv 0) x_int) (xa_cons (x_callT call_tupleN opA_tuple rfl h_tuple bt_tuple (xa_cons (xv 3) xa_nil)) xa_nil)))))))
abbrev N_law : List Str := ["script", "source", "lap", "hall", "askers", "held", "others", "low", "high", "b", "due", "rows", "turn", "row", "cut", "paper", "every", "one", "late"]
theorem sc_law : FnScope N_law ["script"] (defScope (top 36)) := ⟨rfl, rfl, rfl, by decide +kernel, rfl, by decide +kernel, by decide +kernel⟩
theorem ok_law {f : Addr} {fd : FuncData} (F : FnP K "law" (top 36) f fd) (h_range : mg "range" = none) (h_repr : mg "repr" = none) (h_len : mg "len" = none) (h_list : mg "list" = none) (C_law_source : Cal P w K mg base 1 "_law_source" 1 [] f_law_source) (C_law_two_sides : Cal P w K mg base 3 "_law_two_sides" 3 [] f_law_two_sides) (C_law_others : Cal P w K mg base 1 "_law_others" 2 [] f_law_others) (C_law_asking : Cal P w K mg base 2 "_law_asking" 2 [] f_law_asking) (C_law_partner : Cal P w K mg base 1 "_law_partner" 2 [] f_law_partner) (C_best_told : Cal P w K mg base 5 "best_told" 3 [] f_best_told) (C_law_rows_of : Cal P w K mg base 1 "_law_rows_of" 1 [] f_law_rows_of) (C_law_drawn_row : Cal P w K mg base 3 "_law_drawn_row" 4 [] f_law_drawn_row) (C_law_come : Cal P w K mg base 3 "_law_come" 4 [] f_law_come) (C_law_rather : Cal P w K mg base 1 "_law_rather" 4 [] f_law_rather) (C_cut_list : Cal P w K mg base 1 "cut_list" 3 [] f_cut_list) (C_gain_paper : Cal P w K mg base 5 "gain_paper" 3 [] f_gain_paper) (C_law_gains : Cal P w K mg base 3 "_law_gains" 4 [] f_law_gains) (C_law_pairings : Cal P w K mg base 2 "_law_pairings" 1 [] f_law_pairings) (C_law_breaking : Cal P w K mg base 2 "_law_breaking" 2 [] f_law_breaking) (C_cut_to : Cal P w K mg base 2 "cut_to" 3 [] f_cut_to) (C_low_pairing : Cal P w K mg base 4 "low_pairing" 2 [] f_low_pairing) (C_law_cut : Cal P w K mg base 2 "_law_cut" 3 [] f_law_cut) : FnG P w K mg base CX0 6 f fd ["script"] (spG K V0 1 f_law) := by
  refine fnG_T F sc_law fun cdv A outer s H E hr => ?_
  have sc := sc_law
  have gd := hr.gd (X := cxOf CX0 P w K mg base N_law "law" (defScope (top 36)) f cdv A outer s H E) rfl
  exact (ss_cons (s_asg (x_cal C_law_source hr (by decide) rfl (xa_cons (xv 0) xa_nil) (.c .n) rfl) (gn 1 sc.nd)) (ss_cons (s_for gd own_pass (i_range1 rfl h_range (xa_cons x_int xa_nil)) (gn 2 sc.nd) (ss_cons (s_asg (x_cal C_law_two_sides hr (by decide) rfl (xa_cons (xv 1) (xa_cons x_int (xa_cons (x_sub' gd (x_frz (xf_disp (xa_cons x_int (xa_cons x_int (xa_cons x_int xa_nil))))) (xv 2)) xa_nil))) (.c (.c (.c .n))) rfl) (g_tp gd (gs_cons (gn 3 sc.nd) (gs_cons (gn 4 sc.nd) gs_nil)))) (ss_cons (s_p2 gd sc.nd (xa_cons (x_callB ((call_reprN gd).or (call_reprK gd)) opA_reprK rfl h_repr bt_repr (xa_cons (xv 3) xa_nil)) (xa_cons (x_cal C_law_others hr (by decide) rfl (xa_cons (xv 3) (xa_cons (xv 4) xa_nil)) (.c (.c .n)) rfl) xa_nil))) (ss_cons (s_p2 gd sc.nd (xa_cons (x_cal C_law_asking hr (by decide) rfl (xa_cons (xv 3) (xa_cons (xv 4) xa_nil)) (.c (.c .n)) rfl) (xa_cons (x_cal C_law_asking hr (by decide) rfl (xa_cons (xv 3) (xa_cons (xv 6) xa_nil)) (.c (.c .n)) rfl) xa_nil))) (ss_cons (s_for gd own_pass (i_seq (x_slice (xv 6) xo_none (xo_some x_int))) (gn 9 sc.nd) (ss_cons (s_asg (x_cal C_law_partner hr (by decide) rfl (xa_cons (xv 8) (xa_cons (xv 9) xa_nil)) (.c (.c .n)) rfl) (gn 10 sc.nd)) (ss_cons (s_if (t_c (c_ne gd (x_callB ((call_reprN gd).or (call_reprK gd)) opA_reprK rfl h_repr bt_repr (xa_cons (x_cal C_best_told hr (by decide) rfl (xa_cons (xv 3) (xa_cons (xv 4) (xa_cons (xv 9) xa_nil))) (.c (.c (.c .n))) rfl) xa_nil)) (x_callB ((call_reprN gd).or (call_reprK gd)) opA_reprK rfl h_repr bt_repr (xa_cons (xv 10) xa_nil)))) (ss_one (s_ret x_bl)) ss_nil) (ss_cons (s_asg (x_ite (t_c (c_lt (x_callB call_len opA_len rfl h_len bt_len (xa_cons (xv 4) xa_nil)) x_int)) (x_cal C_law_rows_of hr (by decide) rfl (xa_cons (x_frz (xf_list rfl h_list bt_list (xa_cons (xv 4) xa_nil))) xa_nil) (.c .n) rfl) (x_frz (xf_disp xa_nil))) (gn 11 sc.nd)) (ss_cons (s_asg (x_frz (xf_cat (xv 11) (x_frz (xf_lc (own := [("turn", 12)]) gd sc.nd (i_range1 rfl h_range (xa_cons x_int xa_nil)) (blkOk_by (N := N_law) (sc := defScope (top 36)) (by decide +kernel)) (fun _ _ _ _ _ => ⟨(gn 12 sc.nd), ts_nil, (x_cal C_law_drawn_row hr (by decide) rfl (xa_cons (xv 1) (xa_cons (xv 3) (xa_cons (xv 4) (xa_cons (xv 9) xa_nil)))) (.c (.c (.c (.c .n)))) rfl)⟩))))) (gn 11 sc.nd)) (ss_cons (s_for gd own_pass (i_seq (xv 11)) (gn 13 sc.nd) (ss_one (s_if (t_v (x_cal C_law_rather hr (by decide) rfl (xa_cons (xv 3) (xa_cons (xv 9) (xa_cons (x_cal C_law_come hr (by decide) rfl (xa_cons (xv 3) (xa_cons (xv 4) (xa_cons (xv 9) (xa_cons (xv 13) xa_nil)))) (.c (.c (.c (.c .n)))) rfl) (xa_cons (xv 10) xa_nil)))) (.c (.c (.c (.c .n)))) rfl)) (ss_one (s_ret x_bl)) ss_nil))) (ss_cons (s_asg (x_ite (t_c (c_isNot (xv 10) x_non)) (x_slice (x_sub' gd (x_sub' gd (xv 3) x_int) (xv 9)) xo_none (xo_some (x_add (x_index (x_sub' gd (x_sub' gd (xv 3) x_int) (xv 9)) (xa_cons (xv 10) xa_nil)) x_int))) (x_tup xa_nil)) (gn 14 sc.nd)) (ss_cons (s_if (PW.pt (t_or (t_c (c_ne gd (x_callB ((call_reprN gd).or (call_reprK gd)) opA_reprK rfl h_repr bt_repr (xa_cons (x_cal C_cut_list hr (by decide) rfl (xa_cons (xv 3) (xa_cons (xv 9) (xa_cons (xv 10) xa_nil))) (.c (.c (.c .n))) rfl) xa_nil)) (x_callB ((call_reprN gd).or (call_reprK gd)) opA_reprK rfl h_repr bt_repr (xa_cons (xv 14) xa_nil)))) (t_or1 (t_c (c_ne gd (x_cal C_law_come hr (by decide) rfl (xa_cons (xv 3) (xa_cons (xv 4) (xa_cons (xv 9) (xa_cons (xv 14) xa_nil)))) (.c (.c (.c (.c .n)))) rfl) (xv 10)))))) (ss_one (s_ret x_bl)) ss_nil) (ss_cons (s_asg (x_ite (t_c (c_eq gd (xv 10) (x_cal C_law_partner hr (by decide) rfl (xa_cons (xv 7) (xa_cons (xv 9) xa_nil)) (.c (.c .n)) rfl))) (x_tup (xa_cons x_str (xa_cons (xv 7) (xa_cons (xv 8) xa_nil)))) (x_tup (xa_cons x_str (xa_cons (xv 14) xa_nil)))) (gn 15 sc.nd)) (ss_cons (s_if (t_c (c_ne gd (x_callB ((call_reprN gd).or (call_reprK gd)) opA_reprK rfl h_repr bt_repr (xa_cons (x_cal C_gain_paper hr (by decide) rfl (xa_cons (xv 3) (xa_cons (xv 4) (xa_cons (xv 9) xa_nil))) (.c (.c (.c .n))) rfl) xa_nil)) (x_callB ((call_reprN gd).or (call_reprK gd)) opA_reprK rfl h_repr bt_repr (xa_cons (xv 15) xa_nil)))) (ss_one (s_ret x_bl)) ss_nil) (ss_one (s_if (PW.pt (t_and (t_c (c_eq gd (x_sub' gd (xv 15) x_int) x_str)) (t_and1 (t_not (t_v (x_cal C_law_gains hr (by decide) rfl (xa_cons (xv 3) (xa_cons (xv 4) (xa_cons (xv 9) (xa_cons (xv 14) xa_nil)))) (.c (.c (.c (.c .n)))) rfl)))))) (ss_one (s_ret x_bl)) ss_nil)))))))))))) (ss_cons (s_asg (x_ite (t_c (c_lt (x_sub' gd (xv 3) x_int) x_int)) (x_frz (xf_lc (own := [("one", 17)]) gd sc.nd (i_seq (x_cal C_law_pairings hr (by decide) rfl (xa_cons (xv 3) xa_nil) (.c .n) rfl)) (blkOk_by (N := N_law) (sc := defScope (top 36)) (by decide +kernel)) (fun _ _ _ _ _ => ⟨(gn 17 sc.nd), (ts_one (t_c (c_eq gd.blk (x_cal C_law_breaking hr (by decide) rfl (xa_cons (xv 3) (xa_cons (xv 17) xa_nil)) (.c (.c .n)) rfl) (x_frz (xf_disp xa_nil))))), (xv 17)⟩))) (x_frz (xf_disp (xa_cons (xv 7) (xa_cons (xv 8) xa_nil))))) (gn 16 sc.nd)) (ss_cons (s_for gd own_pass (i_seq (xv 16)) (gn 17 sc.nd) (ss_cons (s_asg (x_cal C_cut_to hr (by decide) rfl (xa_cons (xv 3) (xa_cons (xv 4) (xa_cons (xv 17) xa_nil))) (.c (.c (.c .n))) rfl) (gn 18 sc.nd)) (ss_one (s_if (PW.pt (t_or (t_c (c_ne gd (x_callB ((call_reprN gd).or (call_reprK gd)) opA_reprK rfl h_repr bt_repr (xa_cons (xv 18) xa_nil)) (x_callB ((call_reprN gd).or (call_reprK gd)) opA_reprK rfl h_repr bt_repr (xa_cons (x_cal C_law_cut hr (by decide) rfl (xa_cons (xv 3) (xa_cons (xv 4) (xa_cons (xv 17) xa_nil))) (.c (.c (.c .n))) rfl) xa_nil)))) (t_or1 (t_c (c_ne gd (x_callB ((call_reprN gd).or (call_reprK gd)) opA_reprK rfl h_repr bt_repr (xa_cons (x_cal C_low_pairing hr (by decide) rfl (xa_cons (xv 18) (xa_cons (xv 4) xa_nil)) (.c (.c .n)) rfl) xa_nil)) (x_callB ((call_reprN gd).or (call_reprK gd)) opA_reprK rfl h_repr bt_repr (xa_cons (xv 17) xa_nil))))))) (ss_one (s_ret x_bl)) ss_nil)))) (ss_one (s_if (t_c (c_ne gd (x_callB ((call_reprN gd).or (call_reprK gd)) opA_reprK rfl h_repr bt_repr (xa_cons (xv 3) xa_nil)) (xv 5))) (ss_one (s_ret x_bl)) ss_nil))))))))) (ss_one (s_ret x_bl))))
end
def d_law_source : He.DefD := ⟨("_law_source", none), "_law_source", "_law_source", defArgs (top 16), defBody (top 16), defScope (top 16), [], []⟩
def d_law_pick : He.DefD := ⟨("_law_pick", none), "_law_pick", "_law_pick", defArgs (top 17), defBody (top 17), defScope (top 17), [], []⟩
def d_law_mixed : He.DefD := ⟨("_law_mixed", none), "_law_mixed", "_law_mixed", defArgs (top 19), defBody (top 19), defScope (top 19), [], []⟩
def d_law_of : He.DefD := ⟨("_law_of", none), "_law_of", "_law_of", defArgs (top 18), defBody (top 18), defScope (top 18), [], []⟩
def d_law_two_sides : He.DefD := ⟨("_law_two_sides", none), "_law_two_sides", "_law_two_sides", defArgs (top 27), defBody (top 27), defScope (top 27), [], []⟩
def d_law_others : He.DefD := ⟨("_law_others", none), "_law_others", "_law_others", defArgs (top 30), defBody (top 30), defScope (top 30), [], []⟩
def d_law_want : He.DefD := ⟨("_law_want", none), "_law_want", "_law_want", defArgs (top 21), defBody (top 21), defScope (top 21), [], []⟩
def d_law_rather : He.DefD := ⟨("_law_rather", none), "_law_rather", "_law_rather", defArgs (top 22), defBody (top 22), defScope (top 22), [], []⟩
def d_law_asking : He.DefD := ⟨("_law_asking", none), "_law_asking", "_law_asking", defArgs (top 29), defBody (top 29), defScope (top 29), [], []⟩
def d_law_partner : He.DefD := ⟨("_law_partner", none), "_law_partner", "_law_partner", defArgs (top 23), defBody (top 23), defScope (top 23), [], []⟩
def d_do_want : He.DefD := ⟨("do_want", none), "do_want", "do_want", defArgs (top 1), defBody (top 1), defScope (top 1), [], []⟩
def d_asked_next : He.DefD := ⟨("asked_next", none), "asked_next", "asked_next", defArgs (top 6), defBody (top 6), defScope (top 6), [], []⟩
def d_has_rather : He.DefD := ⟨("has_rather", none), "has_rather", "has_rather", defArgs (top 2), defBody (top 2), defScope (top 2), [], []⟩
def d_pairing_by : He.DefD := ⟨("pairing_by", none), "pairing_by", "pairing_by", defArgs (top 7), defBody (top 7), defScope (top 7), [], []⟩
def d_high_pairing : He.DefD := ⟨("high_pairing", none), "high_pairing", "high_pairing", defArgs (top 9), defBody (top 9), defScope (top 9), [], []⟩
def d_partner_of : He.DefD := ⟨("partner_of", none), "partner_of", "partner_of", defArgs (top 4), defBody (top 4), defScope (top 4), [], []⟩
def d_best_told : He.DefD := ⟨("best_told", none), "best_told", "best_told", defArgs (top 11), defBody (top 11), defScope (top 11), [], []⟩
def d_law_rows_of : He.DefD := ⟨("_law_rows_of", none), "_law_rows_of", "_law_rows_of", defArgs (top 32), defBody (top 32), defScope (top 32), [], []⟩
def d_law_drawn_row : He.DefD := ⟨("_law_drawn_row", none), "_law_drawn_row", "_law_drawn_row", defArgs (top 33), defBody (top 33), defScope (top 33), [], []⟩
def d_law_told_by : He.DefD := ⟨("_law_told_by", none), "_law_told_by", "_law_told_by", defArgs (top 28), defBody (top 28), defScope (top 28), [], []⟩
def d_law_come : He.DefD := ⟨("_law_come", none), "_law_come", "_law_come", defArgs (top 34), defBody (top 34), defScope (top 34), [], []⟩
def d_cut_list : He.DefD := ⟨("cut_list", none), "cut_list", "cut_list", defArgs (top 12), defBody (top 12), defScope (top 12), [], []⟩
def d_low_pairing : He.DefD := ⟨("low_pairing", none), "low_pairing", "low_pairing", defArgs (top 8), defBody (top 8), defScope (top 8), [], []⟩
def d_gain_paper : He.DefD := ⟨("gain_paper", none), "gain_paper", "gain_paper", defArgs (top 13), defBody (top 13), defScope (top 13), [], []⟩
def d_law_gains : He.DefD := ⟨("_law_gains", none), "_law_gains", "_law_gains", defArgs (top 31), defBody (top 31), defScope (top 31), [], []⟩
def d_law_pairings : He.DefD := ⟨("_law_pairings", none), "_law_pairings", "_law_pairings", defArgs (top 25), defBody (top 25), defScope (top 25), [], []⟩
def d_law_breaking : He.DefD := ⟨("_law_breaking", none), "_law_breaking", "_law_breaking", defArgs (top 24), defBody (top 24), defScope (top 24), [], []⟩
def d_cut_to : He.DefD := ⟨("cut_to", none), "cut_to", "cut_to", defArgs (top 14), defBody (top 14), defScope (top 14), [], []⟩
def d_law_cut : He.DefD := ⟨("_law_cut", none), "_law_cut", "_law_cut", defArgs (top 35), defBody (top 35), defScope (top 35), [], []⟩
def d_law : He.DefD := ⟨("law", none), "law", "law", defArgs (top 36), defBody (top 36), defScope (top 36), [], []⟩
def fn : List He.DefD := [d_law_source, d_law_pick, d_law_mixed, d_law_of, d_law_two_sides, d_law_others, d_law_want, d_law_rather, d_law_asking, d_law_partner, d_do_want, d_asked_next, d_has_rather, d_pairing_by, d_high_pairing, d_partner_of, d_best_told, d_law_rows_of, d_law_drawn_row, d_law_told_by, d_law_come, d_cut_list, d_low_pairing, d_gain_paper, d_law_gains, d_law_pairings, d_law_breaking, d_cut_to, d_law_cut, d_law]
def fa : List He.Fa := [.glo "_law_source", .glo "_law_pick", .glo "_law_mixed", .glo "_law_of", .glo "_law_two_sides", .glo "_law_others", .glo "_law_want", .glo "_law_rather", .glo "_law_asking", .glo "_law_partner", .glo "do_want", .glo "asked_next", .glo "has_rather", .glo "pairing_by", .glo "high_pairing", .glo "partner_of", .glo "best_told", .glo "_law_rows_of", .glo "_law_drawn_row", .glo "_law_told_by", .glo "_law_come", .glo "cut_list", .glo "low_pairing", .glo "gain_paper", .glo "_law_gains", .glo "_law_pairings", .glo "_law_breaking", .glo "cut_to", .glo "_law_cut", .glo "law", .free "int", .free "abs", .free "len", .free "max", .free "list", .free "range", .free "tuple", .free "dict", .free "min", .free "sorted", .free "sum", .free "enumerate", .free "repr"]
abbrev R : PySem.W.OpenRow := PySem.W.OpenLaw.row PySem.Challenge.rw_pairsandprices_k47_whole_who_is_asked
abbrev hk : PySem.W.Hook := He.hookD 4 fa fn
def ob (s : PySem.W.SharedT) : He.AlD := He.obsDG 4 fa fn (HandSHeadRun.getT s)
theorem ob_eq (s : PySem.W.SharedT) : ob s = hk.obs s.abs := He.obsDG_eq (HandSHeadRun.getT_eq s)
def lo0 : List PySem.Str := ["do_want", "has_rather", "partner_of", "asked_next", "pairing_by", "low_pairing", "high_pairing", "best_told", "cut_list", "gain_paper", "cut_to", "_law_source", "_law_pick", "_law_of", "_law_mixed", "_law_hall", "_law_want", "_law_rather", "_law_partner", "_law_breaking", "_law_pairings", "_law_pairing", "_law_two_sides", "_law_told_by", "_law_asking", "_law_others", "_law_gains", "_law_rows_of", "_law_drawn_row", "_law_come"]
def lo1 : List PySem.Str := ["_law_cut"]
def lo : List PySem.Str := lo0 ++ lo1
theorem run (w : World) : HandSHeadRun.RunEq R (PySem.W.view R.prog [36]) hk ob 2320 lo w := by
  intro os
  kernel_rfl
theorem facts {P : Program} {w : World} {K : PySem.W.Frag} {h : Heap} {mg : Str → Option Value} {f : Addr} (X : K.In h) (G : h.Ns mainGlobals mg) (hfa : mg ("law" : Str) = some (.ref f)) (c : He.SaysD fa fn K) :
    ∃ fd : FuncData, (∀ (s : Shared) (v : Value), BindsTo s fd ⟨[v], []⟩ [("script", v)]) ∧ ∀ base : Heap, K.In base → base.Ns mainGlobals mg → FnG P w K mg base CX0 6 f fd ["script"] (spG K V0 1 f_law) := by
  obtain ⟨fd0, F0⟩ := c.def_ 0 (d := d_law_source) rfl
  have m0 := He.glo_ok X G (c.fact 0 (f := .glo "_law_source") rfl)
  obtain ⟨fd1, F1⟩ := c.def_ 1 (d := d_law_pick) rfl
  have m1 := He.glo_ok X G (c.fact 1 (f := .glo "_law_pick") rfl)
  obtain ⟨fd2, F2⟩ := c.def_ 2 (d := d_law_mixed) rfl
  have m2 := He.glo_ok X G (c.fact 2 (f := .glo "_law_mixed") rfl)
  obtain ⟨fd3, F3⟩ := c.def_ 3 (d := d_law_of) rfl
  have m3 := He.glo_ok X G (c.fact 3 (f := .glo "_law_of") rfl)
  obtain ⟨fd4, F4⟩ := c.def_ 4 (d := d_law_two_sides) rfl
  have m4 := He.glo_ok X G (c.fact 4 (f := .glo "_law_two_sides") rfl)
  obtain ⟨fd5, F5⟩ := c.def_ 5 (d := d_law_others) rfl
  have m5 := He.glo_ok X G (c.fact 5 (f := .glo "_law_others") rfl)
  obtain ⟨fd6, F6⟩ := c.def_ 6 (d := d_law_want) rfl
  have m6 := He.glo_ok X G (c.fact 6 (f := .glo "_law_want") rfl)
  obtain ⟨fd7, F7⟩ := c.def_ 7 (d := d_law_rather) rfl
  have m7 := He.glo_ok X G (c.fact 7 (f := .glo "_law_rather") rfl)
  obtain ⟨fd8, F8⟩ := c.def_ 8 (d := d_law_asking) rfl
  have m8 := He.glo_ok X G (c.fact 8 (f := .glo "_law_asking") rfl)
  obtain ⟨fd9, F9⟩ := c.def_ 9 (d := d_law_partner) rfl
  have m9 := He.glo_ok X G (c.fact 9 (f := .glo "_law_partner") rfl)
  obtain ⟨fd10, F10⟩ := c.def_ 10 (d := d_do_want) rfl
  have m10 := He.glo_ok X G (c.fact 10 (f := .glo "do_want") rfl)
  obtain ⟨fd11, F11⟩ := c.def_ 11 (d := d_asked_next) rfl
  have m11 := He.glo_ok X G (c.fact 11 (f := .glo "asked_next") rfl)
  obtain ⟨fd12, F12⟩ := c.def_ 12 (d := d_has_rather) rfl
  have m12 := He.glo_ok X G (c.fact 12 (f := .glo "has_rather") rfl)
  obtain ⟨fd13, F13⟩ := c.def_ 13 (d := d_pairing_by) rfl
  have m13 := He.glo_ok X G (c.fact 13 (f := .glo "pairing_by") rfl)
  obtain ⟨fd14, F14⟩ := c.def_ 14 (d := d_high_pairing) rfl
  have m14 := He.glo_ok X G (c.fact 14 (f := .glo "high_pairing") rfl)
  obtain ⟨fd15, F15⟩ := c.def_ 15 (d := d_partner_of) rfl
  have m15 := He.glo_ok X G (c.fact 15 (f := .glo "partner_of") rfl)
  obtain ⟨fd16, F16⟩ := c.def_ 16 (d := d_best_told) rfl
  have m16 := He.glo_ok X G (c.fact 16 (f := .glo "best_told") rfl)
  obtain ⟨fd17, F17⟩ := c.def_ 17 (d := d_law_rows_of) rfl
  have m17 := He.glo_ok X G (c.fact 17 (f := .glo "_law_rows_of") rfl)
  obtain ⟨fd18, F18⟩ := c.def_ 18 (d := d_law_drawn_row) rfl
  have m18 := He.glo_ok X G (c.fact 18 (f := .glo "_law_drawn_row") rfl)
  obtain ⟨fd19, F19⟩ := c.def_ 19 (d := d_law_told_by) rfl
  have m19 := He.glo_ok X G (c.fact 19 (f := .glo "_law_told_by") rfl)
  obtain ⟨fd20, F20⟩ := c.def_ 20 (d := d_law_come) rfl
  have m20 := He.glo_ok X G (c.fact 20 (f := .glo "_law_come") rfl)
  obtain ⟨fd21, F21⟩ := c.def_ 21 (d := d_cut_list) rfl
  have m21 := He.glo_ok X G (c.fact 21 (f := .glo "cut_list") rfl)
  obtain ⟨fd22, F22⟩ := c.def_ 22 (d := d_low_pairing) rfl
  have m22 := He.glo_ok X G (c.fact 22 (f := .glo "low_pairing") rfl)
  obtain ⟨fd23, F23⟩ := c.def_ 23 (d := d_gain_paper) rfl
  have m23 := He.glo_ok X G (c.fact 23 (f := .glo "gain_paper") rfl)
  obtain ⟨fd24, F24⟩ := c.def_ 24 (d := d_law_gains) rfl
  have m24 := He.glo_ok X G (c.fact 24 (f := .glo "_law_gains") rfl)
  obtain ⟨fd25, F25⟩ := c.def_ 25 (d := d_law_pairings) rfl
  have m25 := He.glo_ok X G (c.fact 25 (f := .glo "_law_pairings") rfl)
  obtain ⟨fd26, F26⟩ := c.def_ 26 (d := d_law_breaking) rfl
  have m26 := He.glo_ok X G (c.fact 26 (f := .glo "_law_breaking") rfl)
  obtain ⟨fd27, F27⟩ := c.def_ 27 (d := d_cut_to) rfl
  have m27 := He.glo_ok X G (c.fact 27 (f := .glo "cut_to") rfl)
  obtain ⟨fd28, F28⟩ := c.def_ 28 (d := d_law_cut) rfl
  have m28 := He.glo_ok X G (c.fact 28 (f := .glo "_law_cut") rfl)
  obtain ⟨fd29, F29⟩ := c.def_ 29 (d := d_law) rfl
  have m29 := He.glo_ok X G (c.fact 29 (f := .glo "law") rfl)
  have h_int := He.free_ok X G (c.fact 30 (f := .free "int") rfl)
  have h_abs := He.free_ok X G (c.fact 31 (f := .free "abs") rfl)
  have h_len := He.free_ok X G (c.fact 32 (f := .free "len") rfl)
  have h_max := He.free_ok X G (c.fact 33 (f := .free "max") rfl)
  have h_list := He.free_ok X G (c.fact 34 (f := .free "list") rfl)
  have h_range := He.free_ok X G (c.fact 35 (f := .free "range") rfl)
  have h_tuple := He.free_ok X G (c.fact 36 (f := .free "tuple") rfl)
  have h_dict := He.free_ok X G (c.fact 37 (f := .free "dict") rfl)
  have h_min := He.free_ok X G (c.fact 38 (f := .free "min") rfl)
  have h_sorted := He.free_ok X G (c.fact 39 (f := .free "sorted") rfl)
  have h_sum := He.free_ok X G (c.fact 40 (f := .free "sum") rfl)
  have h_enumerate := He.free_ok X G (c.fact 41 (f := .free "enumerate") rfl)
  have h_repr := He.free_ok X G (c.fact 42 (f := .free "repr") rfl)
  have e := hfa.symm.trans m29
  cases e
  have b := FunD.bindsA (ps := ["script"]) F29 fun _ _ _ _ _ _ us hl => match us, hl with | [_], _ => rfl
  refine ⟨fd29, fun s v => b s [v] rfl, fun base _ _ => ?_⟩
  have C_law_source : Cal P w K mg base 1 "_law_source" 1 [] f_law_source := .mk0 F0 m0 (ok_law_source F0 h_int h_abs) fun _ _ _ _ _ _ us hl => match us, hl with | [_], _ => rfl
  have C_law_pick : Cal P w K mg base 1 "_law_pick" 2 [] f_law_pick := .mk0 F1 m1 (ok_law_pick F1 h_len h_max h_int) fun _ _ _ _ _ _ us hl => match us, hl with | [_, _], _ => rfl
  have C_law_mixed : Cal P w K mg base 2 "_law_mixed" 2 [] f_law_mixed := .mk0 F2 m2 (ok_law_mixed F2 h_list h_len h_range C_law_pick) fun _ _ _ _ _ _ us hl => match us, hl with | [_, _], _ => rfl
  have C_law_of : Cal P w K mg base 2 "_law_of" 2 [] f_law_of := .mk0 F3 m3 (ok_law_of F3 h_len C_law_pick) fun _ _ _ _ _ _ us hl => match us, hl with | [_, _], _ => rfl
  have C_law_two_sides : Cal P w K mg base 3 "_law_two_sides" 3 [] f_law_two_sides := .mk0 F4 m4 (ok_law_two_sides F4 h_range h_tuple h_len h_max C_law_pick C_law_mixed C_law_of) fun _ _ _ _ _ _ us hl => match us, hl with | [_, _, _], _ => rfl
  have C_law_others : Cal P w K mg base 1 "_law_others" 2 [] f_law_others := .mk0 F5 m5 (ok_law_others F5 h_range h_tuple) fun _ _ _ _ _ _ us hl => match us, hl with | [_, _], _ => rfl
  have C_law_want : Cal P w K mg base 1 "_law_want" 3 [] f_law_want := .mk0 F6 m6 (ok_law_want F6 ) fun _ _ _ _ _ _ us hl => match us, hl with | [_, _, _], _ => rfl
  have C_law_rather : Cal P w K mg base 1 "_law_rather" 4 [] f_law_rather := .mk0 F7 m7 (ok_law_rather F7 h_list h_len) fun _ _ _ _ _ _ us hl => match us, hl with | [_, _, _, _], _ => rfl
  have C_law_asking : Cal P w K mg base 2 "_law_asking" 2 [] f_law_asking := .mk0 F8 m8 (ok_law_asking F8 h_dict h_range h_max h_min h_sorted h_tuple C_law_want C_law_rather) fun _ _ _ _ _ _ us hl => match us, hl with | [_, _], _ => rfl
  have C_law_partner : Cal P w K mg base 1 "_law_partner" 2 [] f_law_partner := .mk0 F9 m9 (ok_law_partner F9 ) fun _ _ _ _ _ _ us hl => match us, hl with | [_, _], _ => rfl
  have C_do_want : Cal P w K mg base 1 "do_want" 3 [] f_do_want := .mk0 F10 m10 (ok_do_want F10 ) fun _ _ _ _ _ _ us hl => match us, hl with | [_, _, _], _ => rfl
  have C_asked_next : Cal P w K mg base 2 "asked_next" 3 [] f_asked_next := .mk0 F11 m11 (ok_asked_next F11  C_do_want) fun _ _ _ _ _ _ us hl => match us, hl with | [_, _, _], _ => rfl
  have C_has_rather : Cal P w K mg base 1 "has_rather" 4 [] f_has_rather := .mk0 F12 m12 (ok_has_rather F12 ) fun _ _ _ _ _ _ us hl => match us, hl with | [_, _, _, _], _ => rfl
  have C_pairing_by : Cal P w K mg base 3 "pairing_by" 2 [] f_pairing_by := .mk0 F13 m13 (ok_pairing_by F13 h_list h_max h_min h_sorted h_tuple C_asked_next C_has_rather) fun _ _ _ _ _ _ us hl => match us, hl with | [_, _], _ => rfl
  have C_high_pairing : Cal P w K mg base 4 "high_pairing" 2 [] f_high_pairing := .mk0 F14 m14 (ok_high_pairing F14 h_range C_pairing_by) fun _ _ _ _ _ _ us hl => match us, hl with | [_, _], _ => rfl
  have C_partner_of : Cal P w K mg base 1 "partner_of" 2 [] f_partner_of := .mk0 F15 m15 (ok_partner_of F15 h_sum) fun _ _ _ _ _ _ us hl => match us, hl with | [_, _], _ => rfl
  have C_best_told : Cal P w K mg base 5 "best_told" 3 [] f_best_told := .mk0 F16 m16 (ok_best_told F16  C_high_pairing C_partner_of) fun _ _ _ _ _ _ us hl => match us, hl with | [_, _, _], _ => rfl
  have C_law_rows_of : Cal P w K mg base 1 "_law_rows_of" 1 [] f_law_rows_of := .mk0 F17 m17 (ok_law_rows_of F17 h_len h_range h_list) fun _ _ _ _ _ _ us hl => match us, hl with | [_], _ => rfl
  have C_law_drawn_row : Cal P w K mg base 3 "_law_drawn_row" 4 [] f_law_drawn_row := .mk0 F18 m18 (ok_law_drawn_row F18 h_range h_len h_tuple C_law_mixed C_law_pick) fun _ _ _ _ _ _ us hl => match us, hl with | [_, _, _, _], _ => rfl
  have C_law_told_by : Cal P w K mg base 1 "_law_told_by" 3 [] f_law_told_by := .mk0 F19 m19 (ok_law_told_by F19 ) fun _ _ _ _ _ _ us hl => match us, hl with | [_, _, _], _ => rfl
  have C_law_come : Cal P w K mg base 3 "_law_come" 4 [] f_law_come := .mk0 F20 m20 (ok_law_come F20  C_law_told_by C_law_asking C_law_partner) fun _ _ _ _ _ _ us hl => match us, hl with | [_, _, _, _], _ => rfl
  have C_cut_list : Cal P w K mg base 1 "cut_list" 3 [] f_cut_list := .mk0 F21 m21 (ok_cut_list F21 ) fun _ _ _ _ _ _ us hl => match us, hl with | [_, _, _], _ => rfl
  have C_low_pairing : Cal P w K mg base 4 "low_pairing" 2 [] f_low_pairing := .mk0 F22 m22 (ok_low_pairing F22  C_pairing_by) fun _ _ _ _ _ _ us hl => match us, hl with | [_, _], _ => rfl
  have C_gain_paper : Cal P w K mg base 5 "gain_paper" 3 [] f_gain_paper := .mk0 F23 m23 (ok_gain_paper F23  C_high_pairing C_low_pairing C_partner_of C_cut_list) fun _ _ _ _ _ _ us hl => match us, hl with | [_, _, _], _ => rfl
  have C_law_gains : Cal P w K mg base 3 "_law_gains" 4 [] f_law_gains := .mk0 F24 m24 (ok_law_gains F24  C_law_told_by C_law_asking C_law_partner C_law_rather) fun _ _ _ _ _ _ us hl => match us, hl with | [_, _, _, _], _ => rfl
  have C_law_pairings : Cal P w K mg base 2 "_law_pairings" 1 [] f_law_pairings := .mk0 F25 m25 (ok_law_pairings F25 h_range h_sorted C_law_want C_law_partner) fun _ _ _ _ _ _ us hl => match us, hl with | [_], _ => rfl
  have C_law_breaking : Cal P w K mg base 2 "_law_breaking" 2 [] f_law_breaking := .mk0 F26 m26 (ok_law_breaking F26 h_range h_int C_law_partner C_law_rather C_law_want) fun _ _ _ _ _ _ us hl => match us, hl with | [_, _], _ => rfl
  have C_cut_to : Cal P w K mg base 2 "cut_to" 3 [] f_cut_to := .mk0 F27 m27 (ok_cut_to F27 h_range h_tuple C_partner_of C_cut_list) fun _ _ _ _ _ _ us hl => match us, hl with | [_, _, _], _ => rfl
  have C_law_cut : Cal P w K mg base 2 "_law_cut" 3 [] f_law_cut := .mk0 F28 m28 (ok_law_cut F28 h_enumerate h_tuple C_law_partner) fun _ _ _ _ _ _ us hl => match us, hl with | [_, _, _], _ => rfl
  exact ok_law F29 h_range h_repr h_len h_list C_law_source C_law_two_sides C_law_others C_law_asking C_law_partner C_best_told C_law_rows_of C_law_drawn_row C_law_come C_law_rather C_cut_list C_gain_paper C_law_gains C_law_pairings C_law_breaking C_cut_to C_low_pairing C_law_cut
end Wk47
open PySem PySem.W PySem.Calls PyProof.Rows in
theorem Wk47.holds (law : ∀ ns : List Int, ns.length ≤ 63 → ∃ st, Wk47.f_law [.scr ns] [] = .ok (.v (.bool true)) st) : PySem.Challenge.rw_pairsandprices_k47_whole_who_is_asked.Holds := by
  w_on; o_law
  refine HandSHeadRun.head_any (r := OpenLaw.row PySem.Challenge.rw_pairsandprices_k47_whole_who_is_asked) (q := view (OpenLaw.row PySem.Challenge.rw_pairsandprices_k47_whole_who_is_asked).prog [36]) (H := Wk47.hk) (ob := Wk47.ob) (M := 2320) (loose := Wk47.lo) (d := HandSHeadRun.topDef (OpenLaw.row PySem.Challenge.rw_pairsandprices_k47_whole_who_is_asked).prog 36) (kwd := []) Wk47.ob_eq
    (by kernel_rfl) (fun s => by kernel_rfl) Wk47.run (by kernel_rfl) (by kernel_rfl) (by kernel_rfl) (by rfl) (by first | assumption | decide +kernel) (by decide +kernel) ⟨rfl, rfl, rfl, rfl, rfl, by decide +kernel⟩ ?hw ?hc
  case hw => w_witness2
  case hc =>
    refine Fw.walkG (l := PySem.Challenge.rw_pairsandprices_k47_whole_who_is_asked) (n := 63) (k := 6) (x := "script") (ff := Wk47.f_law) rfl (by decide) (by kernel_rfl) Fw.rm0 ?F law
    intro w mg fa h Y G hmg0
    obtain ⟨K, KX, c⟩ := Y
    have hmg : mg ("law" : PySem.Str) = some (.ref fa) := by
      have e : (HandSHeadRun.topDef (OpenLaw.row PySem.Challenge.rw_pairsandprices_k47_whole_who_is_asked).prog 36).name = ("law" : PySem.Str) := by kernel_rfl
      rw [← e]
      exact hmg0
    obtain ⟨fd, hb, hF⟩ := Wk47.facts (P := (PySem.Challenge.rw_pairsandprices_k47_whole_who_is_asked).prog) (w := w) KX G hmg c
    exact ⟨K, fd, KX, hb, hF⟩
namespace Fw.Hl
open PySem PySem.Spec PyProof.Rows L2 Fw
abbrev rowsD (rows : List (List Nat)) : PyData := .tuple (rows.map tNs)
abbrev hallD (rows : List (List Nat)) : PyData := .tuple [nI rows.length, rowsD rows]
abbrev pr (p : Nat × Nat) : PyData := tNs [p.1, p.2]
abbrev pairsD (ps : List (Nat × Nat)) : PyData := .tuple (ps.map pr)
def optD : Option Nat → PyData
  | none => .none
  | some b => nI b
def row (rows : List (List Nat)) (a : Nat) : List Nat := rows.getD a []
section
variable {rows : List (List Nat)} {a b k : Nat} {st : Sto} {ps : List (Nat × Nat)} {c : Option Nat}
theorem hall0 : subsD (.v (hallD rows)) (.v (.int 0)) st = .ok (.v (nI rows.length)) st := sub_tup (k := 0) rfl
theorem hall1 : subsD (.v (hallD rows)) (.v (.int 1)) st = .ok (.v (rowsD rows)) st := sub_tup (k := 1) rfl
theorem hall_row (h : a < rows.length) : subsD (.v (rowsD rows)) (.v (nI a)) st = .ok (.v (tNs (row rows a))) st := by
  refine sub_tup (k := a) ?_
  rw [List.getElem?_map, List.getElem?_eq_getElem h]
  unfold row
  rw [List.getD_eq_getElem?_getD, List.getElem?_eq_getElem h]
  rfl
def want (rows : List (List Nat)) (a b : Nat) : Bool := decide (b ∈ row rows a) && decide (a ∈ row rows b)
theorem want_eq (ha : a < rows.length) (hb : b < rows.length) : LC.f_do_want [.v (hallD rows), .v (nI a), .v (nI b)] st = .ok (.v (.bool (want rows a b))) st := by
  refine Out.Ok.is (fnT_ok ?_)
  unfold LC.S_do_want
  simp only [envE, so_seq, so_if, so_ret, so_retN, so_exp, so_nil, so_nx, so_rt, so_asg, so_asgG, so_par2, so_par3, ok_gNm, ok_gMore, ok_gNone, so_asgT, so_sub, so_for, ok_TB, ok_Tru, ok_notT, ok_andT, ok_orT, ok_andV, ok_orV, ok_notV, ok_iteE, ok_frz, ok_new, ok_mfArg, ok_mfBin, ok_lc, ok_M, ok_M0, ok_moNone, ok_moSome, ok_Sl,
  ok_bin, ok_un, ok_arg, ok_cons, ok_nil, ok_call, ok_var, ok_C, ok_ok, ok_stuck, ok_noX, bOf_bool, low_v, iOf_int, addD_int, subD_int, negD_int, ltD_int, leD_int, gtD_int, geD_int, fInt_int, isD_bool, isNotD_bool, tru_bool, List.map_cons, List.map_nil, List.length_cons, List.length_nil, List.replicate_succ, List.replicate_zero, List.cons_append, List.nil_append,
  List.append_nil, List.getElem?_cons_zero, List.getElem?_cons_succ, List.set_cons_zero, List.set_cons_succ, Option.some.injEq, exists_eq_left', exists_eq_left, true_and, and_true, true_implies, false_implies, implies_true, Bool.false_eq_true, reduceCtorEq, false_and, and_false, D.v.injEq, PyData.int.injEq, D.ref.injEq, p1i_int, p2_two, p3_three, decide_true, Bool.not_true, Bool.not_false, decide_eq_true_eq, decide_eq_false_iff_not, hall1, hall_row ha, hall_row hb, in_tup]
  unfold want
  by_cases h : b ∈ row rows a
  · simp [h]
  · simp [h]
theorem lwant_eq (ha : a < rows.length) (hb : b < rows.length) : LC.f_law_want [.v (hallD rows), .v (nI a), .v (nI b)] st = .ok (.v (.bool (want rows a b))) st := by
  refine Out.Ok.is (fnT_ok ?_)
  unfold LC.S_law_want
  simp only [envE, so_seq, so_if, so_ret, so_retN, so_exp, so_nil, so_nx, so_rt, so_asg, so_asgG, so_par2, so_par3, ok_gNm, ok_gMore, ok_gNone, so_asgT, so_sub, so_for, ok_TB, ok_Tru, ok_notT, ok_andT, ok_orT, ok_andV, ok_orV, ok_notV, ok_iteE, ok_frz, ok_new, ok_mfArg, ok_mfBin, ok_lc, ok_M, ok_M0, ok_moNone, ok_moSome, ok_Sl,
  ok_bin, ok_un, ok_arg, ok_cons, ok_nil, ok_call, ok_var, ok_C, ok_ok, ok_stuck, ok_noX, bOf_bool, low_v, iOf_int, addD_int, subD_int, negD_int, ltD_int, leD_int, gtD_int, geD_int, fInt_int, isD_bool, isNotD_bool, tru_bool, List.map_cons, List.map_nil, List.length_cons, List.length_nil, List.replicate_succ, List.replicate_zero, List.cons_append, List.nil_append,
  List.append_nil, List.getElem?_cons_zero, List.getElem?_cons_succ, List.set_cons_zero, List.set_cons_succ, Option.some.injEq, exists_eq_left', exists_eq_left, true_and, and_true, true_implies, false_implies, implies_true, Bool.false_eq_true, reduceCtorEq, false_and, and_false, D.v.injEq, PyData.int.injEq, D.ref.injEq, p1i_int, p2_two, p3_three, decide_true, Bool.not_true, Bool.not_false, decide_eq_true_eq, decide_eq_false_iff_not, hall1, hall_row ha, hall_row hb, in_tup]
  unfold want
  by_cases h : b ∈ row rows a
  · simp [h]
  · simp [h]
def place (rows : List (List Nat)) (a : Nat) : Option Nat → Nat
  | none => (row rows a).length
  | some b => if b ∈ row rows a then (row rows a).idxOf b else (row rows a).length + 1
theorem is_none {c : Option Nat} : isD (.v (optD c)) (.v .none) st = .ok (.v (.bool c.isNone)) st := by cases c <;> rfl
theorem isNot_none {c : Option Nat} : isNotD (.v (optD c)) (.v .none) st = .ok (.v (.bool (!c.isNone))) st := by cases c <;> rfl
def partner (ps : List (Nat × Nat)) (a : Nat) : Option Nat := (ps.find? fun p => decide (a = p.1 ∨ a = p.2)).map fun p => if a = p.1 then p.2 else p.1
theorem pair_in {p : Nat × Nat} : inU (.v (nI a)) (.v (pr p)) st = .ok (.v (.bool (decide (a = p.1 ∨ a = p.2)))) st := by
  rw [in_tup]
  congr 3
  exact decide_eq_decide.mpr (by simp)
theorem other_at {p : Nat × Nat} (h : a = p.1 ∨ a = p.2) : ((p.1 : Int) + (p.2 : Int) - (a : Int)) = ((if a = p.1 then p.2 else p.1 : Nat) : Int) := by
  split <;> omega
theorem head_partner : ∀ ps : List (Nat × Nat), (ps.filterMap fun p : Nat × Nat => if a = p.1 ∨ a = p.2 then some (if a = p.1 then p.2 else p.1) else none).head? = partner ps a
  | [] => rfl
  | p :: r => by
    have ih := head_partner r
    unfold partner at ih ⊢
    rw [List.filterMap_cons, List.find?_cons]
    by_cases h : a = p.1 ∨ a = p.2
    · rw [if_pos h, decide_eq_true h]
      rfl
    · rw [if_neg h, decide_eq_false h]
      exact ih
theorem pair_sum {p : Nat × Nat} : fSum [.v (pr p)] st = .ok (.v (.int ((p.1 : Int) + (p.2 : Int)))) st := by
  have h := sum_tup (is := [(p.1 : Int), (p.2 : Int)]) (st := st)
  simp only [List.sum_cons, List.sum_nil, Int.add_zero] at h
  exact h
theorem partner_eq : LC.f_partner_of [.v (pairsD ps), .v (nI a)] st = .ok (.v (optD (partner ps a))) st := by
  refine Out.Ok.is (fnT_ok ?_)
  unfold LC.S_partner_of LC.partner_of_E1 LC.partner_of_T1
  simp only [envE, so_seq, so_if, so_ret, so_retN, so_exp, so_nil, so_nx, so_rt, so_asg, so_asgG, so_par2, so_par3, ok_gNm, ok_gMore, ok_gNone, so_asgT, so_sub, so_for, ok_TB, ok_Tru, ok_notT, ok_andT, ok_orT, ok_andV, ok_orV, ok_notV, ok_iteE, ok_frz, ok_new, ok_mfArg, ok_mfBin, ok_lc, ok_M, ok_M0, ok_moNone, ok_moSome, ok_Sl,
  ok_bin, ok_un, ok_arg, ok_cons, ok_nil, ok_call, ok_var, ok_C, ok_ok, ok_stuck, ok_noX, bOf_bool, low_v, iOf_int, addD_int, subD_int, negD_int, ltD_int, leD_int, gtD_int, geD_int, fInt_int, isD_bool, isNotD_bool, tru_bool, List.map_cons, List.map_nil, List.length_cons, List.length_nil, List.replicate_succ, List.replicate_zero, List.cons_append, List.nil_append,
  List.append_nil, List.getElem?_cons_zero, List.getElem?_cons_succ, List.set_cons_zero, List.set_cons_succ, Option.some.injEq, exists_eq_left', exists_eq_left, true_and, and_true, true_implies, false_implies, implies_true, Bool.false_eq_true, reduceCtorEq, false_and, and_false, D.v.injEq, PyData.int.injEq, D.ref.injEq, p1i_int, p2_two, p3_three, decide_true, Bool.not_true, Bool.not_false, decide_eq_true_eq, decide_eq_false_iff_not, ok_seq, seqW_tup, List.map_map]
  rw [lcL_mapA _ (fun p : Nat × Nat => if a = p.1 ∨ a = p.2 then some (nI (if a = p.1 then p.2 else p.1)) else none)]
  rotate_left
  · intro p _
    unfold LC.partner_of_G1 LC.partner_of_M1
    show (gNm 3 (.one (.v (pr p))) _ st).Ok _
    simp only [envE, so_seq, so_if, so_ret, so_retN, so_exp, so_nil, so_nx, so_rt, so_asg, so_asgG, so_par2, so_par3, ok_gNm, ok_gMore, ok_gNone, so_asgT, so_sub, so_for, ok_TB, ok_Tru, ok_notT, ok_andT, ok_orT, ok_andV, ok_orV, ok_notV, ok_iteE, ok_frz, ok_new, ok_mfArg, ok_mfBin, ok_lc, ok_M, ok_M0, ok_moNone, ok_moSome, ok_Sl,
  ok_bin, ok_un, ok_arg, ok_cons, ok_nil, ok_call, ok_var, ok_C, ok_ok, ok_stuck, ok_noX, bOf_bool, low_v, iOf_int, addD_int, subD_int, negD_int, ltD_int, leD_int, gtD_int, geD_int, fInt_int, isD_bool, isNotD_bool, tru_bool, List.map_cons, List.map_nil, List.length_cons, List.length_nil, List.replicate_succ, List.replicate_zero, List.cons_append, List.nil_append,
  List.append_nil, List.getElem?_cons_zero, List.getElem?_cons_succ, List.set_cons_zero, List.set_cons_succ, Option.some.injEq, exists_eq_left', exists_eq_left, true_and, and_true, true_implies, false_implies, implies_true, Bool.false_eq_true, reduceCtorEq, false_and, and_false, D.v.injEq, PyData.int.injEq, D.ref.injEq, p1i_int, p2_two, p3_three, decide_true, Bool.not_true, Bool.not_false, decide_eq_true_eq, decide_eq_false_iff_not, wipeE, pair_in, pair_sum]
    refine ⟨fun h => ?_, fun h => by rw [if_neg h]⟩
    rw [other_at h, if_pos h]
  rw [ok_ok]
  unfold LC.S_partner_of_2
  simp only [envE, so_seq, so_if, so_ret, so_retN, so_exp, so_nil, so_nx, so_rt, so_asg, so_asgG, so_par2, so_par3, ok_gNm, ok_gMore, ok_gNone, so_asgT, so_sub, so_for, ok_TB, ok_Tru, ok_notT, ok_andT, ok_orT, ok_andV, ok_orV, ok_notV, ok_iteE, ok_frz, ok_new, ok_mfArg, ok_mfBin, ok_lc, ok_M, ok_M0, ok_moNone, ok_moSome, ok_Sl,
  ok_bin, ok_un, ok_arg, ok_cons, ok_nil, ok_call, ok_var, ok_C, ok_ok, ok_stuck, ok_noX, bOf_bool, low_v, iOf_int, addD_int, subD_int, negD_int, ltD_int, leD_int, gtD_int, geD_int, fInt_int, isD_bool, isNotD_bool, tru_bool, List.map_cons, List.map_nil, List.length_cons, List.length_nil, List.replicate_succ, List.replicate_zero, List.cons_append, List.nil_append,
  List.append_nil, List.getElem?_cons_zero, List.getElem?_cons_succ, List.set_cons_zero, List.set_cons_succ, Option.some.injEq, exists_eq_left', exists_eq_left, true_and, and_true, true_implies, false_implies, implies_true, Bool.false_eq_true, reduceCtorEq, false_and, and_false, D.v.injEq, PyData.int.injEq, D.ref.injEq, p1i_int, p2_two, p3_three, decide_true, Bool.not_true, Bool.not_false, decide_eq_true_eq, decide_eq_false_iff_not, disp0]
  have e : ps.filterMap (fun p : Nat × Nat => if a = p.1 ∨ a = p.2 then some (nI (if a = p.1 then p.2 else p.1)) else none) = (ps.filterMap fun p : Nat × Nat => if a = p.1 ∨ a = p.2 then some (if a = p.1 then p.2 else p.1) else none).map nI := by
    rw [List.map_filterMap]
    congr 1
    funext p
    split <;> rfl
  have h2 := head_partner (a := a) ps
  rw [e]
  generalize (ps.filterMap fun p : Nat × Nat => if a = p.1 ∨ a = p.2 then some (if a = p.1 then p.2 else p.1) else none) = l at h2 ⊢
  rw [ne_nilL (shaped_nats l)]
  simp only [envE, so_seq, so_if, so_ret, so_retN, so_exp, so_nil, so_nx, so_rt, so_asg, so_asgG, so_par2, so_par3, ok_gNm, ok_gMore, ok_gNone, so_asgT, so_sub, so_for, ok_TB, ok_Tru, ok_notT, ok_andT, ok_orT, ok_andV, ok_orV, ok_notV, ok_iteE, ok_frz, ok_new, ok_mfArg, ok_mfBin, ok_lc, ok_M, ok_M0, ok_moNone, ok_moSome, ok_Sl,
  ok_bin, ok_un, ok_arg, ok_cons, ok_nil, ok_call, ok_var, ok_C, ok_ok, ok_stuck, ok_noX, bOf_bool, low_v, iOf_int, addD_int, subD_int, negD_int, ltD_int, leD_int, gtD_int, geD_int, fInt_int, isD_bool, isNotD_bool, tru_bool, List.map_cons, List.map_nil, List.length_cons, List.length_nil, List.replicate_succ, List.replicate_zero, List.cons_append, List.nil_append,
  List.append_nil, List.getElem?_cons_zero, List.getElem?_cons_succ, List.set_cons_zero, List.set_cons_succ, Option.some.injEq, exists_eq_left', exists_eq_left, true_and, and_true, true_implies, false_implies, implies_true, Bool.false_eq_true, reduceCtorEq, false_and, and_false, D.v.injEq, PyData.int.injEq, D.ref.injEq, p1i_int, p2_two, p3_three, decide_true, Bool.not_true, Bool.not_false, decide_eq_true_eq, decide_eq_false_iff_not]
  rw [← h2]
  cases l with
  | nil => exact ⟨(fun z => nomatch z), fun _ => ⟨rfl, List.take_length⟩⟩
  | cons x r =>
    refine ⟨fun _ => ?_, (fun z => nomatch z)⟩
    rw [show subsD (.v (lNs (x :: r))) (.v (.int 0)) st = .ok (.v (nI x)) st from sub_list (k := 0) rfl, ok_ok]
    exact ⟨rfl, rfl, List.take_length⟩
def inO (l : List Nat) : Option Nat → Bool
  | none => false
  | some c => decide (c ∈ l)
theorem notIn_opt {l : List Nat} {c : Option Nat} : notInU (.v (optD c)) (.v (tNs l)) st = .ok (.v (.bool (!inO l c))) st := by
  cases c with
  | some c => exact notIn_tup
  | none =>
    show (match inS st (.v .none) (.v (tNs l)) with
      | some k => Out.ok (D.v (.bool (!k))) st
      | none => .stuck) = _
    have e : inS st (.v .none) (.v (tNs l)) = some false := by
      show (if flatP .none && (l.map nI).all flatP then some ((l.map nI).any fun y => PyData.eqv y .none) else _) = _
      rw [flat_nats]
      have z : ((l.map nI).any fun y => PyData.eqv y .none) = false := by
        rw [List.any_map]
        exact List.any_eq_false.mpr fun _ _ => by simp [PyData.eqv]
      rw [z]
      rfl
    rw [e]
    rfl
def ratherO (l : List Nat) (b : Nat) : Option Nat → Bool
  | none => true
  | some c => !decide (c ∈ l) || decide (l.idxOf b < l.idxOf c)
def rather (rows : List (List Nat)) (a b : Nat) (c : Option Nat) : Bool := decide (b ∈ row rows a) && ratherO (row rows a) b c
theorem rather_eq (ha : a < rows.length) : LC.f_has_rather [.v (hallD rows), .v (nI a), .v (nI b), .v (optD c)] st = .ok (.v (.bool (rather rows a b c))) st := by
  refine Out.Ok.is (fnT_ok ?_)
  unfold LC.S_has_rather LC.S_has_rather_2 LC.S_has_rather_3
  simp only [envE, so_seq, so_if, so_ret, so_retN, so_exp, so_nil, so_nx, so_rt, so_asg, so_asgG, so_par2, so_par3, ok_gNm, ok_gMore, ok_gNone, so_asgT, so_sub, so_for, ok_TB, ok_Tru, ok_notT, ok_andT, ok_orT, ok_andV, ok_orV, ok_notV, ok_iteE, ok_frz, ok_new, ok_mfArg, ok_mfBin, ok_lc, ok_M, ok_M0, ok_moNone, ok_moSome, ok_Sl,
  ok_bin, ok_un, ok_arg, ok_cons, ok_nil, ok_call, ok_var, ok_C, ok_ok, ok_stuck, ok_noX, bOf_bool, low_v, iOf_int, addD_int, subD_int, negD_int, ltD_int, leD_int, gtD_int, geD_int, fInt_int, isD_bool, isNotD_bool, tru_bool, List.map_cons, List.map_nil, List.length_cons, List.length_nil, List.replicate_succ, List.replicate_zero, List.cons_append, List.nil_append,
  List.append_nil, List.getElem?_cons_zero, List.getElem?_cons_succ, List.set_cons_zero, List.set_cons_succ, Option.some.injEq, exists_eq_left', exists_eq_left, true_and, and_true, true_implies, false_implies, implies_true, Bool.false_eq_true, reduceCtorEq, false_and, and_false, D.v.injEq, PyData.int.injEq, D.ref.injEq, p1i_int, p2_two, p3_three, decide_true, Bool.not_true, Bool.not_false, decide_eq_true_eq, decide_eq_false_iff_not, hall1, hall_row ha, notIn_tup, notIn_opt, isT_tup, ok_Index, Bool.or_true]
  have e1 : isD (.v (nI b)) (.v .none) st = .ok (.v (.bool false)) st := rfl
  simp only [e1, envE, so_seq, so_if, so_ret, so_retN, so_exp, so_nil, so_nx, so_rt, so_asg, so_asgG, so_par2, so_par3, ok_gNm, ok_gMore, ok_gNone, so_asgT, so_sub, so_for, ok_TB, ok_Tru, ok_notT, ok_andT, ok_orT, ok_andV, ok_orV, ok_notV, ok_iteE, ok_frz, ok_new, ok_mfArg, ok_mfBin, ok_lc, ok_M, ok_M0, ok_moNone, ok_moSome, ok_Sl,
  ok_bin, ok_un, ok_arg, ok_cons, ok_nil, ok_call, ok_var, ok_C, ok_ok, ok_stuck, ok_noX, bOf_bool, low_v, iOf_int, addD_int, subD_int, negD_int, ltD_int, leD_int, gtD_int, geD_int, fInt_int, isD_bool, isNotD_bool, tru_bool, List.map_cons, List.map_nil, List.length_cons, List.length_nil, List.replicate_succ, List.replicate_zero, List.cons_append, List.nil_append,
  List.append_nil, List.getElem?_cons_zero, List.getElem?_cons_succ, List.set_cons_zero, List.set_cons_succ, Option.some.injEq, exists_eq_left', exists_eq_left, true_and, and_true, true_implies, false_implies, implies_true, Bool.false_eq_true, reduceCtorEq, false_and, and_false, D.v.injEq, PyData.int.injEq, D.ref.injEq, p1i_int, p2_two, p3_three, decide_true, Bool.not_true, Bool.not_false, decide_eq_true_eq, decide_eq_false_iff_not]
  unfold rather
  by_cases hb : b ∈ row rows a
  · rw [decide_eq_true hb]
    refine ⟨(fun z => nomatch z), fun _ => ?_⟩
    cases c with
    | none =>
      refine ⟨fun _ => ⟨rfl, List.take_length⟩, (fun z => nomatch z)⟩
    | some c =>
      by_cases hc : c ∈ row rows a
      · have e2 : inO (row rows a) (some c) = true := decide_eq_true hc
        have e3 : ratherO (row rows a) b (some c) = decide ((row rows a).idxOf b < (row rows a).idxOf c) := by
          show (!decide (c ∈ row rows a) || decide ((row rows a).idxOf b < (row rows a).idxOf c)) = _
          rw [decide_eq_true hc]
          rfl
        rw [e2, e3]
        refine ⟨(fun z => nomatch z), fun _ => ?_⟩
        rw [index_tN hb, ok_ok, show optD (some c) = nI c from rfl, index_tN hc, ok_ok, ltD_int, ok_ok]
        refine ⟨rfl, ?_, List.take_length⟩
        congr 2
        simp
      · have e2 : inO (row rows a) (some c) = false := decide_eq_false hc
        have e3 : ratherO (row rows a) b (some c) = true := by
          show (!decide (c ∈ row rows a) || decide ((row rows a).idxOf b < (row rows a).idxOf c)) = _
          rw [decide_eq_false hc]
          rfl
        rw [e2, e3]
        exact ⟨fun _ => ⟨rfl, List.take_length⟩, (fun z => nomatch z)⟩
  · rw [decide_eq_false hb]
    exact ⟨fun _ => ⟨rfl, List.take_length⟩, (fun z => nomatch z)⟩
def brk (rows : List (List Nat)) (ps : List (Nat × Nat)) (a b : Nat) : Bool := rather rows a b (partner ps a) && rather rows b a (partner ps b)
def brkOf (rows : List (List Nat)) (ps : List (Nat × Nat)) (a : Nat) : List (Nat × Nat) := (((ups (a + 1) rows.length).filter (want rows a)).filter (brk rows ps a)).map fun b => (a, b)
def breaking (rows : List (List Nat)) (ps : List (Nat × Nat)) : List (Nat × Nat) := (List.range rows.length).flatMap (brkOf rows ps)
theorem fm_filter {α β : Type} {p : α → Bool} {f : α → β} : ∀ l : List α, (l.filterMap fun b => if p b = true then some (f b) else none) = (l.filter p).map f
  | [] => rfl
  | x :: r => by
    rw [List.filterMap_cons, List.filter_cons]
    by_cases h : p x = true
    · rw [if_pos h, if_pos h, List.map_cons, ← fm_filter r]
    · rw [if_neg h, if_neg h, ← fm_filter r]
theorem brkOf_len {rows : List (List Nat)} {ps : List (Nat × Nat)} {a : Nat} : (brkOf rows ps a).length ≤ rows.length := by
  unfold brkOf
  rw [List.length_map]
  refine Nat.le_trans (List.length_filter_le _ _) (Nat.le_trans (List.length_filter_le _ _) ?_)
  unfold ups
  rw [List.length_map, List.length_range]
  omega
theorem brk_len {rows : List (List Nat)} {ps : List (Nat × Nat)} : ∀ i, ((List.range i).flatMap (brkOf rows ps)).length ≤ i * rows.length
  | 0 => by simp
  | i + 1 => by
    rw [List.range_succ, List.flatMap_append, List.length_append, Nat.succ_mul]
    have h1 := brk_len (rows := rows) (ps := ps) i
    have h2 := brkOf_len (rows := rows) (ps := ps) (a := i)
    simp only [List.flatMap_cons, List.flatMap_nil, List.append_nil]
    omega
theorem place_lt (hb : b ∈ row rows a) : decide ((place rows a (some b) : Int) < (place rows a c : Int)) = rather rows a b c := by
  have h1 := List.idxOf_lt_length_of_mem hb
  have e1 : place rows a (some b) = (row rows a).idxOf b := if_pos hb
  unfold rather
  rw [decide_eq_true hb, e1, Bool.true_and]
  cases c with
  | none =>
    have e2 : place rows a none = (row rows a).length := rfl
    rw [e2]
    exact decide_eq_true (by omega)
  | some c =>
    by_cases hc : c ∈ row rows a
    · have e2 : place rows a (some c) = (row rows a).idxOf c := if_pos hc
      rw [e2]
      show _ = (!decide (c ∈ row rows a) || decide ((row rows a).idxOf b < (row rows a).idxOf c))
      rw [decide_eq_true hc]
      simp
    · have e2 : place rows a (some c) = (row rows a).length + 1 := if_neg hc
      rw [e2]
      show _ = (!decide (c ∈ row rows a) || decide ((row rows a).idxOf b < (row rows a).idxOf c))
      rw [decide_eq_false hc]
      exact decide_eq_true (by omega)
theorem want_row (h : want rows a b = true) : b ∈ row rows a ∧ a ∈ row rows b := by
  unfold want at h
  simpa using h
theorem last_at {o : O} : (st ++ [o])[st.length]? = some o := by
  rw [List.getElem?_append_right (Nat.le_refl _), Nat.sub_self]
  rfl
theorem last_set {o u : O} : (st ++ [o]).set st.length u = st ++ [u] := by
  rw [List.set_append_right _ _ (Nat.le_refl _), Nat.sub_self]
  rfl
end
def r2 (p : Nat × Nat) : List Int := [(p.1 : Int), (p.2 : Int)]
def insP (a : Nat × Nat) : List (Nat × Nat) → List (Nat × Nat)
  | [] => [a]
  | b :: r => if lexLe (r2 a) (r2 b) then a :: b :: r else b :: insP a r
def sortP : List (Nat × Nat) → List (Nat × Nat)
  | [] => []
  | a :: r => insP a (sortP r)
theorem insP_map (a : Nat × Nat) : ∀ l : List (Nat × Nat), insR (r2 a) (l.map r2) = (insP a l).map r2
  | [] => rfl
  | b :: r => by
    rw [List.map_cons]
    unfold insR insP
    split
    · rfl
    · rw [List.map_cons, insP_map a r]
theorem sortP_map : ∀ l : List (Nat × Nat), sortR (l.map r2) = (sortP l).map r2
  | [] => rfl
  | a :: r => by
    rw [List.map_cons]
    unfold sortR sortP
    rw [sortP_map r, insP_map]
theorem rowsOf_pairs : ∀ l : List (Nat × Nat), rowsOf (l.map pr) = some (l.map r2)
  | [] => rfl
  | p :: r => by
    rw [List.map_cons, List.map_cons]
    show (match intsOf [nI p.1, nI p.2], rowsOf (r.map pr) with
      | some ns, some rs => some (ns :: rs)
      | _, _ => none) = _
    rw [rowsOf_pairs r]
    rfl
theorem sort_pairs {l : List (Nat × Nat)} {st : Sto} (hl : l.length < 64) (hb : ∀ p ∈ l, p.1 < 1000000 ∧ p.2 < 1000000) : gSort [.v (.list (l.map pr))] st = .ok ((sortP l).map pr) st := by
  cases l with
  | nil => rfl
  | cons p r =>
    show (match intsOf ((p :: r).map pr) with
      | some ns => Out.ok ((sortI ns).map PyData.int) st
      | none => match rowsOf ((p :: r).map pr) with
        | some rs => if ((p :: r).map pr).length < 64 ∧ 1 ≤ (rs.headD []).length ∧ (rs.all (rowB (rs.headD []).length)) = true then Out.ok ((sortR rs).map fun r : List Int => PyData.tuple (r.map PyData.int)) st else .stuck
        | none => .stuck) = _
    have e1 : intsOf ((p :: r).map pr) = none := rfl
    rw [e1, rowsOf_pairs]
    have e2 : (((p :: r).map r2).headD []).length = 2 := rfl
    show (if ((p :: r).map pr).length < 64 ∧ 1 ≤ (((p :: r).map r2).headD []).length ∧ (((p :: r).map r2).all (rowB (((p :: r).map r2).headD []).length)) = true then Out.ok ((sortR ((p :: r).map r2)).map fun r : List Int => PyData.tuple (r.map PyData.int)) st else .stuck) = _
    rw [e2, if_pos, sortP_map, List.map_map]
    · rfl
    refine ⟨by rw [List.length_map]; exact hl, by decide, ?_⟩
    rw [List.all_map]
    have key : ∀ q ∈ p :: r, rowB 2 (r2 q) = true := fun q hq => by
      obtain ⟨b1, b2⟩ := hb q hq
      unfold rowB
      rw [Bool.and_eq_true]
      refine ⟨rfl, List.all_eq_true.mpr fun m hm => decide_eq_true ?_⟩
      simp only [r2, List.mem_cons, List.not_mem_nil, or_false] at hm
      rcases hm with rfl | rfl
      · have h : (q.1 : Int) < 1000000 := by omega
        exact ⟨by omega, h⟩
      · have h : (q.2 : Int) < 1000000 := by omega
        exact ⟨by omega, h⟩
    refine List.all_eq_true.mpr fun q hq => ?_
    rw [Function.comp_apply]
    exact key q hq
section
variable {rows : List (List Nat)} {ps : List (Nat × Nat)} {p : Nat × Nat} {st : Sto}
end
end Fw.Hl
namespace Fw.Hl
open PySem PySem.Spec PyProof.Rows L2 Fw
structure Hall (rows : List (List Nat)) : Prop where
  pos : 1 ≤ rows.length
  nd : ∀ a, (row rows a).Nodup
  mem : ∀ {a b}, b ∈ row rows a → b < rows.length ∧ b ≠ a
structure Lot (rows : List (List Nat)) (lot : List Nat) (sided : Bool) : Prop where
  nd : lot.Nodup
  lt : ∀ x ∈ lot, x < rows.length
  so : lot.Pairwise (· ≤ ·)
  two : sided = true → ∀ {a b}, b ∈ row rows a → (b ∈ lot ↔ ¬ a ∈ lot)
theorem insP_perm (a : Nat × Nat) : ∀ l, (insP a l).Perm (a :: l)
  | [] => .refl _
  | b :: r => by
    unfold insP
    split
    · exact .refl _
    · exact ((insP_perm a r).cons b).trans (.swap a b r)
theorem sortP_perm : ∀ l, (sortP l).Perm l
  | [] => .refl _
  | a :: r => (insP_perm a (sortP r)).trans ((sortP_perm r).cons a)
def far (p q : Nat × Nat) : Prop := p.1 ≠ q.1 ∧ p.1 ≠ q.2 ∧ p.2 ≠ q.1 ∧ p.2 ≠ q.2
theorem far_symm {p q : Nat × Nat} (h : far p q) : far q p := ⟨h.1.symm, h.2.2.1.symm, h.2.1.symm, h.2.2.2.symm⟩
structure Prs (n : Nat) (ps : List (Nat × Nat)) : Prop where
  lt : ∀ p ∈ ps, p.1 < p.2 ∧ p.2 < n
  far : ps.Pairwise far
structure Prg (rows : List (List Nat)) (ps : List (Nat × Nat)) : Prop extends Prs rows.length ps where
  want : ∀ p ∈ ps, want rows p.1 p.2 = true
theorem Prs.perm {n : Nat} {ps qs : List (Nat × Nat)} (h : Prs n ps) (p : qs.Perm ps) : Prs n qs :=
  ⟨fun q hq => h.lt q (p.mem_iff.mp hq), (p.pairwise_iff far_symm).mpr h.far⟩
theorem sub_len {α : Type} [DecidableEq α] : ∀ {l m : List α}, l.Nodup → (∀ x ∈ l, x ∈ m) → l.length ≤ m.length
  | [], _, _, _ => Nat.zero_le _
  | a :: r, m, nd, h => by
    obtain ⟨h1, h2⟩ := List.nodup_cons.mp nd
    have ha := h a List.mem_cons_self
    have ih := sub_len (m := m.erase a) h2 fun x hx => (List.mem_erase_of_ne fun (e : x = a) => h1 (e ▸ hx)).mpr (h x (List.mem_cons_of_mem _ hx))
    have hp := List.length_pos_of_mem ha
    rw [List.length_erase_of_mem ha] at ih
    rw [List.length_cons]
    omega
theorem Prs.len {n : Nat} {ps : List (Nat × Nat)} (h : Prs n ps) : ps.length ≤ n := by
  have h1 : (ps.map (·.1)).Nodup := List.pairwise_map.mpr (h.far.imp fun h => h.1)
  have h2 := sub_len (m := List.range n) h1 fun x hx => by
    obtain ⟨p, hp, rfl⟩ := List.mem_map.mp hx
    have := h.lt p hp
    exact List.mem_range.mpr (by omega)
  rw [List.length_map, List.length_range] at h2
  exact h2
def wantOf (rows : List (List Nat)) (a : Nat) : List (Nat × Nat) := ((ups (a + 1) rows.length).filter (want rows a)).map fun b => (a, b)
def wanting (rows : List (List Nat)) : List (Nat × Nat) := (List.range rows.length).flatMap (wantOf rows)
theorem shaped_prs (ps : List (Nat × Nat)) : SeqAt.shaped (.list (ps.map pr)) = true ∧ SeqAt.shaped (pairsD ps) = true := by
  have key : ∀ l : List (Nat × Nat), PyData.canLayAll0 (l.map pr) = true ∧ PyData.depthAll (l.map pr) ≤ 1 := fun l => by
    induction l with
    | nil => exact ⟨rfl, by simp [PyData.depthAll]⟩
    | cons a r ih =>
      rw [List.map_cons, PyData.canLayAll0, PyData.depthAll, ih.1]
      refine ⟨by simp [PyData.canLay0, PyData.canLayAll0], Nat.max_le.mpr ⟨by simp [PyData.depth, PyData.depthAll], ih.2⟩⟩
  obtain ⟨k1, k2⟩ := key ps
  unfold SeqAt.shaped
  rw [PyData.canLay0, PyData.depth, PyData.canLay0, PyData.depth, k1]
  have h : PyData.depthAll (ps.map pr) + 1 ≤ 2 := by omega
  rw [Bool.true_and]
  exact ⟨decide_eq_true (Nat.le_trans h (by decide)), decide_eq_true (Nat.le_trans h (by decide))⟩
end Fw.Hl
namespace Fw.Hl
open Fw
section
variable {rows : List (List Nat)} {ps : List (Nat × Nat)} {a b c p q x n : Nat} {L : List Nat} {side : Nat → Bool}
def Br (rows : List (List Nat)) (ps : List (Nat × Nat)) (a b : Nat) : Prop := want rows a b = true ∧ rather rows a b (partner ps a) = true ∧ rather rows b a (partner ps b) = true
theorem want_symm : want rows a b = want rows b a := by
  unfold want
  rw [Bool.and_comm]
theorem Br.symm (h : Br rows ps a b) : Br rows ps b a := ⟨want_symm ▸ h.1, h.2.2, h.2.1⟩
theorem Br.row (h : Br rows ps a b) : b ∈ row rows a ∧ a ∈ row rows b := want_row h.1
theorem rather_iff {o : Option Nat} (hb : b ∈ row rows a) : rather rows a b o = true ↔ place rows a (some b) < place rows a o := by
  rw [← place_lt hb, decide_eq_true_eq]
  omega
theorem mem_brk : (a, b) ∈ breaking rows ps ↔ a < b ∧ b < rows.length ∧ Br rows ps a b := by
  unfold breaking
  rw [List.mem_flatMap]
  constructor
  · rintro ⟨a', ha', h⟩
    unfold brkOf at h
    obtain ⟨b', hb', e⟩ := List.mem_map.mp h
    cases e
    obtain ⟨h1, h2⟩ := List.mem_filter.mp hb'
    obtain ⟨h3, h4⟩ := List.mem_filter.mp h1
    have h5 := mem_ups.mp h3
    unfold brk at h2
    rw [Bool.and_eq_true] at h2
    exact ⟨by omega, h5.2, h4, h2.1, h2.2⟩
  · rintro ⟨h1, h2, h3, h4, h5⟩
    refine ⟨a, List.mem_range.mpr (by omega), List.mem_map.mpr ⟨b, List.mem_filter.mpr ⟨List.mem_filter.mpr ⟨mem_ups.mpr ⟨by omega, h2⟩, h3⟩, ?_⟩, rfl⟩⟩
    unfold brk
    rw [h4, h5]
    rfl
theorem far_of {l : List (Nat × Nat)} (h : l.Pairwise far) : ∀ {p q}, p ∈ l → q ∈ l → p = q ∨ far p q := by
  induction l with
  | nil => exact fun hp => nomatch hp
  | cons a r ih =>
    intro p q hp hq
    obtain ⟨h1, h2⟩ := List.pairwise_cons.mp h
    rcases List.mem_cons.mp hp with e1 | hp
    · rcases List.mem_cons.mp hq with e2 | hq
      · exact .inl (e1.trans e2.symm)
      · exact .inr (e1 ▸ h1 q hq)
    · rcases List.mem_cons.mp hq with e2 | hq
      · exact .inr (e2 ▸ far_symm (h1 p hp))
      · exact ih h2 hp hq
theorem partner_iff (h : Prs n ps) : partner ps a = some c ↔ (a, c) ∈ ps ∨ (c, a) ∈ ps := by
  unfold partner
  rw [Option.map_eq_some_iff]
  constructor
  · rintro ⟨p, hp, e⟩
    have hm := List.mem_of_find?_eq_some hp
    have ha : a = p.1 ∨ a = p.2 := by simpa using List.find?_some hp
    by_cases h1 : a = p.1
    · rw [if_pos h1] at e
      left
      rw [h1, ← e]
      exact hm
    · rw [if_neg h1] at e
      right
      rw [← e, ha.resolve_left h1]
      exact hm
  · intro hm
    have hex : ∃ q ∈ ps, decide (a = q.1 ∨ a = q.2) = true ∧ (q = (a, c) ∨ q = (c, a)) := by
      rcases hm with hm | hm
      · exact ⟨_, hm, by simp, .inl rfl⟩
      · exact ⟨_, hm, by simp, .inr rfl⟩
    obtain ⟨q, hq, hqa, hqe⟩ := hex
    cases hf : ps.find? (fun p => decide (a = p.1 ∨ a = p.2)) with
    | none => exact absurd hqa (List.find?_eq_none.mp hf q hq)
    | some r =>
      have hr := List.mem_of_find?_eq_some hf
      have hra : a = r.1 ∨ a = r.2 := by simpa using List.find?_some hf
      have hqa : a = q.1 ∨ a = q.2 := by simpa using hqa
      have hrq : r = q := by
        rcases far_of h.far hr hq with e | e
        · exact e
        · obtain ⟨e1, e2, e3, e4⟩ := e
          rcases hra with u | u <;> rcases hqa with w | w
          · exact absurd (u.symm.trans w) e1
          · exact absurd (u.symm.trans w) e2
          · exact absurd (u.symm.trans w) e3
          · exact absurd (u.symm.trans w) e4
      refine ⟨r, rfl, ?_⟩
      have hlt := h.lt q hq
      rw [hrq]
      rcases hqe with e | e
      · rw [e, if_pos rfl]
      · rw [e] at hlt ⊢
        rw [if_neg (by show ¬ a = c; have := hlt.1; have : c < a := this; omega)]
theorem partner_symm (h : Prs n ps) (e : partner ps a = some c) : partner ps c = some a := (partner_iff h).mpr ((partner_iff h).mp e).symm
theorem partner_want (h : Prg rows ps) (e : partner ps a = some c) : want rows a c = true := by
  rcases (partner_iff h.toPrs).mp e with m | m
  · exact h.want _ m
  · rw [want_symm]; exact h.want _ m
theorem row_len (H : Hall rows) : (row rows a).length ≤ rows.length := by
  have := sub_len (m := List.range rows.length) (H.nd a) fun x hx => List.mem_range.mpr (H.mem hx).1
  rw [List.length_range] at this
  exact this
end
end Fw.Hl
namespace Fw.Da
open Fw Fw.Hl
section
variable {rows : List (List Nat)} {μ : List (Nat × Nat)} {S : List Nat} {a b m w x y : Nat} {sd : Nat → Bool}
def wr (rows : List (List Nat)) (a : Nat) : List Nat := (row rows a).filter (want rows a)
theorem mem_wr : b ∈ wr rows a ↔ want rows a b = true := by
  unfold wr
  rw [List.mem_filter]
  exact ⟨fun h => h.2, fun h => ⟨(want_row h).1, h⟩⟩
theorem place_row (h : b ∈ row rows a) : place rows a (some b) = (row rows a).idxOf b := if_pos h
theorem up_idx : ∀ {l : List Nat}, l.Nodup → l.Pairwise fun x y => l.idxOf x < l.idxOf y
  | [], _ => .nil
  | c :: r, nd => by
    obtain ⟨h1, h2⟩ := List.nodup_cons.mp nd
    have ne : ∀ {z}, z ∈ r → (c :: r).idxOf z = r.idxOf z + 1 := fun {z} hz => by
      have hcz : c ≠ z := fun e => h1 (e ▸ hz)
      rw [List.idxOf_cons, show (c == z) = false by simpa using hcz]
      rfl
    refine List.pairwise_cons.mpr ⟨fun z hz => ?_, ?_⟩
    · rw [List.idxOf_cons_self, ne hz]
      exact Nat.succ_pos _
    · refine (up_idx h2).imp_of_mem fun {u v} hu hv huv => ?_
      rw [ne hu, ne hv]
      omega
theorem wr_up (H : Hall rows) : (wr rows a).Pairwise fun x y => place rows a (some x) < place rows a (some y) := by
  have h := (up_idx (H.nd a)).filter (want rows a)
  refine h.imp_of_mem fun {u v} hu hv huv => ?_
  rw [place_row (List.mem_filter.mp hu).1, place_row (List.mem_filter.mp hv).1]
  exact huv
theorem wr_at (H : Hall rows) {i j : Nat} {u v : Nat} (hi : (wr rows a)[i]? = some u) (hj : (wr rows a)[j]? = some v) (h : i < j) : place rows a (some u) < place rows a (some v) := by
  obtain ⟨h1, rfl⟩ := List.getElem?_eq_some_iff.mp hi
  obtain ⟨h2, rfl⟩ := List.getElem?_eq_some_iff.mp hj
  exact List.pairwise_iff_getElem.mp (wr_up H) i j h1 h2 h
theorem wr_idx (h : want rows a b = true) : ∃ i : Nat, (wr rows a)[i]? = some b := List.getElem?_of_mem (mem_wr.mpr h)
structure Two (rows : List (List Nat)) (sd : Nat → Bool) (S : List Nat) : Prop where
  hall : Hall rows
  two : ∀ {a b}, b ∈ row rows a → sd b = !sd a
  nd : S.Nodup
  mem : ∀ {a}, a ∈ S ↔ a < rows.length ∧ sd a = true
abbrev Held := List (Nat × Nat)
def Mild (rows : List (List Nat)) (S : List Nat) (μ : List (Nat × Nat)) : Prop := ∀ {h w}, h ∈ S → Br rows μ h w → partner μ w = none
structure St (rows : List (List Nat)) (S : List Nat) (ask : Nat → Nat) (hd : Held) (free : List Nat) : Prop where
  keys : (hd.map (·.1)).Nodup
  fnd : free.Nodup
  fin : ∀ {m}, m ∈ free → m ∈ S
  held : ∀ {w m}, (w, m) ∈ hd → m ∈ S ∧ ¬ m ∈ free ∧ 0 < ask m ∧ (wr rows m)[ask m - 1]? = some w
  done : ∀ {m}, m ∈ S → ¬ m ∈ free → (∃ w, (w, m) ∈ hd) ∨ (wr rows m).length ≤ ask m
  le : ∀ {m}, ask m ≤ (wr rows m).length
  asked : ∀ {m}, m ∈ S → ∀ {j w}, j < ask m → (wr rows m)[j]? = some w → ∃ m', (w, m') ∈ hd ∧ (m' = m ∨ place rows w (some m') < place rows w (some m))
  opt : ∀ {μ}, Prg rows μ → Mild rows S μ → ∀ {m}, m ∈ S → ∀ {j w}, j < ask m → (wr rows m)[j]? = some w → ¬ (w, m) ∈ hd → partner μ m ≠ some w
theorem key_uniq {hd : Held} (h : (hd.map (·.1)).Nodup) {w m m' : Nat} (h1 : (w, m) ∈ hd) (h2 : (w, m') ∈ hd) : m = m' := by
  induction hd with
  | nil => cases h1
  | cons p r ih =>
    rw [List.map_cons] at h
    obtain ⟨h3, h4⟩ := List.nodup_cons.mp h
    rcases List.mem_cons.mp h1 with e1 | h1 <;> rcases List.mem_cons.mp h2 with e2 | h2
    · have := e1.trans e2.symm; exact congrArg (·.2) this
    · exact absurd (List.mem_map_of_mem (f := (·.1)) h2) (by rw [← e1] at h3; exact h3)
    · exact absurd (List.mem_map_of_mem (f := (·.1)) h1) (by rw [← e2] at h3; exact h3)
    · exact ih h4 h1 h2
theorem start (nd : S.Nodup) : St rows S (fun _ => 0) [] S :=
  ⟨.nil, nd, id, (fun h => nomatch h), fun h1 h2 => absurd h1 h2, Nat.zero_le _, (by intro m _ j w h; exact absurd h (Nat.not_lt_zero _)), (by intro μ _ _ m _ j w h; exact absurd h (Nat.not_lt_zero _))⟩
def inc (ask : Nat → Nat) (a : Nat) : Nat → Nat := fun x => if x = a then ask x + 1 else ask x
theorem inc_same {ask : Nat → Nat} : inc ask a a = ask a + 1 := if_pos rfl
theorem inc_ne {ask : Nat → Nat} (h : x ≠ a) : inc ask a x = ask x := if_neg h
variable {ask : Nat → Nat} {hd : Held} {free : List Nat}
theorem let_go (T : Two rows sd S) {h r : Nat} (hs : h ∈ S) (k : Nat) (hk : (wr rows h)[k]? = some w) (before : ∀ {μ}, Prg rows μ → Mild rows S μ → ∀ {j v}, j < k → (wr rows h)[j]? = some v → partner μ h ≠ some v)
    (better : place rows w (some h) < place rows w (some r)) (pμ : Prg rows μ) (bμ : Mild rows S μ) : partner μ r ≠ some w := fun e => by
  have e2 := partner_symm pμ.toPrs e
  have hwant : want rows h w = true := mem_wr.mp (List.mem_of_getElem? hk)
  have hrow := want_row hwant
  have hrw := want_row (partner_want pμ e2)
  have hne : h ≠ r := fun z => by rw [z] at better; exact Nat.lt_irrefl _ better
  have h1 : rather rows w h (partner μ w) = true := by rw [e2]; exact (rather_iff hrow.2).mpr better
  have h2 : rather rows h w (partner μ h) = true := by
    refine (rather_iff hrow.1).mpr ?_
    cases q : partner μ h with
    | none =>
      rw [place_row hrow.1]
      exact List.idxOf_lt_length_of_mem hrow.1
    | some v =>
      have hwv := partner_want pμ q
      obtain ⟨j, hj⟩ := wr_idx hwv
      rcases Nat.lt_trichotomy j k with c | c | c
      · exact absurd q (before pμ bμ c hj)
      · subst c
        rw [hk] at hj
        cases hj
        have := partner_symm pμ.toPrs q
        rw [e2] at this
        exact absurd (Option.some.inj this) (fun z => hne z.symm)
      · exact wr_at T.hall hk hj c
  have hB : Br rows μ h w := ⟨hwant, h2, h1⟩
  have := bμ hs hB
  rw [e2] at this
  cases this
theorem stay (s : St rows S ask hd (free ++ [a])) (h : (wr rows a).length ≤ ask a) : St rows S ask hd free := by
  have nf := List.nodup_append.mp s.fnd
  refine ⟨s.keys, nf.1, fun h => s.fin (List.mem_append_left _ h), fun h => ?_, fun {m} hm hf => ?_, s.le, s.asked, s.opt⟩
  · obtain ⟨h1, h2, h3, h4⟩ := s.held h
    exact ⟨h1, fun z => h2 (List.mem_append_left _ z), h3, h4⟩
  · by_cases e : m = a
    · subst e; exact .inr h
    · exact s.done hm fun z => (List.mem_append.mp z).elim hf fun z => e (List.mem_singleton.mp z)
structure Ask (rows : List (List Nat)) (S : List Nat) (ask : Nat → Nat) (hd : Held) (free : List Nat) (a w : Nat) : Prop where
  st : St rows S ask hd (free ++ [a])
  ask : (wr rows a)[ask a]? = some w
theorem take_new (T : Two rows sd S) (A : Ask rows S ask hd free a w) (hno : ∀ m, ¬ (w, m) ∈ hd) : St rows S (inc ask a) (hd ++ [(w, a)]) free := by
  have s := A.st
  have nf := List.nodup_append.mp s.fnd
  have naf : ¬ a ∈ free := fun z => nf.2.2 a z a (List.mem_singleton_self _) rfl
  have aS : a ∈ S := s.fin (List.mem_append_right _ (List.mem_singleton_self _))
  have hlt := (List.getElem?_eq_some_iff.mp A.ask).1
  have nah : ∀ {v}, ¬ (v, a) ∈ hd := fun h => (s.held h).2.1 (List.mem_append_right _ (List.mem_singleton_self _))
  have old : ∀ {m j}, j < inc ask a m → (m = a ∧ j = ask a) ∨ j < ask m := fun {m j} h => by
    by_cases e : m = a
    · subst e; rw [inc_same] at h; by_cases q : j = ask m
      · exact .inl ⟨rfl, q⟩
      · exact .inr (by omega)
    · rw [inc_ne e] at h; exact .inr h
  refine ⟨?_, nf.1, fun h => s.fin (List.mem_append_left _ h), fun {v m} h => ?_, fun {m} hm hf => ?_, fun {m} => ?_, fun {m} hm {j v} hj hv => ?_, fun {μ} pμ bμ {m} hm {j v} hj hv hn => ?_⟩
  · rw [List.map_append]
    refine List.nodup_append.mpr ⟨s.keys, by simp, fun u hu v hv => ?_⟩
    obtain ⟨p, hp, rfl⟩ := List.mem_map.mp hu
    have hv : v = w := by simpa using hv
    rw [hv]
    exact fun e => hno p.2 (by rw [← e]; exact hp)
  · rcases List.mem_append.mp h with h | h
    · obtain ⟨h1, h2, h3, h4⟩ := s.held h
      have hma : m ≠ a := fun e => nah (e ▸ h)
      rw [inc_ne hma]
      exact ⟨h1, fun z => h2 (List.mem_append_left _ z), h3, h4⟩
    · cases List.mem_singleton.mp h
      rw [inc_same]
      exact ⟨aS, naf, Nat.succ_pos _, A.ask⟩
  · by_cases e : m = a
    · subst e; exact .inl ⟨w, List.mem_append_right _ (List.mem_singleton_self _)⟩
    · rw [inc_ne e]
      exact (s.done hm fun z => (List.mem_append.mp z).elim hf fun z => e (List.mem_singleton.mp z)).imp (fun ⟨v, h⟩ => ⟨v, List.mem_append_left _ h⟩) id
  · by_cases e : m = a
    · subst e; rw [inc_same]; omega
    · rw [inc_ne e]; exact s.le
  · rcases old hj with ⟨rfl, rfl⟩ | hj
    · rw [A.ask] at hv; cases hv
      exact ⟨m, List.mem_append_right _ (List.mem_singleton_self _), .inl rfl⟩
    · obtain ⟨m', h1, h2⟩ := s.asked hm hj hv
      exact ⟨m', List.mem_append_left _ h1, h2⟩
  · rcases old hj with ⟨rfl, rfl⟩ | hj
    · rw [A.ask] at hv; cases hv
      exact absurd (List.mem_append_right _ (List.mem_singleton_self _)) hn
    · exact s.opt pμ bμ hm hj hv fun z => hn (List.mem_append_left _ z)
theorem keep (T : Two rows sd S) (A : Ask rows S ask hd free a w) {h : Nat} (hh : (w, h) ∈ hd) (hb : place rows w (some h) < place rows w (some a)) : St rows S (inc ask a) hd (free ++ [a]) := by
  have s := A.st
  have aS : a ∈ S := s.fin (List.mem_append_right _ (List.mem_singleton_self _))
  have hlt := (List.getElem?_eq_some_iff.mp A.ask).1
  have nah : ∀ {v}, ¬ (v, a) ∈ hd := fun h => (s.held h).2.1 (List.mem_append_right _ (List.mem_singleton_self _))
  have old : ∀ {m j}, j < inc ask a m → (m = a ∧ j = ask a) ∨ j < ask m := fun {m j} h => by
    by_cases e : m = a
    · subst e; rw [inc_same] at h; by_cases q : j = ask m
      · exact .inl ⟨rfl, q⟩
      · exact .inr (by omega)
    · rw [inc_ne e] at h; exact .inr h
  refine ⟨s.keys, s.fnd, s.fin, fun {v m} h => ?_, fun {m} hm hf => ?_, fun {m} => ?_, fun {m} hm {j v} hj hv => ?_, fun {μ} pμ bμ {m} hm {j v} hj hv hn => ?_⟩
  · have hma : m ≠ a := fun e => nah (e ▸ h)
    rw [inc_ne hma]
    exact s.held h
  · have e : m ≠ a := fun e => hf (e ▸ List.mem_append_right _ (List.mem_singleton_self _))
    rw [inc_ne e]
    exact s.done hm hf
  · by_cases e : m = a
    · subst e; rw [inc_same]; omega
    · rw [inc_ne e]; exact s.le
  · rcases old hj with ⟨rfl, rfl⟩ | hj
    · rw [A.ask] at hv; cases hv
      exact ⟨h, hh, .inr hb⟩
    · exact s.asked hm hj hv
  · rcases old hj with ⟨rfl, rfl⟩ | hj
    · rw [A.ask] at hv; cases hv
      obtain ⟨h1, h2, h3, h4⟩ := s.held hh
      refine let_go T h1 (ask h - 1) h4 (fun {μ} pμ bμ {j v} hj hv => s.opt pμ bμ h1 (by omega) hv fun z => ?_) hb pμ bμ
      have e := (s.held z).2.2.2
      have hnd := wr_at T.hall hv e hj
      exact Nat.lt_irrefl _ hnd
    · exact s.opt pμ bμ hm hj hv hn
def swap (hd : Held) (w a : Nat) : Held := hd.map fun p => if p.1 = w then (w, a) else p
theorem mem_swap {v m : Nat} {hd : Held} {h : Nat} (hh : (w, h) ∈ hd) : (v, m) ∈ swap hd w a ↔ (v = w ∧ m = a) ∨ (v ≠ w ∧ (v, m) ∈ hd) := by
  unfold swap
  rw [List.mem_map]
  constructor
  · rintro ⟨p, hp, e⟩
    split at e
    · cases e; exact .inl ⟨rfl, rfl⟩
    · rename_i hn; subst e; exact .inr ⟨hn, hp⟩
  · rintro (⟨rfl, rfl⟩ | ⟨h1, h2⟩)
    · exact ⟨(v, h), hh, if_pos rfl⟩
    · exact ⟨(v, m), h2, if_neg h1⟩
theorem swap_keys {hd : Held} : (swap hd w a).map (·.1) = hd.map (·.1) := by
  unfold swap
  rw [List.map_map]
  refine List.map_congr_left fun p _ => ?_
  show (if p.1 = w then (w, a) else p).1 = p.1
  split
  · rename_i e; exact e.symm
  · rfl
theorem take_better (T : Two rows sd S) (A : Ask rows S ask hd free a w) {h : Nat} (hh : (w, h) ∈ hd) (hb : place rows w (some a) < place rows w (some h)) : St rows S (inc ask a) (swap hd w a) (free ++ [h]) := by
  have s := A.st
  have nf := List.nodup_append.mp s.fnd
  have naf : ¬ a ∈ free := fun z => nf.2.2 a z a (List.mem_singleton_self _) rfl
  have aS : a ∈ S := s.fin (List.mem_append_right _ (List.mem_singleton_self _))
  have hlt := (List.getElem?_eq_some_iff.mp A.ask).1
  have nah : ∀ {v}, ¬ (v, a) ∈ hd := fun h => (s.held h).2.1 (List.mem_append_right _ (List.mem_singleton_self _))
  obtain ⟨g1, g2, g3, g4⟩ := s.held hh
  have hna : h ≠ a := fun e => nah (e ▸ hh)
  have nhf : ¬ h ∈ free := fun z => g2 (List.mem_append_left _ z)
  have old : ∀ {m j}, j < inc ask a m → (m = a ∧ j = ask a) ∨ j < ask m := fun {m j} h => by
    by_cases e : m = a
    · subst e; rw [inc_same] at h; by_cases q : j = ask m
      · exact .inl ⟨rfl, q⟩
      · exact .inr (by omega)
    · rw [inc_ne e] at h; exact .inr h
  have one : ∀ {v m}, (v, m) ∈ hd → v ≠ w → m ≠ h := fun {v m} hv hn e => by
    subst e
    have := (s.held hv).2.2.2
    rw [g4] at this
    exact hn (Option.some.inj this).symm
  refine ⟨by rw [swap_keys]; exact s.keys, ?_, fun {m} hm => ?_, fun {v m} hv => ?_, fun {m} hm hf => ?_, fun {m} => ?_, fun {m} hm {j v} hj hv => ?_, fun {μ} pμ bμ {m} hm {j v} hj hv hn => ?_⟩
  · exact List.nodup_append.mpr ⟨nf.1, by simp, fun u hu v hv => by rw [List.mem_singleton.mp hv]; exact fun e => nhf (e ▸ hu)⟩
  · rcases List.mem_append.mp hm with hm | hm
    · exact s.fin (List.mem_append_left _ hm)
    · rw [List.mem_singleton.mp hm]; exact g1
  · rcases (mem_swap hh).mp hv with ⟨rfl, rfl⟩ | ⟨h1, h2⟩
    · rw [inc_same]
      exact ⟨aS, fun z => (List.mem_append.mp z).elim naf fun z => hna (List.mem_singleton.mp z).symm, Nat.succ_pos _, A.ask⟩
    · obtain ⟨k1, k2, k3, k4⟩ := s.held h2
      have hma : m ≠ a := fun e => nah (e ▸ h2)
      rw [inc_ne hma]
      exact ⟨k1, fun z => (List.mem_append.mp z).elim (fun z => k2 (List.mem_append_left _ z)) fun z => one h2 h1 (List.mem_singleton.mp z), k3, k4⟩
  · by_cases e : m = a
    · subst e; exact .inl ⟨w, (mem_swap hh).mpr (.inl ⟨rfl, rfl⟩)⟩
    · rw [inc_ne e]
      have hmh : m ≠ h := fun e => hf (e ▸ List.mem_append_right _ (List.mem_singleton_self _))
      rcases s.done hm (fun z => (List.mem_append.mp z).elim (fun z => hf (List.mem_append_left _ z)) fun z => e (List.mem_singleton.mp z)) with ⟨v, hv⟩ | q
      · refine .inl ⟨v, (mem_swap hh).mpr (.inr ⟨fun z => ?_, hv⟩)⟩
        subst z
        exact hmh (key_uniq s.keys hv hh)
      · exact .inr q
  · by_cases e : m = a
    · subst e; rw [inc_same]; omega
    · rw [inc_ne e]; exact s.le
  · rcases old hj with ⟨rfl, rfl⟩ | hj
    · rw [A.ask] at hv; cases hv
      exact ⟨m, (mem_swap hh).mpr (.inl ⟨rfl, rfl⟩), .inl rfl⟩
    · obtain ⟨m', h1, h2⟩ := s.asked hm hj hv
      by_cases e : v = w
      · subst e
        have := key_uniq s.keys h1 hh
        subst this
        refine ⟨a, (mem_swap hh).mpr (.inl ⟨rfl, rfl⟩), .inr ?_⟩
        rcases h2 with rfl | h2
        · exact hb
        · omega
      · exact ⟨m', (mem_swap hh).mpr (.inr ⟨e, h1⟩), h2⟩
  · rcases old hj with ⟨rfl, rfl⟩ | hj
    · rw [A.ask] at hv; cases hv
      exact absurd ((mem_swap hh).mpr (.inl ⟨rfl, rfl⟩)) hn
    · by_cases hin : (v, m) ∈ hd
      · have hvw : v = w := Classical.byContradiction fun e => hn ((mem_swap hh).mpr (.inr ⟨e, hin⟩))
        subst hvw
        have := key_uniq s.keys hin hh
        subst this
        refine let_go T aS (ask a) A.ask (fun {μ} pμ bμ {j v} hj hv => s.opt pμ bμ aS hj hv nah) hb pμ bμ
      · exact s.opt pμ bμ hm hj hv hin
end
end Fw.Da
namespace Fw.Da
open Fw Fw.Hl
section
variable {rows : List (List Nat)} {μ : List (Nat × Nat)} {S : List Nat} {a b m w x y : Nat} {sd : Nat → Bool} {ask : Nat → Nat} {hd : Held} {free : List Nat}
def mm (p : Nat × Nat) : Nat × Nat := (min p.1 p.2, max p.1 p.2)
def outc (hd : Held) : List (Nat × Nat) := sortP (hd.map mm)
theorem St.wants (s : St rows S ask hd free) (h : (w, m) ∈ hd) : want rows m w = true := mem_wr.mp (List.mem_of_getElem? (s.held h).2.2.2)
theorem St.sides (T : Two rows sd S) (s : St rows S ask hd free) (h : (w, m) ∈ hd) : sd m = true ∧ sd w = false := by
  have h1 := (T.mem.mp (s.held h).1).2
  refine ⟨h1, ?_⟩
  rw [T.two (want_row (s.wants h)).1, h1]
  rfl
theorem St.one (s : St rows S ask hd free) {v : Nat} (h1 : (w, m) ∈ hd) (h2 : (v, m) ∈ hd) : w = v := by
  have e1 := (s.held h1).2.2.2
  have e2 := (s.held h2).2.2.2
  rw [e1] at e2
  exact Option.some.inj e2
theorem out_prg (T : Two rows sd S) (s : St rows S ask hd free) : Prg rows (outc hd) := by
  have hp := sortP_perm (hd.map mm)
  have hlt : ∀ p ∈ hd.map mm, p.1 < p.2 ∧ p.2 < rows.length ∧ want rows p.1 p.2 = true := fun p hp => by
    obtain ⟨⟨w, m⟩, hq, rfl⟩ := List.mem_map.mp hp
    have hw := s.wants hq
    have hr := want_row hw
    have h1 := T.hall.mem hr.1
    have h2 := T.hall.mem hr.2
    unfold mm
    refine ⟨by show min w m < max w m; omega, by show max w m < rows.length; omega, ?_⟩
    show want rows (min w m) (max w m) = true
    by_cases c : w ≤ m
    · rw [Nat.min_eq_left c, Nat.max_eq_right c, want_symm]; exact hw
    · rw [Nat.min_eq_right (by omega), Nat.max_eq_left (by omega)]; exact hw
  have hfar : (hd.map mm).Pairwise far := by
    refine List.pairwise_map.mpr ((List.pairwise_map.mp s.keys).imp_of_mem ?_)
    rintro ⟨w, m⟩ ⟨v, k⟩ h1 h2 hne
    have hne : w ≠ v := hne
    have s1 := s.sides T h1
    have s2 := s.sides T h2
    have d1 : m ≠ k := fun e => by subst e; exact hne (s.one h1 h2)
    have d2 : w ≠ k := fun e => by rw [e, s2.1] at s1; exact absurd s1.2 (by decide)
    have d3 : m ≠ v := fun e => by rw [e, s2.2] at s1; exact absurd s1.1 (by decide)
    unfold mm far
    simp only
    omega
  exact ⟨⟨fun p h => let z := hlt p (hp.mem_iff.mp h); ⟨z.1, z.2.1⟩, (hp.pairwise_iff far_symm).mpr hfar⟩, fun p h => (hlt p (hp.mem_iff.mp h)).2.2⟩
theorem out_partner (T : Two rows sd S) (s : St rows S ask hd free) (hm : m ∈ S) : partner (outc hd) m = some w ↔ (w, m) ∈ hd := by
  have P := (out_prg T s).toPrs
  have hs := (T.mem.mp hm).2
  rw [partner_iff P]
  unfold outc
  rw [(sortP_perm _).mem_iff, (sortP_perm _).mem_iff]
  constructor
  · intro h
    have key : ∃ q ∈ hd, mm q = (m, w) ∨ mm q = (w, m) := by
      rcases h with h | h
      · obtain ⟨q, hq, e⟩ := List.mem_map.mp h; exact ⟨q, hq, .inl e⟩
      · obtain ⟨q, hq, e⟩ := List.mem_map.mp h; exact ⟨q, hq, .inr e⟩
    obtain ⟨⟨v, k⟩, hq, e⟩ := key
    have sq := s.sides T hq
    have e : (v = w ∧ k = m) ∨ (v = m ∧ k = w) := by
      unfold mm at e
      simp only [Prod.mk.injEq] at e
      omega
    rcases e with ⟨rfl, rfl⟩ | ⟨rfl, rfl⟩
    · exact hq
    · rw [hs] at sq
      exact absurd sq.2 (by decide)
  · intro h
    have hmem : mm (w, m) ∈ hd.map mm := List.mem_map_of_mem h
    unfold mm at hmem
    by_cases c : w ≤ m
    · right
      have e : (min w m, max w m) = (w, m) := by rw [Nat.min_eq_left c, Nat.max_eq_right c]
      have hmem : (min w m, max w m) ∈ hd.map mm := hmem
      rw [e] at hmem
      exact hmem
    · left
      have e : (min w m, max w m) = (m, w) := by rw [Nat.min_eq_right (by omega), Nat.max_eq_left (by omega)]
      have hmem : (min w m, max w m) ∈ hd.map mm := hmem
      rw [e] at hmem
      exact hmem
theorem asked_all (T : Two rows sd S) (s : St rows S ask hd []) (hm : m ∈ S) (hw : want rows m w = true) (hb : place rows m (some w) < place rows m (partner (outc hd) m)) : ∃ j : Nat, j < ask m ∧ (wr rows m)[j]? = some w := by
  obtain ⟨j, hj⟩ := wr_idx hw
  refine ⟨j, ?_, hj⟩
  rcases s.done hm (fun z => nomatch z) with ⟨v, hv⟩ | h
  · rw [(out_partner T s hm).mpr hv] at hb
    obtain ⟨h1, h2, h3, h4⟩ := s.held hv
    refine Classical.byContradiction fun hno => ?_
    rcases Nat.lt_or_ge (ask m - 1) j with c | c
    · have := wr_at T.hall h4 hj c
      omega
    · omega
  · have := (List.getElem?_eq_some_iff.mp hj).1
    omega
theorem out_calm (T : Two rows sd S) (s : St rows S ask hd []) : breaking rows (outc hd) = [] := by
  refine List.eq_nil_iff_forall_not_mem.mpr fun p hp => ?_
  obtain ⟨h1, h2, h3⟩ := mem_brk.mp (show (p.1, p.2) ∈ breaking rows (outc hd) from hp)
  have P := (out_prg T s).toPrs
  have key : ∀ {m w}, m ∈ S → Br rows (outc hd) m w → False := fun {m w} hm hB => by
    have hrow := hB.row
    obtain ⟨j, hj, hjw⟩ := asked_all T s hm hB.1 ((rather_iff hrow.1).mp hB.2.1)
    obtain ⟨m', h4, h5⟩ := s.asked hm hj hjw
    have hm' := (s.held h4).1
    have e := partner_symm P ((out_partner T s hm').mpr h4)
    have hr := (rather_iff hrow.2).mp hB.2.2
    rw [e] at hr
    rcases h5 with rfl | h5
    · exact Nat.lt_irrefl _ hr
    · omega
  by_cases c : sd p.1 = true
  · exact key (T.mem.mpr ⟨by omega, c⟩) h3
  · refine key (T.mem.mpr ⟨h2, ?_⟩) h3.symm
    rw [T.two h3.row.1]
    cases h : sd p.1 with
    | true => exact absurd h c
    | false => rfl
theorem out_best (T : Two rows sd S) (s : St rows S ask hd []) (pμ : Prg rows μ) (bμ : Mild rows S μ) (hm : m ∈ S) : place rows m (partner (outc hd) m) ≤ place rows m (partner μ m) := by
  refine Nat.le_of_not_lt fun hlt => ?_
  cases e : partner μ m with
  | none =>
    rw [e] at hlt
    have h1 : place rows m (partner (outc hd) m) ≤ (row rows m).length := by
      cases e2 : partner (outc hd) m with
      | none => exact Nat.le_refl _
      | some v =>
        have hr := (want_row (partner_want (out_prg T s) e2)).1
        rw [place_row hr]
        exact Nat.le_of_lt (List.idxOf_lt_length_of_mem hr)
    have hlt : (row rows m).length < _ := hlt
    omega
  | some w =>
    rw [e] at hlt
    have hw := partner_want pμ e
    obtain ⟨j, hj, hjw⟩ := asked_all T s hm hw hlt
    refine s.opt pμ bμ hm hj hjw (fun z => ?_) e
    rw [(out_partner T s hm).mpr z] at hlt
    exact Nat.lt_irrefl _ hlt
def todo (rows : List (List Nat)) (S : List Nat) (ask : Nat → Nat) (free : List Nat) : Nat := 2 * (S.map fun a => (wr rows a).length - ask a).sum + free.length
theorem sum_step {l : List Nat} {f g : Nat → Nat} (nd : l.Nodup) (ha : a ∈ l) (h1 : f a < g a) (h2 : ∀ b, b ≠ a → f b = g b) : (l.map f).sum < (l.map g).sum := by
  induction l with
  | nil => cases ha
  | cons b r ih =>
    obtain ⟨n1, n2⟩ := List.nodup_cons.mp nd
    rw [List.map_cons, List.map_cons, List.sum_cons, List.sum_cons]
    rcases List.mem_cons.mp ha with rfl | ha
    · have : r.map f = r.map g := List.map_congr_left fun c hc => h2 c fun e => n1 (e ▸ hc)
      rw [this]
      omega
    · have := ih n2 ha
      have hb : b ≠ a := fun e => n1 (e ▸ ha)
      rw [h2 b hb]
      omega
theorem todo_ask (nd : S.Nodup) (ha : a ∈ S) (hlt : ask a < (wr rows a).length) {f1 f2 : List Nat} (hf : f1.length ≤ f2.length + 1) : todo rows S (inc ask a) f1 < todo rows S ask f2 := by
  have := sum_step (f := fun b => (wr rows b).length - inc ask a b) (g := fun b => (wr rows b).length - ask b) nd ha (by show _ - inc ask a a < _; rw [inc_same]; omega) (fun b hb => by show _ - inc ask a b = _; rw [inc_ne hb])
  unfold todo
  omega
end
end Fw.Da
namespace Fw.Da
open Fw Fw.Hl
section
variable {rows : List (List Nat)} {μ ν : List (Nat × Nat)} {S : List Nat} {a b m w : Nat} {sd : Nat → Bool}
structure Clm (rows : List (List Nat)) (μ : List (Nat × Nat)) : Prop where
  prg : Prg rows μ
  no : breaking rows μ = []
def bet (rows : List (List Nat)) (μ ν : List (Nat × Nat)) (a : Nat) : Bool := decide (place rows a (partner μ a) < place rows a (partner ν a))
theorem pl_le (h : Prg rows μ) : place rows a (partner μ a) ≤ (row rows a).length := by
  cases e : partner μ a with
  | none => exact Nat.le_refl _
  | some v =>
    rw [place_row (want_row (partner_want h e)).1]
    exact Nat.le_of_lt (List.idxOf_lt_length_of_mem (want_row (partner_want h e)).1)
theorem Clm.nobody (T : Hall rows) (c : Clm rows μ) : ¬ Br rows μ a b := fun hB => by
  have h1 := T.mem hB.row.2
  have h2 := T.mem hB.row.1
  by_cases q : a < b
  · have := mem_brk.mpr ⟨q, h2.1, hB⟩
    rw [c.no] at this
    cases this
  · have := mem_brk.mpr ⟨by have := h2.2; omega, h1.1, hB.symm⟩
    rw [c.no] at this
    cases this
theorem Clm.mild {S : List Nat} (T : Hall rows) (c : Clm rows μ) : Mild rows S μ := fun _ hB => absurd hB (c.nobody T)
theorem other_off (T : Hall rows) (cμ : Clm rows μ) (cν : Clm rows ν) (h : bet rows μ ν a = true) : ∃ b, partner μ a = some b ∧ bet rows ν μ b = true := by
  have h := of_decide_eq_true h
  cases e : partner μ a with
  | none =>
    rw [e] at h
    have := pl_le (a := a) cν.prg
    have h : (row rows a).length < _ := h
    omega
  | some b =>
    refine ⟨b, rfl, decide_eq_true ?_⟩
    rw [e] at h
    have hw := partner_want cμ.prg e
    have hr := want_row hw
    have e2 := partner_symm cμ.prg.toPrs e
    rw [e2]
    have h1 : rather rows a b (partner ν a) = true := (rather_iff hr.1).mpr h
    refine Nat.lt_of_not_le fun hle => ?_
    rcases Nat.lt_or_eq_of_le hle with c | c
    · exact cν.nobody T ⟨hw, h1, (rather_iff hr.2).mpr c⟩
    · cases e3 : partner ν b with
      | none =>
        rw [e3] at c
        rw [place_row hr.2] at c
        have : (row rows b).idxOf a = (row rows b).length := c
        have := List.idxOf_lt_length_of_mem hr.2
        omega
      | some d =>
        rw [e3] at c
        have hd := (want_row (partner_want cν.prg e3)).1
        rw [place_row hr.2, place_row hd] at c
        have q1 := List.getElem_idxOf (List.idxOf_lt_length_of_mem hr.2)
        have q2 := List.getElem_idxOf (List.idxOf_lt_length_of_mem hd)
        have : a = d := by rw [← q1, ← q2]; congr 1
        subst this
        have e4 := partner_symm cν.prg.toPrs e3
        rw [e4] at h
        exact Nat.lt_irrefl _ h
theorem onto {A B : List Nat} (nA : A.Nodup) (nB : B.Nodup) (f : Nat → Nat) (hf : ∀ a ∈ A, f a ∈ B) (inj : ∀ a ∈ A, ∀ b ∈ A, f a = f b → a = b) (hl : B.length ≤ A.length) : ∀ b ∈ B, ∃ a ∈ A, f a = b := by
  intro b hb
  refine Classical.byContradiction fun hno => ?_
  have nd : (A.map f).Nodup := List.pairwise_map.mpr (nA.imp_of_mem fun {x y} hx hy h e => h (inj x hx y hy e))
  have hnb : ¬ b ∈ A.map f := fun h => by
    obtain ⟨a, ha, e⟩ := List.mem_map.mp h
    exact hno ⟨a, ha, e⟩
  have := sub_len (l := b :: A.map f) (m := B) (List.nodup_cons.mpr ⟨hnb, nd⟩) fun x hx => by
    rcases List.mem_cons.mp hx with rfl | hx
    · exact hb
    · obtain ⟨a, ha, rfl⟩ := List.mem_map.mp hx
      exact hf a ha
  rw [List.length_cons, List.length_map] at this
  omega
def pf (μ : List (Nat × Nat)) (a : Nat) : Nat := (partner μ a).getD 0
theorem le_of {A B : List Nat} (nA : A.Nodup) (f : Nat → Nat) (hf : ∀ a ∈ A, f a ∈ B) (inj : ∀ a ∈ A, ∀ b ∈ A, f a = f b → a = b) : A.length ≤ B.length := by
  have nd : (A.map f).Nodup := List.pairwise_map.mpr (nA.imp_of_mem fun {x y} hx hy h e => h (inj x hx y hy e))
  have := sub_len (m := B) nd fun x hx => by
    obtain ⟨a, ha, rfl⟩ := List.mem_map.mp hx
    exact hf a ha
  rw [List.length_map] at this
  exact this
theorem worse_off (T : Hall rows) (two : ∀ {a b}, b ∈ row rows a → sd b = !sd a) (cμ : Clm rows μ) (cν : Clm rows ν) (h : bet rows ν μ b = true) : ∃ a, partner μ b = some a ∧ bet rows μ ν a = true := by
  have hbn : b < rows.length := by
    obtain ⟨c, e, _⟩ := other_off T cν cμ h
    exact (T.mem (want_row (partner_want cν.prg e)).2).1
  let A := (List.range rows.length).filter fun a => bet rows μ ν a && (sd a != sd b)
  let B := (List.range rows.length).filter fun a => bet rows ν μ a && (sd a == sd b)
  have mA : ∀ {a}, a ∈ A ↔ a < rows.length ∧ bet rows μ ν a = true ∧ sd a ≠ sd b := fun {a} => by
    show a ∈ (List.range rows.length).filter _ ↔ _
    rw [List.mem_filter, List.mem_range, Bool.and_eq_true]
    cases sd a <;> cases sd b <;> simp
  have mB : ∀ {a}, a ∈ B ↔ a < rows.length ∧ bet rows ν μ a = true ∧ sd a = sd b := fun {a} => by
    show a ∈ (List.range rows.length).filter _ ↔ _
    rw [List.mem_filter, List.mem_range, Bool.and_eq_true]
    cases sd a <;> cases sd b <;> simp
  have go : ∀ {μ ν : List (Nat × Nat)}, Clm rows μ → Clm rows ν → ∀ {a}, bet rows μ ν a = true → partner μ a = some (pf μ a) ∧ pf μ a < rows.length ∧ bet rows ν μ (pf μ a) = true ∧ sd (pf μ a) = !sd a := fun {μ ν} cμ cν {a} h => by
    obtain ⟨c, e, h2⟩ := other_off T cμ cν h
    have e2 : pf μ a = c := by unfold pf; rw [e]; rfl
    have hr := want_row (partner_want cμ.prg e)
    rw [e2]
    exact ⟨e, (T.mem hr.1).1, h2, two hr.1⟩
  have inj : ∀ {μ ν : List (Nat × Nat)}, Clm rows μ → Clm rows ν → ∀ {a c}, bet rows μ ν a = true → bet rows μ ν c = true → pf μ a = pf μ c → a = c := fun {μ ν} cμ cν {a c} h1 h2 e => by
    have g1 := (go cμ cν h1).1
    have g2 := (go cμ cν h2).1
    rw [e] at g1
    have q1 := partner_symm cμ.prg.toPrs g1
    have q2 := partner_symm cμ.prg.toPrs g2
    rw [q1] at q2
    exact Option.some.inj q2
  have fAB : ∀ a ∈ A, pf μ a ∈ B := fun a ha => by
    obtain ⟨h1, h2, h3⟩ := mA.mp ha
    obtain ⟨g1, g2, g3, g4⟩ := go cμ cν h2
    refine mB.mpr ⟨g2, g3, ?_⟩
    rw [g4]
    cases hx : sd a <;> cases hy : sd b <;> simp [hx, hy] at h3 ⊢
  have fBA : ∀ a ∈ B, pf ν a ∈ A := fun a ha => by
    obtain ⟨h1, h2, h3⟩ := mB.mp ha
    obtain ⟨g1, g2, g3, g4⟩ := go cν cμ h2
    refine mA.mpr ⟨g2, g3, ?_⟩
    rw [g4, h3]
    cases sd b <;> simp
  have nA : A.Nodup := List.nodup_range.filter _
  have nB : B.Nodup := List.nodup_range.filter _
  have l2 := le_of nB (pf ν) fBA fun x hx y hy e => inj cν cμ (mB.mp hx).2.1 (mB.mp hy).2.1 e
  obtain ⟨a, ha, e⟩ := onto nA nB (pf μ) fAB (fun x hx y hy e => inj cμ cν (mA.mp hx).2.1 (mA.mp hy).2.1 e) l2 b (mB.mpr ⟨hbn, h, rfl⟩)
  obtain ⟨h1, h2, h3⟩ := mA.mp ha
  have g := (go cμ cν h2).1
  rw [e] at g
  exact ⟨a, partner_symm cμ.prg.toPrs g, h2⟩
theorem pl_inj (hμ : Prg rows μ) (hν : Prg rows ν) (e : place rows a (partner μ a) = place rows a (partner ν a)) : partner μ a = partner ν a := by
  cases e1 : partner μ a with
  | none =>
    cases e2 : partner ν a with
    | none => rfl
    | some c =>
      rw [e1, e2] at e
      have hr := (want_row (partner_want hν e2)).1
      rw [place_row hr] at e
      have e : (row rows a).length = _ := e
      have := List.idxOf_lt_length_of_mem hr
      omega
  | some b =>
    have hb := (want_row (partner_want hμ e1)).1
    cases e2 : partner ν a with
    | none =>
      rw [e1, e2] at e
      rw [place_row hb] at e
      have e : _ = (row rows a).length := e
      have := List.idxOf_lt_length_of_mem hb
      omega
    | some c =>
      rw [e1, e2] at e
      have hc := (want_row (partner_want hν e2)).1
      rw [place_row hb, place_row hc] at e
      have q1 := List.getElem_idxOf (List.idxOf_lt_length_of_mem hb)
      have q2 := List.getElem_idxOf (List.idxOf_lt_length_of_mem hc)
      have : b = c := by rw [← q1, ← q2]; congr 1
      rw [this]
theorem same_people (T : Hall rows) (two : ∀ {a b}, b ∈ row rows a → sd b = !sd a) (cμ : Clm rows μ) (cν : Clm rows ν) (h : partner μ a ≠ none) : partner ν a ≠ none := fun z => by
  have hb : bet rows μ ν a = true := by
    refine decide_eq_true ?_
    rw [z]
    cases e : partner μ a with
    | none => exact absurd e h
    | some b =>
      have hr := (want_row (partner_want cμ.prg e)).1
      rw [place_row hr]
      exact List.idxOf_lt_length_of_mem hr
  obtain ⟨c, e, _⟩ := worse_off T two cν cμ hb
  rw [z] at e
  cases e
end
end Fw.Da
namespace Fw.Da
open PySem PySem.Spec PyProof.Rows L2 Fw Fw.Hl
section
variable {rows : List (List Nat)} {μ : List (Nat × Nat)} {S : List Nat} {a b m w x y n : Nat} {sd : Nat → Bool} {ask : Nat → Nat} {hd : Held} {free : List Nat} {st : Sto} {kvs : List (PyData × D)}
theorem keq_nat : keq false (nI a) (nI b) = decide (a = b) := by
  show decide (key1 (nI a) = key1 (nI b)) = _
  refine decide_eq_decide.mpr ⟨fun h => ?_, fun h => by rw [h]⟩
  have h : some (Sum.inl (a : Int) : Key) = some (.inl (b : Int)) := h
  have h := Option.some.inj h
  have h : (a : Int) = (b : Int) := by injection h
  omega
theorem viewK_dct (h : st[n]? = some (.dct false kvs)) : viewK st (.ref n) = some (false, kvs) := by
  show (match st[n]? with
    | some (.dct t kvs) => some (t, kvs)
    | some (.lck t kvs) => some (t, kvs)
    | _ => none) = _
  rw [h]
theorem find_dct (h : st[n]? = some (.dct false kvs)) : findS st (.ref n) (.v (nI a)) = some (getK false kvs (nI a)) := by
  unfold findS
  rw [viewK_dct h]
  rfl
theorem sub_dct {d : D} (h : st[n]? = some (.dct false kvs)) (hg : getK false kvs (nI a) = some d) : subsD (.ref n) (.v (nI a)) st = .ok d st := by
  unfold subsD
  rw [viewK_dct h]
  show lookD (.ref n) (.v (nI a)) st = _
  unfold lookD
  rw [find_dct h, hg]
theorem set_dct {v : Nat} (h : st[n]? = some (.dct false kvs)) (hl : kvs.length < 1000000) : setU (.ref n) (.v (nI a)) (.v (nI v)) st = .ok () (st.set n (.dct false (putD kvs (nI a) (.v (nI v))))) := by
  have e1 : lAt st (.ref n) = none := by
    show (match st[n]? with
      | some (.lst zs) => some (n, zs)
      | _ => none) = _
    rw [h]
  have e2 : kAt st (.ref n) = some kvs := by
    show (match st[n]? with
      | some (.dct false kvs) => some kvs
      | _ => none) = _
    rw [h]
  unfold setU
  rw [e1, e2]
  show (if kvs.length < lim ∧ (D.v (nI v)).low n = true then _ else _) = _
  rw [if_pos ⟨hl, rfl⟩]
def heldK (hd : Held) : List (PyData × D) := hd.map fun p => (nI p.1, D.v (nI p.2))
theorem held_get : getK false (heldK hd) (nI w) = (hd.find? fun p => decide (p.1 = w)).map fun p => .v (nI p.2) := by
  unfold getK heldK
  induction hd with
  | nil => rfl
  | cons p r ih =>
    rw [List.map_cons, List.find?_cons, List.find?_cons]
    show Option.map (fun x => x.2) (match keq false (nI p.1) (nI w) with
      | true => some (nI p.1, D.v (nI p.2))
      | false => _) = _
    rw [keq_nat]
    cases decide (p.1 = w) with
    | true => rfl
    | false => exact ih
theorem any_key : ∀ {l : List (PyData × D)} {ks : List Nat}, l.map (·.1) = ks.map nI → (l.any fun p => keq false p.1 (nI a)) = decide (a ∈ ks)
  | [], [], _ => by simp
  | [], _ :: _, h => nomatch h
  | _ :: _, [], h => nomatch h
  | p :: r, k :: ks, h => by
    rw [List.map_cons, List.map_cons] at h
    have h1 := List.head_eq_of_cons_eq h
    have h2 := List.tail_eq_of_cons_eq h
    rw [List.any_cons, h1, keq_nat, any_key h2]
    by_cases e : k = a
    · subst e; simp
    · have e2 : ¬ a = k := fun z => e z.symm
      simp [e, e2]
theorem held_keys : (heldK hd).map (·.1) = (hd.map (·.1)).map nI := by unfold heldK; rw [List.map_map, List.map_map]; rfl
theorem held_put (h : ¬ w ∈ hd.map (·.1)) : putD (heldK hd) (nI w) (.v (nI a)) = heldK (hd ++ [(w, a)]) := by
  unfold putD
  rw [any_key held_keys, if_neg (by simpa using h)]
  unfold heldK
  rw [List.map_append]
  rfl
theorem held_swap (h : w ∈ hd.map (·.1)) : putD (heldK hd) (nI w) (.v (nI a)) = heldK (swap hd w a) := by
  unfold putD
  rw [any_key held_keys, if_pos (decide_eq_true h)]
  unfold heldK swap
  rw [List.map_map, List.map_map]
  refine List.map_congr_left fun p _ => ?_
  show (if keq false (nI p.1) (nI w) = true then (nI p.1, D.v (nI a)) else (nI p.1, D.v (nI p.2))) = (nI (if p.1 = w then (w, a) else p).1, D.v (nI (if p.1 = w then (w, a) else p).2))
  rw [keq_nat]
  by_cases e : p.1 = w
  · rw [decide_eq_true e, if_pos rfl, if_pos e, e]
  · rw [decide_eq_false e, if_neg Bool.false_ne_true, if_neg e]
def bst (st : Sto) (A B : List (PyData × D)) (F : List PyData) : Sto := st ++ [O.dct false A, O.dct false B, O.lst F]
variable {A A' B B' : List (PyData × D)} {F F' : List PyData}
theorem b1 : (bst st A B F)[st.length + 1]? = some (O.dct false B) := by unfold bst; rw [List.getElem?_append_right (by omega), show st.length + 1 - st.length = 1 by omega]; rfl
theorem b2 : (bst st A B F)[st.length + 2]? = some (O.lst F) := by unfold bst; rw [List.getElem?_append_right (by omega), show st.length + 2 - st.length = 2 by omega]; rfl
theorem ne_nilR {zs : List PyData} (hst : st[n]? = some (.lst zs)) (hs : SeqAt.shaped (.list zs) = true) : neD (.ref n) (.v (.list [])) st = .ok (.v (.bool (!zs.isEmpty))) st := by
  have hv : viewL st (.ref n) = some zs := viewS_ref hst
  have e : eqS st (.ref n) (.v (.list [])) = eqS st (.v (.list zs)) (.v (.list [])) := by
    show Fw.eqT st (.ref n) (.v (.list [])) = Fw.eqT st (.v (.list zs)) (.v (.list []))
    unfold Fw.eqT viewP
    simp only [hv, Option.map_some]
  have q := ne_nilL (st := st) hs
  unfold neD at q ⊢
  rw [e]
  exact q
theorem pop_ref {zs : List PyData} {z : PyData} (h : st[n]? = some (.lst (zs ++ [z]))) : fmPop (.ref n) [] st = .ok (.v z) (st.set n (.lst zs)) := by
  unfold fmPop
  have e : lAt st (.ref n) = some (n, zs ++ [z]) := by
    show (match st[n]? with
      | some (.lst zs) => some (n, zs)
      | _ => none) = _
    rw [h]
  rw [e]
  show (match (zs ++ [z])[(zs ++ [z]).length - 1]? with
    | some d => Out.ok (D.v d) (st.set n (.lst (zs ++ [z]).dropLast))
    | none => .stuck) = _
  rw [List.length_append, List.length_singleton, Nat.add_sub_cancel, List.getElem?_append_right (Nat.le_refl _), Nat.sub_self, List.dropLast_concat]
  rfl
theorem ok_Lock {i : Nat} {m : ME} {env : Ev} {P : D → Sto → Prop} (he : env[i]? = some (some (.ref n))) (h : st[n]? = some (.dct false kvs)) :
    (mLock i m env st).Ok P ↔ (m env (st.set n (.lck false kvs))).Ok fun d s1 => P d (s1.set n (.dct false kvs)) := by
  unfold mLock
  rw [he]
  show (match st[n]? with
    | some (.dct false kvs) => (m env (st.set n (.lck false kvs))).bind fun d s1 => .ok d (s1.set n (.dct false kvs))
    | _ => .stuck).Ok P ↔ _
  rw [h]
  exact ok_bind
theorem items_lck {i : Nat} {env : Ev} {P : List Itm × Wt → Sto → Prop} (he : env[i]? = some (some (.ref n))) (h : st[n]? = some (.lck false kvs)) : (miItems (mVar i) env st).Ok P ↔ P (itemsI kvs, none) st := by
  unfold miItems
  have e : mVar i env st = .ok (.ref n) st := by
    unfold mVar
    rw [he]
  rw [e]
  show (match st[n]? with
    | some (.lck false kvs) => Out.ok (itemsI kvs, none) st
    | _ => .stuck).Ok P ↔ _
  rw [h]
  exact Iff.rfl
end
end Fw.Da
namespace Fw.Da
open PySem PySem.Spec PyProof.Rows L2 Fw Fw.Hl
section
variable {rows : List (List Nat)} {S : List Nat} {sd : Nat → Bool} {st : Sto}
theorem ok_Dnew {b : Bool} {env : Ev} {P : D → Sto → Prop} : (mDnew b env st).Ok P ↔ P (.ref st.length) (st ++ [O.dct b []]) := Iff.rfl
theorem place_inj {w a b : Nat} (ha : a ∈ row rows w) (hb : b ∈ row rows w) (e : place rows w (some a) = place rows w (some b)) : a = b := by
  rw [place_row ha, place_row hb] at e
  have q1 := List.getElem_idxOf (List.idxOf_lt_length_of_mem ha)
  have q2 := List.getElem_idxOf (List.idxOf_lt_length_of_mem hb)
  rw [← q1, ← q2]
  congr 1
theorem held_none {hd : Held} {w : Nat} (h : (getK false (heldK hd) (nI w)).isSome = false) : ¬ w ∈ hd.map (·.1) := fun hin => by
  obtain ⟨p, hp, e⟩ := List.mem_map.mp hin
  rw [held_get] at h
  cases q : hd.find? (fun p => decide (p.1 = w)) with
  | none => exact absurd (decide_eq_true e) (List.find?_eq_none.mp q p hp)
  | some r => rw [q] at h; cases h
theorem held_some {hd : Held} {w : Nat} (h : (getK false (heldK hd) (nI w)).isSome = true) : ∃ m, (w, m) ∈ hd ∧ getK false (heldK hd) (nI w) = some (.v (nI m)) := by
  rw [held_get] at h ⊢
  cases q : hd.find? (fun p => decide (p.1 = w)) with
  | none => rw [q] at h; cases h
  | some r =>
    have h1 : r.1 = w := by simpa using List.find?_some q
    refine ⟨r.2, ?_, rfl⟩
    rw [← h1]
    exact List.mem_of_find?_eq_some q
end
end Fw.Da
namespace Fw.Da
open PySem PySem.Spec PyProof.Rows L2 Fw Fw.Hl
section
variable {rows : List (List Nat)} {ps qs μ ν : List (Nat × Nat)} {a b n i : Nat} {st : Sto}
theorem row_ok {p : Nat × Nat} (h : p.1 < 1000000 ∧ p.2 < 1000000) : RowOk 2 (r2 p) := by
  refine rowB_ok ?_
  unfold rowB
  rw [Bool.and_eq_true]
  refine ⟨rfl, List.all_eq_true.mpr fun m hm => decide_eq_true ?_⟩
  simp only [r2, List.mem_cons, List.not_mem_nil, or_false] at hm
  rcases hm with rfl | rfl
  · exact ⟨by omega, show (p.1 : Int) < 1000000 by omega⟩
  · exact ⟨by omega, show (p.2 : Int) < 1000000 by omega⟩
theorem r2_inj {p q : Nat × Nat} (h : r2 p = r2 q) : p = q := by
  unfold r2 at h
  simp only [List.cons.injEq, and_true] at h
  exact Prod.ext (by omega) (by omega)
theorem map_r2 : ∀ {l m : List (Nat × Nat)}, l.map r2 = m.map r2 → l = m
  | [], [], _ => rfl
  | [], _ :: _, h => nomatch h
  | _ :: _, [], h => nomatch h
  | a :: r, b :: s, h => by
    rw [List.map_cons, List.map_cons] at h
    have h1 := List.head_eq_of_cons_eq h
    have h2 := List.tail_eq_of_cons_eq h
    rw [r2_inj h1, map_r2 h2]
theorem sortP_eq (hp : ps.Perm qs) (h : ∀ p ∈ qs, p.1 < 1000000 ∧ p.2 < 1000000) : sortP ps = sortP qs := by
  apply map_r2
  rw [← sortP_map, ← sortP_map]
  have h1 : ∀ r ∈ qs.map r2, RowOk 2 r := fun r hr => by
    obtain ⟨p, hp, rfl⟩ := List.mem_map.mp hr
    exact row_ok (h p hp)
  have h2 : ∀ r ∈ ps.map r2, RowOk 2 r := fun r hr => h1 r ((hp.map r2).mem_iff.mp hr)
  exact sortR_uniq h1 ((sortR_perm _).trans (hp.map r2)) (sortR_sorted h2)
def Srt (ps : List (Nat × Nat)) : Prop := ps = sortP ps
theorem prs_bd (h : Prs n ps) (hn : n ≤ 50) : ∀ p ∈ ps, p.1 < 1000000 ∧ p.2 < 1000000 := fun p hp => by have := h.lt p hp; omega
theorem srt_same (hn : n ≤ 50) (h1 : Prs n ps) (h2 : Prs n qs) (s1 : Srt ps) (s2 : Srt qs) (h : ∀ p, p ∈ ps ↔ p ∈ qs) : ps = qs := by
  have nd : ∀ {l : List (Nat × Nat)}, Prs n l → l.Nodup := fun {l} hl => hl.far.imp fun {a b} hf e => hf.1 (by rw [e])
  have hperm : ps.Perm qs := (List.perm_ext_iff_of_nodup (nd h1) (nd h2)).mpr h
  rw [s1, s2]
  exact sortP_eq hperm (prs_bd h2 hn)
theorem prg_same (hn : rows.length ≤ 50) (h1 : Prg rows μ) (h2 : Prg rows ν) (s1 : Srt μ) (s2 : Srt ν) (h : ∀ a, partner μ a = partner ν a) : μ = ν := by
  have half : ∀ {μ ν : List (Nat × Nat)}, Prg rows μ → Prg rows ν → (∀ a, partner μ a = partner ν a) → ∀ p ∈ μ, p ∈ ν := fun {μ ν} h1 h2 h p hp => by
    have e : partner μ p.1 = some p.2 := (partner_iff h1.toPrs).mpr (.inl hp)
    rw [h] at e
    rcases (partner_iff h2.toPrs).mp e with e | e
    · exact e
    · have := (h1.lt p hp).1
      have := (h2.lt _ e).1
      have : p.2 < p.1 := this
      omega
  exact srt_same hn h1.toPrs h2.toPrs s1 s2 fun p => ⟨half h1 h2 h p, half h2 h1 (fun a => (h a).symm) p⟩
def more (rows : List (List Nat)) (a : Nat) (ps : List (Nat × Nat)) : List (List (Nat × Nat)) := if partner ps a = none then (((ups (a + 1) rows.length).filter (want rows a)).filter fun b => decide (partner ps b = none)).map fun b => sortP (ps ++ [(a, b)]) else []
end
end Fw.Da
namespace Fw.Da
open PySem PySem.Spec PyProof.Rows L2 Fw Fw.Hl
section
variable {rows : List (List Nat)} {ps qs μ ν : List (Nat × Nat)} {a b n i : Nat} {st : Sto}
theorem add_tupD {xs ys : List PyData} (h : xs.length + ys.length ≤ 1000000) : addD (.v (.tuple xs)) (.v (.tuple ys)) st = .ok (.v (.tuple (xs ++ ys))) st := by
  show (if xs.length + ys.length ≤ lim then Out.ok (D.v (.tuple (xs ++ ys))) st else .stuck) = _
  rw [if_pos (show xs.length + ys.length ≤ lim from h)]
end
end Fw.Da
namespace Fw.Aq
open PySem PySem.Spec PyProof.Rows L2 Fw Fw.Hl Fw.Da
section
variable {rows : List (List Nat)} {S lot : List Nat} {a b m w n k : Nat} {st : Sto} {ask : Nat → Nat} {hd : Held} {sd : Nat → Bool} {side : Bool}
def asks (rows : List (List Nat)) (lot : List Nat) (side : Bool) : List Nat := (List.range rows.length).filter fun a => decide (a ∈ lot) == side
def holder (hd : Held) (a : Nat) : Option Nat := ((hd.filter fun p => decide (p.2 = a)).map (·.1)).head?
def freeOf (rows : List (List Nat)) (S : List Nat) (ask : Nat → Nat) (hd : Held) : List Nat := S.filter fun a => decide (ask a < (wr rows a).length) && (holder hd a).isNone
def put (rows : List (List Nat)) (hd : Held) (b a : Nat) : Held := match hd.find? fun p => decide (p.1 = b) with
  | none => hd ++ [(b, a)]
  | some p => if rather rows b a (some p.2) then swap hd b a else hd
theorem put_none (q : (hd.find? fun p => decide (p.1 = b)) = none) : put rows hd b a = hd ++ [(b, a)] := by unfold put; rw [q]
theorem put_some {p : Nat × Nat} (q : (hd.find? fun p => decide (p.1 = b)) = some p) : put rows hd b a = if rather rows b a (some p.2) then swap hd b a else hd := by unfold put; rw [q]
end
end Fw.Aq
namespace Fw.Aq
open PySem PySem.Spec PyProof.Rows L2 Fw Fw.Hl Fw.Da
structure AS where
  ask : Nat → Nat
  hd : Held
  out : List (Nat × Nat)
def AS0 : AS := ⟨fun _ => 0, [], []⟩
def nxt (rows : List (List Nat)) (S : List Nat) (s : AS) : Option AS := match freeOf rows S s.ask s.hd with
  | [] => none
  | a :: _ => match (wr rows a)[s.ask a]? with
    | none => none
    | some b => some ⟨inc s.ask a, put rows s.hd b a, s.out ++ [(a, b)]⟩
inductive Fin (rows : List (List Nat)) (S : List Nat) : AS → AS → Prop
  | done {s : AS} : nxt rows S s = none → Fin rows S s s
  | step {s u t : AS} : nxt rows S s = some u → Fin rows S u t → Fin rows S s t
section
variable {rows : List (List Nat)} {S lot : List Nat} {a b m w n k : Nat} {st : Sto} {ask : Nat → Nat} {hd : Held} {sd : Nat → Bool} {side : Bool} {free : List Nat} {s t u : AS}
theorem fin_end (h : Fin rows S s t) : nxt rows S t = none := by
  induction h with
  | done e => exact e
  | step _ _ ih => exact ih
theorem perm_st {f2 : List Nat} (h : St rows S ask hd free) (p : f2.Perm free) : St rows S ask hd f2 :=
  ⟨h.keys, p.nodup_iff.mpr h.fnd, fun hm => h.fin (p.mem_iff.mp hm), fun hh => let ⟨h1, h2, h3, h4⟩ := h.held hh; ⟨h1, fun z => h2 (p.mem_iff.mp z), h3, h4⟩, fun hm hn => h.done hm fun z => hn (p.mem_iff.mpr z), h.le, h.asked, h.opt⟩
theorem holder_none : (holder hd a).isNone = true ↔ ∀ w, ¬ (w, a) ∈ hd := by
  unfold holder
  rw [Option.isNone_iff_eq_none, List.head?_eq_none_iff, List.map_eq_nil_iff, List.filter_eq_nil_iff]
  constructor
  · intro h w hw
    exact h _ hw (decide_eq_true rfl)
  · rintro h ⟨w, m⟩ hp e
    have e : m = a := of_decide_eq_true e
    subst e
    exact h w hp
theorem mem_free : a ∈ freeOf rows S ask hd ↔ a ∈ S ∧ ask a < (wr rows a).length ∧ ∀ w, ¬ (w, a) ∈ hd := by
  unfold freeOf
  rw [List.mem_filter, Bool.and_eq_true, decide_eq_true_eq, holder_none]
theorem norm_st (nd : S.Nodup) (h : St rows S ask hd free) : St rows S ask hd (freeOf rows S ask hd) := by
  refine ⟨h.keys, nd.filter _, fun hm => (mem_free.mp hm).1, fun {w m} hh => ?_, fun {m} hm hn => ?_, h.le, h.asked, h.opt⟩
  · obtain ⟨h1, _, h3, h4⟩ := h.held hh
    exact ⟨h1, fun z => (mem_free.mp z).2.2 w hh, h3, h4⟩
  · by_cases c : ∃ w, (w, m) ∈ hd
    · exact .inl c
    · refine .inr (Nat.le_of_not_lt fun hlt => hn (mem_free.mpr ⟨hm, hlt, fun w hw => c ⟨w, hw⟩⟩))
def Good (rows : List (List Nat)) (S : List Nat) (s : AS) : Prop := St rows S s.ask s.hd (freeOf rows S s.ask s.hd)
def left (rows : List (List Nat)) (S : List Nat) (s : AS) : Nat := (S.map fun a => (wr rows a).length - s.ask a).sum
theorem good0 (nd : S.Nodup) : Good rows S AS0 := norm_st nd (start nd)
theorem put_good (T : Two rows sd S) {r : List Nat} (h : St rows S ask hd (r ++ [a])) (hw : (wr rows a)[ask a]? = some b) : St rows S (inc ask a) (put rows hd b a) (freeOf rows S (inc ask a) (put rows hd b a)) := by
  have A : Ask rows S ask hd r a b := ⟨h, hw⟩
  have hrow := want_row (mem_wr.mp (List.mem_of_getElem? hw))
  cases q : hd.find? fun p => decide (p.1 = b) with
  | none =>
    rw [put_none q]
    refine norm_st T.nd (take_new T A fun m hm => ?_)
    exact absurd (decide_eq_true rfl) (List.find?_eq_none.mp q _ hm)
  | some p =>
    obtain ⟨w, x⟩ := p
    have hp1 : w = b := by simpa using List.find?_some q
    subst hp1
    have hh := List.mem_of_find?_eq_some q
    rw [put_some q]
    have hwx : want rows x w = true := mem_wr.mp (List.mem_of_getElem? (h.held hh).2.2.2)
    have hhr := want_row hwx
    by_cases e : rather rows w a (some x) = true
    · rw [if_pos e]
      exact norm_st T.nd (take_better T A hh ((rather_iff hrow.2).mp e))
    · rw [if_neg e]
      have hne : a ≠ x := fun z => (h.held hh).2.1 (z ▸ List.mem_append_right _ (List.mem_singleton_self _))
      have hnlt : ¬ place rows w (some a) < place rows w (some x) := fun z => e ((rather_iff hrow.2).mpr z)
      exact norm_st T.nd (keep T A hh (Nat.lt_of_le_of_ne (Nat.le_of_not_lt hnlt) fun z => hne (place_inj hhr.2 hrow.2 z).symm))
theorem nxt_at {r : List Nat} (hf : freeOf rows S s.ask s.hd = a :: r) (hw : (wr rows a)[s.ask a]? = some b) : nxt rows S s = some ⟨inc s.ask a, put rows s.hd b a, s.out ++ [(a, b)]⟩ := by
  unfold nxt
  rw [hf]
  show (match (wr rows a)[s.ask a]? with
    | none => none
    | some b => some (⟨inc s.ask a, put rows s.hd b a, s.out ++ [(a, b)]⟩ : AS)) = _
  rw [hw]
theorem nxt_some (h : nxt rows S s = some t) : ∃ a r b, freeOf rows S s.ask s.hd = a :: r ∧ (wr rows a)[s.ask a]? = some b ∧ t = ⟨inc s.ask a, put rows s.hd b a, s.out ++ [(a, b)]⟩ := by
  unfold nxt at h
  split at h
  · cases h
  · rename_i a r e
    split at h
    · cases h
    · rename_i b e2
      exact ⟨a, r, b, e, e2, (Option.some.inj h).symm⟩
theorem nxt_good (T : Two rows sd S) (g : Good rows S s) (h : nxt rows S s = some t) : Good rows S t := by
  obtain ⟨a, r, b, hf, hw, rfl⟩ := nxt_some h
  unfold Good at g
  rw [hf] at g
  exact put_good T (perm_st g (List.perm_append_singleton a r)) hw
theorem left_lt (nd : S.Nodup) (ha : a ∈ S) (hlt : ask a < (wr rows a).length) : (S.map fun b => (wr rows b).length - inc ask a b).sum < (S.map fun b => (wr rows b).length - ask b).sum :=
  sum_step (f := fun b => (wr rows b).length - inc ask a b) (g := fun b => (wr rows b).length - ask b) nd ha (by show _ - inc ask a a < _; rw [inc_same]; omega) (fun b hb => by show _ - inc ask a b = _; rw [inc_ne hb])
theorem fin_good (T : Two rows sd S) (h : Fin rows S s t) : Good rows S s → Good rows S t := by
  induction h with
  | done _ => exact id
  | step e _ ih => exact fun g => ih (nxt_good T g e)
theorem fin_free (T : Two rows sd S) (h : Fin rows S AS0 t) : St rows S t.ask t.hd [] := by
  have g := fin_good T h (good0 T.nd)
  have e := fin_end h
  have hn : freeOf rows S t.ask t.hd = [] := by
    cases q : freeOf rows S t.ask t.hd with
    | nil => rfl
    | cons a r =>
      have hm := mem_free.mp (show a ∈ freeOf rows S t.ask t.hd by rw [q]; exact List.mem_cons_self)
      have := nxt_at (s := t) q (List.getElem?_eq_getElem hm.2.1)
      rw [e] at this
      cases this
  unfold Good at g
  rw [hn] at g
  exact g
def ast (st : Sto) (F : List PyData) (B A : List (PyData × D)) : Sto := st ++ [O.lst F, O.dct false B, O.dct false A]
variable {A A' B B' : List (PyData × D)} {F F' : List PyData} {more : Sto}
theorem a1 : (ast st F B A ++ more)[st.length + 1]? = some (O.dct false B) := by unfold ast; rw [List.append_assoc, List.getElem?_append_right (by omega), show st.length + 1 - st.length = 1 by omega]; rfl
theorem a2 : (ast st F B A ++ more)[st.length + 2]? = some (O.dct false A) := by unfold ast; rw [List.append_assoc, List.getElem?_append_right (by omega), show st.length + 2 - st.length = 2 by omega]; rfl
end
end Fw.Aq
namespace Fw.Aq
open PySem PySem.Spec PyProof.Rows L2 Fw Fw.Hl Fw.Da
section
variable {rows : List (List Nat)} {S lot : List Nat} {a b m w n k : Nat} {st : Sto} {ps qs μ ν : List (Nat × Nat)}
end
end Fw.Aq
namespace Fw.Aq
open PySem PySem.Spec PyProof.Rows L2 Fw Fw.Hl Fw.Da
section
variable {rows : List (List Nat)} {S lot : List Nat} {a b m w n k : Nat} {st : Sto} {ps qs μ ν : List (Nat × Nat)} {c o : Option Nat}
theorem enum_at {xs : List PyData} {F : Nat → PyData} (h : ∀ i, i < xs.length → xs[i]? = some (F i)) : enumI xs = (List.range xs.length).map fun i : Nat => Itm.many [.v (nI i), .v (F i)] := by
  refine List.ext_getElem? fun i => ?_
  unfold enumI
  rw [List.getElem?_map, List.getElem?_zipIdx, List.getElem?_map]
  by_cases hi : i < xs.length
  · rw [h i hi, List.getElem?_range hi]
    simp
  · rw [List.getElem?_eq_none (by omega), List.getElem?_eq_none (by rw [List.length_range]; omega)]
    rfl
theorem enum_rows : enumI (rows.map tNs) = (List.range rows.length).map fun i : Nat => Itm.many [.v (nI i), .v (tNs (row rows i))] := by
  have h := enum_at (xs := rows.map tNs) (F := fun i => tNs (row rows i)) fun i hi => by
    rw [List.length_map] at hi
    rw [List.getElem?_map, List.getElem?_eq_getElem hi]
    unfold row
    rw [List.getD_eq_getElem?_getD, List.getElem?_eq_getElem hi]
    rfl
  rw [List.length_map] at h
  exact h
def InR (rows : List (List Nat)) (a : Nat) (c : Option Nat) : Prop := ∀ v, c = some v → v ∈ row rows a
theorem idx_last {l : List Nat} (h : b ∈ l) : idxP (nI b) (l.map nI ++ [.none]) = some (l.idxOf b) := by
  induction l with
  | nil => cases h
  | cons a r ih =>
    rw [List.map_cons, List.cons_append]
    unfold idxP
    rw [eqv_nat]
    by_cases e : a = b
    · subst e
      simp
    · have hb : b ∈ r := (List.mem_cons.mp h).resolve_left fun z => e z.symm
      rw [if_neg (by simpa using e), ih hb, List.idxOf_cons]
      have e2 : (a == b) = false := by simpa using e
      rw [e2]
      rfl
theorem idx_none {l : List Nat} : idxP .none (l.map nI ++ [.none]) = some l.length := by
  induction l with
  | nil => rfl
  | cons a r ih =>
    rw [List.map_cons, List.cons_append]
    unfold idxP
    rw [ih]
    rfl
theorem flat_last {l : List Nat} : (l.map nI ++ [PyData.none]).all flatP = true := by rw [List.all_append, flat_nats]; rfl
theorem index_last (h : InR rows a c) : fmIndex (.v (.list ((row rows a).map nI ++ [.none]))) [.v (optD c)] st = .ok (.v (nI (place rows a c))) st := by
  show (if flatP (optD c) && ((row rows a).map nI ++ [PyData.none]).all flatP then _ else _ : Out D) = _
  have e : (flatP (optD c) && ((row rows a).map nI ++ [PyData.none]).all flatP) = true := by rw [flat_last]; cases c <;> rfl
  rw [if_pos e]
  cases c with
  | none =>
    show (match idxP .none ((row rows a).map nI ++ [.none]) with
      | some j => Out.ok (D.v (.int (j : Nat))) st
      | none => _) = _
    rw [idx_none]
    rfl
  | some v =>
    show (match idxP (nI v) ((row rows a).map nI ++ [.none]) with
      | some j => Out.ok (D.v (.int (j : Nat))) st
      | none => _) = _
    rw [idx_last (h v rfl), place_row (h v rfl)]
end
end Fw.Aq
namespace Fw.Aq
open PySem PySem.Spec PyProof.Rows L2 Fw Fw.Hl Fw.Da
section
variable {rows : List (List Nat)} {S lot : List Nat} {a b m w n k : Nat} {st : Sto} {ps qs μ ν : List (Nat × Nat)} {c o : Option Nat}
theorem rep_hall (H : Hall rows) (hn : rows.length ≤ 50) : Rep (hallD rows) (2 * (50 * (50 + 1) + 1)) 3 := by
  have r1 : ∀ x ∈ rows.map tNs, Rep x 50 1 := fun x hx => by
    obtain ⟨l, hl, rfl⟩ := List.mem_map.mp hx
    obtain ⟨i, hi, rfl⟩ := List.getElem_of_mem hl
    have e : row rows i = rows[i] := by
      unfold row
      rw [List.getD_eq_getElem?_getD, List.getElem?_eq_getElem hi]
      rfl
    rw [← e]
    refine rep_tNs (fun k hk => ?_) ?_
    · have := (H.mem hk).1
      omega
    · exact Nat.le_trans (row_len H) hn
  have r2 := rep_tup r1 (w' := 50) (by rw [List.length_map]; exact hn)
  exact rep_tup (w' := 2) (fun x hx => by
    simp only [List.mem_cons, List.not_mem_nil, or_false] at hx
    rcases hx with rfl | rfl
    · exact rep_int (by omega)
    · exact r2) (Nat.le_refl _)
end
end Fw.Aq
namespace Fw.Aq
open PySem PySem.Spec PyProof.Rows L2 Fw Fw.Hl Fw.Da
section
variable {rows : List (List Nat)} {S lot : List Nat} {a b m w n k : Nat} {st : Sto} {ps qs μ ν : List (Nat × Nat)} {c o : Option Nat} {side : Bool} {t : AS}
def go (rows : List (List Nat)) (S : List Nat) : Nat → AS → AS
  | 0, s => s
  | k + 1, s => match nxt rows S s with
    | none => s
    | some u => go rows S k u
theorem row_out (h : ¬ a < rows.length) : row rows a = [] := by
  unfold row
  rw [List.getD_eq_getElem?_getD, List.getElem?_eq_none (by omega)]
  rfl
end
end Fw.Aq
namespace Fw.Aq
open PySem PySem.Spec PyProof.Rows L2 Fw Fw.Hl Fw.Da
section
variable {rows : List (List Nat)} {S lot : List Nat} {a b m w n k : Nat} {st : Sto} {ps qs μ ν L O : List (Nat × Nat)} {c o : Option Nat} {side : Bool} {t : AS}
def bs (lot : List Nat) (L O : List (Nat × Nat)) (a : Nat) : Option Nat := if a ∈ lot then partner L a else partner O a
def ws (lot : List Nat) (L O : List (Nat × Nat)) (a : Nat) : Option Nat := if a ∈ lot then partner O a else partner L a
def okA (rows : List (List Nat)) (lot : List Nat) (L O μ : List (Nat × Nat)) (a : Nat) : Prop := place rows a (bs lot L O a) ≤ place rows a (partner μ a) ∧ place rows a (partner μ a) ≤ place rows a (ws lot L O a)
instance : Decidable (okA rows lot L O μ a) := by unfold okA; infer_instance
end
end Fw.Aq
namespace Fw.Aq
open PySem PySem.Spec PyProof.Rows L2 Fw Fw.Hl Fw.Da
section
variable {rows : List (List Nat)} {S lot : List Nat} {a b m w n k : Nat} {st : Sto} {ps qs μ ν L O : List (Nat × Nat)} {c o : Option Nat} {side : Bool} {t : AS}
abbrev Up (ps : List (Nat × Nat)) : Prop := ps.Pairwise fun p q => p.1 < q.1
theorem sortP_up (h : Up ps) : sortP ps = ps := by
  induction ps with
  | nil => rfl
  | cons p r ih =>
    obtain ⟨h1, h2⟩ := List.pairwise_cons.mp h
    show insP p (sortP r) = p :: r
    rw [ih h2]
    cases r with
    | nil => rfl
    | cons q t =>
      have := h1 q List.mem_cons_self
      show (if lexLe (r2 p) (r2 q) = true then p :: q :: t else q :: insP p t) = _
      rw [if_pos]
      unfold r2 lexLe
      simp
      omega
theorem rep_opt {w k : Nat} (h : ∀ v, c = some v → v < 10 ^ 12) : Rep (optD c) w k := by
  cases c with
  | none => exact rep_none
  | some v => exact rep_int (by have := h v rfl; omega)
theorem rep_prs (h : Prs n ps) (hn : n ≤ 50) : Rep (pairsD ps) (50 * (2 + 1)) 2 := by
  refine rep_tup (fun x hx => ?_) (by rw [List.length_map]; have := h.len; omega)
  obtain ⟨p, hp, rfl⟩ := List.mem_map.mp hx
  refine rep_tNs (fun k hk => ?_) (Nat.le_refl _)
  have := h.lt p hp
  simp only [List.mem_cons, List.not_mem_nil, or_false] at hk
  omega
end
end Fw.Aq
namespace Fw.An
open PySem PySem.Spec PyProof.Rows L2 Fw Fw.Hl Fw.Da Fw.Aq
inductive AV (B : Nat) : PyData → Prop
  | non : AV B .none
  | bl (b : Bool) : AV B (.bool b)
  | int (i : Int) (h : i.natAbs ≤ B) : AV B (.int i)
  | str (x : Str) (h : (x.cps.toList.all fun c => decide (c < 16 ^ 8)) = true) : AV B (.str x)
  | lst (xs : List PyData) (h : ∀ x ∈ xs, AV B x) : AV B (.list xs)
  | tup (xs : List PyData) (h : ∀ x ∈ xs, AV B x) : AV B (.tuple xs)
  | dct : AV B (.dict [])
section
variable {B C w k w' k' : Nat} {d : PyData} {xs ys : List PyData} {st : Sto}
theorem AV.mono (h : AV B d) (hc : B ≤ C) : AV C d := by
  induction h with
  | non => exact .non
  | bl b => exact .bl b
  | int i h => exact .int i (Nat.le_trans h hc)
  | str x h => exact .str x h
  | lst xs h ih => exact .lst xs ih
  | tup xs h ih => exact .tup xs ih
  | dct => exact .dct
theorem AV.all (h : AV B (.tuple xs)) : ∀ x ∈ xs, AV B x := by cases h with | tup _ h => exact h
theorem AV.ok (h : AV B d) (hB : B < 10 ^ 38) : kOk d = true ∧ d.showable = true ∧ d.leavesShort 40 = true ∧ tyB d = true := by
  have all : ∀ xs : List PyData, (∀ x ∈ xs, kOk x = true ∧ x.showable = true ∧ x.leavesShort 40 = true ∧ tyB x = true) → kOkA xs = true ∧ PyData.showableAll xs = true ∧ PyData.leavesShortAll 40 xs = true := fun xs => by
    induction xs with
    | nil => intro _; exact ⟨rfl, rfl, rfl⟩
    | cons x r ih =>
      intro h
      obtain ⟨a, b, c⟩ := ih fun y hy => h y (List.mem_cons_of_mem _ hy)
      obtain ⟨a1, b1, c1, _⟩ := h x List.mem_cons_self
      exact ⟨by rw [kOkA, a1, a]; rfl, by rw [PyData.showableAll, b1, b]; rfl, by rw [PyData.leavesShortAll, c1, c]; rfl⟩
  induction h with
  | non => exact ⟨rfl, rfl, rfl, rfl⟩
  | bl b => exact ⟨rfl, rfl, rfl, rfl⟩
  | int i h =>
    refine ⟨rfl, ?_, ?_, rfl⟩
    · rw [PyData.showable, decide_eq_true_eq]
      by_cases h0 : i.natAbs = 0
      · rw [h0]; decide
      · have h2 : i.natAbs < 2 ^ 200 := Nat.lt_of_le_of_lt h (Nat.lt_trans hB (by decide))
        have := (Nat.log2_lt h0 (k := 200)).mpr h2
        omega
    · rw [PyData.leavesShort, decide_eq_true_eq]
      have e := int_text_length_le10 (k := 38) (by decide) (show i.natAbs < 10 ^ 38 by omega)
      show (Str.ofString (toString i)).length ≤ 40
      rw [PySem.ofString_length]
      omega
  | str x h => exact ⟨rfl, rfl, by rw [PyData.leavesShort]; exact h, rfl⟩
  | lst xs h ih =>
    obtain ⟨a, b, c⟩ := all xs ih
    exact ⟨by rw [kOk]; exact a, by rw [PyData.showable]; exact b, by rw [PyData.leavesShort]; exact c, rfl⟩
  | tup xs h ih =>
    obtain ⟨a, b, c⟩ := all xs ih
    exact ⟨by rw [kOk]; exact a, by rw [PyData.showable]; exact b, by rw [PyData.leavesShort]; exact c, rfl⟩
  | dct => exact ⟨rfl, rfl, rfl, rfl⟩
structure An (B w k : Nat) (d : PyData) : Prop where
  av : AV B d
  bulk : d.bulk ≤ w
  dep : d.depth ≤ k
theorem An.mono (h : An B w k d) (h1 : w ≤ w') (h2 : k ≤ k') (h3 : B ≤ C) : An C w' k' d := ⟨h.av.mono h3, Nat.le_trans h.bulk h1, Nat.le_trans h.dep h2⟩
theorem An.repr (h : An B w k d) (hB : B < 10 ^ 38 := by decide) (hw : w ≤ 20000 := by decide) (hk : k ≤ 60 := by decide) : fReprM [.v d] st = .ok (.v (.str d.shown)) st := by
  obtain ⟨a, b, c, _⟩ := h.av.ok hB
  have hl := PyData.shown_le_bulk 40 (by decide) d c
  have h1 := h.bulk
  show (if kOk d && d.showable && decide (d.depth ≤ 60) && decide (d.shown.length ≤ lim) then Out.ok (D.v (.str d.shown)) st else fReprK [.v d] st) = _
  rw [if_pos]
  simp only [Bool.and_eq_true, decide_eq_true_eq]
  refine ⟨⟨⟨a, b⟩, Nat.le_trans h.dep hk⟩, ?_⟩
  show _ ≤ 1000000
  omega
theorem An.ty (h : AV B d) (hB : B < 10 ^ 38 := by decide) : tyB d = true := (h.ok hB).2.2.2
theorem depA_le {k : Nat} : ∀ {xs : List PyData}, (∀ x ∈ xs, x.depth ≤ k) ↔ PyData.depthAll xs ≤ k
  | [] => by simp [PyData.depthAll]
  | x :: r => by
    rw [PyData.depthAll, Nat.max_le, ← depA_le (xs := r)]
    simp
theorem bulkA_len : ∀ xs : List PyData, xs.length ≤ PyData.bulkAll xs
  | [] => Nat.zero_le _
  | x :: r => by
    have := bulkA_len r
    rw [PyData.bulkAll, List.length_cons]
    omega
theorem bulk_tup : (PyData.tuple xs).bulk = PyData.bulkAll xs := by rw [PyData.bulk]
theorem dep_tup : (PyData.tuple xs).depth = PyData.depthAll xs + 1 := by rw [PyData.depth]
theorem An.tup (h : ∀ x ∈ xs, AV B x ∧ x.depth ≤ k) (hb : PyData.bulkAll xs ≤ w) : An B w (k + 1) (.tuple xs) :=
  ⟨.tup xs fun x hx => (h x hx).1, by rw [bulk_tup]; exact hb, by rw [dep_tup]; exact Nat.succ_le_succ (depA_le.mp fun x hx => (h x hx).2)⟩
theorem An.parts (h : An B w k (.tuple xs)) : ∀ x ∈ xs, AV B x ∧ x.depth + 1 ≤ k := fun x hx => by
  have h1 := h.dep
  rw [dep_tup] at h1
  exact ⟨h.av.all x hx, by have := depA_le.mpr (Nat.le_refl (PyData.depthAll xs)) x hx; omega⟩
theorem An.len (h : An B w k (.tuple xs)) : xs.length ≤ w := by
  have := h.bulk
  rw [bulk_tup] at this
  exact Nat.le_trans (bulkA_len xs) this
end
section
variable {rest : Sto}
end
section
variable {B w k w' : Nat} {xs ys : List PyData} {st : Sto} {G : List (Nat × Nat)}
theorem bulkA_sub (h : ys.Sublist xs) : PyData.bulkAll ys ≤ PyData.bulkAll xs := by
  induction h with
  | slnil => exact Nat.le_refl _
  | cons a _ ih => rw [PyData.bulkAll]; omega
  | cons_cons a _ ih => rw [PyData.bulkAll, PyData.bulkAll]; omega
theorem bulkA_perm (h : ys.Perm xs) : PyData.bulkAll ys = PyData.bulkAll xs := by
  induction h with
  | nil => rfl
  | cons a _ ih => rw [PyData.bulkAll, PyData.bulkAll, ih]
  | swap a b l => rw [PyData.bulkAll, PyData.bulkAll, PyData.bulkAll, PyData.bulkAll]; omega
  | trans _ _ i j => exact i.trans j
theorem An.mk2 (h : An B w k (.tuple xs)) (hm : ∀ x ∈ ys, x ∈ xs) (hb : PyData.bulkAll ys ≤ w') : An B w' k (.tuple ys) := by
  cases k with
  | zero => have := h.dep; rw [dep_tup] at this; exact absurd this (Nat.not_succ_le_zero _)
  | succ k =>
    refine An.tup (fun x hx => ?_) hb
    obtain ⟨a, b⟩ := h.parts x (hm x hx)
    exact ⟨a, by omega⟩
theorem An.sub (h : An B w k (.tuple xs)) (hs : ys.Sublist xs) : An B w k (.tuple ys) := h.mk2 (fun _ hx => hs.mem hx) (by have := h.bulk; rw [bulk_tup] at this; exact Nat.le_trans (bulkA_sub hs) this)
theorem An.perm (h : An B w k (.tuple xs)) (hs : ys.Perm xs) : An B w k (.tuple ys) := h.mk2 (fun _ hx => hs.mem_iff.mp hx) (by have := h.bulk; rw [bulk_tup] at this; rw [bulkA_perm hs]; exact this)
theorem An.lst (h : An B w k (.tuple xs)) : An B w k (.list xs) := ⟨.lst xs h.av.all, by rw [PyData.bulk]; have := h.bulk; rw [bulk_tup] at this; exact this, by rw [PyData.depth]; have := h.dep; rw [dep_tup] at this; exact this⟩
end
section
variable {st : Sto}
theorem ok_fSl {m : ME} {lo hi : MO} {env : Ev} {P : List PyData → Sto → Prop} : (mfSl m lo hi env st).Ok P ↔ (m env st).Ok fun a s1 => (lo env s1).Ok fun l s2 => (hi env s2).Ok fun h s3 => ∃ xs, viewL s3 a = some xs ∧ P (cutP xs l h) s3 := by
  unfold mfSl
  rw [ok_bind]
  have e : ∀ a l h s3, (match viewL s3 a with
      | some xs => Out.ok (cutP xs l h) s3
      | none => .stuck).Ok P ↔ ∃ xs, viewL s3 a = some xs ∧ P (cutP xs l h) s3 := fun a l h s3 => by
    cases viewL s3 a with
    | none => exact ⟨fun z => z.elim, fun ⟨_, z, _⟩ => nomatch z⟩
    | some xs => exact ⟨fun z => ⟨xs, rfl, z⟩, fun ⟨_, z, q⟩ => by cases z; exact q⟩
  constructor
  · intro z
    refine z.mono fun a s1 q => ?_
    rw [ok_bind] at q
    refine q.mono fun l s2 q => ?_
    rw [ok_bind] at q
    exact q.mono fun h s3 q => (e a l h s3).mp q
  · intro z
    refine z.mono fun a s1 q => ?_
    rw [ok_bind]
    refine q.mono fun l s2 q => ?_
    rw [ok_bind]
    exact q.mono fun h s3 q => (e a l h s3).mpr q
end
section
variable {rows : List (List Nat)} {st : Sto} {B : Nat} {x : PyData} {xs : List PyData}
theorem lcL_auto {α : Type} {g : MG} {t : MT} {m : ME} {env0 : Ev} {f : α → Itm} (p : α → Bool) (F : α → PyData) (l : List α) (h : ∀ a ∈ l, (g (f a) env0 st).Ok fun e1 s1 => s1 = st ∧ (t e1 st).Ok fun k s2 => s2 = st ∧ k = p a ∧ (p a = true → (m e1 st).Ok fun v s3 => s3 = st ∧ v = .v (F a))) :
    lcL none g t m env0 (l.map f) st = .ok ((l.filter p).map F) st := by
  rw [lcL_mapA f (fun a => if p a = true then some (F a) else none), fm_filter]
  intro a ha
  refine (h a ha).mono ?_
  rintro e1 s1 ⟨rfl, h⟩
  refine ⟨rfl, h.mono ?_⟩
  rintro k s2 ⟨rfl, rfl, h⟩
  refine ⟨rfl, fun hk => (h hk).mono ?_, fun hk => by rw [if_neg (by rw [hk]; exact Bool.false_ne_true)]⟩
  rintro v s3 ⟨rfl, rfl⟩
  exact ⟨rfl, _, rfl, by rw [if_pos hk]⟩
end
end Fw.An
namespace Fw.Tl
open PySem PySem.Spec PyProof.Rows L2 Fw Fw.Hl Fw.Da
section
variable {rows : List (List Nat)} {S : List Nat} {sd : Nat → Bool} {st : Sto} {a b m w n : Nat} {ask : Nat → Nat} {hd : Held} {free : List Nat}
def key2 (a b : Nat) : NestedKey := .tup [.num a, .num b]
theorem keyP_pr : keyP (.tuple [nI a, nI b]) = some (key2 a b) := by
  simp [keyP, keyN, keyNA, key2, NestedKey.depth, NestedKey.depthAll]
theorem key2_inj {a' b' : Nat} (h : key2 a b = key2 a' b') : a = a' ∧ b = b' := by
  unfold key2 at h
  simp at h
  omega
theorem tabS_at' {kvs : List (PyData × D)} (h : st[n]? = some (.tab kvs)) : tabS st (.ref n) = some (n, kvs) := by
  unfold tabS
  simp only [h]
theorem kOf_pr : kOf (.v (.tuple [nI a, nI b])) = some (.tuple [nI a, nI b], key2 a b) := by
  unfold kOf
  simp only [keyP_pr]
theorem notInT_pr {kvs : List (PyData × D)} (h : st[n]? = some (.tab kvs)) : notInT (.v (.tuple [nI a, nI b])) (.ref n) st = .ok (.v (.bool (!hasK kvs (key2 a b)))) st := by
  unfold notInT
  simp only [tabS_at' h, kOf_pr]
theorem setT_pr {kvs : List (PyData × D)} {z : PyData} (h : st[n]? = some (.tab kvs)) (hl : kvs.length < 1000000) : setT (.ref n) (.v (.tuple [nI a, nI b])) (.v z) st = .ok () (st.set n (.tab (putKT kvs (.tuple [nI a, nI b]) (key2 a b) (.v z)))) := by
  unfold setT
  simp only [tabS_at' h, kOf_pr]
  exact if_pos ⟨hl, rfl⟩
theorem has_put {kvs : List (PyData × D)} {kd : PyData} {k k' : NestedKey} {d : D} (hk : keyP kd = some k) : hasK (putKT kvs kd k d) k' = (hasK kvs k' || decide (k = k')) := by
  unfold putKT
  split
  · rename_i h
    have e : hasK (kvs.map fun p => if keyP p.1 = some k then (p.1, d) else p) k' = hasK kvs k' := by
      unfold hasK
      rw [List.any_map]
      congr 1
      funext p
      show decide (keyP (if keyP p.1 = some k then (p.1, d) else p).1 = some k') = _
      split <;> rfl
    rw [e]
    by_cases z : k = k'
    · subst z
      rw [h]
      rfl
    · rw [decide_eq_false z, Bool.or_false]
  · unfold hasK
    rw [List.any_append, List.any_cons, List.any_nil, Bool.or_false, hk]
    congr 1
    exact decide_eq_decide.mpr ⟨fun z => Option.some.inj z, fun z => congrArg some z⟩
theorem put_len {kvs : List (PyData × D)} {kd : PyData} {k : NestedKey} {d : D} : (putKT kvs kd k d).length ≤ kvs.length + 1 := by
  unfold putKT
  split
  · rw [List.length_map]; omega
  · rw [List.length_append]; exact Nat.le_refl _
structure Sent (rows : List (List Nat)) (ask : Nat → Nat) (hd : Held) (T : List (PyData × D)) : Prop where
  iff : ∀ m w, hasK T (key2 m w) = true ↔ ∃ j, j < ask m ∧ (wr rows m)[j]? = some w ∧ ¬ (w, m) ∈ hd
theorem asked_next_eq {T : List (PyData × D)} (H : Hall rows) (ha : a < rows.length) (h : st[n]? = some (.tab T)) :
    LH.f_asked_next [.v (hallD rows), .ref n, .v (nI a)] st = .ok (.v (lNs ((wr rows a).filter fun b => !hasK T (key2 a b)))) st := by
  refine Out.Ok.is (fnT_ok ?_)
  unfold LH.S_asked_next LH.asked_next_E1
  simp only [envE, so_seq, so_if, so_ret, so_retN, so_exp, so_nil, so_nx, so_rt, so_asg, so_asgG, so_par2, so_par3, ok_gNm, ok_gMore, ok_gNone, so_asgT, so_sub, so_for, ok_TB, ok_Tru, ok_notT, ok_andT, ok_orT, ok_andV, ok_orV, ok_notV, ok_iteE, ok_frz, ok_new, ok_mfArg, ok_mfBin, ok_lc, ok_M, ok_M0, ok_moNone, ok_moSome, ok_Sl,
  ok_bin, ok_un, ok_arg, ok_cons, ok_nil, ok_call, ok_var, ok_C, ok_ok, ok_stuck, ok_noX, bOf_bool, low_v, iOf_int, addD_int, subD_int, negD_int, ltD_int, leD_int, gtD_int, geD_int, fInt_int, isD_bool, isNotD_bool, tru_bool, List.map_cons, List.map_nil, List.length_cons, List.length_nil, List.replicate_succ, List.replicate_zero, List.cons_append, List.nil_append,
  List.append_nil, List.getElem?_cons_zero, List.getElem?_cons_succ, List.set_cons_zero, List.set_cons_succ, Option.some.injEq, exists_eq_left', exists_eq_left, true_and, and_true, true_implies, false_implies, implies_true, Bool.false_eq_true, reduceCtorEq, false_and, and_false, D.v.injEq, PyData.int.injEq, D.ref.injEq, p1i_int, p2_two, p3_three, decide_true, Bool.not_true, Bool.not_false, decide_eq_true_eq, decide_eq_false_iff_not, ok_seq, hall1, hall_row ha, seqW_tup, List.map_map]
  rw [lcL_mapA _ (fun b : Nat => if (want rows a b && !hasK T (key2 a b)) = true then some (nI b) else none), fm_filter]
  rotate_left
  · intro b hb
    have hb2 := (H.mem hb).1
    unfold LH.asked_next_G1 LH.asked_next_T1 LH.asked_next_M1
    show (gNm 3 (.one (.v (nI b))) _ _).Ok _
    have hw : ∀ s, LH.f_do_want [.v (hallD rows), .v (nI a), .v (nI b)] s = .ok (.v (.bool (want rows a b))) s := fun s => want_eq ha hb2
    simp only [envE, so_seq, so_if, so_ret, so_retN, so_exp, so_nil, so_nx, so_rt, so_asg, so_asgG, so_par2, so_par3, ok_gNm, ok_gMore, ok_gNone, so_asgT, so_sub, so_for, ok_TB, ok_Tru, ok_notT, ok_andT, ok_orT, ok_andV, ok_orV, ok_notV, ok_iteE, ok_frz, ok_new, ok_mfArg, ok_mfBin, ok_lc, ok_M, ok_M0, ok_moNone, ok_moSome, ok_Sl,
  ok_bin, ok_un, ok_arg, ok_cons, ok_nil, ok_call, ok_var, ok_C, ok_ok, ok_stuck, ok_noX, bOf_bool, low_v, iOf_int, addD_int, subD_int, negD_int, ltD_int, leD_int, gtD_int, geD_int, fInt_int, isD_bool, isNotD_bool, tru_bool, List.map_cons, List.map_nil, List.length_cons, List.length_nil, List.replicate_succ, List.replicate_zero, List.cons_append, List.nil_append,
  List.append_nil, List.getElem?_cons_zero, List.getElem?_cons_succ, List.set_cons_zero, List.set_cons_succ, Option.some.injEq, exists_eq_left', exists_eq_left, true_and, and_true, true_implies, false_implies, implies_true, Bool.false_eq_true, reduceCtorEq, false_and, and_false, D.v.injEq, PyData.int.injEq, D.ref.injEq, p1i_int, p2_two, p3_three, decide_true, Bool.not_true, Bool.not_false, decide_eq_true_eq, decide_eq_false_iff_not, wipeE, want_eq ha hb2, tup2, notInT_pr h]
    exact ⟨fun h1 => ⟨fun h2 => by rw [h1, h2]; rfl, fun h2 => by rw [h1, h2]; rfl⟩, fun h1 => by rw [h1]; rfl⟩
  rw [ok_ok]
  have e : (row rows a).filter (fun b => want rows a b && !hasK T (key2 a b)) = (wr rows a).filter fun b => !hasK T (key2 a b) := by
    unfold wr
    rw [List.filter_filter]
    exact List.filter_congr fun b _ => Bool.and_comm _ _
  rw [e]
  exact ⟨rfl, List.take_length⟩
def pst (st : Sto) (B T : List (PyData × D)) (F : List PyData) : Sto := st ++ [O.dct false B, O.tab T, O.lst F]
variable {B B' T T' : List (PyData × D)} {F F' : List PyData}
theorem p0 : (pst st B T F)[st.length]? = some (O.dct false B) := by unfold pst; rw [List.getElem?_append_right (Nat.le_refl _), Nat.sub_self]; rfl
theorem p1 : (pst st B T F)[st.length + 1]? = some (O.tab T) := by unfold pst; rw [List.getElem?_append_right (by omega), show st.length + 1 - st.length = 1 by omega]; rfl
theorem p2 : (pst st B T F)[st.length + 2]? = some (O.lst F) := by unfold pst; rw [List.getElem?_append_right (by omega), show st.length + 2 - st.length = 2 by omega]; rfl
theorem ps0 : (pst st B T F).set st.length (O.dct false B') = pst st B' T F := by unfold pst; rw [List.set_append_right _ _ (Nat.le_refl _), Nat.sub_self]; rfl
theorem ps1 : (pst st B T F).set (st.length + 1) (O.tab T') = pst st B T' F := by unfold pst; rw [List.set_append_right _ _ (by omega), show st.length + 1 - st.length = 1 by omega]; rfl
theorem ps2 : (pst st B T F).set (st.length + 2) (O.lst F') = pst st B T F' := by unfold pst; rw [List.set_append_right _ _ (by omega), show st.length + 2 - st.length = 2 by omega]; rfl
theorem ptake : (pst st B T F).take st.length = st := List.take_left
theorem pst_eq : st ++ [O.dct false B] ++ [O.tab T] ++ [O.lst F] = pst st B T F := by unfold pst; simp
theorem drop_eq {T : List (PyData × D)} (H : Hall rows) (s : St rows S ask hd (free ++ [a])) (q : Sent rows ask hd T) : (wr rows a).filter (fun b => !hasK T (key2 a b)) = (wr rows a).drop (ask a) := by
  have nd : (wr rows a).Nodup := (H.nd a).filter _
  have hnf : ∀ w, ¬ (w, a) ∈ hd := fun w h => (s.held h).2.1 (List.mem_append_right _ (List.mem_singleton_self _))
  have e : ∀ b, hasK T (key2 a b) = decide (b ∈ (wr rows a).take (ask a)) := fun b => by
    rw [Bool.eq_iff_iff, q.iff, decide_eq_true_eq, List.mem_take_iff_getElem]
    constructor
    · rintro ⟨j, hj, hw, _⟩
      obtain ⟨h1, h2⟩ := List.getElem?_eq_some_iff.mp hw
      exact ⟨j, by omega, h2⟩
    · rintro ⟨j, hj, hw⟩
      exact ⟨j, by omega, by rw [List.getElem?_eq_getElem (by omega), hw], hnf b⟩
  rw [← List.take_append_drop (ask a) (wr rows a)] at nd
  have h3 := List.nodup_append.mp nd
  conv => lhs; rw [← List.take_append_drop (ask a) (wr rows a)]
  rw [List.filter_append]
  have e1 : ((wr rows a).take (ask a)).filter (fun b => !hasK T (key2 a b)) = [] := List.filter_eq_nil_iff.mpr fun b hb => by rw [e, decide_eq_true hb]; simp
  have e2 : ((wr rows a).drop (ask a)).filter (fun b => !hasK T (key2 a b)) = (wr rows a).drop (ask a) := List.filter_eq_self.mpr fun b hb => by rw [e, decide_eq_false fun z => h3.2.2 b z b hb rfl]; rfl
  rw [e1, e2, List.nil_append]
theorem inc_iff {j : Nat} : j < inc ask a m ↔ j < ask m ∨ (m = a ∧ j = ask a) := by
  unfold inc
  split
  · rename_i e
    subst e
    omega
  · rename_i e
    exact ⟨.inl, fun z => z.resolve_right fun q => e q.1⟩
theorem sent_new (H : Hall rows) (s : St rows S ask hd (free ++ [a])) (q : Sent rows ask hd T) (hw : (wr rows a)[ask a]? = some w) : Sent rows (inc ask a) (hd ++ [(w, a)]) T := ⟨fun m v => by
  have hnf : ∀ w, ¬ (w, a) ∈ hd := fun w h => (s.held h).2.1 (List.mem_append_right _ (List.mem_singleton_self _))
  rw [q.iff]
  constructor
  · rintro ⟨j, h1, h2, h3⟩
    refine ⟨j, inc_iff.mpr (.inl h1), h2, fun z => ?_⟩
    rcases List.mem_append.mp z with z | z
    · exact h3 z
    · have z := List.mem_singleton.mp z
      have e1 : v = w := congrArg (·.1) z
      have e2 : m = a := congrArg (·.2) z
      subst e1 e2
      have nd : (wr rows m).Nodup := (H.nd m).filter _
      have := (List.getElem?_inj (List.getElem?_eq_some_iff.mp h2).1 nd).mp (h2.trans hw.symm)
      omega
  · rintro ⟨j, h1, h2, h3⟩
    rcases inc_iff.mp h1 with h1 | ⟨rfl, rfl⟩
    · exact ⟨j, h1, h2, fun z => h3 (List.mem_append_left _ z)⟩
    · rw [hw] at h2
      cases h2
      exact absurd (List.mem_append_right _ (List.mem_singleton_self _)) h3⟩
theorem sent_keep {d : D} (H : Hall rows) (s : St rows S ask hd (free ++ [a])) (q : Sent rows ask hd T) (hw : (wr rows a)[ask a]? = some w) : Sent rows (inc ask a) hd (putKT T (.tuple [nI a, nI w]) (key2 a w) d) := ⟨fun m v => by
  have hnf : ∀ w, ¬ (w, a) ∈ hd := fun w h => (s.held h).2.1 (List.mem_append_right _ (List.mem_singleton_self _))
  rw [has_put keyP_pr, Bool.or_eq_true, q.iff, decide_eq_true_eq]
  constructor
  · rintro (⟨j, h1, h2, h3⟩ | e)
    · exact ⟨j, inc_iff.mpr (.inl h1), h2, h3⟩
    · obtain ⟨rfl, rfl⟩ := key2_inj e
      exact ⟨ask a, inc_iff.mpr (.inr ⟨rfl, rfl⟩), hw, hnf _⟩
  · rintro ⟨j, h1, h2, h3⟩
    rcases inc_iff.mp h1 with h1 | ⟨rfl, rfl⟩
    · exact .inl ⟨j, h1, h2, h3⟩
    · rw [hw] at h2
      cases h2
      exact .inr rfl⟩
theorem sent_swap {d : D} {h : Nat} (H : Hall rows) (s : St rows S ask hd (free ++ [a])) (q : Sent rows ask hd T) (hw : (wr rows a)[ask a]? = some w) (hh : (w, h) ∈ hd) : Sent rows (inc ask a) (swap hd w a) (putKT T (.tuple [nI h, nI w]) (key2 h w) d) := ⟨fun m v => by
  have hnf : ∀ w, ¬ (w, a) ∈ hd := fun w h => (s.held h).2.1 (List.mem_append_right _ (List.mem_singleton_self _))
  have hha : h ≠ a := fun e => hnf w (e ▸ hh)
  obtain ⟨_, _, h5, h6⟩ := s.held hh
  rw [has_put keyP_pr, Bool.or_eq_true, q.iff, decide_eq_true_eq]
  constructor
  · rintro (⟨j, h1, h2, h3⟩ | e)
    · refine ⟨j, inc_iff.mpr (.inl h1), h2, fun z => ?_⟩
      rcases (mem_swap hh).mp z with ⟨rfl, rfl⟩ | ⟨_, z⟩
      · have nd : (wr rows m).Nodup := (H.nd m).filter _
        have := (List.getElem?_inj (List.getElem?_eq_some_iff.mp h2).1 nd).mp (h2.trans hw.symm)
        omega
      · exact h3 z
    · obtain ⟨rfl, rfl⟩ := key2_inj e
      refine ⟨ask h - 1, inc_iff.mpr (.inl (by omega)), h6, fun z => ?_⟩
      rcases (mem_swap hh).mp z with ⟨_, e⟩ | ⟨e, _⟩
      · exact hha e
      · exact e rfl
  · rintro ⟨j, h1, h2, h3⟩
    by_cases e : m = h ∧ v = w
    · obtain ⟨rfl, rfl⟩ := e
      exact .inr rfl
    · rcases inc_iff.mp h1 with h1 | ⟨rfl, rfl⟩
      · refine .inl ⟨j, h1, h2, fun z => h3 ((mem_swap hh).mpr (.inr ⟨fun ev => ?_, z⟩))⟩
        subst ev
        exact e ⟨key_uniq s.keys z hh, rfl⟩
      · rw [hw] at h2
        cases h2
        exact absurd ((mem_swap hh).mpr (.inl ⟨rfl, rfl⟩)) h3⟩
theorem sent0 : Sent rows (fun _ => 0) [] [] := ⟨fun m v => ⟨(fun z => nomatch z), fun ⟨_, h, _⟩ => absurd h (Nat.not_lt_zero _)⟩⟩
end
end Fw.Tl
namespace Fw.Tl
open PySem PySem.Spec PyProof.Rows L2 Fw Fw.Hl Fw.Da
section
variable {rows : List (List Nat)} {S : List Nat} {sd : Nat → Bool} {st : Sto} {a b m w n : Nat} {ask : Nat → Nat} {hd : Held} {free : List Nat}
theorem so_asgTab {m mo mi : ME} {env : Ev} {N : Ev → Sto → Prop} {T : D → Sto → Prop} : (sAsg m (gAtT mo mi) env st).Ok N T ↔ (m env st).Ok fun d s => (mo env s).Ok fun o s1 => (mi env s1).Ok fun i s2 => (setT o i d s2).Ok fun _ s3 => N env s3 := by
  unfold sAsg
  simp only [so_thn, ok_gAtT]
  exact Iff.rfl
theorem isK_dct0 {t : Bool} {kvs : List (PyData × D)} (h : st[n]? = some (.dct t kvs)) : isK st (.ref n) = true := by
  unfold isK viewK
  simp only [h]
  rfl
theorem pairing_by_ok {dS : D} (T : Two rows sd S) (hn : rows.length ≤ 50) (hv : ∀ {more : Sto}, viewS (st ++ more) dS = some (S.map nI)) :
    (LH.f_pairing_by [.v (hallD rows), dS] st).Ok fun d s => s = st ∧ ∃ (ask : Nat → Nat) (hd : Held), d = .v (pairsD (outc hd)) ∧ St rows S ask hd [] := by
  have hSn : S.length ≤ rows.length := by
    have := sub_len (m := List.range rows.length) T.nd fun x hx => List.mem_range.mpr (T.mem.mp hx).1
    rw [List.length_range] at this
    exact this
  have hwl : ∀ a, (wr rows a).length ≤ rows.length := fun a => by
    unfold wr
    exact Nat.le_trans (List.length_filter_le _ _) (row_len T.hall)
  refine fnT_ok ?_
  unfold LH.S_pairing_by
  simp only [envE, so_seq, so_if, so_ret, so_retN, so_exp, so_nil, so_nx, so_rt, so_asg, so_asgG, so_par2, so_par3, ok_gNm, ok_gMore, ok_gNone, so_asgT, so_sub, so_for, ok_TB, ok_Tru, ok_notT, ok_andT, ok_orT, ok_andV, ok_orV, ok_notV, ok_iteE, ok_frz, ok_new, ok_mfArg, ok_mfBin, ok_lc, ok_M, ok_M0, ok_moNone, ok_moSome, ok_Sl,
  ok_bin, ok_un, ok_arg, ok_cons, ok_nil, ok_call, ok_var, ok_C, ok_ok, ok_stuck, ok_noX, bOf_bool, low_v, iOf_int, addD_int, subD_int, negD_int, ltD_int, leD_int, gtD_int, geD_int, fInt_int, isD_bool, isNotD_bool, tru_bool, List.map_cons, List.map_nil, List.length_cons, List.length_nil, List.replicate_succ, List.replicate_zero, List.cons_append, List.nil_append,
  List.append_nil, List.getElem?_cons_zero, List.getElem?_cons_succ, List.set_cons_zero, List.set_cons_succ, Option.some.injEq, exists_eq_left', exists_eq_left, true_and, and_true, true_implies, false_implies, implies_true, Bool.false_eq_true, reduceCtorEq, false_and, and_false, D.v.injEq, PyData.int.injEq, D.ref.injEq, p1i_int, p2_two, p3_three, decide_true, Bool.not_true, Bool.not_false, decide_eq_true_eq, decide_eq_false_iff_not, ok_Dnew, ok_Tnew]
  have hv2 : viewS (st ++ [O.dct false []] ++ [O.tab []]) dS = some (S.map nI) := by rw [List.append_assoc]; exact hv
  rw [list_of hv2, ok_ok, pst_eq, show (st ++ [O.dct false []]).length = st.length + 1 by simp, show (st ++ [O.dct false []] ++ [O.tab []]).length = st.length + 2 by simp]
  unfold LH.S_pairing_by_2
  have htodo : todo rows S (fun _ => 0) S ≤ 2 * (50 * 50) + 50 := by
    have key : ∀ l : List Nat, (l.map fun a => (wr rows a).length - 0).sum ≤ l.length * rows.length := fun l => by
      induction l with
      | nil => simp
      | cons a r ih =>
        rw [List.map_cons, List.sum_cons, List.length_cons, Nat.succ_mul]
        have := hwl a
        omega
    have h1 := key S
    have h2 : S.length * rows.length ≤ 50 * 50 := Nat.mul_le_mul (Nat.le_trans hSn hn) hn
    show 2 * (S.map fun a => (wr rows a).length - 0).sum + S.length ≤ _
    omega
  simp only [envE, so_seq, so_if, so_ret, so_retN, so_exp, so_nil, so_nx, so_rt, so_asg, so_asgG, so_par2, so_par3, ok_gNm, ok_gMore, ok_gNone, so_asgT, so_sub, so_for, ok_TB, ok_Tru, ok_notT, ok_andT, ok_orT, ok_andV, ok_orV, ok_notV, ok_iteE, ok_frz, ok_new, ok_mfArg, ok_mfBin, ok_lc, ok_M, ok_M0, ok_moNone, ok_moSome, ok_Sl,
  ok_bin, ok_un, ok_arg, ok_cons, ok_nil, ok_call, ok_var, ok_C, ok_ok, ok_stuck, ok_noX, bOf_bool, low_v, iOf_int, addD_int, subD_int, negD_int, ltD_int, leD_int, gtD_int, geD_int, fInt_int, isD_bool, isNotD_bool, tru_bool, List.map_cons, List.map_nil, List.length_cons, List.length_nil, List.replicate_succ, List.replicate_zero, List.cons_append, List.nil_append,
  List.append_nil, List.getElem?_cons_zero, List.getElem?_cons_succ, List.set_cons_zero, List.set_cons_succ, Option.some.injEq, exists_eq_left', exists_eq_left, true_and, and_true, true_implies, false_implies, implies_true, Bool.false_eq_true, reduceCtorEq, false_and, and_false, D.v.injEq, PyData.int.injEq, D.ref.injEq, p1i_int, p2_two, p3_three, decide_true, Bool.not_true, Bool.not_false, decide_eq_true_eq, decide_eq_false_iff_not]
  refine whileL_inv (fun k e s => ∃ (ask : Nat → Nat) (hd : Held) (free : List Nat) (Tb : List (PyData × D)), St rows S ask hd free ∧ Sent rows ask hd Tb ∧ Tb.length + k ≤ 10000 ∧ k = todo rows S ask free ∧ s = pst st (heldK hd) Tb (free.map nI) ∧
    ∃ x5 x6 x7 x8 x9, e = [some (.v (hallD rows)), some dS, some (.ref st.length), some (.ref (st.length + 1)), some (.ref (st.length + 2)), x5, x6, x7, x8, x9]) ?_ 1000000 (todo rows S (fun _ => 0) S) _ _ (by omega) ?_
  · rintro k e s ⟨ask, hd, free, Tb, s0, q0, hT, hk, rfl, x5, x6, x7, x8, x9, rfl⟩
    unfold LH.pairing_by_T1
    simp only [envE, so_seq, so_if, so_ret, so_retN, so_exp, so_nil, so_nx, so_rt, so_asg, so_asgG, so_par2, so_par3, ok_gNm, ok_gMore, ok_gNone, so_asgT, so_sub, so_for, ok_TB, ok_Tru, ok_notT, ok_andT, ok_orT, ok_andV, ok_orV, ok_notV, ok_iteE, ok_frz, ok_new, ok_mfArg, ok_mfBin, ok_lc, ok_M, ok_M0, ok_moNone, ok_moSome, ok_Sl,
  ok_bin, ok_un, ok_arg, ok_cons, ok_nil, ok_call, ok_var, ok_C, ok_ok, ok_stuck, ok_noX, bOf_bool, low_v, iOf_int, addD_int, subD_int, negD_int, ltD_int, leD_int, gtD_int, geD_int, fInt_int, isD_bool, isNotD_bool, tru_bool, List.map_cons, List.map_nil, List.length_cons, List.length_nil, List.replicate_succ, List.replicate_zero, List.cons_append, List.nil_append,
  List.append_nil, List.getElem?_cons_zero, List.getElem?_cons_succ, List.set_cons_zero, List.set_cons_succ, Option.some.injEq, exists_eq_left', exists_eq_left, true_and, and_true, true_implies, false_implies, implies_true, Bool.false_eq_true, reduceCtorEq, false_and, and_false, D.v.injEq, PyData.int.injEq, D.ref.injEq, p1i_int, p2_two, p3_three, decide_true, Bool.not_true, Bool.not_false, decide_eq_true_eq, decide_eq_false_iff_not, disp0, ne_nilR p2 (shaped_nats free)]
    have hhl : hd.length ≤ rows.length := by
      have := sub_len (m := List.range rows.length) s0.keys fun x hx => by
        obtain ⟨p, hp, rfl⟩ := List.mem_map.mp hx
        exact List.mem_range.mpr (T.hall.mem (want_row (s0.wants (w := p.1) (m := p.2) hp)).1).1
      rw [List.length_map, List.length_range] at this
      exact this
    refine ⟨fun hne => ?_, fun hemp => ?_⟩
    · have hne : free ≠ [] := fun e => by rw [e] at hne; cases hne
      obtain ⟨f, a, rfl⟩ : ∃ f a, free = f ++ [a] := ⟨free.dropLast, free.getLast hne, (List.dropLast_concat_getLast hne).symm⟩
      have aS : a ∈ S := s0.fin (List.mem_append_right _ (List.mem_singleton_self _))
      have han := (T.mem.mp aS).1
      have hfl : f.length ≤ 50 := by
        have := sub_len (m := S) s0.fnd fun x hx => s0.fin hx
        rw [List.length_append, List.length_singleton] at this
        omega
      unfold LH.pairing_by_B1
      have hpop : fmPop (.ref (st.length + 2)) [] (pst st (heldK hd) Tb ((f ++ [a]).map nI)) = .ok (.v (nI a)) (pst st (heldK hd) Tb (f.map nI)) := by
        rw [List.map_append]
        have := pop_ref (st := pst st (heldK hd) Tb (f.map nI ++ [nI a])) p2
        rw [ps2] at this
        exact this
      simp only [envE, so_seq, so_if, so_ret, so_retN, so_exp, so_nil, so_nx, so_rt, so_asg, so_asgG, so_par2, so_par3, ok_gNm, ok_gMore, ok_gNone, so_asgT, so_sub, so_for, ok_TB, ok_Tru, ok_notT, ok_andT, ok_orT, ok_andV, ok_orV, ok_notV, ok_iteE, ok_frz, ok_new, ok_mfArg, ok_mfBin, ok_lc, ok_M, ok_M0, ok_moNone, ok_moSome, ok_Sl,
  ok_bin, ok_un, ok_arg, ok_cons, ok_nil, ok_call, ok_var, ok_C, ok_ok, ok_stuck, ok_noX, bOf_bool, low_v, iOf_int, addD_int, subD_int, negD_int, ltD_int, leD_int, gtD_int, geD_int, fInt_int, isD_bool, isNotD_bool, tru_bool, List.map_cons, List.map_nil, List.length_cons, List.length_nil, List.replicate_succ, List.replicate_zero, List.cons_append, List.nil_append,
  List.append_nil, List.getElem?_cons_zero, List.getElem?_cons_succ, List.set_cons_zero, List.set_cons_succ, Option.some.injEq, exists_eq_left', exists_eq_left, true_and, and_true, true_implies, false_implies, implies_true, Bool.false_eq_true, reduceCtorEq, false_and, and_false, D.v.injEq, PyData.int.injEq, D.ref.injEq, p1i_int, p2_two, p3_three, decide_true, Bool.not_true, Bool.not_false, decide_eq_true_eq, decide_eq_false_iff_not, hpop]
      refine ⟨isL_ref p2, ?_⟩
      unfold LH.pairing_by_B1_2 LH.pairing_by_E1
      simp only [envE, so_seq, so_if, so_ret, so_retN, so_exp, so_nil, so_nx, so_rt, so_asg, so_asgG, so_par2, so_par3, ok_gNm, ok_gMore, ok_gNone, so_asgT, so_sub, so_for, ok_TB, ok_Tru, ok_notT, ok_andT, ok_orT, ok_andV, ok_orV, ok_notV, ok_iteE, ok_frz, ok_new, ok_mfArg, ok_mfBin, ok_lc, ok_M, ok_M0, ok_moNone, ok_moSome, ok_Sl,
  ok_bin, ok_un, ok_arg, ok_cons, ok_nil, ok_call, ok_var, ok_C, ok_ok, ok_stuck, ok_noX, bOf_bool, low_v, iOf_int, addD_int, subD_int, negD_int, ltD_int, leD_int, gtD_int, geD_int, fInt_int, isD_bool, isNotD_bool, tru_bool, List.map_cons, List.map_nil, List.length_cons, List.length_nil, List.replicate_succ, List.replicate_zero, List.cons_append, List.nil_append,
  List.append_nil, List.getElem?_cons_zero, List.getElem?_cons_succ, List.set_cons_zero, List.set_cons_succ, Option.some.injEq, exists_eq_left', exists_eq_left, true_and, and_true, true_implies, false_implies, implies_true, Bool.false_eq_true, reduceCtorEq, false_and, and_false, D.v.injEq, PyData.int.injEq, D.ref.injEq, p1i_int, p2_two, p3_three, decide_true, Bool.not_true, Bool.not_false, decide_eq_true_eq, decide_eq_false_iff_not, ok_seq, asked_next_eq T.hall han (p1 (st := st) (B := heldK hd) (T := Tb) (F := f.map nI)), drop_eq T.hall s0 q0]
      rw [show slD (.v (lNs ((wr rows a).drop (ask a)))) none (some 1) (pst st (heldK hd) Tb (f.map nI)) = _ from slice_list, ok_ok, show cutP (((wr rows a).drop (ask a)).map nI) none (some 1) = (((wr rows a).drop (ask a)).map nI).take 1 from cut_take _ 1, seqW_list, ok_ok]
      have hkh : (heldK hd).length < 1000000 := by unfold heldK; rw [List.length_map]; omega
      by_cases hlt : ask a < (wr rows a).length
      · obtain ⟨w, hw⟩ : ∃ w, (wr rows a)[ask a]? = some w := ⟨_, List.getElem?_eq_getElem hlt⟩
        have A : Ask rows S ask hd f a w := ⟨s0, hw⟩
        have hwant : want rows a w = true := mem_wr.mp (List.mem_of_getElem? hw)
        have hrow := want_row hwant
        have hwn := (T.hall.mem hrow.1).1
        have hd1 : (((wr rows a).drop (ask a)).map nI).take 1 = [nI w] := by
          rw [List.drop_eq_getElem_cons hlt]
          have e := (List.getElem?_eq_some_iff.mp hw).2
          rw [e]
          rfl
        rw [hd1]
        have todo2 : ∀ {f2 : List Nat}, f2.length ≤ f.length + 1 → todo rows S (inc ask a) f2 < k := fun {f2} h => by rw [hk]; exact todo_ask T.nd aS hlt (by rw [List.length_append]; exact Nat.le_trans h (Nat.le_succ _))
        have hfl2 : (f.map nI).length < 1000000 := by rw [List.length_map]; omega
        have hTb : Tb.length < 1000000 := by omega
        refine forL_inv (fun i e s => (i = 0 ∧ s = pst st (heldK hd) Tb (f.map nI) ∧ ∃ x5 x6 x7 x8 x9, x5 = some (.v (nI a)) ∧ e = [some (.v (hallD rows)), some dS, some (.ref st.length), some (.ref (st.length + 1)), some (.ref (st.length + 2)), x5, x6, x7, x8, x9]) ∨
          (i = 1 ∧ ∃ (hd' : Held) (f' : List Nat) (Tb' : List (PyData × D)), St rows S (inc ask a) hd' f' ∧ Sent rows (inc ask a) hd' Tb' ∧ Tb'.length ≤ Tb.length + 1 ∧ f'.length ≤ f.length + 1 ∧ s = pst st (heldK hd') Tb' (f'.map nI) ∧
            ∃ x5 x6 x7 x8 x9, e = [some (.v (hallD rows)), some dS, some (.ref st.length), some (.ref (st.length + 1)), some (.ref (st.length + 2)), x5, x6, x7, x8, x9])) _ _ _ 0 ?_ ?_ (.inl ⟨rfl, rfl, _, _, _, _, _, rfl, rfl⟩)
        · rintro i d e s hdi hI
          have hi : i = 0 := by
            have := (List.getElem?_eq_some_iff.mp hdi).1
            simpa using this
          subst hi
          have ed : d = .one (.v (nI w)) := by simpa using hdi.symm
          subst ed
          rcases hI with ⟨_, rfl, y5, y6, y7, y8, y9, rfl, rfl⟩ | ⟨z, _⟩
          · refine ⟨trivial, ?_⟩
            unfold LH.pairing_by_G1 LH.pairing_by_B2
            show (gNm 6 (.one (.v (nI w))) _ _).Ok _
            have hfind : findS (pst st (heldK hd) Tb (f.map nI)) (.ref st.length) (.v (nI w)) = some (getK false (heldK hd) (nI w)) := find_dct p0
            simp only [envE, so_seq, so_if, so_ret, so_retN, so_exp, so_nil, so_nx, so_rt, so_asg, so_asgG, so_par2, so_par3, ok_gNm, ok_gMore, ok_gNone, so_asgT, so_sub, so_for, ok_TB, ok_Tru, ok_notT, ok_andT, ok_orT, ok_andV, ok_orV, ok_notV, ok_iteE, ok_frz, ok_new, ok_mfArg, ok_mfBin, ok_lc, ok_M, ok_M0, ok_moNone, ok_moSome, ok_Sl,
  ok_bin, ok_un, ok_arg, ok_cons, ok_nil, ok_call, ok_var, ok_C, ok_ok, ok_stuck, ok_noX, bOf_bool, low_v, iOf_int, addD_int, subD_int, negD_int, ltD_int, leD_int, gtD_int, geD_int, fInt_int, isD_bool, isNotD_bool, tru_bool, List.map_cons, List.map_nil, List.length_cons, List.length_nil, List.replicate_succ, List.replicate_zero, List.cons_append, List.nil_append,
  List.append_nil, List.getElem?_cons_zero, List.getElem?_cons_succ, List.set_cons_zero, List.set_cons_succ, Option.some.injEq, exists_eq_left', exists_eq_left, true_and, and_true, true_implies, false_implies, implies_true, Bool.false_eq_true, reduceCtorEq, false_and, and_false, D.v.injEq, PyData.int.injEq, D.ref.injEq, p1i_int, p2_two, p3_three, decide_true, Bool.not_true, Bool.not_false, decide_eq_true_eq, decide_eq_false_iff_not, ok_get2, isK_dct0 (p0 (st := st) (B := heldK hd) (T := Tb) (F := f.map nI)), hfind]
            unfold LH.pairing_by_B2_2
            by_cases hh : (getK false (heldK hd) (nI w)).isSome = true
            · obtain ⟨h, hh, hg⟩ := held_some hh
              have hra : ∀ s, LH.f_has_rather [.v (hallD rows), .v (nI w), .v (nI a), .v (nI h)] s = .ok (.v (.bool (rather rows w a (some h)))) s := fun s => rather_eq (c := some h) hwn
              have hhr := want_row (s0.wants hh)
              have hin : w ∈ hd.map (·.1) := List.mem_map_of_mem (f := (·.1)) hh
              rw [hg]
              have hnn : ∀ (x : Nat) (s : Sto), isNotD (.v (nI x)) (.v .none) s = .ok (.v (.bool true)) s := fun x s => rfl
              have htrue : ∀ (b : Bool) (s : Sto), truS' s (.v (.bool b)) = some b := fun b s => rfl
              simp only [envE, so_seq, so_if, so_ret, so_retN, so_exp, so_nil, so_nx, so_rt, so_asg, so_asgG, so_par2, so_par3, ok_gNm, ok_gMore, ok_gNone, so_asgT, so_sub, so_for, ok_TB, ok_Tru, ok_notT, ok_andT, ok_orT, ok_andV, ok_orV, ok_notV, ok_iteE, ok_frz, ok_new, ok_mfArg, ok_mfBin, ok_lc, ok_M, ok_M0, ok_moNone, ok_moSome, ok_Sl,
  ok_bin, ok_un, ok_arg, ok_cons, ok_nil, ok_call, ok_var, ok_C, ok_ok, ok_stuck, ok_noX, bOf_bool, low_v, iOf_int, addD_int, subD_int, negD_int, ltD_int, leD_int, gtD_int, geD_int, fInt_int, isD_bool, isNotD_bool, tru_bool, List.map_cons, List.map_nil, List.length_cons, List.length_nil, List.replicate_succ, List.replicate_zero, List.cons_append, List.nil_append,
  List.append_nil, List.getElem?_cons_zero, List.getElem?_cons_succ, List.set_cons_zero, List.set_cons_succ, Option.some.injEq, exists_eq_left', exists_eq_left, true_and, and_true, true_implies, false_implies, implies_true, Bool.false_eq_true, reduceCtorEq, false_and, and_false, D.v.injEq, PyData.int.injEq, D.ref.injEq, p1i_int, p2_two, p3_three, decide_true, Bool.not_true, Bool.not_false, decide_eq_true_eq, decide_eq_false_iff_not, Option.getD_some]
              rw [hra, ok_ok]
              unfold LH.pairing_by_B2_3
              refine ⟨_, htrue _ _, fun hb => ?_, fun hb => ?_⟩
              · have hlt2 := (rather_iff hrow.2).mp hb
                rw [set_dct p0 hkh, ok_ok, held_swap hin, ps0]
                simp only [envE, so_seq, so_if, so_ret, so_retN, so_exp, so_nil, so_nx, so_rt, so_asg, so_asgG, so_par2, so_par3, ok_gNm, ok_gMore, ok_gNone, so_asgT, so_sub, so_for, ok_TB, ok_Tru, ok_notT, ok_andT, ok_orT, ok_andV, ok_orV, ok_notV, ok_iteE, ok_frz, ok_new, ok_mfArg, ok_mfBin, ok_lc, ok_M, ok_M0, ok_moNone, ok_moSome, ok_Sl,
  ok_bin, ok_un, ok_arg, ok_cons, ok_nil, ok_call, ok_var, ok_C, ok_ok, ok_stuck, ok_noX, bOf_bool, low_v, iOf_int, addD_int, subD_int, negD_int, ltD_int, leD_int, gtD_int, geD_int, fInt_int, isD_bool, isNotD_bool, tru_bool, List.map_cons, List.map_nil, List.length_cons, List.length_nil, List.replicate_succ, List.replicate_zero, List.cons_append, List.nil_append,
  List.append_nil, List.getElem?_cons_zero, List.getElem?_cons_succ, List.set_cons_zero, List.set_cons_succ, Option.some.injEq, exists_eq_left', exists_eq_left, true_and, and_true, true_implies, false_implies, implies_true, Bool.false_eq_true, reduceCtorEq, false_and, and_false, D.v.injEq, PyData.int.injEq, D.ref.injEq, p1i_int, p2_two, p3_three, decide_true, Bool.not_true, Bool.not_false, decide_eq_true_eq, decide_eq_false_iff_not, hnn, so_asgTab, tup2]
                rw [setT_pr p1 hTb, ok_ok, ps1]
                refine ⟨isL_ref p2, ?_⟩
                rw [Fw.append_at p2 hfl2, ok_ok, ps2]
                exact .inr ⟨swap hd w a, f ++ [h], _, take_better T A hh hlt2, sent_swap T.hall s0 q0 hw hh, put_len, by rw [List.length_append]; exact Nat.le_refl _, by rw [List.map_append]; rfl, _, _, _, _, _, rfl⟩
              · have hnlt : ¬ place rows w (some a) < place rows w (some h) := fun z => by
                  rw [← rather_iff hrow.2, hb] at z
                  exact absurd z Bool.false_ne_true
                have hne : a ≠ h := fun e => (s0.held hh).2.1 (e ▸ List.mem_append_right _ (List.mem_singleton_self _))
                have hpl : place rows w (some h) < place rows w (some a) := Nat.lt_of_le_of_ne (Nat.le_of_not_lt hnlt) fun e => hne (place_inj hhr.2 hrow.2 e).symm
                simp only [envE, so_seq, so_if, so_ret, so_retN, so_exp, so_nil, so_nx, so_rt, so_asg, so_asgG, so_par2, so_par3, ok_gNm, ok_gMore, ok_gNone, so_asgT, so_sub, so_for, ok_TB, ok_Tru, ok_notT, ok_andT, ok_orT, ok_andV, ok_orV, ok_notV, ok_iteE, ok_frz, ok_new, ok_mfArg, ok_mfBin, ok_lc, ok_M, ok_M0, ok_moNone, ok_moSome, ok_Sl,
  ok_bin, ok_un, ok_arg, ok_cons, ok_nil, ok_call, ok_var, ok_C, ok_ok, ok_stuck, ok_noX, bOf_bool, low_v, iOf_int, addD_int, subD_int, negD_int, ltD_int, leD_int, gtD_int, geD_int, fInt_int, isD_bool, isNotD_bool, tru_bool, List.map_cons, List.map_nil, List.length_cons, List.length_nil, List.replicate_succ, List.replicate_zero, List.cons_append, List.nil_append,
  List.append_nil, List.getElem?_cons_zero, List.getElem?_cons_succ, List.set_cons_zero, List.set_cons_succ, Option.some.injEq, exists_eq_left', exists_eq_left, true_and, and_true, true_implies, false_implies, implies_true, Bool.false_eq_true, reduceCtorEq, false_and, and_false, D.v.injEq, PyData.int.injEq, D.ref.injEq, p1i_int, p2_two, p3_three, decide_true, Bool.not_true, Bool.not_false, decide_eq_true_eq, decide_eq_false_iff_not, hnn, so_asgTab, tup2]
                rw [setT_pr p1 hTb, ok_ok, ps1]
                refine ⟨isL_ref p2, ?_⟩
                rw [Fw.append_at p2 hfl2, ok_ok, ps2]
                exact .inr ⟨hd, f ++ [a], _, keep T A hh hpl, sent_keep T.hall s0 q0 hw, put_len, by rw [List.length_append]; exact Nat.le_refl _, by rw [List.map_append]; rfl, _, _, _, _, _, rfl⟩
            · have hh : (getK false (heldK hd) (nI w)).isSome = false := Bool.eq_false_iff.mpr hh
              have hnk := held_none hh
              have hg : getK false (heldK hd) (nI w) = none := by
                cases e : getK false (heldK hd) (nI w) with
                | none => rfl
                | some v => rw [e] at hh; cases hh
              have hra : ∀ s, LH.f_has_rather [.v (hallD rows), .v (nI w), .v (nI a), .v .none] s = .ok (.v (.bool (rather rows w a none))) s := fun s => rather_eq (c := none) hwn
              rw [hg]
              have hnn : ∀ (s : Sto), isNotD (.v .none) (.v .none) s = .ok (.v (.bool false)) s := fun s => rfl
              have htrue : ∀ (b : Bool) (s : Sto), truS' s (.v (.bool b)) = some b := fun b s => rfl
              have hrt : rather rows w a none = true := by
                refine (rather_iff hrow.2).mpr ?_
                rw [place_row hrow.2]
                exact List.idxOf_lt_length_of_mem hrow.2
              simp only [envE, so_seq, so_if, so_ret, so_retN, so_exp, so_nil, so_nx, so_rt, so_asg, so_asgG, so_par2, so_par3, ok_gNm, ok_gMore, ok_gNone, so_asgT, so_sub, so_for, ok_TB, ok_Tru, ok_notT, ok_andT, ok_orT, ok_andV, ok_orV, ok_notV, ok_iteE, ok_frz, ok_new, ok_mfArg, ok_mfBin, ok_lc, ok_M, ok_M0, ok_moNone, ok_moSome, ok_Sl,
  ok_bin, ok_un, ok_arg, ok_cons, ok_nil, ok_call, ok_var, ok_C, ok_ok, ok_stuck, ok_noX, bOf_bool, low_v, iOf_int, addD_int, subD_int, negD_int, ltD_int, leD_int, gtD_int, geD_int, fInt_int, isD_bool, isNotD_bool, tru_bool, List.map_cons, List.map_nil, List.length_cons, List.length_nil, List.replicate_succ, List.replicate_zero, List.cons_append, List.nil_append,
  List.append_nil, List.getElem?_cons_zero, List.getElem?_cons_succ, List.set_cons_zero, List.set_cons_succ, Option.some.injEq, exists_eq_left', exists_eq_left, true_and, and_true, true_implies, false_implies, implies_true, Bool.false_eq_true, reduceCtorEq, false_and, and_false, D.v.injEq, PyData.int.injEq, D.ref.injEq, p1i_int, p2_two, p3_three, decide_true, Bool.not_true, Bool.not_false, decide_eq_true_eq, decide_eq_false_iff_not, Option.getD_none]
              rw [hra, ok_ok]
              unfold LH.pairing_by_B2_3
              refine ⟨_, htrue _ _, fun hb => ?_, fun hb => absurd (hrt.symm.trans hb) (by decide)⟩
              rw [set_dct p0 hkh, ok_ok, held_put hnk, ps0]
              simp only [envE, so_seq, so_if, so_ret, so_retN, so_exp, so_nil, so_nx, so_rt, so_asg, so_asgG, so_par2, so_par3, ok_gNm, ok_gMore, ok_gNone, so_asgT, so_sub, so_for, ok_TB, ok_Tru, ok_notT, ok_andT, ok_orT, ok_andV, ok_orV, ok_notV, ok_iteE, ok_frz, ok_new, ok_mfArg, ok_mfBin, ok_lc, ok_M, ok_M0, ok_moNone, ok_moSome, ok_Sl,
  ok_bin, ok_un, ok_arg, ok_cons, ok_nil, ok_call, ok_var, ok_C, ok_ok, ok_stuck, ok_noX, bOf_bool, low_v, iOf_int, addD_int, subD_int, negD_int, ltD_int, leD_int, gtD_int, geD_int, fInt_int, isD_bool, isNotD_bool, tru_bool, List.map_cons, List.map_nil, List.length_cons, List.length_nil, List.replicate_succ, List.replicate_zero, List.cons_append, List.nil_append,
  List.append_nil, List.getElem?_cons_zero, List.getElem?_cons_succ, List.set_cons_zero, List.set_cons_succ, Option.some.injEq, exists_eq_left', exists_eq_left, true_and, and_true, true_implies, false_implies, implies_true, Bool.false_eq_true, reduceCtorEq, false_and, and_false, D.v.injEq, PyData.int.injEq, D.ref.injEq, p1i_int, p2_two, p3_three, decide_true, Bool.not_true, Bool.not_false, decide_eq_true_eq, decide_eq_false_iff_not, hnn]
              exact .inr ⟨hd ++ [(w, a)], f, Tb, take_new T A (fun m hm => hnk (List.mem_map_of_mem (f := (·.1)) hm)), sent_new T.hall s0 q0 hw, Nat.le_succ _, Nat.le_succ _, rfl, _, _, _, _, _, rfl⟩
          · cases z
        · rintro e s hI
          rcases hI with ⟨z, _⟩ | ⟨_, hd', f', Tb', s1, q1, hl1, hl2, rfl, y5, y6, y7, y8, y9, rfl⟩
          · cases z
          · have := todo2 hl2
            exact ⟨trivial, todo rows S (inc ask a) f', this, inc ask a, hd', f', Tb', s1, q1, by omega, rfl, rfl, _, _, _, _, _, rfl⟩
      · have hd0 : (((wr rows a).drop (ask a)).map nI).take 1 = [] := by rw [List.drop_eq_nil_of_le (by omega)]; rfl
        rw [hd0]
        refine forL_inv (fun _ e s => s = pst st (heldK hd) Tb (f.map nI) ∧ ∃ x5 x6 x7 x8 x9, e = [some (.v (hallD rows)), some dS, some (.ref st.length), some (.ref (st.length + 1)), some (.ref (st.length + 2)), x5, x6, x7, x8, x9]) _ _ _ 0 (by rintro i d e s hd; cases hd) ?_ ⟨rfl, _, _, _, _, _, rfl⟩
        rintro e s ⟨rfl, y5, y6, y7, y8, y9, rfl⟩
        refine ⟨trivial, todo rows S ask f, by rw [hk]; unfold todo; rw [List.length_append, List.length_singleton]; omega, ask, hd, f, Tb, stay s0 (by omega), q0, ?_, rfl, rfl, _, _, _, _, _, rfl⟩
        have : todo rows S ask f ≤ k := by rw [hk]; unfold todo; rw [List.length_append]; omega
        omega
    · have he : free = [] := by cases free <;> first | rfl | cases hemp
      subst he
      unfold LH.S_pairing_by_3
      simp only [envE, so_seq, so_if, so_ret, so_retN, so_exp, so_nil, so_nx, so_rt, so_asg, so_asgG, so_par2, so_par3, ok_gNm, ok_gMore, ok_gNone, so_asgT, so_sub, so_for, ok_TB, ok_Tru, ok_notT, ok_andT, ok_orT, ok_andV, ok_orV, ok_notV, ok_iteE, ok_frz, ok_new, ok_mfArg, ok_mfBin, ok_lc, ok_M, ok_M0, ok_moNone, ok_moSome, ok_Sl,
  ok_bin, ok_un, ok_arg, ok_cons, ok_nil, ok_call, ok_var, ok_C, ok_ok, ok_stuck, ok_noX, bOf_bool, low_v, iOf_int, addD_int, subD_int, negD_int, ltD_int, leD_int, gtD_int, geD_int, fInt_int, isD_bool, isNotD_bool, tru_bool, List.map_cons, List.map_nil, List.length_cons, List.length_nil, List.replicate_succ, List.replicate_zero, List.cons_append, List.nil_append,
  List.append_nil, List.getElem?_cons_zero, List.getElem?_cons_succ, List.set_cons_zero, List.set_cons_succ, Option.some.injEq, exists_eq_left', exists_eq_left, true_and, and_true, true_implies, false_implies, implies_true, Bool.false_eq_true, reduceCtorEq, false_and, and_false, D.v.injEq, PyData.int.injEq, D.ref.injEq, p1i_int, p2_two, p3_three, decide_true, Bool.not_true, Bool.not_false, decide_eq_true_eq, decide_eq_false_iff_not]
      rw [ok_Lock rfl p0]
      have hlck : ((pst st (heldK hd) Tb []).set st.length (.lck false (heldK hd)))[st.length]? = some (.lck false (heldK hd)) := List.getElem?_set_self (by unfold pst; rw [List.length_append]; show st.length < st.length + 3; omega)
      simp only [envE, so_seq, so_if, so_ret, so_retN, so_exp, so_nil, so_nx, so_rt, so_asg, so_asgG, so_par2, so_par3, ok_gNm, ok_gMore, ok_gNone, so_asgT, so_sub, so_for, ok_TB, ok_Tru, ok_notT, ok_andT, ok_orT, ok_andV, ok_orV, ok_notV, ok_iteE, ok_frz, ok_new, ok_mfArg, ok_mfBin, ok_lc, ok_M, ok_M0, ok_moNone, ok_moSome, ok_Sl,
  ok_bin, ok_un, ok_arg, ok_cons, ok_nil, ok_call, ok_var, ok_C, ok_ok, ok_stuck, ok_noX, bOf_bool, low_v, iOf_int, addD_int, subD_int, negD_int, ltD_int, leD_int, gtD_int, geD_int, fInt_int, isD_bool, isNotD_bool, tru_bool, List.map_cons, List.map_nil, List.length_cons, List.length_nil, List.replicate_succ, List.replicate_zero, List.cons_append, List.nil_append,
  List.append_nil, List.getElem?_cons_zero, List.getElem?_cons_succ, List.set_cons_zero, List.set_cons_succ, Option.some.injEq, exists_eq_left', exists_eq_left, true_and, and_true, true_implies, false_implies, implies_true, Bool.false_eq_true, reduceCtorEq, false_and, and_false, D.v.injEq, PyData.int.injEq, D.ref.injEq, p1i_int, p2_two, p3_three, decide_true, Bool.not_true, Bool.not_false, decide_eq_true_eq, decide_eq_false_iff_not]
      unfold LH.pairing_by_E2 LH.pairing_by_T2
      rw [items_lck rfl hlck]
      have hits : itemsI (heldK hd) = hd.map fun p => Itm.many [.v (nI p.1), .v (nI p.2)] := by
        unfold itemsI heldK
        rw [List.map_map]
        rfl
      rw [hits, lcL_all _ (fun p : Nat × Nat => pr (mm p))]
      rotate_left
      · intro p _
        unfold LH.pairing_by_G2 LH.pairing_by_M1
        rw [ok_gTp2]
        have hmin : ((min (p.2 : Int) (p.1 : Int)) : Int) = ((min p.1 p.2 : Nat) : Int) := by omega
        have hmax : ((max (p.2 : Int) (p.1 : Int)) : Int) = ((max p.1 p.2 : Nat) : Int) := by omega
        simp only [envE, so_seq, so_if, so_ret, so_retN, so_exp, so_nil, so_nx, so_rt, so_asg, so_asgG, so_par2, so_par3, ok_gNm, ok_gMore, ok_gNone, so_asgT, so_sub, so_for, ok_TB, ok_Tru, ok_notT, ok_andT, ok_orT, ok_andV, ok_orV, ok_notV, ok_iteE, ok_frz, ok_new, ok_mfArg, ok_mfBin, ok_lc, ok_M, ok_M0, ok_moNone, ok_moSome, ok_Sl,
  ok_bin, ok_un, ok_arg, ok_cons, ok_nil, ok_call, ok_var, ok_C, ok_ok, ok_stuck, ok_noX, bOf_bool, low_v, iOf_int, addD_int, subD_int, negD_int, ltD_int, leD_int, gtD_int, geD_int, fInt_int, isD_bool, isNotD_bool, tru_bool, List.map_cons, List.map_nil, List.length_cons, List.length_nil, List.replicate_succ, List.replicate_zero, List.cons_append, List.nil_append,
  List.append_nil, List.getElem?_cons_zero, List.getElem?_cons_succ, List.set_cons_zero, List.set_cons_succ, Option.some.injEq, exists_eq_left', exists_eq_left, true_and, and_true, true_implies, false_implies, implies_true, Bool.false_eq_true, reduceCtorEq, false_and, and_false, D.v.injEq, PyData.int.injEq, D.ref.injEq, p1i_int, p2_two, p3_three, decide_true, Bool.not_true, Bool.not_false, decide_eq_true_eq, decide_eq_false_iff_not, wipeE, bMin_int, bMax_int, tup2, hmin, hmax]
        rfl
      rw [ok_ok]
      have hP := out_prg T s0
      have hset : ((pst st (heldK hd) Tb []).set st.length (.lck false (heldK hd))).set st.length (.dct false (heldK hd)) = pst st (heldK hd) Tb [] := by
        rw [List.set_set, ps0]
      have hmm : hd.map (fun p : Nat × Nat => pr (mm p)) = (hd.map mm).map pr := by rw [List.map_map]; rfl
      have hb : ∀ p ∈ hd.map mm, p.1 < 1000000 ∧ p.2 < 1000000 := fun p hp => by
        have := hP.lt p ((sortP_perm _).mem_iff.mpr hp)
        omega
      rw [hset, hmm, sort_pairs (by rw [List.length_map]; omega) hb, ok_ok, tup_list, ok_ok]
      exact ⟨rfl, ptake, ask, hd, rfl, s0⟩
  · exact ⟨fun _ => 0, [], S, [], start T.nd, sent0, by show 0 + _ ≤ _; omega, rfl, rfl, _, _, _, _, _, rfl⟩
end
end Fw.Tl
namespace Fw.Tl
open PySem PySem.Spec PyProof.Rows L2 Fw Fw.Hl Fw.Da Fw.Aq
section
variable {rows : List (List Nat)} {S lot : List Nat} {sd : Nat → Bool} {st : Sto} {a b m w n k : Nat} {ask : Nat → Nat} {hd : Held} {free : List Nat} {s t u : AS} {μ : List (Nat × Nat)}
theorem in_last {l : List Nat} {o : Option Nat} : inU (.v (optD o)) (.v (.list (l.map nI ++ [.none]))) st = .ok (.v (.bool (match o with
    | none => true
    | some b => decide (b ∈ l)))) st := by
  have e : (flatP (optD o) && (l.map nI ++ [PyData.none]).all flatP) = true := by rw [flat_last]; cases o <;> rfl
  show (match (if flatP (optD o) && (l.map nI ++ [PyData.none]).all flatP then some ((l.map nI ++ [PyData.none]).any fun y => PyData.eqv y (optD o)) else _) with
    | some k => Out.ok (D.v (.bool k)) st
    | none => .stuck) = _
  rw [if_pos e]
  show Out.ok (D.v (.bool ((l.map nI ++ [PyData.none]).any fun y => PyData.eqv y (optD o)))) st = _
  rw [List.any_append]
  cases o with
  | none =>
    have e2 : ([PyData.none].any fun y => PyData.eqv y (optD none)) = true := rfl
    rw [e2, Bool.or_true]
  | some b =>
    have e2 : ([PyData.none].any fun y => PyData.eqv y (optD (some b))) = false := rfl
    rw [e2, Bool.or_false, show optD (some b) = nI b from rfl, any_nat]
theorem lrat_eq (H : Hall rows) (hn : rows.length ≤ 50) (ha : a < rows.length) {o c : Option Nat} :
    LH.f_law_rather [.v (hallD rows), .v (nI a), .v (optD o), .v (optD c)] st = .ok (.v (.bool (decide (place rows a o < place rows a c)))) st := by
  refine Out.Ok.is (fnT_ok ?_)
  unfold LH.S_law_rather LH.S_law_rather_2 LH.S_law_rather_3
  have hl := row_len (a := a) H
  simp only [envE, so_seq, so_if, so_ret, so_retN, so_exp, so_nil, so_nx, so_rt, so_asg, so_asgG, so_par2, so_par3, ok_gNm, ok_gMore, ok_gNone, so_asgT, so_sub, so_for, ok_TB, ok_Tru, ok_notT, ok_andT, ok_orT, ok_andV, ok_orV, ok_notV, ok_iteE, ok_frz, ok_new, ok_mfArg, ok_mfBin, ok_lc, ok_M, ok_M0, ok_moNone, ok_moSome, ok_Sl,
  ok_bin, ok_un, ok_arg, ok_cons, ok_nil, ok_call, ok_var, ok_C, ok_ok, ok_stuck, ok_noX, bOf_bool, low_v, iOf_int, addD_int, subD_int, negD_int, ltD_int, leD_int, gtD_int, geD_int, fInt_int, isD_bool, isNotD_bool, tru_bool, List.map_cons, List.map_nil, List.length_cons, List.length_nil, List.replicate_succ, List.replicate_zero, List.cons_append, List.nil_append,
  List.append_nil, List.getElem?_cons_zero, List.getElem?_cons_succ, List.set_cons_zero, List.set_cons_succ, Option.some.injEq, exists_eq_left', exists_eq_left, true_and, and_true, true_implies, false_implies, implies_true, Bool.false_eq_true, reduceCtorEq, false_and, and_false, D.v.injEq, PyData.int.injEq, D.ref.injEq, p1i_int, p2_two, p3_three, decide_true, Bool.not_true, Bool.not_false, decide_eq_true_eq, decide_eq_false_iff_not, hall1, hall_row ha, list_tup, disp1]
  rw [cat_list (by rw [List.length_map, List.length_singleton]; omega), ok_ok]
  simp only [envE, so_seq, so_if, so_ret, so_retN, so_exp, so_nil, so_nx, so_rt, so_asg, so_asgG, so_par2, so_par3, ok_gNm, ok_gMore, ok_gNone, so_asgT, so_sub, so_for, ok_TB, ok_Tru, ok_notT, ok_andT, ok_orT, ok_andV, ok_orV, ok_notV, ok_iteE, ok_frz, ok_new, ok_mfArg, ok_mfBin, ok_lc, ok_M, ok_M0, ok_moNone, ok_moSome, ok_Sl,
  ok_bin, ok_un, ok_arg, ok_cons, ok_nil, ok_call, ok_var, ok_C, ok_ok, ok_stuck, ok_noX, bOf_bool, low_v, iOf_int, addD_int, subD_int, negD_int, ltD_int, leD_int, gtD_int, geD_int, fInt_int, isD_bool, isNotD_bool, tru_bool, List.map_cons, List.map_nil, List.length_cons, List.length_nil, List.replicate_succ, List.replicate_zero, List.cons_append, List.nil_append,
  List.append_nil, List.getElem?_cons_zero, List.getElem?_cons_succ, List.set_cons_zero, List.set_cons_succ, Option.some.injEq, exists_eq_left', exists_eq_left, true_and, and_true, true_implies, false_implies, implies_true, Bool.false_eq_true, reduceCtorEq, false_and, and_false, D.v.injEq, PyData.int.injEq, D.ref.injEq, p1i_int, p2_two, p3_three, decide_true, Bool.not_true, Bool.not_false, decide_eq_true_eq, decide_eq_false_iff_not, in_last]
  have hin : ∀ {o : Option Nat}, (match o with | none => true | some b => decide (b ∈ row rows a)) = true → InR rows a o := fun {o} h v e => by
    subst e
    exact of_decide_eq_true h
  have hout : ∀ {o : Option Nat}, (match o with | none => true | some b => decide (b ∈ row rows a)) = false → place rows a o = (row rows a).length + 1 := fun {o} h => by
    cases o with
    | none => cases h
    | some v => exact if_neg (of_decide_eq_false h)
  have hlen : ∀ st, fLen [.v (.list ((row rows a).map nI ++ [.none]))] st = .ok (.v (nI ((row rows a).length + 1))) st := fun st => by
    rw [Fw.len_list, List.length_append, List.length_map]
    rfl
  have hix : ∀ {o : Option Nat} (st : Sto), (match o with | none => true | some b => decide (b ∈ row rows a)) = true → fmIndex (.v (.list ((row rows a).map nI ++ [.none]))) [.v (optD o)] st = .ok (.v (nI (place rows a o))) st := fun st h => index_last (hin h)
  refine ⟨fun h1 => ?_, fun h1 => ?_⟩
  · simp only [envE, so_seq, so_if, so_ret, so_retN, so_exp, so_nil, so_nx, so_rt, so_asg, so_asgG, so_par2, so_par3, ok_gNm, ok_gMore, ok_gNone, so_asgT, so_sub, so_for, ok_TB, ok_Tru, ok_notT, ok_andT, ok_orT, ok_andV, ok_orV, ok_notV, ok_iteE, ok_frz, ok_new, ok_mfArg, ok_mfBin, ok_lc, ok_M, ok_M0, ok_moNone, ok_moSome, ok_Sl,
  ok_bin, ok_un, ok_arg, ok_cons, ok_nil, ok_call, ok_var, ok_C, ok_ok, ok_stuck, ok_noX, bOf_bool, low_v, iOf_int, addD_int, subD_int, negD_int, ltD_int, leD_int, gtD_int, geD_int, fInt_int, isD_bool, isNotD_bool, tru_bool, List.map_cons, List.map_nil, List.length_cons, List.length_nil, List.replicate_succ, List.replicate_zero, List.cons_append, List.nil_append,
  List.append_nil, List.getElem?_cons_zero, List.getElem?_cons_succ, List.set_cons_zero, List.set_cons_succ, Option.some.injEq, exists_eq_left', exists_eq_left, true_and, and_true, true_implies, false_implies, implies_true, Bool.false_eq_true, reduceCtorEq, false_and, and_false, D.v.injEq, PyData.int.injEq, D.ref.injEq, p1i_int, p2_two, p3_three, decide_true, Bool.not_true, Bool.not_false, decide_eq_true_eq, decide_eq_false_iff_not, ok_Index, hix _ h1, hlen]
    refine ⟨rfl, fun h2 => ?_, fun h2 => ?_⟩
    · simp only [envE, so_seq, so_if, so_ret, so_retN, so_exp, so_nil, so_nx, so_rt, so_asg, so_asgG, so_par2, so_par3, ok_gNm, ok_gMore, ok_gNone, so_asgT, so_sub, so_for, ok_TB, ok_Tru, ok_notT, ok_andT, ok_orT, ok_andV, ok_orV, ok_notV, ok_iteE, ok_frz, ok_new, ok_mfArg, ok_mfBin, ok_lc, ok_M, ok_M0, ok_moNone, ok_moSome, ok_Sl,
  ok_bin, ok_un, ok_arg, ok_cons, ok_nil, ok_call, ok_var, ok_C, ok_ok, ok_stuck, ok_noX, bOf_bool, low_v, iOf_int, addD_int, subD_int, negD_int, ltD_int, leD_int, gtD_int, geD_int, fInt_int, isD_bool, isNotD_bool, tru_bool, List.map_cons, List.map_nil, List.length_cons, List.length_nil, List.replicate_succ, List.replicate_zero, List.cons_append, List.nil_append,
  List.append_nil, List.getElem?_cons_zero, List.getElem?_cons_succ, List.set_cons_zero, List.set_cons_succ, Option.some.injEq, exists_eq_left', exists_eq_left, true_and, and_true, true_implies, false_implies, implies_true, Bool.false_eq_true, reduceCtorEq, false_and, and_false, D.v.injEq, PyData.int.injEq, D.ref.injEq, p1i_int, p2_two, p3_three, decide_true, Bool.not_true, Bool.not_false, decide_eq_true_eq, decide_eq_false_iff_not, hix _ h2]
      exact ⟨rfl, by congr 1; exact decide_eq_decide.mpr (by omega), List.take_length⟩
    · rw [hout h2]
      exact ⟨by congr 1; exact decide_eq_decide.mpr (by omega), List.take_length⟩
  · simp only [envE, so_seq, so_if, so_ret, so_retN, so_exp, so_nil, so_nx, so_rt, so_asg, so_asgG, so_par2, so_par3, ok_gNm, ok_gMore, ok_gNone, so_asgT, so_sub, so_for, ok_TB, ok_Tru, ok_notT, ok_andT, ok_orT, ok_andV, ok_orV, ok_notV, ok_iteE, ok_frz, ok_new, ok_mfArg, ok_mfBin, ok_lc, ok_M, ok_M0, ok_moNone, ok_moSome, ok_Sl,
  ok_bin, ok_un, ok_arg, ok_cons, ok_nil, ok_call, ok_var, ok_C, ok_ok, ok_stuck, ok_noX, bOf_bool, low_v, iOf_int, addD_int, subD_int, negD_int, ltD_int, leD_int, gtD_int, geD_int, fInt_int, isD_bool, isNotD_bool, tru_bool, List.map_cons, List.map_nil, List.length_cons, List.length_nil, List.replicate_succ, List.replicate_zero, List.cons_append, List.nil_append,
  List.append_nil, List.getElem?_cons_zero, List.getElem?_cons_succ, List.set_cons_zero, List.set_cons_succ, Option.some.injEq, exists_eq_left', exists_eq_left, true_and, and_true, true_implies, false_implies, implies_true, Bool.false_eq_true, reduceCtorEq, false_and, and_false, D.v.injEq, PyData.int.injEq, D.ref.injEq, p1i_int, p2_two, p3_three, decide_true, Bool.not_true, Bool.not_false, decide_eq_true_eq, decide_eq_false_iff_not, ok_Index, hlen, hout h1]
    refine ⟨fun h2 => ?_, fun h2 => ?_⟩
    · simp only [envE, so_seq, so_if, so_ret, so_retN, so_exp, so_nil, so_nx, so_rt, so_asg, so_asgG, so_par2, so_par3, ok_gNm, ok_gMore, ok_gNone, so_asgT, so_sub, so_for, ok_TB, ok_Tru, ok_notT, ok_andT, ok_orT, ok_andV, ok_orV, ok_notV, ok_iteE, ok_frz, ok_new, ok_mfArg, ok_mfBin, ok_lc, ok_M, ok_M0, ok_moNone, ok_moSome, ok_Sl,
  ok_bin, ok_un, ok_arg, ok_cons, ok_nil, ok_call, ok_var, ok_C, ok_ok, ok_stuck, ok_noX, bOf_bool, low_v, iOf_int, addD_int, subD_int, negD_int, ltD_int, leD_int, gtD_int, geD_int, fInt_int, isD_bool, isNotD_bool, tru_bool, List.map_cons, List.map_nil, List.length_cons, List.length_nil, List.replicate_succ, List.replicate_zero, List.cons_append, List.nil_append,
  List.append_nil, List.getElem?_cons_zero, List.getElem?_cons_succ, List.set_cons_zero, List.set_cons_succ, Option.some.injEq, exists_eq_left', exists_eq_left, true_and, and_true, true_implies, false_implies, implies_true, Bool.false_eq_true, reduceCtorEq, false_and, and_false, D.v.injEq, PyData.int.injEq, D.ref.injEq, p1i_int, p2_two, p3_three, decide_true, Bool.not_true, Bool.not_false, decide_eq_true_eq, decide_eq_false_iff_not, hix _ h2]
      exact ⟨rfl, by congr 1; exact decide_eq_decide.mpr (by omega), List.take_length⟩
    · rw [hout h2]
      exact ⟨by congr 1; exact decide_eq_decide.mpr (by omega), List.take_length⟩
theorem lpart_gen {d : D} (hd : ∀ (xs : List PyData), seqW d st = .ok (xs.map fun z => Itm.one (.v z), none) st → True) {ps : List (Nat × Nat)} (hs : ∀ {P : List Itm × Wt → Sto → Prop}, (seqW d st).Ok P ↔ P ((ps.map pr).map fun z => Itm.one (.v z), none) st) :
    LH.f_law_partner [d, .v (nI a)] st = .ok (.v (optD (partner ps a))) st := by
  refine Out.Ok.is (fnT_ok ?_)
  unfold LH.S_law_partner LH.law_partner_E1 LH.law_partner_T1
  simp only [envE, so_seq, so_if, so_ret, so_retN, so_exp, so_nil, so_nx, so_rt, so_asg, so_asgG, so_par2, so_par3, ok_gNm, ok_gMore, ok_gNone, so_asgT, so_sub, so_for, ok_TB, ok_Tru, ok_notT, ok_andT, ok_orT, ok_andV, ok_orV, ok_notV, ok_iteE, ok_frz, ok_new, ok_mfArg, ok_mfBin, ok_lc, ok_M, ok_M0, ok_moNone, ok_moSome, ok_Sl,
  ok_bin, ok_un, ok_arg, ok_cons, ok_nil, ok_call, ok_var, ok_C, ok_ok, ok_stuck, ok_noX, bOf_bool, low_v, iOf_int, addD_int, subD_int, negD_int, ltD_int, leD_int, gtD_int, geD_int, fInt_int, isD_bool, isNotD_bool, tru_bool, List.map_cons, List.map_nil, List.length_cons, List.length_nil, List.replicate_succ, List.replicate_zero, List.cons_append, List.nil_append,
  List.append_nil, List.getElem?_cons_zero, List.getElem?_cons_succ, List.set_cons_zero, List.set_cons_succ, Option.some.injEq, exists_eq_left', exists_eq_left, true_and, and_true, true_implies, false_implies, implies_true, Bool.false_eq_true, reduceCtorEq, false_and, and_false, D.v.injEq, PyData.int.injEq, D.ref.injEq, p1i_int, p2_two, p3_three, decide_true, Bool.not_true, Bool.not_false, decide_eq_true_eq, decide_eq_false_iff_not, ok_seq]
  rw [hs, List.map_map]
  rw [lcL_mapA _ (fun p : Nat × Nat => if a = p.1 ∨ a = p.2 then some (nI (if a = p.1 then p.2 else p.1)) else none)]
  rotate_left
  · intro p _
    unfold LH.law_partner_G1 LH.law_partner_M1
    show (gTp 2 (gMore (gNm 3) (gMore (gNm 4) gNone)) (.one (.v (.tuple [nI p.1, nI p.2]))) _ _).Ok _
    rw [ok_gTpT]
    have hin : ∀ s, inU (.v (nI a)) (.v (.tuple [nI p.1, nI p.2])) s = .ok (.v (.bool (decide (a = p.1 ∨ a = p.2)))) s := fun s => pair_in (p := p)
    simp only [envE, so_seq, so_if, so_ret, so_retN, so_exp, so_nil, so_nx, so_rt, so_asg, so_asgG, so_par2, so_par3, ok_gNm, ok_gMore, ok_gNone, so_asgT, so_sub, so_for, ok_TB, ok_Tru, ok_notT, ok_andT, ok_orT, ok_andV, ok_orV, ok_notV, ok_iteE, ok_frz, ok_new, ok_mfArg, ok_mfBin, ok_lc, ok_M, ok_M0, ok_moNone, ok_moSome, ok_Sl,
  ok_bin, ok_un, ok_arg, ok_cons, ok_nil, ok_call, ok_var, ok_C, ok_ok, ok_stuck, ok_noX, bOf_bool, low_v, iOf_int, addD_int, subD_int, negD_int, ltD_int, leD_int, gtD_int, geD_int, fInt_int, isD_bool, isNotD_bool, tru_bool, List.map_cons, List.map_nil, List.length_cons, List.length_nil, List.replicate_succ, List.replicate_zero, List.cons_append, List.nil_append,
  List.append_nil, List.getElem?_cons_zero, List.getElem?_cons_succ, List.set_cons_zero, List.set_cons_succ, Option.some.injEq, exists_eq_left', exists_eq_left, true_and, and_true, true_implies, false_implies, implies_true, Bool.false_eq_true, reduceCtorEq, false_and, and_false, D.v.injEq, PyData.int.injEq, D.ref.injEq, p1i_int, p2_two, p3_three, decide_true, Bool.not_true, Bool.not_false, decide_eq_true_eq, decide_eq_false_iff_not, wipeE, tup2, hin]
    refine ⟨fun h => ?_, fun h => by rw [if_neg h]⟩
    rw [other_at h, if_pos h]
  rw [ok_ok]
  unfold LH.S_law_partner_2
  simp only [envE, so_seq, so_if, so_ret, so_retN, so_exp, so_nil, so_nx, so_rt, so_asg, so_asgG, so_par2, so_par3, ok_gNm, ok_gMore, ok_gNone, so_asgT, so_sub, so_for, ok_TB, ok_Tru, ok_notT, ok_andT, ok_orT, ok_andV, ok_orV, ok_notV, ok_iteE, ok_frz, ok_new, ok_mfArg, ok_mfBin, ok_lc, ok_M, ok_M0, ok_moNone, ok_moSome, ok_Sl,
  ok_bin, ok_un, ok_arg, ok_cons, ok_nil, ok_call, ok_var, ok_C, ok_ok, ok_stuck, ok_noX, bOf_bool, low_v, iOf_int, addD_int, subD_int, negD_int, ltD_int, leD_int, gtD_int, geD_int, fInt_int, isD_bool, isNotD_bool, tru_bool, List.map_cons, List.map_nil, List.length_cons, List.length_nil, List.replicate_succ, List.replicate_zero, List.cons_append, List.nil_append,
  List.append_nil, List.getElem?_cons_zero, List.getElem?_cons_succ, List.set_cons_zero, List.set_cons_succ, Option.some.injEq, exists_eq_left', exists_eq_left, true_and, and_true, true_implies, false_implies, implies_true, Bool.false_eq_true, reduceCtorEq, false_and, and_false, D.v.injEq, PyData.int.injEq, D.ref.injEq, p1i_int, p2_two, p3_three, decide_true, Bool.not_true, Bool.not_false, decide_eq_true_eq, decide_eq_false_iff_not, disp0]
  have e : ps.filterMap (fun p : Nat × Nat => if a = p.1 ∨ a = p.2 then some (nI (if a = p.1 then p.2 else p.1)) else none) = (ps.filterMap fun p : Nat × Nat => if a = p.1 ∨ a = p.2 then some (if a = p.1 then p.2 else p.1) else none).map nI := by
    rw [List.map_filterMap]
    congr 1
    funext p
    split <;> rfl
  have h2 := head_partner (a := a) ps
  rw [e]
  generalize (ps.filterMap fun p : Nat × Nat => if a = p.1 ∨ a = p.2 then some (if a = p.1 then p.2 else p.1) else none) = l at h2 ⊢
  rw [ne_nilL (shaped_nats l)]
  simp only [envE, so_seq, so_if, so_ret, so_retN, so_exp, so_nil, so_nx, so_rt, so_asg, so_asgG, so_par2, so_par3, ok_gNm, ok_gMore, ok_gNone, so_asgT, so_sub, so_for, ok_TB, ok_Tru, ok_notT, ok_andT, ok_orT, ok_andV, ok_orV, ok_notV, ok_iteE, ok_frz, ok_new, ok_mfArg, ok_mfBin, ok_lc, ok_M, ok_M0, ok_moNone, ok_moSome, ok_Sl,
  ok_bin, ok_un, ok_arg, ok_cons, ok_nil, ok_call, ok_var, ok_C, ok_ok, ok_stuck, ok_noX, bOf_bool, low_v, iOf_int, addD_int, subD_int, negD_int, ltD_int, leD_int, gtD_int, geD_int, fInt_int, isD_bool, isNotD_bool, tru_bool, List.map_cons, List.map_nil, List.length_cons, List.length_nil, List.replicate_succ, List.replicate_zero, List.cons_append, List.nil_append,
  List.append_nil, List.getElem?_cons_zero, List.getElem?_cons_succ, List.set_cons_zero, List.set_cons_succ, Option.some.injEq, exists_eq_left', exists_eq_left, true_and, and_true, true_implies, false_implies, implies_true, Bool.false_eq_true, reduceCtorEq, false_and, and_false, D.v.injEq, PyData.int.injEq, D.ref.injEq, p1i_int, p2_two, p3_three, decide_true, Bool.not_true, Bool.not_false, decide_eq_true_eq, decide_eq_false_iff_not]
  rw [← h2]
  cases l with
  | nil => exact ⟨(fun z => nomatch z), fun _ => ⟨rfl, List.take_length⟩⟩
  | cons x r =>
    refine ⟨fun _ => ?_, (fun z => nomatch z)⟩
    rw [show subsD (.v (lNs (x :: r))) (.v (.int 0)) st = .ok (.v (nI x)) st from sub_list (k := 0) rfl, ok_ok]
    exact ⟨rfl, rfl, List.take_length⟩
theorem lpart_eq {ps : List (Nat × Nat)} : LH.f_law_partner [.v (pairsD ps), .v (nI a)] st = .ok (.v (optD (partner ps a))) st :=
  lpart_gen (fun _ _ => trivial) fun {P} => by
    rw [show pairsD ps = .tuple (ps.map pr) from rfl, seqW_tup, ok_ok]
theorem lwant_eq' (ha : a < rows.length) (hb : b < rows.length) : LH.f_law_want [.v (hallD rows), .v (nI a), .v (nI b)] st = .ok (.v (.bool (want rows a b))) st := lwant_eq ha hb
def step1 (rows : List (List Nat)) (S : List Nat) (s : AS) : AS := (nxt rows S s).getD s
def steps (rows : List (List Nat)) (S : List Nat) : Nat → AS → AS
  | 0, s => s
  | k + 1, s => step1 rows S (steps rows S k s)
theorem fin_of (h : nxt rows S (steps rows S k s) = none) : Fin rows S s (steps rows S k s) := by
  have key : ∀ k, (∀ t, Fin rows S (steps rows S k s) t → Fin rows S s t) := fun k => by
    induction k with
    | zero => exact fun t h => h
    | succ k ih =>
      intro t h
      refine ih t ?_
      unfold steps step1 at h
      cases e : nxt rows S (steps rows S k s) with
      | none => rw [e] at h; exact h
      | some u => rw [e] at h; exact .step e h
  exact key k _ (.done h)
theorem steps_good (T : Two rows sd S) (g : Good rows S s) : Good rows S (steps rows S k s) := by
  induction k with
  | zero => exact g
  | succ k ih =>
    unfold steps step1
    cases e : nxt rows S (steps rows S k s) with
    | none => exact ih
    | some u => exact nxt_good T ih e
theorem steps_left (T : Two rows sd S) (g : Good rows S s) : nxt rows S (steps rows S k s) = none ∨ left rows S (steps rows S k s) + k ≤ left rows S s := by
  induction k with
  | zero => exact .inr (Nat.le_refl _)
  | succ k ih =>
    rcases ih with ih | ih
    · refine .inl ?_
      unfold steps step1
      rw [ih]
      exact ih
    · cases e : nxt rows S (steps rows S k s) with
      | none =>
        refine .inl ?_
        unfold steps step1
        rw [e]
        exact e
      | some u =>
        refine .inr ?_
        have e2 : steps rows S (k + 1) s = u := by
          show step1 rows S (steps rows S k s) = u
          unfold step1
          rw [e]
          rfl
        rw [e2]
        obtain ⟨a, r, b, h1, h2, rfl⟩ := nxt_some e
        have haS := (mem_free.mp (h1 ▸ List.mem_cons_self : a ∈ freeOf rows S _ _)).1
        have := left_lt (rows := rows) (ask := (steps rows S k s).ask) T.nd haS (List.getElem?_eq_some_iff.mp h2).1
        have h3 : left rows S ⟨inc (steps rows S k s).ask a, put rows (steps rows S k s).hd b a, (steps rows S k s).out ++ [(a, b)]⟩ < left rows S (steps rows S k s) := this
        omega
end
end Fw.Tl
namespace Fw.Tl
open PySem PySem.Spec PyProof.Rows L2 Fw Fw.Hl Fw.Da Fw.Aq
section
variable {rows : List (List Nat)} {S lot : List Nat} {sd : Nat → Bool} {st : Sto} {a b m w n k : Nat} {ask : Nat → Nat} {hd : Held} {free : List Nat} {s t u : AS} {μ : List (Nat × Nat)}
theorem putAll_nd : ∀ {more acc : List (PyData × D)} {xs ys : List Nat}, acc.map (·.1) = xs.map nI → more.map (·.1) = ys.map nI → (xs ++ ys).Nodup → putAll acc more = acc ++ more
  | [], acc, _, _, _, _, _ => by rw [List.append_nil]; rfl
  | p :: more, acc, xs, [], _, h, _ => by cases h
  | p :: more, acc, xs, y :: ys, h1, h2, nd => by
    rw [List.map_cons, List.map_cons] at h2
    have e1 := List.head_eq_of_cons_eq h2
    have e2 := List.tail_eq_of_cons_eq h2
    have ny : ¬ y ∈ xs := fun z => (List.nodup_append.mp nd).2.2 y z y List.mem_cons_self rfl
    show putAll (putD acc p.1 p.2) more = _
    have e3 : putD acc p.1 p.2 = acc ++ [p] := by
      unfold putD
      have h := any_key (a := y) h1
      rw [e1, h, decide_eq_false ny]
      rw [if_neg Bool.false_ne_true, ← e1]
    rw [e3, putAll_nd (xs := xs ++ [y]) (ys := ys) (by rw [List.map_append, List.map_append, h1, List.map_singleton, List.map_singleton, e1]) e2 (by rw [List.append_assoc]; exact nd), List.append_assoc]
    rfl
def asksK (n : Nat) (l : List Nat) : List (PyData × D) := (l.zipIdx n).map fun p => (nI p.1, D.ref p.2)
theorem asksK_keys : ∀ {n : Nat} {l : List Nat}, (asksK n l).map (·.1) = l.map nI
  | _, [] => rfl
  | n, a :: l => by
    have ih := asksK_keys (n := n + 1) (l := l)
    unfold asksK at ih ⊢
    rw [List.zipIdx_cons, List.map_cons, List.map_cons, ih]
    rfl
theorem asksK_get : ∀ {n : Nat} {l : List Nat}, a ∈ l → getK false (asksK n l) (nI a) = some (.ref (n + l.idxOf a))
  | n, b :: l, h => by
    unfold asksK getK
    rw [List.zipIdx_cons, List.map_cons, List.find?_cons, List.idxOf_cons]
    by_cases e : b = a
    · subst e
      have h1 : keq false (nI b) (nI b) = true := by rw [keq_nat]; exact decide_eq_true rfl
      rw [h1]
      simp
    · have h1 : keq false (nI b) (nI a) = false := by rw [keq_nat]; exact decide_eq_false e
      have h2 : (b == a) = false := by simpa using e
      rw [h1, h2]
      have ih := asksK_get (n := n + 1) (l := l) ((List.mem_cons.mp h).resolve_left fun z => e z.symm)
      unfold asksK getK at ih
      rw [ih]
      simp only [cond_false]
      congr 2
      omega
theorem lpL_new {α : Type} {g : MG} {m : MA} {env0 : Ev} (f : α → Itm) (K : α → Nat) (V : α → O) : ∀ (l : List α) (st : Sto), (∀ a ∈ l, ∀ s, (g (f a) env0 s).Ok fun e1 s1 => s1 = s ∧ (m e1 s).Ok fun ds s2 => ds = [.v (nI (K a)), .ref s.length] ∧ s2 = s ++ [V a]) →
    lpL none g mYes m env0 (l.map f) st = .ok (asksK st.length (l.map K)) (st ++ l.map V)
  | [], st, _ => by
    rw [List.map_nil, List.map_nil, List.map_nil, List.append_nil]
    unfold lpL
    exact if_pos (show chk none st from trivial)
  | x :: l, st, h => by
    obtain ⟨e1, s1, eg, rfl, q⟩ := (h x List.mem_cons_self st).eq
    obtain ⟨ds, s2, em, rfl, rfl⟩ := q.eq
    have ih := lpL_new f K V l (s1 ++ [V x]) fun a ha => h a (List.mem_cons_of_mem _ ha)
    rw [List.map_cons]
    unfold lpL
    rw [if_pos (show chk none s1 from trivial), eg, noX_ok, bind_ok, show mYes e1 s1 = .ok true s1 from rfl, noX_ok, bind_ok, if_pos rfl, em, noX_ok, bind_ok]
    show (lpL none g mYes m env0 (l.map f) (s1 ++ [V x])).bind _ = _
    rw [ih, bind_ok]
    have hl : (s1 ++ [V x]).length = s1.length + 1 := by rw [List.length_append]; rfl
    rw [hl, List.map_cons, List.map_cons, List.append_assoc]
    rfl
theorem ok_DictLp {mi : MI} {g : MG} {t : MT} {m : MA} {own : List Nat} {env : Ev} {P : D → Sto → Prop} : (mDictLp mi g t m own env st).Ok P ↔ (mi env st).Ok fun r s1 => (lpL r.2 g t m (wipeE env own) r.1 s1).Ok fun kvs s => (kvs.all fun p => p.2.low s.length) = true ∧ P (.ref s.length) (s ++ [.dct false (putAll [] kvs)]) := by
  unfold mDictLp mLp
  rw [ok_bind, ok_bind]
  refine ⟨fun h => h.mono fun r s1 h => h.mono fun kvs s h => ?_, fun h => h.mono fun r s1 h => h.mono fun kvs s ⟨c, h⟩ => ?_⟩
  · split at h
    · rename_i c
      exact ⟨c, h⟩
    · exact h.elim
  · rw [if_pos c]
    exact h
def lst0 (rows : List (List Nat)) (S : List Nat) (ask : Nat → Nat) : List O := S.map fun a => O.lst (((wr rows a).drop (ask a)).map nI)
def qst (st : Sto) (rows : List (List Nat)) (S : List Nat) (ask : Nat → Nat) (B : List (PyData × D)) : Sto := st ++ lst0 rows S ask ++ [O.dct false (asksK st.length S), O.dct false B]
variable {B B' : List (PyData × D)}
theorem lst0_len : (lst0 rows S ask).length = S.length := by unfold lst0; rw [List.length_map]
theorem q0 : (qst st rows S ask B)[st.length + S.length]? = some (O.dct false (asksK st.length S)) := by
  unfold qst
  rw [List.getElem?_append_right (by rw [List.length_append, lst0_len]; exact Nat.le_refl _), List.length_append, lst0_len, Nat.sub_self]
  rfl
theorem q1 : (qst st rows S ask B)[st.length + S.length + 1]? = some (O.dct false B) := by
  unfold qst
  rw [List.getElem?_append_right (by rw [List.length_append, lst0_len]; omega), List.length_append, lst0_len, show st.length + S.length + 1 - (st.length + S.length) = 1 by omega]
  rfl
theorem qs1 : (qst st rows S ask B).set (st.length + S.length + 1) (O.dct false B') = qst st rows S ask B' := by
  unfold qst
  rw [List.set_append_right _ _ (by rw [List.length_append, lst0_len]; omega), List.length_append, lst0_len, show st.length + S.length + 1 - (st.length + S.length) = 1 by omega]
  rfl
theorem qa (h : a ∈ S) : (qst st rows S ask B)[st.length + S.idxOf a]? = some (O.lst (((wr rows a).drop (ask a)).map nI)) := by
  have hi := List.idxOf_lt_length_of_mem h
  unfold qst
  rw [List.getElem?_append_left (by rw [List.length_append, lst0_len]; omega), List.getElem?_append_right (by omega), show st.length + S.idxOf a - st.length = S.idxOf a by omega]
  unfold lst0
  rw [List.getElem?_map, List.getElem?_eq_getElem hi, List.getElem_idxOf hi]
  rfl
theorem qsa (nd : S.Nodup) (h : a ∈ S) : (qst st rows S ask B).set (st.length + S.idxOf a) (O.lst (((wr rows a).drop (ask a + 1)).map nI)) = qst st rows S (inc ask a) B := by
  have hi := List.idxOf_lt_length_of_mem h
  unfold qst
  rw [List.set_append_left _ _ (by rw [List.length_append, lst0_len]; omega), List.set_append_right _ _ (by omega), show st.length + S.idxOf a - st.length = S.idxOf a by omega]
  congr 2
  refine List.ext_getElem? fun j => ?_
  unfold lst0
  by_cases e : S.idxOf a = j
  · subst e
    rw [List.getElem?_set_self (by rw [List.length_map]; exact hi), List.getElem?_map, List.getElem?_eq_getElem hi, List.getElem_idxOf hi]
    show _ = some (O.lst (((wr rows a).drop (inc ask a a)).map nI))
    rw [inc_same]
  · rw [List.getElem?_set_ne e, List.getElem?_map, List.getElem?_map]
    cases hj : S[j]? with
    | none => rfl
    | some x =>
      have hx : x ≠ a := fun z => by
        subst z
        obtain ⟨h1, h2⟩ := List.getElem?_eq_some_iff.mp hj
        have h3 := nd.idxOf_getElem j h1
        rw [h2] at h3
        exact e h3
      show some (O.lst (((wr rows x).drop (ask x)).map nI)) = some (O.lst (((wr rows x).drop (inc ask a x)).map nI))
      rw [inc_ne hx]
theorem qtake : (qst st rows S ask B).take st.length = st := by unfold qst; rw [List.append_assoc]; exact List.take_left
theorem intV_held : ∀ {hd : Held}, intV (heldK hd) = some (hd.map fun p => (p.2 : Int))
  | [] => rfl
  | p :: r => by
    show (intV (heldK r)).map _ = _
    rw [intV_held (hd := r)]
    rfl
theorem vIn_held (h : st[n]? = some (.dct false (heldK hd))) : vIn true (.v (nI a)) (.ref n) st = .ok (.v (.bool (holder hd a).isNone)) st := by
  unfold vIn
  rw [viewK_dct h]
  show (match intV (heldK hd) with
    | some is => Out.ok (D.v (.bool (true ^^ is.any (· == (a : Int))))) st
    | none => .stuck) = _
  rw [intV_held]
  show Out.ok (D.v (.bool (true ^^ (hd.map fun p => (p.2 : Int)).any (· == (a : Int))))) st = _
  congr 3
  rw [Bool.true_xor, Bool.eq_iff_iff, holder_none, Bool.not_eq_true', List.any_map, List.any_eq_false]
  constructor
  · intro h w hw
    have := h (w, a) hw
    simp at this
  · intro h p hp e
    have e : p.2 = a := by
        have : (p.2 : Int) = (a : Int) := by simpa using e
        omega
    exact h p.1 (by rw [← e]; exact hp)
end
end Fw.Tl
namespace Fw.Tl
open PySem PySem.Spec PyProof.Rows L2 Fw Fw.Hl Fw.Da Fw.Aq
section
variable {rows : List (List Nat)} {S lot : List Nat} {sd : Nat → Bool} {st : Sto} {a b m w n k : Nat} {ask : Nat → Nat} {hd : Held} {free : List Nat} {s t u : AS} {μ : List (Nat × Nat)}
theorem left0_le (hS : S.length ≤ rows.length) (hw : ∀ a, (wr rows a).length ≤ rows.length) : left rows S AS0 ≤ rows.length * rows.length := by
  have key : ∀ l : List Nat, (l.map fun a => (wr rows a).length - 0).sum ≤ l.length * rows.length := fun l => by
    induction l with
    | nil => simp
    | cons a r ih =>
      rw [List.map_cons, List.sum_cons, List.length_cons, Nat.succ_mul]
      have := hw a
      omega
  exact Nat.le_trans (key S) (Nat.mul_le_mul_right _ hS)
theorem steps_end (T : Two rows sd S) (hS : S.length ≤ rows.length) (hw : ∀ a, (wr rows a).length ≤ rows.length) : nxt rows S (steps rows S (rows.length * rows.length) AS0) = none := by
  rcases steps_left (k := rows.length * rows.length) T (good0 T.nd) with h | h
  · exact h
  · cases e : nxt rows S (steps rows S (rows.length * rows.length) AS0) with
    | none => rfl
    | some u =>
      obtain ⟨a, r, b, h1, h2, _⟩ := nxt_some e
      have ha := mem_free.mp (h1 ▸ List.mem_cons_self : a ∈ freeOf rows S _ _)
      have h3 : 1 ≤ left rows S (steps rows S (rows.length * rows.length) AS0) := by
        have h4 := left_lt (rows := rows) (ask := (steps rows S (rows.length * rows.length) AS0).ask) T.nd ha.1 ha.2.1
        have h5 : left rows S (steps rows S (rows.length * rows.length) AS0) = (S.map fun b => (wr rows b).length - (steps rows S (rows.length * rows.length) AS0).ask b).sum := rfl
        omega
      have h4 := left0_le hS hw
      omega
theorem held_le (T : Two rows sd S) (g : Good rows S s) : s.hd.length ≤ rows.length := by
  have := sub_len (m := List.range rows.length) g.keys fun x hx => by
    obtain ⟨p, hp, rfl⟩ := List.mem_map.mp hx
    exact List.mem_range.mpr (T.hall.mem (want_row (g.wants (w := p.1) (m := p.2) hp)).1).1
  rw [List.length_map, List.length_range] at this
  exact this
theorem law_asking_ok (T : Two rows sd S) (hn : rows.length ≤ 50) :
    (LH.f_law_asking [.v (hallD rows), .v (tNs S)] st).Ok fun d s => s = st ∧ ∃ (ask : Nat → Nat) (hd : Held), d = .v (pairsD (outc hd)) ∧ St rows S ask hd [] := by
  have hSn : S.length ≤ rows.length := by
    have := sub_len (m := List.range rows.length) T.nd fun x hx => List.mem_range.mpr (T.mem.mp hx).1
    rw [List.length_range] at this
    exact this
  have hwl : ∀ a, (wr rows a).length ≤ rows.length := fun a => by
    unfold wr
    exact Nat.le_trans (List.length_filter_le _ _) (row_len T.hall)
  refine fnT_ok ?_
  unfold LH.S_law_asking
  simp only [envE, so_seq, so_if, so_ret, so_retN, so_exp, so_nil, so_nx, so_rt, so_asg, so_asgG, so_par2, so_par3, ok_gNm, ok_gMore, ok_gNone, so_asgT, so_sub, so_for, ok_TB, ok_Tru, ok_notT, ok_andT, ok_orT, ok_andV, ok_orV, ok_notV, ok_iteE, ok_frz, ok_new, ok_mfArg, ok_mfBin, ok_lc, ok_M, ok_M0, ok_moNone, ok_moSome, ok_Sl,
  ok_bin, ok_un, ok_arg, ok_cons, ok_nil, ok_call, ok_var, ok_C, ok_ok, ok_stuck, ok_noX, bOf_bool, low_v, iOf_int, addD_int, subD_int, negD_int, ltD_int, leD_int, gtD_int, geD_int, fInt_int, isD_bool, isNotD_bool, tru_bool, List.map_cons, List.map_nil, List.length_cons, List.length_nil, List.replicate_succ, List.replicate_zero, List.cons_append, List.nil_append,
  List.append_nil, List.getElem?_cons_zero, List.getElem?_cons_succ, List.set_cons_zero, List.set_cons_succ, Option.some.injEq, exists_eq_left', exists_eq_left, true_and, and_true, true_implies, false_implies, implies_true, Bool.false_eq_true, reduceCtorEq, false_and, and_false, D.v.injEq, PyData.int.injEq, D.ref.injEq, p1i_int, p2_two, p3_three, decide_true, Bool.not_true, Bool.not_false, decide_eq_true_eq, decide_eq_false_iff_not, ok_DictLp, ok_Dnew]
  unfold LH.law_asking_E2 LH.law_asking_T2
  simp only [envE, so_seq, so_if, so_ret, so_retN, so_exp, so_nil, so_nx, so_rt, so_asg, so_asgG, so_par2, so_par3, ok_gNm, ok_gMore, ok_gNone, so_asgT, so_sub, so_for, ok_TB, ok_Tru, ok_notT, ok_andT, ok_orT, ok_andV, ok_orV, ok_notV, ok_iteE, ok_frz, ok_new, ok_mfArg, ok_mfBin, ok_lc, ok_M, ok_M0, ok_moNone, ok_moSome, ok_Sl,
  ok_bin, ok_un, ok_arg, ok_cons, ok_nil, ok_call, ok_var, ok_C, ok_ok, ok_stuck, ok_noX, bOf_bool, low_v, iOf_int, addD_int, subD_int, negD_int, ltD_int, leD_int, gtD_int, geD_int, fInt_int, isD_bool, isNotD_bool, tru_bool, List.map_cons, List.map_nil, List.length_cons, List.length_nil, List.replicate_succ, List.replicate_zero, List.cons_append, List.nil_append,
  List.append_nil, List.getElem?_cons_zero, List.getElem?_cons_succ, List.set_cons_zero, List.set_cons_succ, Option.some.injEq, exists_eq_left', exists_eq_left, true_and, and_true, true_implies, false_implies, implies_true, Bool.false_eq_true, reduceCtorEq, false_and, and_false, D.v.injEq, PyData.int.injEq, D.ref.injEq, p1i_int, p2_two, p3_three, decide_true, Bool.not_true, Bool.not_false, decide_eq_true_eq, decide_eq_false_iff_not, ok_seq, seqW_tup, List.map_map]
  rw [lpL_new ((fun z => Itm.one (.v z)) ∘ nI) (fun a => a) (fun a => O.lst ((wr rows a).map nI)) S st]
  rotate_left
  · intro a ha s
    have han := (T.mem.mp ha).1
    unfold LH.law_asking_G2 LH.law_asking_M2
    show (gNm 4 (.one (.v (nI a))) _ _).Ok _
    unfold LH.law_asking_E1
    simp only [envE, so_seq, so_if, so_ret, so_retN, so_exp, so_nil, so_nx, so_rt, so_asg, so_asgG, so_par2, so_par3, ok_gNm, ok_gMore, ok_gNone, so_asgT, so_sub, so_for, ok_TB, ok_Tru, ok_notT, ok_andT, ok_orT, ok_andV, ok_orV, ok_notV, ok_iteE, ok_frz, ok_new, ok_mfArg, ok_mfBin, ok_lc, ok_M, ok_M0, ok_moNone, ok_moSome, ok_Sl,
  ok_bin, ok_un, ok_arg, ok_cons, ok_nil, ok_call, ok_var, ok_C, ok_ok, ok_stuck, ok_noX, bOf_bool, low_v, iOf_int, addD_int, subD_int, negD_int, ltD_int, leD_int, gtD_int, geD_int, fInt_int, isD_bool, isNotD_bool, tru_bool, List.map_cons, List.map_nil, List.length_cons, List.length_nil, List.replicate_succ, List.replicate_zero, List.cons_append, List.nil_append,
  List.append_nil, List.getElem?_cons_zero, List.getElem?_cons_succ, List.set_cons_zero, List.set_cons_succ, Option.some.injEq, exists_eq_left', exists_eq_left, true_and, and_true, true_implies, false_implies, implies_true, Bool.false_eq_true, reduceCtorEq, false_and, and_false, D.v.injEq, PyData.int.injEq, D.ref.injEq, p1i_int, p2_two, p3_three, decide_true, Bool.not_true, Bool.not_false, decide_eq_true_eq, decide_eq_false_iff_not, wipeE, ok_seq, hall1, hall_row han, seqW_tup, List.map_map]
    rw [lcL_mapA _ (fun b : Nat => if want rows a b = true then some (nI b) else none), fm_filter]
    rotate_left
    · intro b hb
      have hb2 := (T.hall.mem hb).1
      unfold LH.law_asking_G1 LH.law_asking_T1 LH.law_asking_M1
      show (gNm 5 (.one (.v (nI b))) _ _).Ok _
      simp only [envE, so_seq, so_if, so_ret, so_retN, so_exp, so_nil, so_nx, so_rt, so_asg, so_asgG, so_par2, so_par3, ok_gNm, ok_gMore, ok_gNone, so_asgT, so_sub, so_for, ok_TB, ok_Tru, ok_notT, ok_andT, ok_orT, ok_andV, ok_orV, ok_notV, ok_iteE, ok_frz, ok_new, ok_mfArg, ok_mfBin, ok_lc, ok_M, ok_M0, ok_moNone, ok_moSome, ok_Sl,
  ok_bin, ok_un, ok_arg, ok_cons, ok_nil, ok_call, ok_var, ok_C, ok_ok, ok_stuck, ok_noX, bOf_bool, low_v, iOf_int, addD_int, subD_int, negD_int, ltD_int, leD_int, gtD_int, geD_int, fInt_int, isD_bool, isNotD_bool, tru_bool, List.map_cons, List.map_nil, List.length_cons, List.length_nil, List.replicate_succ, List.replicate_zero, List.cons_append, List.nil_append,
  List.append_nil, List.getElem?_cons_zero, List.getElem?_cons_succ, List.set_cons_zero, List.set_cons_succ, Option.some.injEq, exists_eq_left', exists_eq_left, true_and, and_true, true_implies, false_implies, implies_true, Bool.false_eq_true, reduceCtorEq, false_and, and_false, D.v.injEq, PyData.int.injEq, D.ref.injEq, p1i_int, p2_two, p3_three, decide_true, Bool.not_true, Bool.not_false, decide_eq_true_eq, decide_eq_false_iff_not, wipeE, lwant_eq' han hb2]
      exact ⟨fun h => by rw [if_pos h], fun h => by rw [if_neg (by rw [h]; exact Bool.false_ne_true)]⟩
    rw [ok_ok]
    exact ⟨rfl, rfl⟩
  rw [ok_ok]
  have hput : putAll [] (asksK st.length (S.map fun a => a)) = asksK st.length S := by
    rw [List.map_id', putAll_nd (xs := []) (ys := S) rfl asksK_keys T.nd]
    rfl
  have hsl : (st ++ S.map fun a => O.lst ((wr rows a).map nI)).length = st.length + S.length := by rw [List.length_append, List.length_map]
  have hq : st ++ (S.map fun a => O.lst ((wr rows a).map nI)) ++ [O.dct false (asksK st.length S)] ++ [O.dct false []] = qst st rows S (fun _ => 0) (heldK []) := by
    unfold qst lst0
    rw [List.append_assoc]
    rfl
  have hlow : ((asksK st.length (S.map fun a => a)).all fun p => p.2.low (st.length + S.length)) = true := by
    rw [List.map_id', List.all_eq_true]
    intro p hp
    obtain ⟨q, hq, rfl⟩ := List.mem_map.mp hp
    have := List.snd_lt_of_mem_zipIdx hq
    show decide (q.2 < _) = true
    exact decide_eq_true (by omega)
  have hlen2 : (st ++ (S.map fun a => O.lst ((wr rows a).map nI)) ++ [O.dct false (asksK st.length S)]).length = st.length + S.length + 1 := by rw [List.length_append, hsl]; rfl
  rw [hput, hsl, hq, hlen2]
  refine ⟨hlow, by decide, ?_⟩
  unfold LH.S_law_asking_2 LH.law_asking_E5
  have hmul : ∀ s, mulD (.v (nI rows.length)) (.v (nI rows.length)) s = .ok (.v (nI (rows.length * rows.length))) s := fun s => by
    rw [mulD_l ⟨by omega, by omega⟩, ← Int.natCast_mul]
  have hnn : rows.length * rows.length ≤ 50 * 50 := Nat.mul_le_mul hn hn
  simp only [envE, so_seq, so_if, so_ret, so_retN, so_exp, so_nil, so_nx, so_rt, so_asg, so_asgG, so_par2, so_par3, ok_gNm, ok_gMore, ok_gNone, so_asgT, so_sub, so_for, ok_TB, ok_Tru, ok_notT, ok_andT, ok_orT, ok_andV, ok_orV, ok_notV, ok_iteE, ok_frz, ok_new, ok_mfArg, ok_mfBin, ok_lc, ok_M, ok_M0, ok_moNone, ok_moSome, ok_Sl,
  ok_bin, ok_un, ok_arg, ok_cons, ok_nil, ok_call, ok_var, ok_C, ok_ok, ok_stuck, ok_noX, bOf_bool, low_v, iOf_int, addD_int, subD_int, negD_int, ltD_int, leD_int, gtD_int, geD_int, fInt_int, isD_bool, isNotD_bool, tru_bool, List.map_cons, List.map_nil, List.length_cons, List.length_nil, List.replicate_succ, List.replicate_zero, List.cons_append, List.nil_append,
  List.append_nil, List.getElem?_cons_zero, List.getElem?_cons_succ, List.set_cons_zero, List.set_cons_succ, Option.some.injEq, exists_eq_left', exists_eq_left, true_and, and_true, true_implies, false_implies, implies_true, Bool.false_eq_true, reduceCtorEq, false_and, and_false, D.v.injEq, PyData.int.injEq, D.ref.injEq, p1i_int, p2_two, p3_three, decide_true, Bool.not_true, Bool.not_false, decide_eq_true_eq, decide_eq_false_iff_not, hall0, hmul, ok_R1]
  refine ⟨⟨by omega, by omega⟩, ?_⟩
  rw [Int.toNat_natCast]
  refine forL_inv (fun i e st' => st' = qst st rows S (steps rows S i AS0).ask (heldK (steps rows S i AS0).hd) ∧ ∃ x4 x5 x6 x7, e = [some (.v (hallD rows)), some (.v (tNs S)), some (.ref (st.length + S.length)), some (.ref (st.length + S.length + 1)), x4, x5, x6, x7]) _ _ _ 0 ?_ ?_ ⟨rfl, _, _, _, _, rfl⟩
  · rintro i d e st' hd ⟨rfl, x4, x5, x6, x7, rfl⟩
    rw [Nat.zero_add] at *
    obtain ⟨hi, rfl⟩ := rngI_get hd
    refine ⟨trivial, ?_⟩
    have g := steps_good (k := i) T (good0 (rows := rows) T.nd)
    have hhl := held_le T g
    generalize hs : steps rows S i AS0 = s at *
    have hstep : steps rows S (i + 1) AS0 = step1 rows S s := by show step1 rows S (steps rows S i AS0) = _; rw [hs]
    unfold LH.law_asking_G5 LH.law_asking_B1
    show (gNm 6 (.one (.v _)) _ _).Ok _
    unfold LH.law_asking_E3
    simp only [envE, so_seq, so_if, so_ret, so_retN, so_exp, so_nil, so_nx, so_rt, so_asg, so_asgG, so_par2, so_par3, ok_gNm, ok_gMore, ok_gNone, so_asgT, so_sub, so_for, ok_TB, ok_Tru, ok_notT, ok_andT, ok_orT, ok_andV, ok_orV, ok_notV, ok_iteE, ok_frz, ok_new, ok_mfArg, ok_mfBin, ok_lc, ok_M, ok_M0, ok_moNone, ok_moSome, ok_Sl,
  ok_bin, ok_un, ok_arg, ok_cons, ok_nil, ok_call, ok_var, ok_C, ok_ok, ok_stuck, ok_noX, bOf_bool, low_v, iOf_int, addD_int, subD_int, negD_int, ltD_int, leD_int, gtD_int, geD_int, fInt_int, isD_bool, isNotD_bool, tru_bool, List.map_cons, List.map_nil, List.length_cons, List.length_nil, List.replicate_succ, List.replicate_zero, List.cons_append, List.nil_append,
  List.append_nil, List.getElem?_cons_zero, List.getElem?_cons_succ, List.set_cons_zero, List.set_cons_succ, Option.some.injEq, exists_eq_left', exists_eq_left, true_and, and_true, true_implies, false_implies, implies_true, Bool.false_eq_true, reduceCtorEq, false_and, and_false, D.v.injEq, PyData.int.injEq, D.ref.injEq, p1i_int, p2_two, p3_three, decide_true, Bool.not_true, Bool.not_false, decide_eq_true_eq, decide_eq_false_iff_not, ok_seq, seqW_tup, List.map_map]
    rw [lcL_mapA _ (fun a : Nat => if (decide (s.ask a < (wr rows a).length) && (holder s.hd a).isNone) = true then some (nI a) else none), fm_filter]
    rotate_left
    · intro a ha
      unfold LH.law_asking_G3 LH.law_asking_T3 LH.law_asking_M3
      show (gNm 4 (.one (.v (nI a))) _ _).Ok _
      have h1 := vIn_held (a := a) (q1 (st := st) (rows := rows) (S := S) (ask := s.ask) (B := heldK s.hd))
      have h2 := sub_dct (q0 (st := st) (rows := rows) (S := S) (ask := s.ask) (B := heldK s.hd)) (asksK_get (n := st.length) ha)
      have h3 : neD (.ref (st.length + S.idxOf a)) (.v (.list [])) (qst st rows S s.ask (heldK s.hd)) = .ok (.v (.bool (!(((wr rows a).drop (s.ask a)).map nI).isEmpty))) (qst st rows S s.ask (heldK s.hd)) := ne_nilR (qa ha) (shaped_nats _)
      simp only [envE, so_seq, so_if, so_ret, so_retN, so_exp, so_nil, so_nx, so_rt, so_asg, so_asgG, so_par2, so_par3, ok_gNm, ok_gMore, ok_gNone, so_asgT, so_sub, so_for, ok_TB, ok_Tru, ok_notT, ok_andT, ok_orT, ok_andV, ok_orV, ok_notV, ok_iteE, ok_frz, ok_new, ok_mfArg, ok_mfBin, ok_lc, ok_M, ok_M0, ok_moNone, ok_moSome, ok_Sl,
  ok_bin, ok_un, ok_arg, ok_cons, ok_nil, ok_call, ok_var, ok_C, ok_ok, ok_stuck, ok_noX, bOf_bool, low_v, iOf_int, addD_int, subD_int, negD_int, ltD_int, leD_int, gtD_int, geD_int, fInt_int, isD_bool, isNotD_bool, tru_bool, List.map_cons, List.map_nil, List.length_cons, List.length_nil, List.replicate_succ, List.replicate_zero, List.cons_append, List.nil_append,
  List.append_nil, List.getElem?_cons_zero, List.getElem?_cons_succ, List.set_cons_zero, List.set_cons_succ, Option.some.injEq, exists_eq_left', exists_eq_left, true_and, and_true, true_implies, false_implies, implies_true, Bool.false_eq_true, reduceCtorEq, false_and, and_false, D.v.injEq, PyData.int.injEq, D.ref.injEq, p1i_int, p2_two, p3_three, decide_true, Bool.not_true, Bool.not_false, decide_eq_true_eq, decide_eq_false_iff_not, wipeE, h1, h2, disp0, h3]
      have h4 : (!(((wr rows a).drop (s.ask a)).map nI).isEmpty) = decide (s.ask a < (wr rows a).length) := by
        rw [Bool.eq_iff_iff, decide_eq_true_eq, Bool.not_eq_true', List.isEmpty_eq_false_iff, ne_eq, List.map_eq_nil_iff, List.drop_eq_nil_iff]
        omega
      rw [h4]
      refine ⟨fun h5 => ⟨fun h6 => ?_, fun h6 => ?_⟩, fun h5 => ?_⟩
      · rw [if_pos (by simp [h5, h6])]
      · rw [if_neg (by simp [h6])]
      · rw [if_neg (by simp [h5])]
    rw [ok_ok, show (S.filter fun a => decide (s.ask a < (wr rows a).length) && (holder s.hd a).isNone) = freeOf rows S s.ask s.hd from rfl]
    unfold LH.law_asking_B1_2 LH.law_asking_E4
    simp only [envE, so_seq, so_if, so_ret, so_retN, so_exp, so_nil, so_nx, so_rt, so_asg, so_asgG, so_par2, so_par3, ok_gNm, ok_gMore, ok_gNone, so_asgT, so_sub, so_for, ok_TB, ok_Tru, ok_notT, ok_andT, ok_orT, ok_andV, ok_orV, ok_notV, ok_iteE, ok_frz, ok_new, ok_mfArg, ok_mfBin, ok_lc, ok_M, ok_M0, ok_moNone, ok_moSome, ok_Sl,
  ok_bin, ok_un, ok_arg, ok_cons, ok_nil, ok_call, ok_var, ok_C, ok_ok, ok_stuck, ok_noX, bOf_bool, low_v, iOf_int, addD_int, subD_int, negD_int, ltD_int, leD_int, gtD_int, geD_int, fInt_int, isD_bool, isNotD_bool, tru_bool, List.map_cons, List.map_nil, List.length_cons, List.length_nil, List.replicate_succ, List.replicate_zero, List.cons_append, List.nil_append,
  List.append_nil, List.getElem?_cons_zero, List.getElem?_cons_succ, List.set_cons_zero, List.set_cons_succ, Option.some.injEq, exists_eq_left', exists_eq_left, true_and, and_true, true_implies, false_implies, implies_true, Bool.false_eq_true, reduceCtorEq, false_and, and_false, D.v.injEq, PyData.int.injEq, D.ref.injEq, p1i_int, p2_two, p3_three, decide_true, Bool.not_true, Bool.not_false, decide_eq_true_eq, decide_eq_false_iff_not, ok_seq, An.ok_fSl]
    refine ⟨_, rfl, ?_⟩
    rw [show cutP ((freeOf rows S s.ask s.hd).map nI) none (some 1) = ((freeOf rows S s.ask s.hd).map nI).take 1 from cut_take _ 1, seqW_list, ok_ok]
    cases hf : freeOf rows S s.ask s.hd with
    | nil =>
      have hno : nxt rows S s = none := by unfold nxt; rw [hf]
      have hst1 : step1 rows S s = s := by unfold step1; rw [hno]; rfl
      rw [hstep, hst1]
      refine forL_inv (fun _ e s' => s' = qst st rows S s.ask (heldK s.hd) ∧ ∃ x4 x5 x6 x7, e = [some (.v (hallD rows)), some (.v (tNs S)), some (.ref (st.length + S.length)), some (.ref (st.length + S.length + 1)), x4, x5, x6, x7]) _ _ _ 0 (by rintro i d e s hd; cases hd) ?_ ⟨rfl, _, _, _, _, rfl⟩
      rintro e s' ⟨rfl, y4, y5, y6, y7, rfl⟩
      exact ⟨trivial, rfl, _, _, _, _, rfl⟩
    | cons a r =>
      have ha := mem_free.mp (hf ▸ List.mem_cons_self : a ∈ freeOf rows S s.ask s.hd)
      have haS := ha.1
      have han := (T.mem.mp haS).1
      obtain ⟨w, hw⟩ : ∃ w, (wr rows a)[s.ask a]? = some w := ⟨_, List.getElem?_eq_getElem ha.2.1⟩
      have hwant : want rows a w = true := mem_wr.mp (List.mem_of_getElem? hw)
      have hrow := want_row hwant
      have hwn := (T.hall.mem hrow.1).1
      have hst1 : step1 rows S s = ⟨inc s.ask a, put rows s.hd w a, s.out ++ [(a, w)]⟩ := by unfold step1; rw [nxt_at hf hw]; rfl
      rw [hstep, hst1]
      show (forL none LH.law_asking_G4 LH.law_asking_B2 [Itm.one (.v (nI a))] _ _).Ok _ _
      refine forL_inv (fun i e s' => (i = 0 ∧ s' = qst st rows S s.ask (heldK s.hd) ∧ ∃ x4 x5 x6 x7, e = [some (.v (hallD rows)), some (.v (tNs S)), some (.ref (st.length + S.length)), some (.ref (st.length + S.length + 1)), x4, x5, x6, x7]) ∨
        (i = 1 ∧ s' = qst st rows S (inc s.ask a) (heldK (put rows s.hd w a)) ∧ ∃ x4 x5 x6 x7, e = [some (.v (hallD rows)), some (.v (tNs S)), some (.ref (st.length + S.length)), some (.ref (st.length + S.length + 1)), x4, x5, x6, x7])) _ _ _ 0 ?_ ?_ (.inl ⟨rfl, rfl, _, _, _, _, rfl⟩)
      · rintro i d e s' hdi hI
        have hi : i = 0 := by
          have := (List.getElem?_eq_some_iff.mp hdi).1
          simpa using this
        subst hi
        have ed : d = .one (.v (nI a)) := by simpa using hdi.symm
        subst ed
        rcases hI with ⟨_, rfl, y4, y5, y6, y7, rfl⟩ | ⟨z, _⟩
        · refine ⟨trivial, ?_⟩
          unfold LH.law_asking_G4 LH.law_asking_B2
          show (gNm 4 (.one (.v (nI a))) _ _).Ok _
          have h2 := sub_dct (q0 (st := st) (rows := rows) (S := S) (ask := s.ask) (B := heldK s.hd)) (asksK_get (n := st.length) haS)
          simp only [envE, so_seq, so_if, so_ret, so_retN, so_exp, so_nil, so_nx, so_rt, so_asg, so_asgG, so_par2, so_par3, ok_gNm, ok_gMore, ok_gNone, so_asgT, so_sub, so_for, ok_TB, ok_Tru, ok_notT, ok_andT, ok_orT, ok_andV, ok_orV, ok_notV, ok_iteE, ok_frz, ok_new, ok_mfArg, ok_mfBin, ok_lc, ok_M, ok_M0, ok_moNone, ok_moSome, ok_Sl,
  ok_bin, ok_un, ok_arg, ok_cons, ok_nil, ok_call, ok_var, ok_C, ok_ok, ok_stuck, ok_noX, bOf_bool, low_v, iOf_int, addD_int, subD_int, negD_int, ltD_int, leD_int, gtD_int, geD_int, fInt_int, isD_bool, isNotD_bool, tru_bool, List.map_cons, List.map_nil, List.length_cons, List.length_nil, List.replicate_succ, List.replicate_zero, List.cons_append, List.nil_append,
  List.append_nil, List.getElem?_cons_zero, List.getElem?_cons_succ, List.set_cons_zero, List.set_cons_succ, Option.some.injEq, exists_eq_left', exists_eq_left, true_and, and_true, true_implies, false_implies, implies_true, Bool.false_eq_true, reduceCtorEq, false_and, and_false, D.v.injEq, PyData.int.injEq, D.ref.injEq, p1i_int, p2_two, p3_three, decide_true, Bool.not_true, Bool.not_false, decide_eq_true_eq, decide_eq_false_iff_not, h2]
          have hdr : ((wr rows a).drop (s.ask a)).map nI = nI w :: ((wr rows a).drop (s.ask a + 1)).map nI := by
            rw [List.drop_eq_getElem_cons ha.2.1, List.map_cons, (List.getElem?_eq_some_iff.mp hw).2]
          have hqa := qa (st := st) (rows := rows) (ask := s.ask) (B := heldK s.hd) haS
          refine ⟨isL_ref hqa, ?_⟩
          have hpop : fmPopAt (.ref (st.length + S.idxOf a)) [.v (.int 0)] (qst st rows S s.ask (heldK s.hd)) = .ok (.v (nI w)) (qst st rows S (inc s.ask a) (heldK s.hd)) := by
            rw [← qsa T.nd haS, hdr] at *
            have h := pop_at (k := 0) hqa (Nat.succ_pos _) (by rw [List.length_cons, List.length_map, List.length_drop]; have := hwl a; omega)
            exact h
          rw [hpop, ok_ok]
          unfold LH.law_asking_B2_2
          have hfind : findS (qst st rows S (inc s.ask a) (heldK s.hd)) (.ref (st.length + S.length + 1)) (.v (nI w)) = some (getK false (heldK s.hd) (nI w)) := find_dct q1
          simp only [envE, so_seq, so_if, so_ret, so_retN, so_exp, so_nil, so_nx, so_rt, so_asg, so_asgG, so_par2, so_par3, ok_gNm, ok_gMore, ok_gNone, so_asgT, so_sub, so_for, ok_TB, ok_Tru, ok_notT, ok_andT, ok_orT, ok_andV, ok_orV, ok_notV, ok_iteE, ok_frz, ok_new, ok_mfArg, ok_mfBin, ok_lc, ok_M, ok_M0, ok_moNone, ok_moSome, ok_Sl,
  ok_bin, ok_un, ok_arg, ok_cons, ok_nil, ok_call, ok_var, ok_C, ok_ok, ok_stuck, ok_noX, bOf_bool, low_v, iOf_int, addD_int, subD_int, negD_int, ltD_int, leD_int, gtD_int, geD_int, fInt_int, isD_bool, isNotD_bool, tru_bool, List.map_cons, List.map_nil, List.length_cons, List.length_nil, List.replicate_succ, List.replicate_zero, List.cons_append, List.nil_append,
  List.append_nil, List.getElem?_cons_zero, List.getElem?_cons_succ, List.set_cons_zero, List.set_cons_succ, Option.some.injEq, exists_eq_left', exists_eq_left, true_and, and_true, true_implies, false_implies, implies_true, Bool.false_eq_true, reduceCtorEq, false_and, and_false, D.v.injEq, PyData.int.injEq, D.ref.injEq, p1i_int, p2_two, p3_three, decide_true, Bool.not_true, Bool.not_false, decide_eq_true_eq, decide_eq_false_iff_not, ok_get2, isK_dct0 (q1 (st := st) (rows := rows) (S := S) (ask := inc s.ask a) (B := heldK s.hd)), hfind]
          have htrue : ∀ (b : Bool) (s : Sto), truS' s (.v (.bool b)) = some b := fun b s => rfl
          have hkh : (heldK s.hd).length < 1000000 := by unfold heldK; rw [List.length_map]; omega
          rw [held_get]
          cases hfd : s.hd.find? (fun p => decide (p.1 = w)) with
          | none =>
            have hnk : ¬ w ∈ s.hd.map (·.1) := fun hin => by
              obtain ⟨p, hp, e⟩ := List.mem_map.mp hin
              exact absurd (decide_eq_true e) (List.find?_eq_none.mp hfd p hp)
            have hra : ∀ s, LH.f_law_rather [.v (hallD rows), .v (nI w), .v (nI a), .v .none] s = .ok (.v (.bool (decide (place rows w (some a) < place rows w none)))) s := fun s => lrat_eq (o := some a) (c := none) T.hall hn hwn
            have hlt : place rows w (some a) < place rows w none := by
              rw [place_row hrow.2]
              exact List.idxOf_lt_length_of_mem hrow.2
            rw [decide_eq_true hlt] at hra
            show (LH.f_law_rather [.v (hallD rows), .v (nI w), .v (nI a), .v .none] _).Ok _
            rw [hra, ok_ok]
            refine ⟨_, htrue _ _, fun _ => ?_, (fun z => nomatch z)⟩
            rw [set_dct q1 hkh, ok_ok, held_put hnk, qs1, put_none hfd]
            exact .inr ⟨rfl, _, _, _, _, rfl⟩
          | some p =>
            have hp1 : p.1 = w := by simpa using List.find?_some hfd
            have hpm : (w, p.2) ∈ s.hd := by rw [← hp1]; exact List.mem_of_find?_eq_some hfd
            have hra : ∀ s, LH.f_law_rather [.v (hallD rows), .v (nI w), .v (nI a), .v (nI p.2)] s = .ok (.v (.bool (decide (place rows w (some a) < place rows w (some p.2))))) s := fun s => lrat_eq (o := some a) (c := some p.2) T.hall hn hwn
            show (LH.f_law_rather [.v (hallD rows), .v (nI w), .v (nI a), .v (nI p.2)] _).Ok _
            rw [hra, ok_ok]
            refine ⟨_, htrue _ _, fun hb => ?_, fun hb => ?_⟩
            · have hr : rather rows w a (some p.2) = true := (rather_iff hrow.2).mpr (of_decide_eq_true hb)
              rw [set_dct q1 hkh, ok_ok, held_swap (List.mem_map_of_mem (f := (·.1)) hpm), qs1, put_some hfd, if_pos hr]
              exact .inr ⟨rfl, _, _, _, _, rfl⟩
            · have hr : ¬ rather rows w a (some p.2) = true := fun z => of_decide_eq_false hb ((rather_iff hrow.2).mp z)
              rw [put_some hfd, if_neg hr]
              exact .inr ⟨rfl, _, _, _, _, rfl⟩
        · cases z
      · rintro e s' hI
        rcases hI with ⟨z, _⟩ | ⟨_, rfl, y4, y5, y6, y7, rfl⟩
        · cases z
        · exact ⟨trivial, rfl, _, _, _, _, rfl⟩
  · rintro e st' ⟨rfl, x4, x5, x6, x7, rfl⟩
    refine ⟨trivial, ?_⟩
    rw [Nat.zero_add, show (rngI 0 (rows.length * rows.length)).length = rows.length * rows.length by unfold rngI; rw [List.length_map, List.length_range]]
    have hend := steps_end T hSn hwl
    have g := steps_good (k := rows.length * rows.length) T (good0 (rows := rows) T.nd)
    have s0 := fin_free T (fin_of (s := AS0) hend)
    have hhl := held_le T g
    generalize steps rows S (rows.length * rows.length) AS0 = s at *
    unfold LH.S_law_asking_3
    simp only [envE, so_seq, so_if, so_ret, so_retN, so_exp, so_nil, so_nx, so_rt, so_asg, so_asgG, so_par2, so_par3, ok_gNm, ok_gMore, ok_gNone, so_asgT, so_sub, so_for, ok_TB, ok_Tru, ok_notT, ok_andT, ok_orT, ok_andV, ok_orV, ok_notV, ok_iteE, ok_frz, ok_new, ok_mfArg, ok_mfBin, ok_lc, ok_M, ok_M0, ok_moNone, ok_moSome, ok_Sl,
  ok_bin, ok_un, ok_arg, ok_cons, ok_nil, ok_call, ok_var, ok_C, ok_ok, ok_stuck, ok_noX, bOf_bool, low_v, iOf_int, addD_int, subD_int, negD_int, ltD_int, leD_int, gtD_int, geD_int, fInt_int, isD_bool, isNotD_bool, tru_bool, List.map_cons, List.map_nil, List.length_cons, List.length_nil, List.replicate_succ, List.replicate_zero, List.cons_append, List.nil_append,
  List.append_nil, List.getElem?_cons_zero, List.getElem?_cons_succ, List.set_cons_zero, List.set_cons_succ, Option.some.injEq, exists_eq_left', exists_eq_left, true_and, and_true, true_implies, false_implies, implies_true, Bool.false_eq_true, reduceCtorEq, false_and, and_false, D.v.injEq, PyData.int.injEq, D.ref.injEq, p1i_int, p2_two, p3_three, decide_true, Bool.not_true, Bool.not_false, decide_eq_true_eq, decide_eq_false_iff_not]
    rw [ok_Lock rfl q1]
    have hlck : ((qst st rows S s.ask (heldK s.hd)).set (st.length + S.length + 1) (.lck false (heldK s.hd)))[st.length + S.length + 1]? = some (.lck false (heldK s.hd)) := List.getElem?_set_self (by unfold qst; rw [List.length_append, List.length_append, lst0_len]; show st.length + S.length + 1 < st.length + S.length + 2; omega)
    simp only [envE, so_seq, so_if, so_ret, so_retN, so_exp, so_nil, so_nx, so_rt, so_asg, so_asgG, so_par2, so_par3, ok_gNm, ok_gMore, ok_gNone, so_asgT, so_sub, so_for, ok_TB, ok_Tru, ok_notT, ok_andT, ok_orT, ok_andV, ok_orV, ok_notV, ok_iteE, ok_frz, ok_new, ok_mfArg, ok_mfBin, ok_lc, ok_M, ok_M0, ok_moNone, ok_moSome, ok_Sl,
  ok_bin, ok_un, ok_arg, ok_cons, ok_nil, ok_call, ok_var, ok_C, ok_ok, ok_stuck, ok_noX, bOf_bool, low_v, iOf_int, addD_int, subD_int, negD_int, ltD_int, leD_int, gtD_int, geD_int, fInt_int, isD_bool, isNotD_bool, tru_bool, List.map_cons, List.map_nil, List.length_cons, List.length_nil, List.replicate_succ, List.replicate_zero, List.cons_append, List.nil_append,
  List.append_nil, List.getElem?_cons_zero, List.getElem?_cons_succ, List.set_cons_zero, List.set_cons_succ, Option.some.injEq, exists_eq_left', exists_eq_left, true_and, and_true, true_implies, false_implies, implies_true, Bool.false_eq_true, reduceCtorEq, false_and, and_false, D.v.injEq, PyData.int.injEq, D.ref.injEq, p1i_int, p2_two, p3_three, decide_true, Bool.not_true, Bool.not_false, decide_eq_true_eq, decide_eq_false_iff_not]
    unfold LH.law_asking_E6 LH.law_asking_T4
    rw [items_lck rfl hlck]
    have hits : itemsI (heldK s.hd) = s.hd.map fun p => Itm.many [.v (nI p.1), .v (nI p.2)] := by
      unfold itemsI heldK
      rw [List.map_map]
      rfl
    rw [hits, lcL_all _ (fun p : Nat × Nat => pr (mm p))]
    rotate_left
    · intro p _
      unfold LH.law_asking_G6 LH.law_asking_M4
      rw [ok_gTp2]
      have hmin : ((min (p.2 : Int) (p.1 : Int)) : Int) = ((min p.1 p.2 : Nat) : Int) := by omega
      have hmax : ((max (p.2 : Int) (p.1 : Int)) : Int) = ((max p.1 p.2 : Nat) : Int) := by omega
      simp only [envE, so_seq, so_if, so_ret, so_retN, so_exp, so_nil, so_nx, so_rt, so_asg, so_asgG, so_par2, so_par3, ok_gNm, ok_gMore, ok_gNone, so_asgT, so_sub, so_for, ok_TB, ok_Tru, ok_notT, ok_andT, ok_orT, ok_andV, ok_orV, ok_notV, ok_iteE, ok_frz, ok_new, ok_mfArg, ok_mfBin, ok_lc, ok_M, ok_M0, ok_moNone, ok_moSome, ok_Sl,
  ok_bin, ok_un, ok_arg, ok_cons, ok_nil, ok_call, ok_var, ok_C, ok_ok, ok_stuck, ok_noX, bOf_bool, low_v, iOf_int, addD_int, subD_int, negD_int, ltD_int, leD_int, gtD_int, geD_int, fInt_int, isD_bool, isNotD_bool, tru_bool, List.map_cons, List.map_nil, List.length_cons, List.length_nil, List.replicate_succ, List.replicate_zero, List.cons_append, List.nil_append,
  List.append_nil, List.getElem?_cons_zero, List.getElem?_cons_succ, List.set_cons_zero, List.set_cons_succ, Option.some.injEq, exists_eq_left', exists_eq_left, true_and, and_true, true_implies, false_implies, implies_true, Bool.false_eq_true, reduceCtorEq, false_and, and_false, D.v.injEq, PyData.int.injEq, D.ref.injEq, p1i_int, p2_two, p3_three, decide_true, Bool.not_true, Bool.not_false, decide_eq_true_eq, decide_eq_false_iff_not, wipeE, bMin_int, bMax_int, tup2, hmin, hmax]
      rfl
    rw [ok_ok]
    have hP := out_prg T s0
    have hset : ((qst st rows S s.ask (heldK s.hd)).set (st.length + S.length + 1) (.lck false (heldK s.hd))).set (st.length + S.length + 1) (.dct false (heldK s.hd)) = qst st rows S s.ask (heldK s.hd) := by
      rw [List.set_set, qs1]
    have hmm : s.hd.map (fun p : Nat × Nat => pr (mm p)) = (s.hd.map mm).map pr := by rw [List.map_map]; rfl
    have hb : ∀ p ∈ s.hd.map mm, p.1 < 1000000 ∧ p.2 < 1000000 := fun p hp => by
      have := hP.lt p ((sortP_perm _).mem_iff.mpr hp)
      omega
    rw [hset, hmm, sort_pairs (by rw [List.length_map]; omega) hb, ok_ok, tup_list, ok_ok]
    exact ⟨rfl, qtake, s.ask, s.hd, rfl, s0⟩
end
end Fw.Tl
namespace Fw.Tl
open PySem PySem.Spec PyProof.Rows L2 Fw Fw.Hl Fw.Da Fw.Aq
section
variable {rows : List (List Nat)} {S lot : List Nat} {sd : Nat → Bool} {st : Sto} {a b m w n k : Nat} {ask : Nat → Nat} {hd : Held} {free : List Nat} {s t u : AS} {μ ν : List (Nat × Nat)}
structure Opt (rows : List (List Nat)) (S : List Nat) (μ : List (Nat × Nat)) : Prop where
  clm : Clm rows μ
  srt : Srt μ
  top : ∀ {ν}, Clm rows ν → ∀ {m}, m ∈ S → place rows m (partner μ m) ≤ place rows m (partner ν m)
theorem opt_of (T : Two rows sd S) (hn : rows.length ≤ 50) (s : St rows S ask hd []) : Opt rows S (outc hd) := by
  have hp := out_prg T s
  refine ⟨⟨hp, out_calm T s⟩, ?_, fun {ν} c {m} hm => out_best T s c.prg (c.mild T.hall) hm⟩
  have hb : ∀ p ∈ hd.map mm, p.1 < 1000000 ∧ p.2 < 1000000 := fun p hp' => by
    have := hp.lt p ((sortP_perm _).mem_iff.mpr hp')
    omega
  exact (sortP_eq (sortP_perm (hd.map mm)) hb).symm
theorem opt_uniq (T : Two rows sd S) (hn : rows.length ≤ 50) (h1 : Opt rows S μ) (h2 : Opt rows S ν) : μ = ν := by
  have hS : ∀ {m}, m ∈ S → partner μ m = partner ν m := fun {m} hm =>
    pl_inj h1.clm.prg h2.clm.prg (Nat.le_antisymm (h1.top h2.clm hm) (h2.top h1.clm hm))
  have half : ∀ {μ ν}, Prg rows μ → Prg rows ν → (∀ {m}, m ∈ S → partner μ m = partner ν m) → ∀ {x y}, partner μ x = some y → partner ν x = some y := fun {μ ν} p1 p2 h {x y} e => by
    have hw := want_row (partner_want p1 e)
    by_cases hx : x ∈ S
    · rw [← h hx]; exact e
    · have hxn := (T.hall.mem hw.2).1
      have hyn := (T.hall.mem hw.1).1
      have hy : y ∈ S := T.mem.mpr ⟨hyn, by
        have h3 := T.two hw.1
        rw [h3]
        cases hsd : sd x with
        | false => rfl
        | true => exact absurd (T.mem.mpr ⟨hxn, hsd⟩) hx⟩
      have e2 := partner_symm p1.toPrs e
      rw [h hy] at e2
      exact partner_symm p2.toPrs e2
  refine prg_same hn h1.clm.prg h2.clm.prg h1.srt h2.srt fun x => ?_
  cases e1 : partner μ x with
  | some y => exact (half h1.clm.prg h2.clm.prg hS e1).symm
  | none =>
    cases e2 : partner ν x with
    | none => rfl
    | some y =>
      have := half h2.clm.prg h1.clm.prg (fun h => (hS h).symm) e2
      rw [e1] at this
      cases this
theorem opt_ex (T : Two rows sd S) (hn : rows.length ≤ 50) : ∃ μ, Opt rows S μ := by
  obtain ⟨d, s, e, _, ask, hd, _, h⟩ := (law_asking_ok (st := []) T hn).eq
  exact ⟨outc hd, opt_of T hn h⟩
theorem asking_eq (T : Two rows sd S) (hn : rows.length ≤ 50) (o : Opt rows S μ) : LH.f_law_asking [.v (hallD rows), .v (tNs S)] st = .ok (.v (pairsD μ)) st := by
  obtain ⟨d, s, e, rfl, ask, hd, rfl, h⟩ := (law_asking_ok (st := st) T hn).eq
  rw [e, opt_uniq T hn (opt_of T hn h) o]
theorem by_eq {dS : D} (T : Two rows sd S) (hn : rows.length ≤ 50) (hv : ∀ {more : Sto}, viewS (st ++ more) dS = some (S.map nI)) (o : Opt rows S μ) : LH.f_pairing_by [.v (hallD rows), dS] st = .ok (.v (pairsD μ)) st := by
  obtain ⟨d, s, e, rfl, ask, hd, rfl, h⟩ := (pairing_by_ok (st := st) T hn hv).eq
  rw [e, opt_uniq T hn (opt_of T hn h) o]
theorem low_eq (T : Two rows sd S) (hn : rows.length ≤ 50) (o : Opt rows S μ) : LH.f_low_pairing [.v (hallD rows), .v (tNs S)] st = .ok (.v (pairsD μ)) st := by
  refine Out.Ok.is (fnT_ok ?_)
  unfold LH.S_low_pairing
  have hb : ∀ s, LH.f_pairing_by [.v (hallD rows), .v (tNs S)] s = .ok (.v (pairsD μ)) s := fun s => by_eq T hn viewS_tup o
  simp only [envE, so_seq, so_if, so_ret, so_retN, so_exp, so_nil, so_nx, so_rt, so_asg, so_asgG, so_par2, so_par3, ok_gNm, ok_gMore, ok_gNone, so_asgT, so_sub, so_for, ok_TB, ok_Tru, ok_notT, ok_andT, ok_orT, ok_andV, ok_orV, ok_notV, ok_iteE, ok_frz, ok_new, ok_mfArg, ok_mfBin, ok_lc, ok_M, ok_M0, ok_moNone, ok_moSome, ok_Sl,
  ok_bin, ok_un, ok_arg, ok_cons, ok_nil, ok_call, ok_var, ok_C, ok_ok, ok_stuck, ok_noX, bOf_bool, low_v, iOf_int, addD_int, subD_int, negD_int, ltD_int, leD_int, gtD_int, geD_int, fInt_int, isD_bool, isNotD_bool, tru_bool, List.map_cons, List.map_nil, List.length_cons, List.length_nil, List.replicate_succ, List.replicate_zero, List.cons_append, List.nil_append,
  List.append_nil, List.getElem?_cons_zero, List.getElem?_cons_succ, List.set_cons_zero, List.set_cons_succ, Option.some.injEq, exists_eq_left', exists_eq_left, true_and, and_true, true_implies, false_implies, implies_true, Bool.false_eq_true, reduceCtorEq, false_and, and_false, D.v.injEq, PyData.int.injEq, D.ref.injEq, p1i_int, p2_two, p3_three, decide_true, Bool.not_true, Bool.not_false, decide_eq_true_eq, decide_eq_false_iff_not, hb]
  exact List.take_length
theorem two_lot (H : Hall rows) (hl : Lot rows lot true) : Two rows (fun a => decide (a ∈ lot)) lot :=
  ⟨H, fun {a b} h => by
    have := hl.two rfl h
    by_cases z : a ∈ lot <;> by_cases y : b ∈ lot <;> simp [z, y] at this ⊢, hl.nd, fun {a} => ⟨fun h => ⟨hl.lt a h, decide_eq_true h⟩, fun h => of_decide_eq_true h.2⟩⟩
def oth (n : Nat) (lot : List Nat) : List Nat := (List.range n).filter fun a => !decide (a ∈ lot)
theorem two_oth (H : Hall rows) (hl : Lot rows lot true) : Two rows (fun a => !decide (a ∈ lot)) (oth rows.length lot) :=
  ⟨H, fun {a b} h => by
    have := hl.two rfl h
    by_cases z : a ∈ lot <;> by_cases y : b ∈ lot <;> simp [z, y] at this ⊢, List.nodup_range.filter _, fun {a} => by
    unfold oth
    rw [List.mem_filter, List.mem_range]⟩
theorem high_eq (H : Hall rows) (hl : Lot rows lot true) (hn : rows.length ≤ 50) (o : Opt rows (oth rows.length lot) μ) : LH.f_high_pairing [.v (hallD rows), .v (tNs lot)] st = .ok (.v (pairsD μ)) st := by
  refine Out.Ok.is (fnT_ok ?_)
  unfold LH.S_high_pairing LH.high_pairing_E1
  simp only [envE, so_seq, so_if, so_ret, so_retN, so_exp, so_nil, so_nx, so_rt, so_asg, so_asgG, so_par2, so_par3, ok_gNm, ok_gMore, ok_gNone, so_asgT, so_sub, so_for, ok_TB, ok_Tru, ok_notT, ok_andT, ok_orT, ok_andV, ok_orV, ok_notV, ok_iteE, ok_frz, ok_new, ok_mfArg, ok_mfBin, ok_lc, ok_M, ok_M0, ok_moNone, ok_moSome, ok_Sl,
  ok_bin, ok_un, ok_arg, ok_cons, ok_nil, ok_call, ok_var, ok_C, ok_ok, ok_stuck, ok_noX, bOf_bool, low_v, iOf_int, addD_int, subD_int, negD_int, ltD_int, leD_int, gtD_int, geD_int, fInt_int, isD_bool, isNotD_bool, tru_bool, List.map_cons, List.map_nil, List.length_cons, List.length_nil, List.replicate_succ, List.replicate_zero, List.cons_append, List.nil_append,
  List.append_nil, List.getElem?_cons_zero, List.getElem?_cons_succ, List.set_cons_zero, List.set_cons_succ, Option.some.injEq, exists_eq_left', exists_eq_left, true_and, and_true, true_implies, false_implies, implies_true, Bool.false_eq_true, reduceCtorEq, false_and, and_false, D.v.injEq, PyData.int.injEq, D.ref.injEq, p1i_int, p2_two, p3_three, decide_true, Bool.not_true, Bool.not_false, decide_eq_true_eq, decide_eq_false_iff_not, ok_seq, hall0, ok_R1]
  refine ⟨⟨by omega, by omega⟩, ?_⟩
  rw [Int.toNat_natCast, rngI_nat]
  rw [lcL_mapA _ (fun b : Nat => if (!decide (b ∈ lot)) = true then some (nI b) else none), fm_filter]
  rotate_left
  · intro b hb
    unfold LH.high_pairing_G1 LH.high_pairing_T1 LH.high_pairing_M1
    show (gNm 2 (.one (.v (nI b))) _ _).Ok _
    simp only [envE, so_seq, so_if, so_ret, so_retN, so_exp, so_nil, so_nx, so_rt, so_asg, so_asgG, so_par2, so_par3, ok_gNm, ok_gMore, ok_gNone, so_asgT, so_sub, so_for, ok_TB, ok_Tru, ok_notT, ok_andT, ok_orT, ok_andV, ok_orV, ok_notV, ok_iteE, ok_frz, ok_new, ok_mfArg, ok_mfBin, ok_lc, ok_M, ok_M0, ok_moNone, ok_moSome, ok_Sl,
  ok_bin, ok_un, ok_arg, ok_cons, ok_nil, ok_call, ok_var, ok_C, ok_ok, ok_stuck, ok_noX, bOf_bool, low_v, iOf_int, addD_int, subD_int, negD_int, ltD_int, leD_int, gtD_int, geD_int, fInt_int, isD_bool, isNotD_bool, tru_bool, List.map_cons, List.map_nil, List.length_cons, List.length_nil, List.replicate_succ, List.replicate_zero, List.cons_append, List.nil_append,
  List.append_nil, List.getElem?_cons_zero, List.getElem?_cons_succ, List.set_cons_zero, List.set_cons_succ, Option.some.injEq, exists_eq_left', exists_eq_left, true_and, and_true, true_implies, false_implies, implies_true, Bool.false_eq_true, reduceCtorEq, false_and, and_false, D.v.injEq, PyData.int.injEq, D.ref.injEq, p1i_int, p2_two, p3_three, decide_true, Bool.not_true, Bool.not_false, decide_eq_true_eq, decide_eq_false_iff_not, wipeE, notIn_tup]
    exact ⟨fun h => by rw [if_pos h], fun h => by rw [if_neg (by rw [h]; exact Bool.false_ne_true)]⟩
  rw [ok_ok]
  have hb : LH.f_pairing_by [.v (hallD rows), .v (.list (((List.range rows.length).filter fun b => !decide (b ∈ lot)).map nI))] st = .ok (.v (pairsD μ)) st := by_eq (two_oth H hl) hn viewS_list o
  rw [hb, ok_ok]
  exact ⟨rfl, rfl, List.take_length⟩
theorem others_eq (hn : rows.length ≤ 50) : LH.f_law_others [.v (hallD rows), .v (tNs lot)] st = .ok (.v (tNs (oth rows.length lot))) st := by
  refine Out.Ok.is (fnT_ok ?_)
  unfold LH.S_law_others LH.law_others_E1
  simp only [envE, so_seq, so_if, so_ret, so_retN, so_exp, so_nil, so_nx, so_rt, so_asg, so_asgG, so_par2, so_par3, ok_gNm, ok_gMore, ok_gNone, so_asgT, so_sub, so_for, ok_TB, ok_Tru, ok_notT, ok_andT, ok_orT, ok_andV, ok_orV, ok_notV, ok_iteE, ok_frz, ok_new, ok_mfArg, ok_mfBin, ok_lc, ok_M, ok_M0, ok_moNone, ok_moSome, ok_Sl,
  ok_bin, ok_un, ok_arg, ok_cons, ok_nil, ok_call, ok_var, ok_C, ok_ok, ok_stuck, ok_noX, bOf_bool, low_v, iOf_int, addD_int, subD_int, negD_int, ltD_int, leD_int, gtD_int, geD_int, fInt_int, isD_bool, isNotD_bool, tru_bool, List.map_cons, List.map_nil, List.length_cons, List.length_nil, List.replicate_succ, List.replicate_zero, List.cons_append, List.nil_append,
  List.append_nil, List.getElem?_cons_zero, List.getElem?_cons_succ, List.set_cons_zero, List.set_cons_succ, Option.some.injEq, exists_eq_left', exists_eq_left, true_and, and_true, true_implies, false_implies, implies_true, Bool.false_eq_true, reduceCtorEq, false_and, and_false, D.v.injEq, PyData.int.injEq, D.ref.injEq, p1i_int, p2_two, p3_three, decide_true, Bool.not_true, Bool.not_false, decide_eq_true_eq, decide_eq_false_iff_not, ok_seq, hall0, ok_R1]
  refine ⟨⟨by omega, by omega⟩, ?_⟩
  rw [Int.toNat_natCast, rngI_nat]
  rw [lcL_mapA _ (fun b : Nat => if (!decide (b ∈ lot)) = true then some (nI b) else none), fm_filter]
  rotate_left
  · intro b hb
    unfold LH.law_others_G1 LH.law_others_T1 LH.law_others_M1
    show (gNm 2 (.one (.v (nI b))) _ _).Ok _
    simp only [envE, so_seq, so_if, so_ret, so_retN, so_exp, so_nil, so_nx, so_rt, so_asg, so_asgG, so_par2, so_par3, ok_gNm, ok_gMore, ok_gNone, so_asgT, so_sub, so_for, ok_TB, ok_Tru, ok_notT, ok_andT, ok_orT, ok_andV, ok_orV, ok_notV, ok_iteE, ok_frz, ok_new, ok_mfArg, ok_mfBin, ok_lc, ok_M, ok_M0, ok_moNone, ok_moSome, ok_Sl,
  ok_bin, ok_un, ok_arg, ok_cons, ok_nil, ok_call, ok_var, ok_C, ok_ok, ok_stuck, ok_noX, bOf_bool, low_v, iOf_int, addD_int, subD_int, negD_int, ltD_int, leD_int, gtD_int, geD_int, fInt_int, isD_bool, isNotD_bool, tru_bool, List.map_cons, List.map_nil, List.length_cons, List.length_nil, List.replicate_succ, List.replicate_zero, List.cons_append, List.nil_append,
  List.append_nil, List.getElem?_cons_zero, List.getElem?_cons_succ, List.set_cons_zero, List.set_cons_succ, Option.some.injEq, exists_eq_left', exists_eq_left, true_and, and_true, true_implies, false_implies, implies_true, Bool.false_eq_true, reduceCtorEq, false_and, and_false, D.v.injEq, PyData.int.injEq, D.ref.injEq, p1i_int, p2_two, p3_three, decide_true, Bool.not_true, Bool.not_false, decide_eq_true_eq, decide_eq_false_iff_not, wipeE, notIn_tup]
    exact ⟨fun h => by rw [if_pos h], fun h => by rw [if_neg (by rw [h]; exact Bool.false_ne_true)]⟩
  rw [ok_ok, tup_list, ok_ok]
  exact ⟨rfl, rfl, List.take_length⟩
end
end Fw.Tl
namespace Fw.Tl
open PySem PySem.Spec PyProof.Rows L2 Fw Fw.Hl Fw.Da Fw.Aq
section
variable {rows : List (List Nat)} {S lot : List Nat} {sd : Nat → Bool} {a b m w n k : Nat} {s t u : AS} {μ ν : List (Nat × Nat)}
theorem nxt_ask (h : nxt rows S s = some u) (m : Nat) : s.ask m ≤ u.ask m := by
  obtain ⟨a, r, b, _, _, rfl⟩ := nxt_some h
  show s.ask m ≤ inc s.ask a m
  unfold inc
  split <;> omega
theorem fin_ask (h : Fin rows S s t) (m : Nat) : s.ask m ≤ t.ask m := by
  induction h with
  | done _ => exact Nat.le_refl _
  | step e _ ih => exact Nat.le_trans (nxt_ask e m) ih
theorem fin_last (T : Two rows sd S) (P : Nat → Prop) (h : Fin rows S s t) : Good rows S s → (∀ m, P m → s.ask m = t.ask m) ∨
    ∃ (v u : AS) (a b : Nat) (r : List Nat), Good rows S v ∧ P a ∧ freeOf rows S v.ask v.hd = a :: r ∧ (wr rows a)[v.ask a]? = some b ∧ u = ⟨inc v.ask a, put rows v.hd b a, v.out ++ [(a, b)]⟩ ∧ Fin rows S u t ∧ ∀ m, P m → u.ask m = t.ask m := by
  induction h with
  | done _ => exact fun _ => .inl fun _ _ => rfl
  | @step s u t e hf ih =>
    intro g
    rcases ih (nxt_good T g e) with ih | ih
    · obtain ⟨a, r, b, h1, h2, h3⟩ := nxt_some e
      by_cases hp : P a
      · exact .inr ⟨s, u, a, b, r, g, hp, h1, h2, h3, hf, ih⟩
      · refine .inl fun m hm => ?_
        rw [← ih m hm, h3]
        show s.ask m = inc s.ask a m
        rw [inc_ne (x := m) (a := a) fun z => hp (by rw [← z]; exact hm)]
    · exact .inr ih
def glad (rows : List (List Nat)) (μ ν : List (Nat × Nat)) (m : Nat) : Prop := place rows m (partner ν m) < place rows m (partner μ m)
theorem glad_some (pμ : Prg rows μ) (pν : Prg rows ν) (h : glad rows μ ν m) : ∃ w, partner ν m = some w := by
  cases e : partner ν m with
  | some w => exact ⟨w, rfl⟩
  | none =>
    unfold glad at h
    rw [e] at h
    have := pl_le (a := m) pμ
    have h1 : place rows m none = (row rows m).length := rfl
    omega
theorem blocking (T : Two rows sd S) (hn : rows.length ≤ 50) (o : Opt rows S μ) (pν : Prg rows ν) (hg : ∃ m ∈ S, glad rows μ ν m) :
    ∃ m w m1, m ∈ S ∧ ¬ glad rows μ ν m ∧ m1 ∈ S ∧ glad rows μ ν m1 ∧ partner ν m1 = some w ∧ Br rows ν m w := by
  classical
  have pμ := o.clm.prg
  by_cases C : ∃ m' w, m' ∈ S ∧ glad rows μ ν m' ∧ partner ν m' = some w ∧ ∀ m, partner μ w = some m → ¬ glad rows μ ν m
  · obtain ⟨m', w, hS, hgl, e, hno⟩ := C
    have e2 := partner_symm pν.toPrs e
    have hw := partner_want pν e
    have hr := want_row hw
    have hlt : place rows m' (some w) < place rows m' (partner μ m') := by unfold glad at hgl; rw [e] at hgl; exact hgl
    have hnb : ¬ place rows w (some m') < place rows w (partner μ w) := fun z =>
      o.clm.nobody T.hall ⟨hw, (rather_iff hr.1).mpr hlt, (rather_iff hr.2).mpr z⟩
    cases e3 : partner μ w with
    | none =>
      rw [e3] at hnb
      refine absurd ?_ hnb
      rw [place_row hr.2]
      exact List.idxOf_lt_length_of_mem hr.2
    | some m =>
      have e4 := partner_symm pμ.toPrs e3
      have hng := hno m e3
      have hmw := partner_want pμ e4
      have hrm := want_row hmw
      have hne : m ≠ m' := fun z => by subst z; rw [e4] at hlt; exact Nat.lt_irrefl _ hlt
      have hp : place rows w (some m) < place rows w (some m') := by
        rw [e3] at hnb
        refine Nat.lt_of_le_of_ne (Nat.le_of_not_lt hnb) fun z => hne (place_inj hrm.2 hr.2 z)
      have hmS : m ∈ S := T.mem.mpr ⟨(T.hall.mem hrm.2).1, by
        have h1 := T.two hrm.2
        have h2 := T.two hr.2
        have h3 := (T.mem.mp hS).2
        rw [h3] at h2
        rw [h2.symm] at h1
        exact h1⟩
      have hpm : place rows m (some w) < place rows m (partner ν m) := by
        unfold glad at hng
        rw [e4] at hng
        refine Nat.lt_of_le_of_ne (Nat.le_of_not_lt hng) fun z => ?_
        have := pl_inj pμ pν (a := m) (by rw [e4]; exact z)
        rw [e4] at this
        have h5 := partner_symm pν.toPrs this.symm
        rw [e2] at h5
        exact hne (Option.some.inj h5).symm
      exact ⟨m, w, m', hmS, hng, hS, hgl, e, hmw, (rather_iff hrm.1).mpr hpm, by rw [e2]; exact (rather_iff hrm.2).mpr hp⟩
  · have C : ∀ {m' w}, m' ∈ S → glad rows μ ν m' → partner ν m' = some w → ∃ m, partner μ w = some m ∧ glad rows μ ν m := fun {m' w} h1 h2 h3 => by
      refine Classical.byContradiction fun z => C ⟨m', w, h1, h2, h3, fun m hm hgm => z ⟨m, hm, hgm⟩⟩
    -- the run
    have hSn : S.length ≤ rows.length := by
      have := sub_len (m := List.range rows.length) T.nd fun x hx => List.mem_range.mpr (T.mem.mp hx).1
      rw [List.length_range] at this
      exact this
    have hwl : ∀ a, (wr rows a).length ≤ rows.length := fun a => by
      unfold wr
      exact Nat.le_trans (List.length_filter_le _ _) (row_len T.hall)
    have hrun := fin_of (s := AS0) (steps_end T hSn hwl)
    generalize steps rows S (rows.length * rows.length) AS0 = t at hrun
    have st := fin_free T hrun
    have hμ : outc t.hd = μ := opt_uniq T hn (opt_of T hn st) o
    have hpart : ∀ {m w}, m ∈ S → (partner μ m = some w ↔ (w, m) ∈ t.hd) := fun {m w} hm => by rw [← hμ]; exact out_partner T st hm
    have side : ∀ {x y}, x ∈ S → want rows x y = true → ∀ {z}, want rows z y = true → z ∈ S := fun {x y} hx hxy {z} hzy => by
      have h1 := T.two (want_row hxy).2
      have h2 := T.two (want_row hzy).2
      refine T.mem.mpr ⟨(T.hall.mem (want_row hzy).2).1, ?_⟩
      rw [h2, ← h1]
      exact (T.mem.mp hx).2
    -- the glad ones are matched in μ, with whom glad ones have by ν
    let A := S.filter fun m => decide (glad rows μ ν m)
    have hA : ∀ {m}, m ∈ A ↔ m ∈ S ∧ glad rows μ ν m := fun {m} => by
      show m ∈ S.filter _ ↔ _
      rw [List.mem_filter, decide_eq_true_eq]
    let f : Nat → Nat := fun m => ((partner ν m).bind (partner μ)).getD 0
    have hf : ∀ m ∈ A, ∃ w m2, partner ν m = some w ∧ partner μ w = some m2 ∧ f m = m2 ∧ m2 ∈ A := fun m hm => by
      obtain ⟨h1, h2⟩ := hA.mp hm
      obtain ⟨w, hw⟩ := glad_some pμ pν h2
      obtain ⟨m2, e1, e2⟩ := C h1 h2 hw
      refine ⟨w, m2, hw, e1, ?_, hA.mpr ⟨side h1 (partner_want pν hw) (partner_want pμ (partner_symm pμ.toPrs e1)), e2⟩⟩
      show ((partner ν m).bind (partner μ)).getD 0 = m2
      rw [hw]
      show (partner μ w).getD 0 = m2
      rw [e1]
      rfl
    have nA : A.Nodup := T.nd.filter _
    have hon := onto nA nA f (fun m hm => by obtain ⟨_, _, _, _, e, h⟩ := hf m hm; rw [e]; exact h) (fun x hx y hy e => by
      obtain ⟨w1, m1, a1, a2, a3, _⟩ := hf x hx
      obtain ⟨w2, m2, b1, b2, b3, _⟩ := hf y hy
      rw [a3, b3] at e
      subst e
      have c1 := partner_symm pμ.toPrs a2
      have c2 := partner_symm pμ.toPrs b2
      rw [c1] at c2
      cases c2
      have d1 := partner_symm pν.toPrs a1
      have d2 := partner_symm pν.toPrs b1
      rw [d1] at d2
      exact Option.some.inj d2) (Nat.le_refl _)
    have hmat : ∀ m ∈ A, ∃ w m1, partner μ m = some w ∧ m1 ∈ A ∧ partner ν m1 = some w := fun m hm => by
      obtain ⟨m1, h1, h2⟩ := hon m hm
      obtain ⟨w, m2, e1, e2, e3, _⟩ := hf m1 h1
      rw [e3] at h2
      subst h2
      exact ⟨w, m1, partner_symm pμ.toPrs e2, h1, e1⟩
    rcases fin_last T (fun m => m ∈ A) hrun (good0 T.nd) with h0 | ⟨v, u, a, b, r, gv, ha, hfree, hb, rfl, hfin, hlast⟩
    · obtain ⟨m, hm, hgl⟩ := hg
      have hm := hA.mpr ⟨hm, hgl⟩
      obtain ⟨w, m1, e1, _, _⟩ := hmat m hm
      have h1 := (st.held ((hpart (hA.mp hm).1).mp e1)).2.2.1
      have h2 : 0 = t.ask m := h0 m hm
      omega
    · obtain ⟨haS, _⟩ := hA.mp ha
      have haf := mem_free.mp (hfree ▸ List.mem_cons_self : a ∈ freeOf rows S v.ask v.hd)
      obtain ⟨w, m1, e1, hm1, e2⟩ := hmat a ha
      obtain ⟨hm1S, hm1g⟩ := hA.mp hm1
      have hta : t.ask a = v.ask a + 1 := by
        have := hlast a ha
        rw [← this]
        exact inc_same
      have hwb : b = w := by
        have h1 := (st.held ((hpart haS).mp e1)).2.2.2
        rw [hta, Nat.add_sub_cancel, hb] at h1
        exact Option.some.inj h1
      subst hwb
      have hta2 : ∀ m ∈ A, m ≠ a → t.ask m = v.ask m := fun m hm hne => by
        rw [← hlast m hm]
        exact inc_ne hne
      have hm1a : m1 ≠ a := fun z => by
        subst z
        unfold glad at hm1g
        rw [e2, e1] at hm1g
        exact Nat.lt_irrefl _ hm1g
      have hw1 := partner_want pν e2
      have hr1 := want_row hw1
      -- m1 asked b before
      obtain ⟨j, hj⟩ := wr_idx hw1
      have hjlt : j < v.ask m1 := by
        obtain ⟨w1, _, f1, _, _⟩ := hmat m1 hm1
        have h1 := st.held ((hpart hm1S).mp f1)
        rw [← hta2 m1 hm1 hm1a]
        refine Classical.byContradiction fun z => ?_
        have h2 : t.ask m1 - 1 < j := by omega
        have h3 := wr_at T.hall h1.2.2.2 hj h2
        unfold glad at hm1g
        rw [e2, f1] at hm1g
        omega
      obtain ⟨m2, h2, h3⟩ := gv.asked hm1S hjlt hj
      have hheld := gv.held h2
      have fin2 : ∀ m ∈ A, m ≠ a → (b, m) ∈ v.hd → False := fun m hm hne hh => by
        obtain ⟨w1, _, f1, _, _⟩ := hmat m hm
        have h4 := st.held ((hpart (hA.mp hm).1).mp f1)
        have h5 := gv.held hh
        rw [hta2 m hm hne] at h4
        rw [h5.2.2.2] at h4
        have h6 : b = w1 := Option.some.inj h4.2.2.2
        subst h6
        have c1 := partner_symm pμ.toPrs f1
        have c2 := partner_symm pμ.toPrs e1
        rw [c1] at c2
        exact hne (Option.some.inj c2)
      have hm2a : m2 ≠ a := fun z => by
        subst z
        exact haf.2.2 b h2
      have hm2A : ¬ m2 ∈ A := fun z => fin2 m2 z hm2a h2
      have hm2g : ¬ glad rows μ ν m2 := fun z => hm2A (hA.mpr ⟨hheld.1, z⟩)
      have hbet : place rows b (some m2) < place rows b (some m1) := by
        rcases h3 with rfl | h3
        · exact absurd hm1 hm2A
        · exact h3
      have hw2 : want rows m2 b = true := mem_wr.mp (List.mem_of_getElem? hheld.2.2.2)
      have hr2 := want_row hw2
      have hνb := partner_symm pν.toPrs e2
      have hne2 : m2 ≠ m1 := fun z => by rw [z] at hbet; exact Nat.lt_irrefl _ hbet
      -- m2 has b rather than whom it has by ν
      have hle : place rows m2 (some b) ≤ place rows m2 (partner μ m2) := by
        cases f2 : partner μ m2 with
        | none =>
          rw [place_row hr2.1]
          exact Nat.le_of_lt (List.idxOf_lt_length_of_mem hr2.1)
        | some w2 =>
          have h4 := st.held ((hpart hheld.1).mp f2)
          have h5 : v.ask m2 ≤ t.ask m2 := Nat.le_trans (by show v.ask m2 ≤ inc v.ask a m2; unfold inc; split <;> omega) (fin_ask hfin m2)
          rcases Nat.lt_or_ge (v.ask m2 - 1) (t.ask m2 - 1) with g | g
          · exact Nat.le_of_lt (wr_at T.hall hheld.2.2.2 h4.2.2.2 g)
          · have h6 : v.ask m2 - 1 = t.ask m2 - 1 := by omega
            have h7 := hheld.2.2.2
            rw [h6, h4.2.2.2] at h7
            cases h7
            exact Nat.le_refl _
      have hlt2 : place rows m2 (some b) < place rows m2 (partner ν m2) := by
        unfold glad at hm2g
        refine Nat.lt_of_le_of_ne (Nat.le_trans hle (Nat.le_of_not_lt hm2g)) fun z => ?_
        cases f3 : partner ν m2 with
        | none =>
          rw [f3, place_row hr2.1] at z
          have h8 : place rows m2 none = (row rows m2).length := rfl
          have := List.idxOf_lt_length_of_mem hr2.1
          omega
        | some w3 =>
          rw [f3] at z
          have := place_inj hr2.1 (want_row (partner_want pν f3)).1 z
          subst this
          have h9 := partner_symm pν.toPrs f3
          rw [hνb] at h9
          exact hne2 (Option.some.inj h9).symm
      exact ⟨m2, b, m1, hheld.1, hm2g, hm1S, hm1g, e2, hw2, (rather_iff hr2.1).mpr hlt2, by rw [hνb]; exact (rather_iff hr2.2).mpr hbet⟩
end
end Fw.Tl
namespace Fw.Tl
open PySem PySem.Spec PyProof.Rows L2 Fw Fw.Hl Fw.Da Fw.Aq
section
variable {rows : List (List Nat)} {S lot l : List Nat} {sd : Nat → Bool} {st : Sto} {a b m w n k : Nat} {μ ν : List (Nat × Nat)}
structure Told (rows : List (List Nat)) (lot : List Nat) (a : Nat) (l : List Nat) : Prop where
  nd : l.Nodup
  mem : ∀ b ∈ l, b < rows.length ∧ (b ∈ lot ↔ ¬ a ∈ lot)
theorem row_set (ha : a < rows.length) : row (rows.set a l) b = if b = a then l else row rows b := by
  unfold row
  rw [List.getD_eq_getElem?_getD, List.getD_eq_getElem?_getD]
  by_cases e : b = a
  · subst e
    rw [List.getElem?_set_self ha, if_pos rfl]
    rfl
  · rw [List.getElem?_set_ne (Ne.symm e), if_neg e]
theorem told_hall_ok (H : Hall rows) (ha : a < rows.length) (t : Told rows lot a l) : Hall (rows.set a l) := by
  refine ⟨by rw [List.length_set]; exact H.pos, fun b => ?_, fun {x y} h => ?_⟩
  · rw [row_set ha]
    split
    · exact t.nd
    · exact H.nd b
  · rw [row_set ha] at h
    rw [List.length_set]
    split at h
    · rename_i e
      subst e
      refine ⟨(t.mem y h).1, fun z => ?_⟩
      subst z
      have := (t.mem y h).2
      by_cases hz : y ∈ lot <;> simp [hz] at this
    · exact H.mem h
theorem told_lot_ok (hl : Lot rows lot true) (ha : a < rows.length) (t : Told rows lot a l) : Lot (rows.set a l) lot true := by
  refine ⟨hl.nd, fun x hx => by rw [List.length_set]; exact hl.lt x hx, hl.so, fun _ {x y} h => ?_⟩
  rw [row_set ha] at h
  split at h
  · rename_i e
    subst e
    exact (t.mem y h).2
  · exact hl.two rfl h
theorem rows_set (ha : a < rows.length) : PyData.tuple ((rows.take a).map tNs ++ tNs l :: (rows.drop (a + 1)).map tNs) = rowsD (rows.set a l) := by
  unfold rowsD
  rw [List.set_eq_take_append_cons_drop, if_pos ha, List.map_append, List.map_cons]
theorem told_by_eq (hn : rows.length ≤ 50) (ha : a < rows.length) : LH.f_law_told_by [.v (hallD rows), .v (nI a), .v (tNs l)] st = .ok (.v (hallD (rows.set a l))) st := by
  refine Out.Ok.is (fnT_ok ?_)
  unfold LH.S_law_told_by
  have hadd : ∀ s, addD (.v (nI a)) (.v (.int 1)) s = .ok (.v (.int ((a : Int) + 1))) s := fun s => by rw [addD_int]
  simp only [envE, so_seq, so_if, so_ret, so_retN, so_exp, so_nil, so_nx, so_rt, so_asg, so_asgG, so_par2, so_par3, ok_gNm, ok_gMore, ok_gNone, so_asgT, so_sub, so_for, ok_TB, ok_Tru, ok_notT, ok_andT, ok_orT, ok_andV, ok_orV, ok_notV, ok_iteE, ok_frz, ok_new, ok_mfArg, ok_mfBin, ok_lc, ok_M, ok_M0, ok_moNone, ok_moSome, ok_Sl,
  ok_bin, ok_un, ok_arg, ok_cons, ok_nil, ok_call, ok_var, ok_C, ok_ok, ok_stuck, ok_noX, bOf_bool, low_v, iOf_int, addD_int, subD_int, negD_int, ltD_int, leD_int, gtD_int, geD_int, fInt_int, isD_bool, isNotD_bool, tru_bool, List.map_cons, List.map_nil, List.length_cons, List.length_nil, List.replicate_succ, List.replicate_zero, List.cons_append, List.nil_append,
  List.append_nil, List.getElem?_cons_zero, List.getElem?_cons_succ, List.set_cons_zero, List.set_cons_succ, Option.some.injEq, exists_eq_left', exists_eq_left, true_and, and_true, true_implies, false_implies, implies_true, Bool.false_eq_true, reduceCtorEq, false_and, and_false, D.v.injEq, PyData.int.injEq, D.ref.injEq, p1i_int, p2_two, p3_three, decide_true, Bool.not_true, Bool.not_false, decide_eq_true_eq, decide_eq_false_iff_not, hall0, hall1, hadd, tup1]
  have h1 : ∀ s, slD (.v (rowsD rows)) none (some (a : Int)) s = .ok (.v (.tuple ((rows.take a).map tNs))) s := fun s => by
    rw [show slD (.v (rowsD rows)) none (some (a : Int)) s = _ from slice_tup, cut_take, ← List.map_take]
  have h2 : ∀ s, slD (.v (rowsD rows)) (some ((a : Int) + 1)) none s = .ok (.v (.tuple ((rows.drop (a + 1)).map tNs))) s := fun s => by
    rw [show slD (.v (rowsD rows)) (some ((a : Int) + 1)) none s = _ from slice_tup, show ((a : Int) + 1) = ((a + 1 : Nat) : Int) from rfl, cut_drop, ← List.map_drop]
  rw [h1, ok_ok, add_tupD (by simp only [List.length_map, List.length_take, List.length_singleton]; omega), ok_ok, h2, ok_ok, add_tupD (by simp only [List.length_append, List.length_map, List.length_take, List.length_drop, List.length_singleton]; omega), ok_ok]
  rw [List.append_assoc, List.singleton_append, rows_set ha, tup2, ok_ok]
  have e : PyData.tuple [nI rows.length, rowsD (rows.set a l)] = hallD (rows.set a l) := by
    unfold hallD
    rw [List.length_set]
  rw [e]
  exact ⟨rfl, rfl, List.take_length⟩
def gain (rows : List (List Nat)) (a : Nat) (μ ν : List (Nat × Nat)) : Bool := decide (place rows a (partner ν a) < place rows a (partner μ a))
theorem lgains_eq (H : Hall rows) (hl : Lot rows lot true) (hn : rows.length ≤ 50) (ha : a < rows.length) (t : Told rows lot a l) (o : Opt rows lot μ) (o2 : Opt (rows.set a l) lot ν) :
    LH.f_law_gains [.v (hallD rows), .v (tNs lot), .v (nI a), .v (tNs l)] st = .ok (.v (.bool (gain rows a μ ν))) st := by
  refine Out.Ok.is (fnT_ok ?_)
  have h1 : ∀ s, LH.f_law_asking [.v (hallD rows), .v (tNs lot)] s = .ok (.v (pairsD μ)) s := fun s => asking_eq (two_lot H hl) hn o
  have h2 : ∀ s, LH.f_law_asking [.v (hallD (rows.set a l)), .v (tNs lot)] s = .ok (.v (pairsD ν)) s := fun s => asking_eq (two_lot (told_hall_ok H ha t) (told_lot_ok hl ha t)) (by rw [List.length_set]; exact hn) o2
  have h3 : ∀ s, LH.f_law_told_by [.v (hallD rows), .v (nI a), .v (tNs l)] s = .ok (.v (hallD (rows.set a l))) s := fun s => told_by_eq hn ha
  have h4 : ∀ μ s, LH.f_law_partner [.v (pairsD μ), .v (nI a)] s = .ok (.v (optD (partner μ a))) s := fun μ s => lpart_eq
  have h5 : ∀ o c s, LH.f_law_rather [.v (hallD rows), .v (nI a), .v (optD o), .v (optD c)] s = .ok (.v (.bool (decide (place rows a o < place rows a c)))) s := fun o c s => lrat_eq H hn ha
  unfold LH.S_law_gains LH.S_law_gains_2
  simp only [envE, so_seq, so_if, so_ret, so_retN, so_exp, so_nil, so_nx, so_rt, so_asg, so_asgG, so_par2, so_par3, ok_gNm, ok_gMore, ok_gNone, so_asgT, so_sub, so_for, ok_TB, ok_Tru, ok_notT, ok_andT, ok_orT, ok_andV, ok_orV, ok_notV, ok_iteE, ok_frz, ok_new, ok_mfArg, ok_mfBin, ok_lc, ok_M, ok_M0, ok_moNone, ok_moSome, ok_Sl,
  ok_bin, ok_un, ok_arg, ok_cons, ok_nil, ok_call, ok_var, ok_C, ok_ok, ok_stuck, ok_noX, bOf_bool, low_v, iOf_int, addD_int, subD_int, negD_int, ltD_int, leD_int, gtD_int, geD_int, fInt_int, isD_bool, isNotD_bool, tru_bool, List.map_cons, List.map_nil, List.length_cons, List.length_nil, List.replicate_succ, List.replicate_zero, List.cons_append, List.nil_append,
  List.append_nil, List.getElem?_cons_zero, List.getElem?_cons_succ, List.set_cons_zero, List.set_cons_succ, Option.some.injEq, exists_eq_left', exists_eq_left, true_and, and_true, true_implies, false_implies, implies_true, Bool.false_eq_true, reduceCtorEq, false_and, and_false, D.v.injEq, PyData.int.injEq, D.ref.injEq, p1i_int, p2_two, p3_three, decide_true, Bool.not_true, Bool.not_false, decide_eq_true_eq, decide_eq_false_iff_not, h1, h2, h3, h4, h5]
  exact ⟨rfl, List.take_length⟩
end
end Fw.Tl
namespace Fw.Tl
open PySem PySem.Spec PyProof.Rows L2 Fw Fw.Hl Fw.Da Fw.Aq
section
variable {rows : List (List Nat)} {S lot l : List Nat} {sd : Nat → Bool} {st : Sto} {a b m w n k : Nat} {μ ν : List (Nat × Nat)}
theorem two_sides_ok {s : Src} {rest : Sto} {least most : Nat} (h0 : 1 ≤ least) (h1 : least ≤ most) (h2 : most ≤ 50) (ok : s.ok) :
    (LH.f_law_two_sides [.ref 1, .v (nI least), .v (nI most)] (s.sto rest)).Ok fun d st => ∃ (rows : List (List Nat)) (lot : List Nat) (s' : Src), d = .v (.tuple [hallD rows, tNs lot]) ∧ st = s'.sto rest ∧ s'.ok ∧ Hall rows ∧ least ≤ rows.length ∧ rows.length ≤ most ∧ Lot rows lot true := by
  refine fnT_ok ?_
  unfold LH.S_law_two_sides
  have hsub : ∀ s, subD (.v (nI most)) (.v (nI least)) s = .ok (.v (.int ((most : Int) - least))) s := fun s => by rw [subD_int]
  simp only [envE, so_seq, so_if, so_ret, so_retN, so_exp, so_nil, so_nx, so_rt, so_asg, so_asgG, so_par2, so_par3, ok_gNm, ok_gMore, ok_gNone, so_asgT, so_sub, so_for, ok_TB, ok_Tru, ok_notT, ok_andT, ok_orT, ok_andV, ok_orV, ok_notV, ok_iteE, ok_frz, ok_new, ok_mfArg, ok_mfBin, ok_lc, ok_M, ok_M0, ok_moNone, ok_moSome, ok_Sl,
  ok_bin, ok_un, ok_arg, ok_cons, ok_nil, ok_call, ok_var, ok_C, ok_ok, ok_stuck, ok_noX, bOf_bool, low_v, iOf_int, addD_int, subD_int, negD_int, ltD_int, leD_int, gtD_int, geD_int, fInt_int, isD_bool, isNotD_bool, tru_bool, List.map_cons, List.map_nil, List.length_cons, List.length_nil, List.replicate_succ, List.replicate_zero, List.cons_append, List.nil_append,
  List.append_nil, List.getElem?_cons_zero, List.getElem?_cons_succ, List.set_cons_zero, List.set_cons_succ, Option.some.injEq, exists_eq_left', exists_eq_left, true_and, and_true, true_implies, false_implies, implies_true, Bool.false_eq_true, reduceCtorEq, false_and, and_false, D.v.injEq, PyData.int.injEq, D.ref.injEq, p1i_int, p2_two, p3_three, decide_true, Bool.not_true, Bool.not_false, decide_eq_true_eq, decide_eq_false_iff_not, hsub]
  refine (pickB_ok s rest ((most : Int) - least + 1) (by omega) ok).mono ?_
  rintro _ _ ⟨r1, s1, rfl, rfl, ok1, h10, h11, _⟩
  have h11 := h11 (by omega)
  obtain ⟨n, hn⟩ : ∃ n : Nat, (least : Int) + r1 = (n : Int) := ⟨((least : Int) + r1).toNat, by omega⟩
  have hn1 : least ≤ n := by omega
  have hn2 : n ≤ most := by omega
  have hadd : ∀ s, addD (.v (nI least)) (.v (.int r1)) s = .ok (.v (nI n)) s := fun s => by rw [addD_int, hn]
  simp only [envE, so_seq, so_if, so_ret, so_retN, so_exp, so_nil, so_nx, so_rt, so_asg, so_asgG, so_par2, so_par3, ok_gNm, ok_gMore, ok_gNone, so_asgT, so_sub, so_for, ok_TB, ok_Tru, ok_notT, ok_andT, ok_orT, ok_andV, ok_orV, ok_notV, ok_iteE, ok_frz, ok_new, ok_mfArg, ok_mfBin, ok_lc, ok_M, ok_M0, ok_moNone, ok_moSome, ok_Sl,
  ok_bin, ok_un, ok_arg, ok_cons, ok_nil, ok_call, ok_var, ok_C, ok_ok, ok_stuck, ok_noX, bOf_bool, low_v, iOf_int, addD_int, subD_int, negD_int, ltD_int, leD_int, gtD_int, geD_int, fInt_int, isD_bool, isNotD_bool, tru_bool, List.map_cons, List.map_nil, List.length_cons, List.length_nil, List.replicate_succ, List.replicate_zero, List.cons_append, List.nil_append,
  List.append_nil, List.getElem?_cons_zero, List.getElem?_cons_succ, List.set_cons_zero, List.set_cons_succ, Option.some.injEq, exists_eq_left', exists_eq_left, true_and, and_true, true_implies, false_implies, implies_true, Bool.false_eq_true, reduceCtorEq, false_and, and_false, D.v.injEq, PyData.int.injEq, D.ref.injEq, p1i_int, p2_two, p3_three, decide_true, Bool.not_true, Bool.not_false, decide_eq_true_eq, decide_eq_false_iff_not, hadd, disp0, sto_app]
  unfold LH.S_law_two_sides_2 LH.law_two_sides_E1
  have hlen : ∀ s : Src, List.length (s.sto rest) = rest.length + 2 := fun _ => rfl
  simp only [envE, so_seq, so_if, so_ret, so_retN, so_exp, so_nil, so_nx, so_rt, so_asg, so_asgG, so_par2, so_par3, ok_gNm, ok_gMore, ok_gNone, so_asgT, so_sub, so_for, ok_TB, ok_Tru, ok_notT, ok_andT, ok_orT, ok_andV, ok_orV, ok_notV, ok_iteE, ok_frz, ok_new, ok_mfArg, ok_mfBin, ok_lc, ok_M, ok_M0, ok_moNone, ok_moSome, ok_Sl,
  ok_bin, ok_un, ok_arg, ok_cons, ok_nil, ok_call, ok_var, ok_C, ok_ok, ok_stuck, ok_noX, bOf_bool, low_v, iOf_int, addD_int, subD_int, negD_int, ltD_int, leD_int, gtD_int, geD_int, fInt_int, isD_bool, isNotD_bool, tru_bool, List.map_cons, List.map_nil, List.length_cons, List.length_nil, List.replicate_succ, List.replicate_zero, List.cons_append, List.nil_append,
  List.append_nil, List.getElem?_cons_zero, List.getElem?_cons_succ, List.set_cons_zero, List.set_cons_succ, Option.some.injEq, exists_eq_left', exists_eq_left, true_and, and_true, true_implies, false_implies, implies_true, Bool.false_eq_true, reduceCtorEq, false_and, and_false, D.v.injEq, PyData.int.injEq, D.ref.injEq, p1i_int, p2_two, p3_three, decide_true, Bool.not_true, Bool.not_false, decide_eq_true_eq, decide_eq_false_iff_not, ok_R1, hlen]
  refine ⟨⟨by omega, by omega⟩, ?_⟩
  rw [Int.toNat_natCast, rngI_nat]
  refine (lcL_some (fun i : Nat => .one (.v (.int i))) nI (List.range n) s1 ok1 ?_).mono ?_
  · intro x hx s hs
    unfold LH.law_two_sides_G1 LH.law_two_sides_T1 LH.law_two_sides_M1
    simp only [envE, so_seq, so_if, so_ret, so_retN, so_exp, so_nil, so_nx, so_rt, so_asg, so_asgG, so_par2, so_par3, ok_gNm, ok_gMore, ok_gNone, so_asgT, so_sub, so_for, ok_TB, ok_Tru, ok_notT, ok_andT, ok_orT, ok_andV, ok_orV, ok_notV, ok_iteE, ok_frz, ok_new, ok_mfArg, ok_mfBin, ok_lc, ok_M, ok_M0, ok_moNone, ok_moSome, ok_Sl,
  ok_bin, ok_un, ok_arg, ok_cons, ok_nil, ok_call, ok_var, ok_C, ok_ok, ok_stuck, ok_noX, bOf_bool, low_v, iOf_int, addD_int, subD_int, negD_int, ltD_int, leD_int, gtD_int, geD_int, fInt_int, isD_bool, isNotD_bool, tru_bool, List.map_cons, List.map_nil, List.length_cons, List.length_nil, List.replicate_succ, List.replicate_zero, List.cons_append, List.nil_append,
  List.append_nil, List.getElem?_cons_zero, List.getElem?_cons_succ, List.set_cons_zero, List.set_cons_succ, Option.some.injEq, exists_eq_left', exists_eq_left, true_and, and_true, true_implies, false_implies, implies_true, Bool.false_eq_true, reduceCtorEq, false_and, and_false, D.v.injEq, PyData.int.injEq, D.ref.injEq, p1i_int, p2_two, p3_three, decide_true, Bool.not_true, Bool.not_false, decide_eq_true_eq, decide_eq_false_iff_not, wipeE]
    refine (pickB_ok s _ 2 (by omega) hs).mono ?_
    rintro _ _ ⟨r, s', rfl, rfl, ok', _, _, _⟩
    simp only [envE, so_seq, so_if, so_ret, so_retN, so_exp, so_nil, so_nx, so_rt, so_asg, so_asgG, so_par2, so_par3, ok_gNm, ok_gMore, ok_gNone, so_asgT, so_sub, so_for, ok_TB, ok_Tru, ok_notT, ok_andT, ok_orT, ok_andV, ok_orV, ok_notV, ok_iteE, ok_frz, ok_new, ok_mfArg, ok_mfBin, ok_lc, ok_M, ok_M0, ok_moNone, ok_moSome, ok_Sl,
  ok_bin, ok_un, ok_arg, ok_cons, ok_nil, ok_call, ok_var, ok_C, ok_ok, ok_stuck, ok_noX, bOf_bool, low_v, iOf_int, addD_int, subD_int, negD_int, ltD_int, leD_int, gtD_int, geD_int, fInt_int, isD_bool, isNotD_bool, tru_bool, List.map_cons, List.map_nil, List.length_cons, List.length_nil, List.replicate_succ, List.replicate_zero, List.cons_append, List.nil_append,
  List.append_nil, List.getElem?_cons_zero, List.getElem?_cons_succ, List.set_cons_zero, List.set_cons_succ, Option.some.injEq, exists_eq_left', exists_eq_left, true_and, and_true, true_implies, false_implies, implies_true, Bool.false_eq_true, reduceCtorEq, false_and, and_false, D.v.injEq, PyData.int.injEq, D.ref.injEq, p1i_int, p2_two, p3_three, decide_true, Bool.not_true, Bool.not_false, decide_eq_true_eq, decide_eq_false_iff_not, eqD_int]
    exact ⟨s', rfl, ok'⟩
  rintro _ _ ⟨s4, lot, rfl, ok4, hsub, rfl⟩
  rw [tup_list, ok_ok]
  have hl1 : lot.Nodup := List.nodup_range.sublist hsub
  have hl2 : ∀ x ∈ lot, x < n := fun x hx => List.mem_range.mp (hsub.subset hx)
  have hl3 : lot.Pairwise (· ≤ ·) := (List.pairwise_lt_range.imp Nat.le_of_lt).sublist hsub
  unfold LH.S_law_two_sides_3 LH.law_two_sides_E3
  simp only [envE, so_seq, so_if, so_ret, so_retN, so_exp, so_nil, so_nx, so_rt, so_asg, so_asgG, so_par2, so_par3, ok_gNm, ok_gMore, ok_gNone, so_asgT, so_sub, so_for, ok_TB, ok_Tru, ok_notT, ok_andT, ok_orT, ok_andV, ok_orV, ok_notV, ok_iteE, ok_frz, ok_new, ok_mfArg, ok_mfBin, ok_lc, ok_M, ok_M0, ok_moNone, ok_moSome, ok_Sl,
  ok_bin, ok_un, ok_arg, ok_cons, ok_nil, ok_call, ok_var, ok_C, ok_ok, ok_stuck, ok_noX, bOf_bool, low_v, iOf_int, addD_int, subD_int, negD_int, ltD_int, leD_int, gtD_int, geD_int, fInt_int, isD_bool, isNotD_bool, tru_bool, List.map_cons, List.map_nil, List.length_cons, List.length_nil, List.replicate_succ, List.replicate_zero, List.cons_append, List.nil_append,
  List.append_nil, List.getElem?_cons_zero, List.getElem?_cons_succ, List.set_cons_zero, List.set_cons_succ, Option.some.injEq, exists_eq_left', exists_eq_left, true_and, and_true, true_implies, false_implies, implies_true, Bool.false_eq_true, reduceCtorEq, false_and, and_false, D.v.injEq, PyData.int.injEq, D.ref.injEq, p1i_int, p2_two, p3_three, decide_true, Bool.not_true, Bool.not_false, decide_eq_true_eq, decide_eq_false_iff_not, ok_R1, hlen]
  refine ⟨⟨by omega, by omega⟩, ?_⟩
  rw [Int.toNat_natCast]
  refine forL_inv (fun i e st => ∃ (s7 : Src) (lists : List (List Nat)), s7.ok ∧ st = s7.sto (rest ++ [.lst (lists.map tNs)]) ∧ lists.length = i ∧ (∀ j l, lists[j]? = some l → l.Nodup ∧ ∀ b ∈ l, b < n ∧ (b ∈ lot ↔ ¬ j ∈ lot)) ∧
      ∃ x6 x7 x8 x9, e = [some (.ref 1), some (.v (nI least)), some (.v (nI most)), some (.v (nI n)), some (.ref (rest.length + 2)), some (.v (tNs lot)), x6, x7, x8, x9]) _ _ _ 0 ?_ ?_
      ⟨s4, [], ok4, rfl, rfl, (fun j l z => nomatch z), _, _, _, _, rfl⟩
  · rintro i d e st hd ⟨s7, lists, ok7, rfl, hll, hg, x6, x7, x8, x9, rfl⟩
    obtain ⟨hi, rfl⟩ := rngI_get hd
    refine ⟨trivial, ?_⟩
    rw [Int.zero_add, Nat.zero_add] at *
    unfold LH.law_two_sides_G3 LH.law_two_sides_B1 LH.law_two_sides_E2
    simp only [envE, so_seq, so_if, so_ret, so_retN, so_exp, so_nil, so_nx, so_rt, so_asg, so_asgG, so_par2, so_par3, ok_gNm, ok_gMore, ok_gNone, so_asgT, so_sub, so_for, ok_TB, ok_Tru, ok_notT, ok_andT, ok_orT, ok_andV, ok_orV, ok_notV, ok_iteE, ok_frz, ok_new, ok_mfArg, ok_mfBin, ok_lc, ok_M, ok_M0, ok_moNone, ok_moSome, ok_Sl,
  ok_bin, ok_un, ok_arg, ok_cons, ok_nil, ok_call, ok_var, ok_C, ok_ok, ok_stuck, ok_noX, bOf_bool, low_v, iOf_int, addD_int, subD_int, negD_int, ltD_int, leD_int, gtD_int, geD_int, fInt_int, isD_bool, isNotD_bool, tru_bool, List.map_cons, List.map_nil, List.length_cons, List.length_nil, List.replicate_succ, List.replicate_zero, List.cons_append, List.nil_append,
  List.append_nil, List.getElem?_cons_zero, List.getElem?_cons_succ, List.set_cons_zero, List.set_cons_succ, Option.some.injEq, exists_eq_left', exists_eq_left, true_and, and_true, true_implies, false_implies, implies_true, Bool.false_eq_true, reduceCtorEq, false_and, and_false, D.v.injEq, PyData.int.injEq, D.ref.injEq, p1i_int, p2_two, p3_three, decide_true, Bool.not_true, Bool.not_false, decide_eq_true_eq, decide_eq_false_iff_not, ok_R1]
    refine ⟨⟨by omega, by omega⟩, ?_⟩
    rw [Int.toNat_natCast, rngI_nat]
    rw [lcL_mapA _ (fun x : Nat => if (decide (x ∈ lot) != decide (i ∈ lot)) = true then some (nI x) else none), fm_filter]
    rotate_left
    · intro x hx
      unfold LH.law_two_sides_G2 LH.law_two_sides_T2 LH.law_two_sides_M2
      show (gNm 8 (.one (.v (nI x))) _ _).Ok _
      have hin : ∀ s, inU (.v (.int (i : Int))) (.v (tNs lot)) s = .ok (.v (.bool (decide (i ∈ lot)))) s := fun s => in_tup (b := i)
      simp only [envE, so_seq, so_if, so_ret, so_retN, so_exp, so_nil, so_nx, so_rt, so_asg, so_asgG, so_par2, so_par3, ok_gNm, ok_gMore, ok_gNone, so_asgT, so_sub, so_for, ok_TB, ok_Tru, ok_notT, ok_andT, ok_orT, ok_andV, ok_orV, ok_notV, ok_iteE, ok_frz, ok_new, ok_mfArg, ok_mfBin, ok_lc, ok_M, ok_M0, ok_moNone, ok_moSome, ok_Sl,
  ok_bin, ok_un, ok_arg, ok_cons, ok_nil, ok_call, ok_var, ok_C, ok_ok, ok_stuck, ok_noX, bOf_bool, low_v, iOf_int, addD_int, subD_int, negD_int, ltD_int, leD_int, gtD_int, geD_int, fInt_int, isD_bool, isNotD_bool, tru_bool, List.map_cons, List.map_nil, List.length_cons, List.length_nil, List.replicate_succ, List.replicate_zero, List.cons_append, List.nil_append,
  List.append_nil, List.getElem?_cons_zero, List.getElem?_cons_succ, List.set_cons_zero, List.set_cons_succ, Option.some.injEq, exists_eq_left', exists_eq_left, true_and, and_true, true_implies, false_implies, implies_true, Bool.false_eq_true, reduceCtorEq, false_and, and_false, D.v.injEq, PyData.int.injEq, D.ref.injEq, p1i_int, p2_two, p3_three, decide_true, Bool.not_true, Bool.not_false, decide_eq_true_eq, decide_eq_false_iff_not, wipeE, in_tup, hin, ne_bool]
      exact ⟨fun h => by rw [if_pos h], fun h => by rw [if_neg (by rw [h]; exact Bool.false_ne_true)]⟩
    rw [ok_ok]
    refine (shufB s7 _ _ _ ok7 viewS_list (by rw [List.length_map]; have := List.length_filter_le (fun x => decide (x ∈ lot) != decide (i ∈ lot)) (List.range n); rw [List.length_range] at this; omega)).mono ?_
    rintro _ _ ⟨ys, s8, rfl, rfl, ok8, hp⟩
    obtain ⟨l, rfl, hp2⟩ := perm_unmap hp rfl
    have hll2 : l.length ≤ n := by
      have h1 := hp2.length_eq
      have := List.length_filter_le (fun x => decide (x ∈ lot) != decide (i ∈ lot)) (List.range n)
      rw [List.length_range] at this
      omega
    unfold LH.law_two_sides_B1_2
    have t6 : ∀ {a b c d e f : PyData} {st}, gDisp [.v a, .v b, .v c, .v d, .v e, .v f] st = .ok [a, b, c, d, e, f] st := fun {_ _ _ _ _ _ _} => rfl
    simp only [envE, so_seq, so_if, so_ret, so_retN, so_exp, so_nil, so_nx, so_rt, so_asg, so_asgG, so_par2, so_par3, ok_gNm, ok_gMore, ok_gNone, so_asgT, so_sub, so_for, ok_TB, ok_Tru, ok_notT, ok_andT, ok_orT, ok_andV, ok_orV, ok_notV, ok_iteE, ok_frz, ok_new, ok_mfArg, ok_mfBin, ok_lc, ok_M, ok_M0, ok_moNone, ok_moSome, ok_Sl,
  ok_bin, ok_un, ok_arg, ok_cons, ok_nil, ok_call, ok_var, ok_C, ok_ok, ok_stuck, ok_noX, bOf_bool, low_v, iOf_int, addD_int, subD_int, negD_int, ltD_int, leD_int, gtD_int, geD_int, fInt_int, isD_bool, isNotD_bool, tru_bool, List.map_cons, List.map_nil, List.length_cons, List.length_nil, List.replicate_succ, List.replicate_zero, List.cons_append, List.nil_append,
  List.append_nil, List.getElem?_cons_zero, List.getElem?_cons_succ, List.set_cons_zero, List.set_cons_succ, Option.some.injEq, exists_eq_left', exists_eq_left, true_and, and_true, true_implies, false_implies, implies_true, Bool.false_eq_true, reduceCtorEq, false_and, and_false, D.v.injEq, PyData.int.injEq, D.ref.injEq, p1i_int, p2_two, p3_three, decide_true, Bool.not_true, Bool.not_false, decide_eq_true_eq, decide_eq_false_iff_not, t6]
    refine (oneOfB s8 _ [.int 0, .int 0, .int 0, .int 0, .int 1, .int 2] ok8 (by decide) (by decide)).mono ?_
    rintro _ _ ⟨z, s9, rfl, hz, rfl, ok9⟩
    obtain ⟨k, rfl⟩ : ∃ k : Nat, z = nI k := by
      simp only [List.mem_cons, List.not_mem_nil, or_false] at hz
      rcases hz with rfl | rfl | rfl | rfl | rfl | rfl
      · exact ⟨0, rfl⟩
      · exact ⟨0, rfl⟩
      · exact ⟨0, rfl⟩
      · exact ⟨0, rfl⟩
      · exact ⟨1, rfl⟩
      · exact ⟨2, rfl⟩
    unfold LH.law_two_sides_B1_3
    have hlen3 : ∀ s, fLen [.v (.list (l.map nI))] s = .ok (.v (nI l.length)) s := fun s => by rw [Fw.len_list, List.length_map]
    have hmx : ∀ s, f2I intMax [.v (.int 0), .v (.int ((l.length : Int) - (k : Int)))] s = .ok (.v (nI (l.length - k))) s := fun s => by
      rw [bMax_int]
      have : max (0 : Int) ((l.length : Int) - (k : Int)) = ((l.length - k : Nat) : Int) := by omega
      rw [this]
    have hsb : ∀ s, subD (.v (nI l.length)) (.v (nI k)) s = .ok (.v (.int ((l.length : Int) - (k : Int)))) s := fun s => by rw [subD_int]
    simp only [envE, so_seq, so_if, so_ret, so_retN, so_exp, so_nil, so_nx, so_rt, so_asg, so_asgG, so_par2, so_par3, ok_gNm, ok_gMore, ok_gNone, so_asgT, so_sub, so_for, ok_TB, ok_Tru, ok_notT, ok_andT, ok_orT, ok_andV, ok_orV, ok_notV, ok_iteE, ok_frz, ok_new, ok_mfArg, ok_mfBin, ok_lc, ok_M, ok_M0, ok_moNone, ok_moSome, ok_Sl,
  ok_bin, ok_un, ok_arg, ok_cons, ok_nil, ok_call, ok_var, ok_C, ok_ok, ok_stuck, ok_noX, bOf_bool, low_v, iOf_int, addD_int, subD_int, negD_int, ltD_int, leD_int, gtD_int, geD_int, fInt_int, isD_bool, isNotD_bool, tru_bool, List.map_cons, List.map_nil, List.length_cons, List.length_nil, List.replicate_succ, List.replicate_zero, List.cons_append, List.nil_append,
  List.append_nil, List.getElem?_cons_zero, List.getElem?_cons_succ, List.set_cons_zero, List.set_cons_succ, Option.some.injEq, exists_eq_left', exists_eq_left, true_and, and_true, true_implies, false_implies, implies_true, Bool.false_eq_true, reduceCtorEq, false_and, and_false, D.v.injEq, PyData.int.injEq, D.ref.injEq, p1i_int, p2_two, p3_three, decide_true, Bool.not_true, Bool.not_false, decide_eq_true_eq, decide_eq_false_iff_not, hlen3, hsb, hmx]
    refine ⟨isL_ref sto_at, ?_⟩
    rw [show slD (.v (.list (l.map nI))) none (some ((l.length - k : Nat) : Int)) (s9.sto (rest ++ [.lst (lists.map tNs)])) = _ from slice_list, ok_ok, cut_take, ← List.map_take, tup_list, ok_ok, append_at sto_at (by rw [List.length_map]; omega), ok_ok, sto_set]
    refine ⟨s9, lists ++ [l.take (l.length - k)], ok9, by rw [List.map_append]; rfl, by rw [List.length_append, hll]; rfl, fun j m hm => ?_, _, _, _, _, rfl⟩
    by_cases hj : j < lists.length
    · rw [List.getElem?_append_left hj] at hm
      exact hg j m hm
    · rw [List.getElem?_append_right (by omega)] at hm
      have hj2 : j = i := by
        obtain ⟨h0, _⟩ := List.getElem?_eq_some_iff.mp hm
        rw [List.length_singleton] at h0
        omega
      subst hj2
      rw [hll, Nat.sub_self] at hm
      cases hm
      refine ⟨(hp2.nodup_iff.mpr (List.nodup_range.filter _)).sublist (List.take_sublist _ _), fun b hb => ?_⟩
      obtain ⟨q1, q2⟩ := List.mem_filter.mp (hp2.mem_iff.mp (List.mem_of_mem_take hb))
      refine ⟨List.mem_range.mp q1, ?_⟩
      by_cases z1 : b ∈ lot <;> by_cases z2 : j ∈ lot <;> simp [z1, z2] at q2 ⊢
  · rintro e st ⟨s7, lists, ok7, rfl, hll, hg, x6, x7, x8, x9, rfl⟩
    refine ⟨trivial, ?_⟩
    rw [show (rngI 0 n).length = n by unfold rngI; rw [List.length_map, List.length_range], Nat.zero_add] at hll
    subst hll
    unfold LH.S_law_two_sides_4
    simp only [envE, so_seq, so_if, so_ret, so_retN, so_exp, so_nil, so_nx, so_rt, so_asg, so_asgG, so_par2, so_par3, ok_gNm, ok_gMore, ok_gNone, so_asgT, so_sub, so_for, ok_TB, ok_Tru, ok_notT, ok_andT, ok_orT, ok_andV, ok_orV, ok_notV, ok_iteE, ok_frz, ok_new, ok_mfArg, ok_mfBin, ok_lc, ok_M, ok_M0, ok_moNone, ok_moSome, ok_Sl,
  ok_bin, ok_un, ok_arg, ok_cons, ok_nil, ok_call, ok_var, ok_C, ok_ok, ok_stuck, ok_noX, bOf_bool, low_v, iOf_int, addD_int, subD_int, negD_int, ltD_int, leD_int, gtD_int, geD_int, fInt_int, isD_bool, isNotD_bool, tru_bool, List.map_cons, List.map_nil, List.length_cons, List.length_nil, List.replicate_succ, List.replicate_zero, List.cons_append, List.nil_append,
  List.append_nil, List.getElem?_cons_zero, List.getElem?_cons_succ, List.set_cons_zero, List.set_cons_succ, Option.some.injEq, exists_eq_left', exists_eq_left, true_and, and_true, true_implies, false_implies, implies_true, Bool.false_eq_true, reduceCtorEq, false_and, and_false, D.v.injEq, PyData.int.injEq, D.ref.injEq, p1i_int, p2_two, p3_three, decide_true, Bool.not_true, Bool.not_false, decide_eq_true_eq, decide_eq_false_iff_not, tup2, tup_of sto_at]
    have key : ∀ a, (row lists a).Nodup ∧ ∀ b ∈ row lists a, b < lists.length ∧ (b ∈ lot ↔ ¬ a ∈ lot) := fun a => by
      unfold row
      rw [List.getD_eq_getElem?_getD]
      cases h : lists[a]? with
      | none => exact ⟨List.nodup_nil, fun b z => nomatch z⟩
      | some l => exact hg a l h
    refine ⟨lists, lot, s7, rfl, ?_, ok7, ⟨by omega, fun a => (key a).1, fun {a b} hb => ⟨((key a).2 b hb).1, fun e => ?_⟩⟩, hn1, hn2, ⟨hl1, hl2, hl3, fun _ {a b} hb => ((key a).2 b hb).2⟩⟩
    · exact sto_take (more := [.lst (lists.map tNs)])
    · have := ((key a).2 b hb).2
      rw [e] at this
      by_cases z : a ∈ lot <;> simp [z] at this
theorem drawn_row_ok {s : Src} {rest : Sto} (hn : rows.length ≤ 50) (ok : s.ok) :
    (LH.f_law_drawn_row [.ref 1, .v (hallD rows), .v (tNs lot), .v (nI a)] (s.sto rest)).Ok fun d st => ∃ (l : List Nat) (s' : Src), d = .v (tNs l) ∧ st = s'.sto rest ∧ s'.ok ∧ Told rows lot a l := by
  refine fnT_ok ?_
  unfold LH.S_law_drawn_row LH.law_drawn_row_E1
  simp only [envE, so_seq, so_if, so_ret, so_retN, so_exp, so_nil, so_nx, so_rt, so_asg, so_asgG, so_par2, so_par3, ok_gNm, ok_gMore, ok_gNone, so_asgT, so_sub, so_for, ok_TB, ok_Tru, ok_notT, ok_andT, ok_orT, ok_andV, ok_orV, ok_notV, ok_iteE, ok_frz, ok_new, ok_mfArg, ok_mfBin, ok_lc, ok_M, ok_M0, ok_moNone, ok_moSome, ok_Sl,
  ok_bin, ok_un, ok_arg, ok_cons, ok_nil, ok_call, ok_var, ok_C, ok_ok, ok_stuck, ok_noX, bOf_bool, low_v, iOf_int, addD_int, subD_int, negD_int, ltD_int, leD_int, gtD_int, geD_int, fInt_int, isD_bool, isNotD_bool, tru_bool, List.map_cons, List.map_nil, List.length_cons, List.length_nil, List.replicate_succ, List.replicate_zero, List.cons_append, List.nil_append,
  List.append_nil, List.getElem?_cons_zero, List.getElem?_cons_succ, List.set_cons_zero, List.set_cons_succ, Option.some.injEq, exists_eq_left', exists_eq_left, true_and, and_true, true_implies, false_implies, implies_true, Bool.false_eq_true, reduceCtorEq, false_and, and_false, D.v.injEq, PyData.int.injEq, D.ref.injEq, p1i_int, p2_two, p3_three, decide_true, Bool.not_true, Bool.not_false, decide_eq_true_eq, decide_eq_false_iff_not, hall0, ok_R1]
  refine ⟨⟨by omega, by omega⟩, ?_⟩
  rw [Int.toNat_natCast, rngI_nat]
  rw [lcL_mapA _ (fun x : Nat => if (decide (x ∈ lot) != decide (a ∈ lot)) = true then some (nI x) else none), fm_filter]
  rotate_left
  · intro x hx
    unfold LH.law_drawn_row_G1 LH.law_drawn_row_T1 LH.law_drawn_row_M1
    show (gNm 5 (.one (.v (nI x))) _ _).Ok _
    simp only [envE, so_seq, so_if, so_ret, so_retN, so_exp, so_nil, so_nx, so_rt, so_asg, so_asgG, so_par2, so_par3, ok_gNm, ok_gMore, ok_gNone, so_asgT, so_sub, so_for, ok_TB, ok_Tru, ok_notT, ok_andT, ok_orT, ok_andV, ok_orV, ok_notV, ok_iteE, ok_frz, ok_new, ok_mfArg, ok_mfBin, ok_lc, ok_M, ok_M0, ok_moNone, ok_moSome, ok_Sl,
  ok_bin, ok_un, ok_arg, ok_cons, ok_nil, ok_call, ok_var, ok_C, ok_ok, ok_stuck, ok_noX, bOf_bool, low_v, iOf_int, addD_int, subD_int, negD_int, ltD_int, leD_int, gtD_int, geD_int, fInt_int, isD_bool, isNotD_bool, tru_bool, List.map_cons, List.map_nil, List.length_cons, List.length_nil, List.replicate_succ, List.replicate_zero, List.cons_append, List.nil_append,
  List.append_nil, List.getElem?_cons_zero, List.getElem?_cons_succ, List.set_cons_zero, List.set_cons_succ, Option.some.injEq, exists_eq_left', exists_eq_left, true_and, and_true, true_implies, false_implies, implies_true, Bool.false_eq_true, reduceCtorEq, false_and, and_false, D.v.injEq, PyData.int.injEq, D.ref.injEq, p1i_int, p2_two, p3_three, decide_true, Bool.not_true, Bool.not_false, decide_eq_true_eq, decide_eq_false_iff_not, wipeE, in_tup, ne_bool]
    exact ⟨fun h => by rw [if_pos h], fun h => by rw [if_neg (by rw [h]; exact Bool.false_ne_true)]⟩
  rw [ok_ok]
  have hfl : ((List.range rows.length).filter fun x => decide (x ∈ lot) != decide (a ∈ lot)).length ≤ rows.length := by
    have := List.length_filter_le (fun x => decide (x ∈ lot) != decide (a ∈ lot)) (List.range rows.length)
    rw [List.length_range] at this
    exact this
  refine (shufB s rest _ _ ok viewS_list (by rw [List.length_map]; omega)).mono ?_
  rintro _ _ ⟨ys, s8, rfl, rfl, ok8, hp⟩
  obtain ⟨l, rfl, hp2⟩ := perm_unmap hp rfl
  have hll2 : l.length ≤ rows.length := by have h1 := hp2.length_eq; omega
  unfold LH.S_law_drawn_row_2
  have hlen3 : ∀ s, fLen [.v (.list (l.map nI))] s = .ok (.v (nI l.length)) s := fun s => by rw [Fw.len_list, List.length_map]
  have hadd : ∀ s, addD (.v (nI l.length)) (.v (.int 1)) s = .ok (.v (.int ((l.length : Int) + 1))) s := fun s => by rw [addD_int]
  simp only [envE, so_seq, so_if, so_ret, so_retN, so_exp, so_nil, so_nx, so_rt, so_asg, so_asgG, so_par2, so_par3, ok_gNm, ok_gMore, ok_gNone, so_asgT, so_sub, so_for, ok_TB, ok_Tru, ok_notT, ok_andT, ok_orT, ok_andV, ok_orV, ok_notV, ok_iteE, ok_frz, ok_new, ok_mfArg, ok_mfBin, ok_lc, ok_M, ok_M0, ok_moNone, ok_moSome, ok_Sl,
  ok_bin, ok_un, ok_arg, ok_cons, ok_nil, ok_call, ok_var, ok_C, ok_ok, ok_stuck, ok_noX, bOf_bool, low_v, iOf_int, addD_int, subD_int, negD_int, ltD_int, leD_int, gtD_int, geD_int, fInt_int, isD_bool, isNotD_bool, tru_bool, List.map_cons, List.map_nil, List.length_cons, List.length_nil, List.replicate_succ, List.replicate_zero, List.cons_append, List.nil_append,
  List.append_nil, List.getElem?_cons_zero, List.getElem?_cons_succ, List.set_cons_zero, List.set_cons_succ, Option.some.injEq, exists_eq_left', exists_eq_left, true_and, and_true, true_implies, false_implies, implies_true, Bool.false_eq_true, reduceCtorEq, false_and, and_false, D.v.injEq, PyData.int.injEq, D.ref.injEq, p1i_int, p2_two, p3_three, decide_true, Bool.not_true, Bool.not_false, decide_eq_true_eq, decide_eq_false_iff_not, hlen3, hadd]
  refine (pickB_ok s8 rest ((l.length : Int) + 1) (by omega) ok8).mono ?_
  rintro _ _ ⟨r, s9, rfl, rfl, ok9, h0, _, _⟩
  obtain ⟨k, rfl⟩ : ∃ k : Nat, r = (k : Int) := ⟨r.toNat, by omega⟩
  have hio : iOf (.v (.int (k : Int))) = some (k : Int) := rfl
  refine ⟨_, hio, ?_⟩
  rw [show slD (.v (.list (l.map nI))) none (some (k : Int)) (s9.sto rest) = _ from slice_list, ok_ok, cut_take, ← List.map_take, tup_list, ok_ok]
  refine ⟨rfl, l.take k, s9, rfl, take_sto, ok9, (hp2.nodup_iff.mpr (List.nodup_range.filter _)).sublist (List.take_sublist _ _), fun b hb => ?_⟩
  obtain ⟨q1, q2⟩ := List.mem_filter.mp (hp2.mem_iff.mp (List.mem_of_mem_take hb))
  refine ⟨List.mem_range.mp q1, ?_⟩
  by_cases z1 : b ∈ lot <;> by_cases z2 : a ∈ lot <;> simp [z1, z2] at q2 ⊢
end
end Fw.Tl
namespace Fw.Tl
open PySem PySem.Spec PyProof.Rows L2 Fw Fw.Hl Fw.Da Fw.Aq
section
variable {rows R : List (List Nat)} {S G lot l : List Nat} {sd : Nat → Bool} {a b m w n k : Nat} {μ ν : List (Nat × Nat)}
theorem want_same (h1 : row R a = row rows a) (h2 : row R b = row rows b) : want R a b = want rows a b := by unfold want; rw [h1, h2]
theorem rather_same {c : Option Nat} (h : row R a = row rows a) : rather R a b c = rather rows a b c := by unfold rather; rw [h]
theorem group_no (T : Two rows sd S) (T2 : Two R sd S) (hn : rows.length ≤ 50) (hlen : R.length = rows.length) (same : ∀ x, ¬ x ∈ G → row R x = row rows x) (GS : ∀ x ∈ G, x ∈ S) (o : Opt rows S μ) (o2 : Opt R S ν) (hg : ∀ x ∈ G, glad rows μ ν x) (ne : G ≠ []) : False := by
  have pR := o2.clm.prg
  have other : ∀ {x y}, x ∈ S → want R x y = true → ¬ y ∈ G := fun {x y} hx h z => by
    have h1 := T2.two (want_row h).1
    have h2 := (T2.mem.mp hx).2
    have h3 := (T2.mem.mp (GS y z)).2
    rw [h2, h3] at h1
    cases h1
  have half : ∀ {m w}, m ∈ S → partner ν m = some w → want rows m w = true := fun {m w} hm e => by
    have hw := partner_want pR e
    have hr := want_row hw
    have hwG := other hm hw
    have e2 : m ∈ row rows w := by rw [← same w hwG]; exact hr.2
    have e1 : w ∈ row rows m := by
      by_cases z : m ∈ G
      · have h := hg m z
        unfold glad at h
        rw [e] at h
        refine Classical.byContradiction fun q => ?_
        have h1 : place rows m (some w) = (row rows m).length + 1 := if_neg q
        have := pl_le (a := m) o.clm.prg
        omega
      · rw [← same m z]; exact hr.1
    unfold want
    rw [decide_eq_true e1, decide_eq_true e2]
    rfl
  have pν : Prg rows ν := by
    refine ⟨⟨fun p hp => by have := pR.lt p hp; omega, pR.far⟩, fun p hp => ?_⟩
    have hw := pR.want p hp
    have hr := want_row hw
    have e1 : partner ν p.1 = some p.2 := (partner_iff pR.toPrs).mpr (.inl hp)
    have e2 := partner_symm pR.toPrs e1
    by_cases z : p.1 ∈ S
    · exact half z e1
    · have h2 : p.2 ∈ S := T2.mem.mpr ⟨(T2.hall.mem hr.1).1, by
        rw [T2.two hr.1]
        cases hsd : sd p.1 with
        | false => rfl
        | true => exact absurd (T2.mem.mpr ⟨(T2.hall.mem hr.2).1, hsd⟩) z⟩
      have := half h2 e2
      unfold want at this ⊢
      rw [Bool.and_comm]
      exact this
  obtain ⟨x, hx⟩ := List.exists_mem_of_ne_nil G ne
  obtain ⟨m, w, m1, hm, hng, hm1, _, e1, hB⟩ := blocking T hn o pν ⟨x, GS x hx, hg x hx⟩
  have hmG : ¬ m ∈ G := fun z => hng (hg m z)
  have hwG : ¬ w ∈ G := other hm1 (partner_want pR e1)
  refine o2.clm.nobody T2.hall (a := m) (b := w) ⟨?_, ?_, ?_⟩
  · rw [want_same (same m hmG) (same w hwG)]; exact hB.1
  · rw [rather_same (same m hmG)]; exact hB.2.1
  · rw [rather_same (same w hwG)]; exact hB.2.2
end
end Fw.Tl
namespace Fw.Tl
open PySem PySem.Spec PyProof.Rows L2 Fw Fw.Hl Fw.Da Fw.Aq
section
variable {rows R : List (List Nat)} {S G lot l C : List Nat} {sd : Nat → Bool} {a b m w n k x y q : Nat} {μ ν Q ξ h : List (Nat × Nat)}
def cutR (l : List Nat) : Option Nat → List Nat
  | none => []
  | some q => l.take (l.idxOf q + 1)
theorem idx_take : ∀ {l : List Nat} {k : Nat}, y ∈ l.take k → (l.take k).idxOf y = l.idxOf y
  | [], k, h => by rw [List.take_nil] at h; cases h
  | a :: l, 0, h => by cases h
  | a :: l, k + 1, h => by
    rw [List.take_succ_cons, List.idxOf_cons, List.idxOf_cons]
    by_cases e : a = y
    · rw [e]; simp
    · rw [List.take_succ_cons] at h
      rcases List.mem_cons.mp h with z | z
      · exact absurd z.symm e
      · rw [idx_take z]
theorem mem_cutR {o : Option Nat} (hy : y ∈ cutR l o) : y ∈ l ∧ ∃ q, o = some q ∧ l.idxOf y ≤ l.idxOf q ∧ (cutR l o).idxOf y = l.idxOf y := by
  cases o with
  | none => cases hy
  | some q =>
    have hy : y ∈ l.take (l.idxOf q + 1) := hy
    have h1 := List.idxOf_lt_length_of_mem hy
    rw [List.length_take] at h1
    have h2 := idx_take hy
    exact ⟨List.mem_of_mem_take hy, q, rfl, by omega, h2⟩
theorem in_cutR (hq : y ∈ l) : y ∈ cutR l (some y) := by
  show y ∈ l.take (l.idxOf y + 1)
  have h1 := List.idxOf_lt_length_of_mem hq
  rw [List.mem_take_iff_getElem]
  exact ⟨l.idxOf y, by omega, List.getElem_idxOf h1⟩
theorem cutR_told (H : Hall rows) (hl : Lot rows lot true) {o : Option Nat} : Told rows lot b (cutR (row rows b) o) := by
  refine ⟨?_, fun x hx => ?_⟩
  · cases o with
    | none => exact List.nodup_nil
    | some q => exact (H.nd b).sublist (List.take_sublist _ _)
  · have hx := (mem_cutR hx).1
    exact ⟨(H.mem hx).1, hl.two rfl hx⟩
structure Cut (rows R : List (List Nat)) (C : List Nat) (Q : List (Nat × Nat)) : Prop where
  len : R.length = rows.length
  cut : ∀ x, x ∈ C → row R x = cutR (row rows x) (partner Q x)
  same : ∀ x, ¬ x ∈ C → row R x = row rows x
theorem Cut.sub (c : Cut rows R C Q) (h : y ∈ row R x) : y ∈ row rows x := by
  by_cases z : x ∈ C
  · rw [c.cut x z] at h; exact (mem_cutR h).1
  · rw [c.same x z] at h; exact h
theorem Cut.has (c : Cut rows R C Q) (p : Prg rows Q) (e : partner Q x = some y) : y ∈ row R x := by
  have hr := (want_row (partner_want p e)).1
  by_cases z : x ∈ C
  · rw [c.cut x z, e]; exact in_cutR hr
  · rw [c.same x z]; exact hr
theorem Cut.plc (c : Cut rows R C Q) (h : y ∈ row R x) : place R x (some y) = place rows x (some y) := by
  rw [place_row h, place_row (c.sub h)]
  by_cases z : x ∈ C
  · rw [c.cut x z] at h ⊢; exact (mem_cutR h).2.choose_spec.2.2
  · rw [c.same x z]
theorem Cut.le (c : Cut rows R C Q) (h : y ∈ row R x) (z : x ∈ C) : place rows x (some y) ≤ place rows x (partner Q x) ∧ partner Q x ≠ none := by
  have hs := c.sub h
  rw [c.cut x z] at h
  obtain ⟨q, e, h1, _⟩ := (mem_cutR h).2
  rw [e, place_row hs]
  refine ⟨?_, fun z => nomatch z⟩
  show _ ≤ if q ∈ row rows x then (row rows x).idxOf q else (row rows x).length + 1
  split
  · exact h1
  · have := List.idxOf_lt_length_of_mem hs
    omega
theorem Cut.clm (T : Hall rows) (c : Cut rows R C Q) (q : Clm rows Q) : Clm R Q := by
  have p := q.prg
  have pR : Prg R Q := by
    refine ⟨⟨fun p hp => by rw [c.len]; exact q.prg.lt p hp, q.prg.far⟩, fun pq hp => ?_⟩
    have e1 : partner Q pq.1 = some pq.2 := (partner_iff p.toPrs).mpr (.inl hp)
    have e2 := partner_symm p.toPrs e1
    unfold want
    rw [decide_eq_true (c.has p e1), decide_eq_true (c.has p e2)]
    rfl
  have rat : ∀ {x y}, y ∈ row R x → rather R x y (partner Q x) = true → rather rows x y (partner Q x) = true := fun {x y} hy h => by
    have h := (rather_iff hy).mp h
    refine (rather_iff (c.sub hy)).mpr ?_
    rw [c.plc hy] at h
    cases e : partner Q x with
    | some z => rw [e, c.plc (c.has p e)] at h; exact h
    | none =>
      rw [e] at h
      by_cases z : x ∈ C
      · exact absurd e (c.le hy z).2
      · have h : _ < (row R x).length := h
        rw [c.same x z] at h
        exact h
  refine ⟨pR, ?_⟩
  cases e : breaking R Q with
  | nil => rfl
  | cons pq r =>
    exfalso
    have hb : (pq.1, pq.2) ∈ breaking R Q := by rw [e]; exact .head _
    obtain ⟨_, _, B⟩ := mem_brk.mp hb
    have hr := B.row
    refine q.nobody T (a := pq.1) (b := pq.2) ⟨?_, rat hr.1 B.2.1, rat hr.2 B.2.2⟩
    unfold want
    rw [decide_eq_true (c.sub hr.1), decide_eq_true (c.sub hr.2)]
    rfl
theorem no_better (H : Hall rows) (hl : Lot rows lot true) (hn : rows.length ≤ 50) (hb : b < rows.length) (hbl : ¬ b ∈ lot) (t : Told rows lot b l) (o : Opt (rows.set b l) lot ν) (oh : Opt rows (oth rows.length lot) h) :
    ¬ place rows b (partner ν b) < place rows b (partner h b) := by
  intro hlt
  have hle := pl_le (a := b) oh.clm.prg
  cases e : partner ν b with
  | none =>
    rw [e] at hlt
    have : (row rows b).length < place rows b (partner h b) := hlt
    omega
  | some m =>
    rw [e] at hlt
    have hmr : m ∈ row rows b := Classical.byContradiction fun z => by
      have : place rows b (some m) = (row rows b).length + 1 := if_neg z
      omega
    have hmb := (H.mem hmr).2
    have hm2 := hl.two rfl hmr
    have t2 : Told rows lot b [m] := ⟨List.pairwise_singleton _ _, fun x hx => by rw [List.mem_singleton.mp hx]; exact ⟨(H.mem hmr).1, hm2⟩⟩
    have hR := told_hall_ok H hb t
    have lR := told_lot_ok hl hb t
    have hR2 := told_hall_ok H hb t2
    have lR2 := told_lot_ok hl hb t2
    have cν := o.clm
    have pν := cν.prg
    have hw := want_row (partner_want pν e)
    have e2 := partner_symm pν.toPrs e
    have rR : ∀ x, row (rows.set b l) x = if x = b then l else row rows x := fun x => row_set hb
    have rR2 : ∀ x, row (rows.set b [m]) x = if x = b then [m] else row rows x := fun x => row_set hb
    have hbm : b ∈ row rows m := by
      have := hw.2
      rw [rR, if_neg hmb] at this
      exact this
    have wants : ∀ {x y}, x ≠ b → y ≠ b → want (rows.set b [m]) x y = want (rows.set b l) x y := fun {x y} hx hy => by
      unfold want
      rw [rR, rR, rR2, rR2, if_neg hx, if_neg hy, if_neg hx, if_neg hy]
    have c2 : Clm (rows.set b [m]) ν := by
      have p2 : Prg (rows.set b [m]) ν := by
        refine ⟨⟨fun p hp => by have := pν.lt p hp; rw [List.length_set] at *; exact this, pν.far⟩, fun p hp => ?_⟩
        have e1 : partner ν p.1 = some p.2 := (partner_iff pν.toPrs).mpr (.inl hp)
        have e3 := partner_symm pν.toPrs e1
        by_cases z1 : p.1 = b
        · rw [z1, e] at e1
          have : m = p.2 := Option.some.inj e1
          unfold want
          rw [z1, ← this, rR2, rR2, if_pos rfl, if_neg hmb, decide_eq_true (List.mem_singleton_self m), decide_eq_true hbm]
          rfl
        · by_cases z2 : p.2 = b
          · rw [z2, e] at e3
            have : m = p.1 := Option.some.inj e3
            unfold want
            rw [z2, ← this, rR2, rR2, if_pos rfl, if_neg hmb, decide_eq_true (List.mem_singleton_self m), decide_eq_true hbm]
            rfl
          · rw [wants z1 z2]; exact pν.want p hp
      refine ⟨p2, ?_⟩
      cases eb : breaking (rows.set b [m]) ν with
      | nil => rfl
      | cons p r =>
        exfalso
        have hbk : (p.1, p.2) ∈ breaking (rows.set b [m]) ν := by rw [eb]; exact .head _
        obtain ⟨_, _, B⟩ := mem_brk.mp hbk
        have noB : ∀ {y}, ¬ Br (rows.set b [m]) ν b y := fun {y} B => by
          have hy := B.row.1
          have h2 := (rather_iff hy).mp B.2.1
          rw [rR2, if_pos rfl] at hy
          rw [e, List.mem_singleton.mp hy] at h2
          exact Nat.lt_irrefl _ h2
        by_cases z1 : p.1 = b
        · rw [z1] at B; exact noB B
        · by_cases z2 : p.2 = b
          · rw [z2] at B; exact noB B.symm
          · refine cν.nobody hR (a := p.1) (b := p.2) ⟨?_, ?_, ?_⟩
            · rw [← wants z1 z2]; exact B.1
            · rw [rather_same (R := rows.set b l) (rows := rows.set b [m]) (by rw [rR, rR2, if_neg z1, if_neg z1])]; exact B.2.1
            · rw [rather_same (R := rows.set b l) (rows := rows.set b [m]) (by rw [rR, rR2, if_neg z2, if_neg z2])]; exact B.2.2
    have T2 := two_oth hR2 lR2
    rw [List.length_set] at T2
    obtain ⟨h2, o2⟩ := opt_ex T2 (by rw [List.length_set]; exact hn)
    have hp := same_people hR2 T2.two c2 o2.clm (a := b) (by rw [e]; exact fun z => nomatch z)
    have eb : partner h2 b = some m := by
      cases e5 : partner h2 b with
      | none => exact absurd e5 hp
      | some z =>
        have := (want_row (partner_want o2.clm.prg e5)).1
        rw [rR2, if_pos rfl] at this
        rw [List.mem_singleton.mp this]
    have hbo : b ∈ oth rows.length lot := List.mem_filter.mpr ⟨List.mem_range.mpr hb, by rw [decide_eq_false hbl]; rfl⟩
    refine group_no (G := [b]) (two_oth H hl) T2 hn (by rw [List.length_set]) (fun x hx => ?_) (fun x hx => by rw [List.mem_singleton.mp hx]; exact hbo) oh o2 (fun x hx => ?_) (by simp)
    · rw [rR2, if_neg fun e => hx (by rw [e]; exact List.mem_singleton_self _)]
    · rw [List.mem_singleton.mp hx]
      unfold glad
      rw [eb]
      exact hlt
theorem set_cut (hb : b < rows.length) : Cut rows (rows.set b (cutR (row rows b) (partner Q b))) [b] Q :=
  ⟨List.length_set, fun x hx => by rw [List.mem_singleton.mp hx, row_set hb, if_pos rfl], fun x hx => by rw [row_set hb, if_neg fun e => hx (by rw [e]; exact List.mem_singleton_self _)]⟩
theorem cut_gets (H : Hall rows) (hl : Lot rows lot true) (hn : rows.length ≤ 50) (hb : b < rows.length) (hbl : ¬ b ∈ lot) (oh : Opt rows (oth rows.length lot) h) (o : Opt (rows.set b (cutR (row rows b) (partner h b))) lot ν) : partner ν b = partner h b := by
  have t : Told rows lot b (cutR (row rows b) (partner h b)) := cutR_told H hl
  have c := set_cut (rows := rows) (Q := h) hb
  have ch := c.clm H oh.clm
  have hR := told_hall_ok H hb t
  have lR := told_lot_ok hl hb t
  have nb := no_better H hl hn hb hbl t o oh
  have T2 := two_lot hR lR
  cases e : partner ν b with
  | none =>
    cases e2 : partner h b with
    | none => rfl
    | some d =>
      exact absurd e (same_people hR T2.two ch o.clm (a := b) (by rw [e2]; exact fun z => nomatch z))
  | some m =>
    have hm := (want_row (partner_want o.clm.prg e)).1
    obtain ⟨h1, h2⟩ := c.le hm (List.mem_singleton_self b)
    rw [e] at nb
    cases e2 : partner h b with
    | none => exact absurd e2 h2
    | some d =>
      rw [e2] at h1 nb
      have hd := c.has oh.clm.prg e2
      have h3 : place rows b (some m) = place rows b (some d) := by omega
      have hs := c.sub hm
      have hd := c.sub hd
      rw [place_row hs, place_row hd] at h3
      have q1 := List.getElem_idxOf (List.idxOf_lt_length_of_mem hs)
      have q2 := List.getElem_idxOf (List.idxOf_lt_length_of_mem hd)
      congr 1
      rw [← q1, ← q2]
      congr 1
theorem cut_all_opt (H : Hall rows) (hl : Lot rows lot true) (hn : rows.length ≤ 50) (HR : Hall R) (lR : Lot R lot true) (c : Cut rows R (oth rows.length lot) Q) (q : Clm rows Q) (s : Srt Q) : Opt R lot Q := by
  have cR := c.clm H q
  have T2 := two_lot HR lR
  obtain ⟨ξ, o⟩ := opt_ex T2 (by rw [c.len]; exact hn)
  have asked : ∀ {w}, w ∈ oth rows.length lot → partner ξ w = partner Q w := fun {w} hw => by
    have hwl : ¬ w ∈ lot := fun z => by
      have := (List.mem_filter.mp hw).2
      rw [decide_eq_true z] at this
      cases this
    refine pl_inj (rows := R) o.clm.prg cR.prg ?_
    refine Nat.le_antisymm ?_ ?_
    · cases e : partner ξ w with
      | none =>
        have : partner Q w = none := Classical.byContradiction fun z => same_people HR T2.two cR o.clm (a := w) z e
        rw [this]
        exact Nat.le_refl _
      | some m =>
        have hm := (want_row (partner_want o.clm.prg e)).1
        obtain ⟨h1, h2⟩ := c.le hm hw
        cases e2 : partner Q w with
        | none => exact absurd e2 h2
        | some d =>
          rw [e2] at h1
          rw [c.plc hm, c.plc (c.has q.prg e2)]
          exact h1
    · refine Nat.le_of_not_lt fun hlt => ?_
      obtain ⟨m, e, hbm⟩ := other_off HR o.clm cR (a := w) (decide_eq_true hlt)
      have hmR := want_row (partner_want o.clm.prg e)
      have hml : m ∈ lot := Classical.byContradiction fun z => hwl ((lR.two rfl hmR.2).mpr z)
      have := o.top cR hml
      have := of_decide_eq_true hbm
      omega
  have same : ∀ {m}, m ∈ lot → partner Q m = partner ξ m := fun {m} hm => by
    have side : ∀ {w}, w ∈ row R m → w ∈ oth rows.length lot := fun {w} hw => List.mem_filter.mpr ⟨List.mem_range.mpr (by rw [← c.len]; exact (HR.mem hw).1), by
      have := lR.two rfl hw
      rw [decide_eq_false fun z => this.mp z hm]
      rfl⟩
    have half : ∀ {w}, partner Q m = some w → partner ξ m = some w := fun {w} e => by
      have hw := (want_row (partner_want cR.prg e)).1
      refine partner_symm o.clm.prg.toPrs ?_
      rw [asked (side hw)]
      exact partner_symm cR.prg.toPrs e
    cases e : partner Q m with
    | some w => exact (half e).symm
    | none =>
      cases e2 : partner ξ m with
      | none => rfl
      | some w =>
        have hw := (want_row (partner_want o.clm.prg e2)).1
        have := asked (side hw)
        rw [partner_symm o.clm.prg.toPrs e2] at this
        rw [partner_symm cR.prg.toPrs this.symm] at e
        cases e
  exact ⟨cR, s, fun {ν} cν {m} hm => by rw [same hm]; exact o.top cν hm⟩
end
end Fw.Tl
namespace Fw.Tl
open PySem PySem.Spec PyProof.Rows L2 Fw Fw.Hl Fw.Da Fw.Aq
section
variable {rows : List (List Nat)} {S lot l : List Nat} {sd : Nat → Bool} {st : Sto} {a b m w n k : Nat} {μ ν ps : List (Nat × Nat)}
theorem fInt_bool {b : Bool} : fInt [.v (.bool b)] st = .ok (.v (.int (if b then 1 else 0 : Nat))) st := by cases b <;> rfl
theorem brk_take (hw : want rows a b = true) : brk rows ps a b = (decide (place rows a (some b) < place rows a (partner ps a)) && decide (place rows b (some a) < place rows b (partner ps b))) := by
  obtain ⟨w1, w2⟩ := want_row hw
  unfold brk
  rw [Bool.eq_iff_iff, Bool.and_eq_true, Bool.and_eq_true, decide_eq_true_eq, decide_eq_true_eq, rather_iff w1, rather_iff w2]
theorem lbreak_eq (H : Hall rows) (hn : rows.length ≤ 50) : LH.f_law_breaking [.v (hallD rows), .v (pairsD ps)] st = .ok (.v (.list ((breaking rows ps).map pr))) st := by
  refine Out.Ok.is (fnT_ok ?_)
  unfold LH.S_law_breaking LH.S_law_breaking_2 LH.law_breaking_E2
  simp only [envE, so_seq, so_if, so_ret, so_retN, so_exp, so_nil, so_nx, so_rt, so_asg, so_asgG, so_par2, so_par3, ok_gNm, ok_gMore, ok_gNone, so_asgT, so_sub, so_for, ok_TB, ok_Tru, ok_notT, ok_andT, ok_orT, ok_andV, ok_orV, ok_notV, ok_iteE, ok_frz, ok_new, ok_mfArg, ok_mfBin, ok_lc, ok_M, ok_M0, ok_moNone, ok_moSome, ok_Sl,
  ok_bin, ok_un, ok_arg, ok_cons, ok_nil, ok_call, ok_var, ok_C, ok_ok, ok_stuck, ok_noX, bOf_bool, low_v, iOf_int, addD_int, subD_int, negD_int, ltD_int, leD_int, gtD_int, geD_int, fInt_int, isD_bool, isNotD_bool, tru_bool, List.map_cons, List.map_nil, List.length_cons, List.length_nil, List.replicate_succ, List.replicate_zero, List.cons_append, List.nil_append,
  List.append_nil, List.getElem?_cons_zero, List.getElem?_cons_succ, List.set_cons_zero, List.set_cons_succ, Option.some.injEq, exists_eq_left', exists_eq_left, true_and, and_true, true_implies, false_implies, implies_true, Bool.false_eq_true, reduceCtorEq, false_and, and_false, D.v.injEq, PyData.int.injEq, D.ref.injEq, p1i_int, p2_two, p3_three, decide_true, Bool.not_true, Bool.not_false, decide_eq_true_eq, decide_eq_false_iff_not, disp0, ok_R1, hall0]
  refine ⟨⟨by omega, by omega⟩, ?_⟩
  rw [Int.toNat_natCast]
  refine forL_inv (fun i e s => s = st ∧ ∃ x3 x4, e = [some (.v (hallD rows)), some (.v (pairsD ps)), some (.v (.list (((List.range i).flatMap (brkOf rows ps)).map pr))), x3, x4]) _ _ _ 0 ?_ ?_ ⟨rfl, _, _, rfl⟩
  · rintro i d e s hd ⟨rfl, x3, x4, rfl⟩
    obtain ⟨hi, rfl⟩ := rngI_get hd
    refine ⟨trivial, ?_⟩
    rw [Int.zero_add, Nat.zero_add]
    unfold LH.law_breaking_G2 LH.law_breaking_B1 LH.law_breaking_E1
    show (gNm 3 (.one (.v (nI i))) _ _).Ok _
    have hadd : ∀ s, addD (.v (nI i)) (.v (.int 1)) s = .ok (.v (.int ((i : Int) + 1))) s := fun s => by rw [addD_int]
    simp only [envE, so_seq, so_if, so_ret, so_retN, so_exp, so_nil, so_nx, so_rt, so_asg, so_asgG, so_par2, so_par3, ok_gNm, ok_gMore, ok_gNone, so_asgT, so_sub, so_for, ok_TB, ok_Tru, ok_notT, ok_andT, ok_orT, ok_andV, ok_orV, ok_notV, ok_iteE, ok_frz, ok_new, ok_mfArg, ok_mfBin, ok_lc, ok_M, ok_M0, ok_moNone, ok_moSome, ok_Sl,
  ok_bin, ok_un, ok_arg, ok_cons, ok_nil, ok_call, ok_var, ok_C, ok_ok, ok_stuck, ok_noX, bOf_bool, low_v, iOf_int, addD_int, subD_int, negD_int, ltD_int, leD_int, gtD_int, geD_int, fInt_int, isD_bool, isNotD_bool, tru_bool, List.map_cons, List.map_nil, List.length_cons, List.length_nil, List.replicate_succ, List.replicate_zero, List.cons_append, List.nil_append,
  List.append_nil, List.getElem?_cons_zero, List.getElem?_cons_succ, List.set_cons_zero, List.set_cons_succ, Option.some.injEq, exists_eq_left', exists_eq_left, true_and, and_true, true_implies, false_implies, implies_true, Bool.false_eq_true, reduceCtorEq, false_and, and_false, D.v.injEq, PyData.int.injEq, D.ref.injEq, p1i_int, p2_two, p3_three, decide_true, Bool.not_true, Bool.not_false, decide_eq_true_eq, decide_eq_false_iff_not, ok_seq, ok_R2, p2i_int, hall0, hadd]
    refine ⟨⟨by omega, by omega, by omega, by omega⟩, ?_⟩
    rw [show ((i : Int) + 1) = ((i + 1 : Nat) : Int) by omega, rng_ups]
    generalize hc : ups (i + 1) rows.length = cs
    have hcs : ∀ b ∈ cs, b < rows.length := fun b hb => by
      rw [← hc] at hb
      exact (mem_ups.mp hb).2
    have hcl : cs.length ≤ rows.length := by
      rw [← hc]
      unfold ups
      rw [List.length_map, List.length_range]
      omega
    have hb0 := brk_len (rows := rows) (ps := ps) i
    have hmul : i * rows.length ≤ 50 * 50 := Nat.mul_le_mul (by omega) hn
    refine forL_inv (fun j e s' => s' = s ∧ ∃ x4, e = [some (.v (hallD rows)), some (.v (pairsD ps)), some (.v (.list ((((List.range i).flatMap (brkOf rows ps)) ++ (((cs.take j).filter (want rows i)).filter (brk rows ps i)).map fun b => (i, b)).map pr))), some (.v (nI i)), x4]) _ _ _ 0 ?_ ?_
      ⟨rfl, x4, by simp⟩
    · rintro j d e s' hd ⟨rfl, x4, rfl⟩
      rw [List.getElem?_map] at hd
      obtain ⟨b, hb, rfl⟩ := Option.map_eq_some_iff.mp hd
      have hbn := hcs b (List.mem_of_getElem? hb)
      refine ⟨trivial, ?_⟩
      rw [Nat.zero_add]
      unfold LH.law_breaking_G1 LH.law_breaking_B2
      show (gNm 4 (.one (.v (nI b))) _ _).Ok _
      have h4 : ∀ x s, LH.f_law_partner [.v (pairsD ps), .v (nI x)] s = .ok (.v (optD (partner ps x))) s := fun x s => lpart_eq
      have h5 : ∀ s, LH.f_law_rather [.v (hallD rows), .v (nI i), .v (nI b), .v (optD (partner ps i))] s = .ok (.v (.bool (decide (place rows i (some b) < place rows i (partner ps i))))) s := fun s => lrat_eq (o := some b) H hn hi
      have h6 : ∀ s, LH.f_law_rather [.v (hallD rows), .v (nI b), .v (nI i), .v (optD (partner ps b))] s = .ok (.v (.bool (decide (place rows b (some i) < place rows b (partner ps b))))) s := fun s => lrat_eq (o := some i) H hn hbn
      have ht : ((cs.take (j + 1)).filter (want rows i)).filter (brk rows ps i) = ((cs.take j).filter (want rows i)).filter (brk rows ps i) ++ ([b].filter (want rows i)).filter (brk rows ps i) := by
        rw [List.take_add_one, hb, List.filter_append, List.filter_append]
        rfl
      have hlt : (((cs.take j).filter (want rows i)).filter (brk rows ps i)).length ≤ rows.length := by
        refine Nat.le_trans (List.length_filter_le _ _) (Nat.le_trans (List.length_filter_le _ _) ?_)
        rw [List.length_take]
        omega
      simp only [envE, so_seq, so_if, so_ret, so_retN, so_exp, so_nil, so_nx, so_rt, so_asg, so_asgG, so_par2, so_par3, ok_gNm, ok_gMore, ok_gNone, so_asgT, so_sub, so_for, ok_TB, ok_Tru, ok_notT, ok_andT, ok_orT, ok_andV, ok_orV, ok_notV, ok_iteE, ok_frz, ok_new, ok_mfArg, ok_mfBin, ok_lc, ok_M, ok_M0, ok_moNone, ok_moSome, ok_Sl,
  ok_bin, ok_un, ok_arg, ok_cons, ok_nil, ok_call, ok_var, ok_C, ok_ok, ok_stuck, ok_noX, bOf_bool, low_v, iOf_int, addD_int, subD_int, negD_int, ltD_int, leD_int, gtD_int, geD_int, fInt_int, isD_bool, isNotD_bool, tru_bool, List.map_cons, List.map_nil, List.length_cons, List.length_nil, List.replicate_succ, List.replicate_zero, List.cons_append, List.nil_append,
  List.append_nil, List.getElem?_cons_zero, List.getElem?_cons_succ, List.set_cons_zero, List.set_cons_succ, Option.some.injEq, exists_eq_left', exists_eq_left, true_and, and_true, true_implies, false_implies, implies_true, Bool.false_eq_true, reduceCtorEq, false_and, and_false, D.v.injEq, PyData.int.injEq, D.ref.injEq, p1i_int, p2_two, p3_three, decide_true, Bool.not_true, Bool.not_false, decide_eq_true_eq, decide_eq_false_iff_not, lwant_eq' hi hbn, h4, h5]
      refine ⟨fun h1 => ⟨fun h2 => ?_, fun h2 => ?_⟩, fun h1 => ?_⟩
      · simp only [envE, so_seq, so_if, so_ret, so_retN, so_exp, so_nil, so_nx, so_rt, so_asg, so_asgG, so_par2, so_par3, ok_gNm, ok_gMore, ok_gNone, so_asgT, so_sub, so_for, ok_TB, ok_Tru, ok_notT, ok_andT, ok_orT, ok_andV, ok_orV, ok_notV, ok_iteE, ok_frz, ok_new, ok_mfArg, ok_mfBin, ok_lc, ok_M, ok_M0, ok_moNone, ok_moSome, ok_Sl,
  ok_bin, ok_un, ok_arg, ok_cons, ok_nil, ok_call, ok_var, ok_C, ok_ok, ok_stuck, ok_noX, bOf_bool, low_v, iOf_int, addD_int, subD_int, negD_int, ltD_int, leD_int, gtD_int, geD_int, fInt_int, isD_bool, isNotD_bool, tru_bool, List.map_cons, List.map_nil, List.length_cons, List.length_nil, List.replicate_succ, List.replicate_zero, List.cons_append, List.nil_append,
  List.append_nil, List.getElem?_cons_zero, List.getElem?_cons_succ, List.set_cons_zero, List.set_cons_succ, Option.some.injEq, exists_eq_left', exists_eq_left, true_and, and_true, true_implies, false_implies, implies_true, Bool.false_eq_true, reduceCtorEq, false_and, and_false, D.v.injEq, PyData.int.injEq, D.ref.injEq, p1i_int, p2_two, p3_three, decide_true, Bool.not_true, Bool.not_false, decide_eq_true_eq, decide_eq_false_iff_not, disp1, tup2, h4, h6, fInt_bool]
        have hr : ∀ s, gRep (.v (.list [.tuple [nI i, nI b]])) (.v (.int (if place rows b (some i) < place rows b (partner ps b) then 1 else 0 : Nat))) s = .ok (List.replicate (if place rows b (some i) < place rows b (partner ps b) then 1 else 0) (.tuple [nI i, nI b])) s := fun s => rep_one (by split <;> omega)
        rw [hr, ok_ok, cat_list (by rw [List.length_map, List.length_append, List.length_map, List.length_replicate]; split <;> omega), ok_ok, ht, List.filter_cons, if_pos h1, List.filter_nil, List.filter_cons, brk_take h1, decide_eq_true h2, Bool.true_and]
        refine ⟨rfl, some (.v (nI b)), ?_⟩
        by_cases h3 : place rows b (some i) < place rows b (partner ps b)
        · rw [decide_eq_true h3, if_pos h3, if_pos rfl]
          simp
        · rw [decide_eq_false h3, if_neg h3, if_neg Bool.false_ne_true]
          simp
      · rw [ht, List.filter_cons, if_pos h1, List.filter_nil, List.filter_cons, brk_take h1, decide_eq_false h2]
        exact ⟨_, by simp; rfl⟩
      · rw [ht, List.filter_cons, if_neg (by rw [h1]; exact Bool.false_ne_true), List.filter_nil, List.filter_nil, List.append_nil]
        exact ⟨_, rfl⟩
    · rintro e s' ⟨rfl, x4, rfl⟩
      refine ⟨trivial, ?_⟩
      rw [Nat.zero_add, List.length_map, List.take_of_length_le (Nat.le_refl _)]
      refine ⟨rfl, some (.v (nI i)), x4, ?_⟩
      rw [List.range_succ, List.flatMap_append, List.flatMap_singleton, ← hc]
      rfl
  · rintro e s ⟨rfl, x3, x4, rfl⟩
    refine ⟨trivial, ?_⟩
    unfold LH.S_law_breaking_3
    rw [show (rngI 0 rows.length).length = rows.length by unfold rngI; rw [List.length_map, List.length_range], Nat.zero_add]
    simp only [envE, so_seq, so_if, so_ret, so_retN, so_exp, so_nil, so_nx, so_rt, so_asg, so_asgG, so_par2, so_par3, ok_gNm, ok_gMore, ok_gNone, so_asgT, so_sub, so_for, ok_TB, ok_Tru, ok_notT, ok_andT, ok_orT, ok_andV, ok_orV, ok_notV, ok_iteE, ok_frz, ok_new, ok_mfArg, ok_mfBin, ok_lc, ok_M, ok_M0, ok_moNone, ok_moSome, ok_Sl,
  ok_bin, ok_un, ok_arg, ok_cons, ok_nil, ok_call, ok_var, ok_C, ok_ok, ok_stuck, ok_noX, bOf_bool, low_v, iOf_int, addD_int, subD_int, negD_int, ltD_int, leD_int, gtD_int, geD_int, fInt_int, isD_bool, isNotD_bool, tru_bool, List.map_cons, List.map_nil, List.length_cons, List.length_nil, List.replicate_succ, List.replicate_zero, List.cons_append, List.nil_append,
  List.append_nil, List.getElem?_cons_zero, List.getElem?_cons_succ, List.set_cons_zero, List.set_cons_succ, Option.some.injEq, exists_eq_left', exists_eq_left, true_and, and_true, true_implies, false_implies, implies_true, Bool.false_eq_true, reduceCtorEq, false_and, and_false, D.v.injEq, PyData.int.injEq, D.ref.injEq, p1i_int, p2_two, p3_three, decide_true, Bool.not_true, Bool.not_false, decide_eq_true_eq, decide_eq_false_iff_not]
    exact ⟨rfl, List.take_length⟩
def fre (p : Nat × Nat) (one : List (Nat × Nat)) : Bool := (partner one p.1).isNone && (partner one p.2).isNone
def stp (F : List (List (Nat × Nat))) (p : Nat × Nat) : List (List (Nat × Nat)) := F ++ (F.filter (fre p)).map fun one => one ++ [p]
def allp (L : List (Nat × Nat)) : List (List (Nat × Nat)) := L.foldl stp [[]]
theorem allp_snoc {L : List (Nat × Nat)} {p : Nat × Nat} : allp (L ++ [p]) = stp (allp L) p := by unfold allp; rw [List.foldl_append]; rfl
theorem partner_none : (partner ps a).isNone = true ↔ ∀ q ∈ ps, a ≠ q.1 ∧ a ≠ q.2 := by
  unfold partner
  rw [Option.isNone_map, Option.isNone_iff_eq_none, List.find?_eq_none]
  constructor
  · intro h q hq
    have := h q hq
    simp at this
    exact this
  · intro h q hq
    have := h q hq
    simp [this]
theorem fre_far {p : Nat × Nat} : fre p ps = true ↔ ∀ q ∈ ps, far q p := by
  unfold fre
  rw [Bool.and_eq_true, partner_none, partner_none]
  exact ⟨fun h q hq => ⟨fun e => (h.1 q hq).1 e.symm, fun e => (h.2 q hq).1 e.symm, fun e => (h.1 q hq).2 e.symm, fun e => (h.2 q hq).2 e.symm⟩,
    fun h => ⟨fun q hq => ⟨fun e => (h q hq).1 e.symm, fun e => (h q hq).2.2.1 e.symm⟩, fun q hq => ⟨fun e => (h q hq).2.1 e.symm, fun e => (h q hq).2.2.2 e.symm⟩⟩⟩
theorem mem_allp : ∀ {k : Nat} {L : List (Nat × Nat)}, L.length = k → ∀ {μ : List (Nat × Nat)}, (μ ∈ allp L ↔ μ.Sublist L ∧ μ.Pairwise far)
  | 0, L, hk, μ => by
    have : L = [] := List.length_eq_zero_iff.mp hk
    subst this
    show μ ∈ [[]] ↔ _
    rw [List.mem_singleton, List.sublist_nil]
    exact ⟨fun h => ⟨h, by rw [h]; exact .nil⟩, fun h => h.1⟩
  | k + 1, L, hk, μ => by
    have hne : L ≠ [] := fun e => by rw [e] at hk; cases hk
    obtain ⟨L', p, rfl⟩ : ∃ L' p, L = L' ++ [p] := ⟨L.dropLast, L.getLast hne, (List.dropLast_concat_getLast hne).symm⟩
    have hk' : L'.length = k := by rw [List.length_append, List.length_singleton] at hk; omega
    have ih := fun μ => mem_allp (k := k) (L := L') hk' (μ := μ)
    rw [allp_snoc]
    unfold stp
    rw [List.mem_append, ih, List.mem_map, List.sublist_append_iff]
    constructor
    · rintro (⟨h1, h2⟩ | ⟨one, h, rfl⟩)
      · exact ⟨⟨μ, [], (List.append_nil μ).symm, h1, List.nil_sublist _⟩, h2⟩
      · obtain ⟨h1, h2⟩ := List.mem_filter.mp h
        obtain ⟨h3, h4⟩ := (ih one).mp h1
        refine ⟨⟨one, [p], rfl, h3, List.Sublist.refl _⟩, List.pairwise_append.mpr ⟨h4, List.pairwise_singleton _ _, fun q hq r hr => ?_⟩⟩
        rw [List.mem_singleton.mp hr]
        exact fre_far.mp h2 q hq
    · rintro ⟨⟨l1, l2, rfl, h1, h2⟩, h3⟩
      obtain ⟨h4, _, h5⟩ := List.pairwise_append.mp h3
      cases l2 with
      | nil =>
        rw [List.append_nil]
        exact .inl ⟨h1, h4⟩
      | cons q r =>
        have hr : r = [] ∧ q = p := by
          have := h2.length_le
          rw [List.length_cons, List.length_singleton] at this
          have hr : r = [] := List.length_eq_zero_iff.mp (by omega)
          subst hr
          exact ⟨rfl, List.mem_singleton.mp (h2.subset List.mem_cons_self)⟩
        obtain ⟨rfl, rfl⟩ := hr
        exact .inr ⟨l1, List.mem_filter.mpr ⟨(ih l1).mpr ⟨h1, h4⟩, fre_far.mpr fun x hx => h5 x hx q (List.mem_singleton_self _)⟩, rfl⟩
theorem wanting_mem {p : Nat × Nat} : p ∈ wanting rows ↔ p.1 < p.2 ∧ p.2 < rows.length ∧ want rows p.1 p.2 = true := by
  unfold wanting wantOf
  rw [List.mem_flatMap]
  constructor
  · rintro ⟨a, ha, h⟩
    obtain ⟨b, hb, rfl⟩ := List.mem_map.mp h
    obtain ⟨h1, h2⟩ := List.mem_filter.mp hb
    have := mem_ups.mp h1
    exact ⟨by show a < b; omega, this.2, h2⟩
  · rintro ⟨h1, h2, h3⟩
    exact ⟨p.1, List.mem_range.mpr (by omega), List.mem_map.mpr ⟨p.2, List.mem_filter.mpr ⟨mem_ups.mpr ⟨by omega, h2⟩, h3⟩, rfl⟩⟩
theorem wanting_up : (wanting rows).Pairwise fun p q => p.1 ≤ q.1 := by
  unfold wanting
  refine List.pairwise_flatMap.mpr ⟨fun a _ => ?_, ?_⟩
  · unfold wantOf
    exact List.pairwise_map.mpr (List.pairwise_of_forall fun _ _ => Nat.le_refl _)
  · refine List.pairwise_lt_range.imp fun {x y} h p hp q hq => ?_
    obtain ⟨b, _, rfl⟩ := List.mem_map.mp hp
    obtain ⟨c, _, rfl⟩ := List.mem_map.mp hq
    exact Nat.le_of_lt h
theorem up_of (h1 : μ.Sublist (wanting rows)) (h2 : μ.Pairwise far) : Up μ :=
  ((wanting_up.sublist h1).and h2).imp fun ⟨h, f⟩ => Nat.lt_of_le_of_ne h f.1
theorem far_mem : ∀ {l : List (Nat × Nat)}, l.Pairwise far → ∀ {p q : Nat × Nat}, p ∈ l → q ∈ l → p ≠ q → far p q
  | x :: l, h, p, q, hp, hq, hne => by
    obtain ⟨h1, h2⟩ := List.pairwise_cons.mp h
    rcases List.mem_cons.mp hp with e1 | hp'
    · rcases List.mem_cons.mp hq with e2 | hq'
      · exact absurd (e1.trans e2.symm) hne
      · rw [e1]
        exact h1 q hq'
    · rcases List.mem_cons.mp hq with e2 | hq'
      · rw [e2]
        exact far_symm (h1 p hp')
      · exact far_mem h2 hp' hq' hne
theorem ups_nd {i : Nat} : (ups i n).Nodup := by
  unfold ups
  exact List.pairwise_map.mpr (List.nodup_range.imp fun h e => h (by omega))
theorem mem_pairs (hn : rows.length ≤ 50) : μ ∈ allp (wanting rows) ↔ Prg rows μ ∧ Srt μ := by
  rw [mem_allp rfl]
  constructor
  · rintro ⟨h1, h2⟩
    refine ⟨⟨⟨fun p hp => ?_, h2⟩, fun p hp => (wanting_mem.mp (h1.subset hp)).2.2⟩, (sortP_up (up_of h1 h2)).symm⟩
    have := wanting_mem.mp (h1.subset hp)
    exact ⟨this.1, this.2.1⟩
  · rintro ⟨h1, h2⟩
    have hf : ((wanting rows).filter fun p => decide (p ∈ μ)).Sublist (wanting rows) := List.filter_sublist
    have hfar : ((wanting rows).filter fun p => decide (p ∈ μ)).Pairwise far := by
      have hnd : ((wanting rows).filter fun p => decide (p ∈ μ)).Nodup := by
        have hw : (wanting rows).Nodup := by
          unfold wanting
          refine List.pairwise_flatMap.mpr ⟨fun a _ => ?_, ?_⟩
          · unfold wantOf
            exact List.pairwise_map.mpr (((List.Pairwise.filter _ (show (ups (a + 1) rows.length).Nodup from ups_nd)).imp fun h e => h (congrArg (·.2) e)))
          · refine List.pairwise_lt_range.imp fun {x y} h p hp q hq e => ?_
            obtain ⟨b, _, rfl⟩ := List.mem_map.mp hp
            obtain ⟨c, _, rfl⟩ := List.mem_map.mp hq
            have := congrArg (·.1) e
            have this : x = y := this
            omega
        exact hw.filter _
      refine hnd.imp_of_mem fun {p q} hp hq hne => ?_
      have hp := of_decide_eq_true (List.mem_filter.mp hp).2
      have hq := of_decide_eq_true (List.mem_filter.mp hq).2
      exact far_mem h1.far hp hq hne
    have e : ((wanting rows).filter fun p => decide (p ∈ μ)) = μ := by
      have hP : Prs rows.length ((wanting rows).filter fun p => decide (p ∈ μ)) := ⟨fun p hp => h1.lt p (of_decide_eq_true (List.mem_filter.mp hp).2), hfar⟩
      refine srt_same hn hP h1.toPrs (sortP_up (up_of hf hfar)).symm h2 fun p => ?_
      rw [List.mem_filter, decide_eq_true_eq]
      exact ⟨fun h => h.2, fun h => ⟨wanting_mem.mpr ⟨(h1.lt p h).1, (h1.lt p h).2, h1.want p h⟩, h⟩⟩
    rw [← e]
    exact ⟨hf, hfar⟩
end
end Fw.Tl
namespace Fw.Sg
open PySem PySem.Spec PyProof.Rows L2 Fw Fw.Hl
section
variable {st : Sto}
theorem prs_alike : ∀ G G' : List (Nat × Nat), PySem.W.alikeAll (G.map pr) (G'.map pr) = true
  | [], _ => by rw [List.map_nil]; cases (List.map pr _) <;> rfl
  | p :: r, [] => rfl
  | p :: r, q :: t => by
    rw [List.map_cons, List.map_cons]
    show (PySem.W.alike (pr p) (pr q) && PySem.W.alikeAll (r.map pr) (t.map pr)) = true
    rw [prs_alike r t]
    rfl
theorem prs_sor (L : List (List (Nat × Nat))) : sorB (L.map pairsD) = true := by
  have h1 : alikeB (L.map pairsD) = true := by
    unfold alikeB
    rw [List.all_eq_true]
    intro x hx
    rw [List.all_eq_true]
    intro y hy
    obtain ⟨G, _, rfl⟩ := List.mem_map.mp hx
    obtain ⟨G', _, rfl⟩ := List.mem_map.mp hy
    exact prs_alike G G'
  have h2 : sortB (L.map pairsD) = true := by
    unfold sortB
    rw [Bool.or_eq_true]
    refine .inl (List.all_eq_true.mpr fun x hx => ?_)
    obtain ⟨G, _, rfl⟩ := List.mem_map.mp hx
    rfl
  have h3 : ((L.map pairsD).all fun d => decide (d.depth ≤ 50)) = true := by
    refine List.all_eq_true.mpr fun x hx => ?_
    obtain ⟨G, _, rfl⟩ := List.mem_map.mp hx
    have key : ∀ G : List (Nat × Nat), PyData.depthAll (G.map pr) ≤ 2 := fun G => by
      induction G with
      | nil => simp [PyData.depthAll]
      | cons p r ih =>
        rw [List.map_cons, PyData.depthAll]
        have : (pr p).depth = 1 := by simp [pr, PyData.depth, PyData.depthAll]
        omega
    have := key G
    refine decide_eq_true ?_
    show (PyData.tuple (G.map pr)).depth ≤ 50
    rw [PyData.depth]
    omega
  have h4 : PyData.hasDictAll (L.map pairsD) = false := by
    have key : ∀ G : List (Nat × Nat), PyData.hasDictAll (G.map pr) = false := fun G => by
      induction G with
      | nil => simp [PyData.hasDictAll]
      | cons p r ih =>
        rw [List.map_cons, PyData.hasDictAll, ih]
        simp [pr, PyData.hasDict, PyData.hasDictAll]
    have key2 : ∀ L : List (List (Nat × Nat)), PyData.hasDictAll (L.map pairsD) = false := fun L => by
      induction L with
      | nil => simp [PyData.hasDictAll]
      | cons p r ih =>
        rw [List.map_cons, PyData.hasDictAll, ih]
        show (PyData.hasDict (.tuple (p.map pr)) || false) = false
        rw [PyData.hasDict, key]
        rfl
    exact key2 L
  unfold sorB
  rw [h1, h2, h3, h4]
  rfl
theorem sort_givs {L : List (List (Nat × Nat))} : gSortG [.v (.list (L.map pairsD))] st = .ok ((L.map pairsD).mergeSort (PySem.W.dataLe false id)) st := by
  show (if sorB (L.map pairsD) then Out.ok ((L.map pairsD).mergeSort (PySem.W.dataLe false id)) st else .stuck) = _
  exact if_pos (prs_sor L)
end
end Fw.Sg
namespace Fw.Tl
open PySem PySem.Spec PyProof.Rows L2 Fw Fw.Hl Fw.Da Fw.Aq
section
variable {rows : List (List Nat)} {S lot l : List Nat} {sd : Nat → Bool} {st : Sto} {a b m w n k : Nat} {μ ν ps : List (Nat × Nat)} {L : List (Nat × Nat)}
theorem allp_len : ∀ {k : Nat} {L : List (Nat × Nat)}, L.length = k → (allp L).length ≤ 2 ^ k
  | 0, L, hk => by
    have : L = [] := List.length_eq_zero_iff.mp hk
    subst this
    exact Nat.le_refl _
  | k + 1, L, hk => by
    have hne : L ≠ [] := fun e => by rw [e] at hk; cases hk
    obtain ⟨L', p, rfl⟩ : ∃ L' p, L = L' ++ [p] := ⟨L.dropLast, L.getLast hne, (List.dropLast_concat_getLast hne).symm⟩
    have ih := allp_len (k := k) (L := L') (by rw [List.length_append, List.length_singleton] at hk; omega)
    rw [allp_snoc]
    unfold stp
    rw [List.length_append, List.length_map]
    have := List.length_filter_le (fre p) (allp L')
    rw [Nat.pow_succ]
    omega
theorem wanting_len (hn : rows.length ≤ 6) : (wanting rows).length ≤ 15 := by
  have hw : (wanting rows).Nodup := by
    unfold wanting
    refine List.pairwise_flatMap.mpr ⟨fun a _ => ?_, ?_⟩
    · unfold wantOf
      exact List.pairwise_map.mpr (((List.Pairwise.filter _ (show (ups (a + 1) rows.length).Nodup from ups_nd)).imp fun h e => h (congrArg (·.2) e)))
    · refine List.pairwise_lt_range.imp fun {x y} h p hp q hq e => ?_
      obtain ⟨b, _, rfl⟩ := List.mem_map.mp hp
      obtain ⟨c, _, rfl⟩ := List.mem_map.mp hq
      have this : x = y := congrArg (·.1) e
      omega
  have := sub_len hw (m := (List.range 6).flatMap fun a => (ups (a + 1) 6).map fun b => (a, b)) fun p hp => by
    have h := wanting_mem.mp hp
    exact List.mem_flatMap.mpr ⟨p.1, List.mem_range.mpr (by omega), List.mem_map.mpr ⟨p.2, mem_ups.mpr ⟨by omega, by omega⟩, rfl⟩⟩
  exact Nat.le_trans this (by decide)
theorem prefix_len {L M : List (Nat × Nat)} (h : L ++ M = wanting rows) (hn : rows.length ≤ 6) : L.length ≤ 15 := by
  have := wanting_len hn
  rw [← h, List.length_append] at this
  omega
def frt (rows : List (List Nat)) (i j : Nat) : List (Nat × Nat) := (List.range i).flatMap (wantOf rows) ++ (((ups (i + 1) rows.length).take j).filter (want rows i)).map fun b => (i, b)
theorem frt_full {i : Nat} : frt rows i (ups (i + 1) rows.length).length = frt rows (i + 1) 0 := by
  unfold frt
  rw [List.take_of_length_le (Nat.le_refl _), List.range_succ, List.flatMap_append, List.flatMap_singleton]
  simp [wantOf]
theorem frt_pre {i j : Nat} (hi : i < rows.length) : ∃ M, frt rows i j ++ M = wanting rows := by
  have h1 : (List.range rows.length) = List.range i ++ i :: (List.range rows.length).drop (i + 1) := by
    have h2 := List.take_append_drop i (List.range rows.length)
    rw [List.take_range, Nat.min_eq_left (Nat.le_of_lt hi)] at h2
    have h3 : (List.range rows.length).drop i = i :: (List.range rows.length).drop (i + 1) := by
      rw [List.drop_eq_getElem_cons (by rw [List.length_range]; exact hi), List.getElem_range]
    rw [← h3]
    exact h2.symm
  unfold wanting frt
  conv => enter [1, M]; rw [h1]
  rw [List.flatMap_append, List.flatMap_cons]
  have h3 : wantOf rows i = (((ups (i + 1) rows.length).take j).filter (want rows i)).map (fun b => (i, b)) ++ (((ups (i + 1) rows.length).drop j).filter (want rows i)).map fun b => (i, b) := by
    unfold wantOf
    rw [← List.map_append, ← List.filter_append, List.take_append_drop]
  rw [h3]
  exact ⟨(((ups (i + 1) rows.length).drop j).filter (want rows i)).map (fun b => (i, b)) ++ ((List.range rows.length).drop (i + 1)).flatMap (wantOf rows), by simp [List.append_assoc]⟩
theorem lpairs_eq (hn : rows.length ≤ 6) (H : Hall rows) : ∃ E : List (List (Nat × Nat)), E.Perm (allp (wanting rows)) ∧ ∀ st, LH.f_law_pairings [.v (hallD rows)] st = .ok (.v (.list (E.map pairsD))) st := by
  obtain ⟨E, hE, hp⟩ := perm_unmap (List.mergeSort_perm ((allp (wanting rows)).map pairsD) (PySem.W.dataLe false id)) rfl
  refine ⟨E, hp, fun st => Out.Ok.is (fnT_ok ?_)⟩
  unfold LH.S_law_pairings
  simp only [envE, so_seq, so_if, so_ret, so_retN, so_exp, so_nil, so_nx, so_rt, so_asg, so_asgG, so_par2, so_par3, ok_gNm, ok_gMore, ok_gNone, so_asgT, so_sub, so_for, ok_TB, ok_Tru, ok_notT, ok_andT, ok_orT, ok_andV, ok_orV, ok_notV, ok_iteE, ok_frz, ok_new, ok_mfArg, ok_mfBin, ok_lc, ok_M, ok_M0, ok_moNone, ok_moSome, ok_Sl,
  ok_bin, ok_un, ok_arg, ok_cons, ok_nil, ok_call, ok_var, ok_C, ok_ok, ok_stuck, ok_noX, bOf_bool, low_v, iOf_int, addD_int, subD_int, negD_int, ltD_int, leD_int, gtD_int, geD_int, fInt_int, isD_bool, isNotD_bool, tru_bool, List.map_cons, List.map_nil, List.length_cons, List.length_nil, List.replicate_succ, List.replicate_zero, List.cons_append, List.nil_append,
  List.append_nil, List.getElem?_cons_zero, List.getElem?_cons_succ, List.set_cons_zero, List.set_cons_succ, Option.some.injEq, exists_eq_left', exists_eq_left, true_and, and_true, true_implies, false_implies, implies_true, Bool.false_eq_true, reduceCtorEq, false_and, and_false, D.v.injEq, PyData.int.injEq, D.ref.injEq, p1i_int, p2_two, p3_three, decide_true, Bool.not_true, Bool.not_false, decide_eq_true_eq, decide_eq_false_iff_not, tup0, disp1]
  unfold LH.S_law_pairings_2 LH.law_pairings_E4
  simp only [envE, so_seq, so_if, so_ret, so_retN, so_exp, so_nil, so_nx, so_rt, so_asg, so_asgG, so_par2, so_par3, ok_gNm, ok_gMore, ok_gNone, so_asgT, so_sub, so_for, ok_TB, ok_Tru, ok_notT, ok_andT, ok_orT, ok_andV, ok_orV, ok_notV, ok_iteE, ok_frz, ok_new, ok_mfArg, ok_mfBin, ok_lc, ok_M, ok_M0, ok_moNone, ok_moSome, ok_Sl,
  ok_bin, ok_un, ok_arg, ok_cons, ok_nil, ok_call, ok_var, ok_C, ok_ok, ok_stuck, ok_noX, bOf_bool, low_v, iOf_int, addD_int, subD_int, negD_int, ltD_int, leD_int, gtD_int, geD_int, fInt_int, isD_bool, isNotD_bool, tru_bool, List.map_cons, List.map_nil, List.length_cons, List.length_nil, List.replicate_succ, List.replicate_zero, List.cons_append, List.nil_append,
  List.append_nil, List.getElem?_cons_zero, List.getElem?_cons_succ, List.set_cons_zero, List.set_cons_succ, Option.some.injEq, exists_eq_left', exists_eq_left, true_and, and_true, true_implies, false_implies, implies_true, Bool.false_eq_true, reduceCtorEq, false_and, and_false, D.v.injEq, PyData.int.injEq, D.ref.injEq, p1i_int, p2_two, p3_three, decide_true, Bool.not_true, Bool.not_false, decide_eq_true_eq, decide_eq_false_iff_not, ok_R1, hall0]
  refine ⟨⟨by omega, by omega⟩, ?_⟩
  rw [Int.toNat_natCast]
  refine forL_inv (fun i e s => s = st ∧ ∃ x2 x3 x4 x5, e = [some (.v (hallD rows)), some (.v (.list ((allp (frt rows i 0)).map pairsD))), x2, x3, x4, x5]) _ _ _ 0 ?_ ?_ ⟨rfl, _, _, _, _, rfl⟩
  · rintro i d e s hd ⟨rfl, x2, x3, x4, x5, rfl⟩
    obtain ⟨hi, rfl⟩ := rngI_get hd
    refine ⟨trivial, ?_⟩
    rw [Int.zero_add, Nat.zero_add]
    unfold LH.law_pairings_G4 LH.law_pairings_B1 LH.law_pairings_E3
    show (gNm 2 (.one (.v (nI i))) _ _).Ok _
    have hadd : ∀ s, addD (.v (nI i)) (.v (.int 1)) s = .ok (.v (.int ((i : Int) + 1))) s := fun s => by rw [addD_int]
    simp only [envE, so_seq, so_if, so_ret, so_retN, so_exp, so_nil, so_nx, so_rt, so_asg, so_asgG, so_par2, so_par3, ok_gNm, ok_gMore, ok_gNone, so_asgT, so_sub, so_for, ok_TB, ok_Tru, ok_notT, ok_andT, ok_orT, ok_andV, ok_orV, ok_notV, ok_iteE, ok_frz, ok_new, ok_mfArg, ok_mfBin, ok_lc, ok_M, ok_M0, ok_moNone, ok_moSome, ok_Sl,
  ok_bin, ok_un, ok_arg, ok_cons, ok_nil, ok_call, ok_var, ok_C, ok_ok, ok_stuck, ok_noX, bOf_bool, low_v, iOf_int, addD_int, subD_int, negD_int, ltD_int, leD_int, gtD_int, geD_int, fInt_int, isD_bool, isNotD_bool, tru_bool, List.map_cons, List.map_nil, List.length_cons, List.length_nil, List.replicate_succ, List.replicate_zero, List.cons_append, List.nil_append,
  List.append_nil, List.getElem?_cons_zero, List.getElem?_cons_succ, List.set_cons_zero, List.set_cons_succ, Option.some.injEq, exists_eq_left', exists_eq_left, true_and, and_true, true_implies, false_implies, implies_true, Bool.false_eq_true, reduceCtorEq, false_and, and_false, D.v.injEq, PyData.int.injEq, D.ref.injEq, p1i_int, p2_two, p3_three, decide_true, Bool.not_true, Bool.not_false, decide_eq_true_eq, decide_eq_false_iff_not, ok_seq, ok_R2, p2i_int, hall0, hadd]
    refine ⟨⟨by omega, by omega, by omega, by omega⟩, ?_⟩
    rw [show ((i : Int) + 1) = ((i + 1 : Nat) : Int) by omega, rng_ups]
    refine forL_inv (fun j e s' => s' = s ∧ ∃ x3 x4 x5, e = [some (.v (hallD rows)), some (.v (.list ((allp (frt rows i j)).map pairsD))), some (.v (nI i)), x3, x4, x5]) _ _ _ 0 ?_ ?_ ⟨rfl, x3, x4, x5, rfl⟩
    · rintro j d e s' hd ⟨rfl, x3, x4, x5, rfl⟩
      rw [List.getElem?_map] at hd
      obtain ⟨b, hb, rfl⟩ := Option.map_eq_some_iff.mp hd
      have hbn := (mem_ups.mp (List.mem_of_getElem? hb)).2
      refine ⟨trivial, ?_⟩
      rw [Nat.zero_add]
      unfold LH.law_pairings_G3 LH.law_pairings_B2
      show (gNm 3 (.one (.v (nI b))) _ _).Ok _
      simp only [envE, so_seq, so_if, so_ret, so_retN, so_exp, so_nil, so_nx, so_rt, so_asg, so_asgG, so_par2, so_par3, ok_gNm, ok_gMore, ok_gNone, so_asgT, so_sub, so_for, ok_TB, ok_Tru, ok_notT, ok_andT, ok_orT, ok_andV, ok_orV, ok_notV, ok_iteE, ok_frz, ok_new, ok_mfArg, ok_mfBin, ok_lc, ok_M, ok_M0, ok_moNone, ok_moSome, ok_Sl,
  ok_bin, ok_un, ok_arg, ok_cons, ok_nil, ok_call, ok_var, ok_C, ok_ok, ok_stuck, ok_noX, bOf_bool, low_v, iOf_int, addD_int, subD_int, negD_int, ltD_int, leD_int, gtD_int, geD_int, fInt_int, isD_bool, isNotD_bool, tru_bool, List.map_cons, List.map_nil, List.length_cons, List.length_nil, List.replicate_succ, List.replicate_zero, List.cons_append, List.nil_append,
  List.append_nil, List.getElem?_cons_zero, List.getElem?_cons_succ, List.set_cons_zero, List.set_cons_succ, Option.some.injEq, exists_eq_left', exists_eq_left, true_and, and_true, true_implies, false_implies, implies_true, Bool.false_eq_true, reduceCtorEq, false_and, and_false, D.v.injEq, PyData.int.injEq, D.ref.injEq, p1i_int, p2_two, p3_three, decide_true, Bool.not_true, Bool.not_false, decide_eq_true_eq, decide_eq_false_iff_not, lwant_eq' hi hbn]
      have hnext : frt rows i (j + 1) = frt rows i j ++ ([b].filter (want rows i)).map fun b => (i, b) := by
        unfold frt
        rw [List.take_add_one, hb, List.filter_append, List.map_append, List.append_assoc]
        rfl
      obtain ⟨M, hM⟩ := frt_pre (j := j) hi
      have hL := prefix_len hM hn
      have hA : (allp (frt rows i j)).length ≤ 2 ^ 15 := Nat.le_trans (allp_len rfl) (Nat.pow_le_pow_right (by decide) hL)
      refine ⟨fun h1 => ?_, fun h1 => ?_⟩
      · unfold LH.law_pairings_E1 LH.law_pairings_E2 LH.law_pairings_T2
        simp only [envE, so_seq, so_if, so_ret, so_retN, so_exp, so_nil, so_nx, so_rt, so_asg, so_asgG, so_par2, so_par3, ok_gNm, ok_gMore, ok_gNone, so_asgT, so_sub, so_for, ok_TB, ok_Tru, ok_notT, ok_andT, ok_orT, ok_andV, ok_orV, ok_notV, ok_iteE, ok_frz, ok_new, ok_mfArg, ok_mfBin, ok_lc, ok_M, ok_M0, ok_moNone, ok_moSome, ok_Sl,
  ok_bin, ok_un, ok_arg, ok_cons, ok_nil, ok_call, ok_var, ok_C, ok_ok, ok_stuck, ok_noX, bOf_bool, low_v, iOf_int, addD_int, subD_int, negD_int, ltD_int, leD_int, gtD_int, geD_int, fInt_int, isD_bool, isNotD_bool, tru_bool, List.map_cons, List.map_nil, List.length_cons, List.length_nil, List.replicate_succ, List.replicate_zero, List.cons_append, List.nil_append,
  List.append_nil, List.getElem?_cons_zero, List.getElem?_cons_succ, List.set_cons_zero, List.set_cons_succ, Option.some.injEq, exists_eq_left', exists_eq_left, true_and, and_true, true_implies, false_implies, implies_true, Bool.false_eq_true, reduceCtorEq, false_and, and_false, D.v.injEq, PyData.int.injEq, D.ref.injEq, p1i_int, p2_two, p3_three, decide_true, Bool.not_true, Bool.not_false, decide_eq_true_eq, decide_eq_false_iff_not, ok_seq, seqW_list, List.map_map]
        rw [lcL_mapA _ (fun one : List (Nat × Nat) => if fre (i, b) one = true then some (pairsD one) else none), fm_filter]
        rotate_left
        · intro one hone
          unfold LH.law_pairings_G1 LH.law_pairings_T1 LH.law_pairings_M1
          show (gNm 5 (.one (.v (pairsD one))) _ _).Ok _
          have h4 : ∀ x s, LH.f_law_partner [.v (pairsD one), .v (nI x)] s = .ok (.v (optD (partner one x))) s := fun x s => lpart_eq
          simp only [envE, so_seq, so_if, so_ret, so_retN, so_exp, so_nil, so_nx, so_rt, so_asg, so_asgG, so_par2, so_par3, ok_gNm, ok_gMore, ok_gNone, so_asgT, so_sub, so_for, ok_TB, ok_Tru, ok_notT, ok_andT, ok_orT, ok_andV, ok_orV, ok_notV, ok_iteE, ok_frz, ok_new, ok_mfArg, ok_mfBin, ok_lc, ok_M, ok_M0, ok_moNone, ok_moSome, ok_Sl,
  ok_bin, ok_un, ok_arg, ok_cons, ok_nil, ok_call, ok_var, ok_C, ok_ok, ok_stuck, ok_noX, bOf_bool, low_v, iOf_int, addD_int, subD_int, negD_int, ltD_int, leD_int, gtD_int, geD_int, fInt_int, isD_bool, isNotD_bool, tru_bool, List.map_cons, List.map_nil, List.length_cons, List.length_nil, List.replicate_succ, List.replicate_zero, List.cons_append, List.nil_append,
  List.append_nil, List.getElem?_cons_zero, List.getElem?_cons_succ, List.set_cons_zero, List.set_cons_succ, Option.some.injEq, exists_eq_left', exists_eq_left, true_and, and_true, true_implies, false_implies, implies_true, Bool.false_eq_true, reduceCtorEq, false_and, and_false, D.v.injEq, PyData.int.injEq, D.ref.injEq, p1i_int, p2_two, p3_three, decide_true, Bool.not_true, Bool.not_false, decide_eq_true_eq, decide_eq_false_iff_not, wipeE, h4, Hl.is_none]
          unfold fre
          refine ⟨fun h5 => ⟨fun h6 => ?_, fun h6 => ?_⟩, fun h5 => ?_⟩
          · rw [h5, h6]; rfl
          · rw [h5, h6]; rfl
          · rw [h5]; rfl
        rw [ok_ok, List.map_map]
        rw [lcL_all _ (fun one : List (Nat × Nat) => pairsD (one ++ [(i, b)]))]
        rotate_left
        · intro one hone
          unfold LH.law_pairings_G2 LH.law_pairings_M2
          show (gNm 5 (.one (.v (pairsD one))) _ _).Ok _
          have hol : one.length ≤ 15 := Nat.le_trans ((mem_allp rfl).mp (List.mem_filter.mp hone).1).1.length_le hL
          simp only [envE, so_seq, so_if, so_ret, so_retN, so_exp, so_nil, so_nx, so_rt, so_asg, so_asgG, so_par2, so_par3, ok_gNm, ok_gMore, ok_gNone, so_asgT, so_sub, so_for, ok_TB, ok_Tru, ok_notT, ok_andT, ok_orT, ok_andV, ok_orV, ok_notV, ok_iteE, ok_frz, ok_new, ok_mfArg, ok_mfBin, ok_lc, ok_M, ok_M0, ok_moNone, ok_moSome, ok_Sl,
  ok_bin, ok_un, ok_arg, ok_cons, ok_nil, ok_call, ok_var, ok_C, ok_ok, ok_stuck, ok_noX, bOf_bool, low_v, iOf_int, addD_int, subD_int, negD_int, ltD_int, leD_int, gtD_int, geD_int, fInt_int, isD_bool, isNotD_bool, tru_bool, List.map_cons, List.map_nil, List.length_cons, List.length_nil, List.replicate_succ, List.replicate_zero, List.cons_append, List.nil_append,
  List.append_nil, List.getElem?_cons_zero, List.getElem?_cons_succ, List.set_cons_zero, List.set_cons_succ, Option.some.injEq, exists_eq_left', exists_eq_left, true_and, and_true, true_implies, false_implies, implies_true, Bool.false_eq_true, reduceCtorEq, false_and, and_false, D.v.injEq, PyData.int.injEq, D.ref.injEq, p1i_int, p2_two, p3_three, decide_true, Bool.not_true, Bool.not_false, decide_eq_true_eq, decide_eq_false_iff_not, wipeE, tup2, tup1]
          rw [show pairsD one = .tuple (one.map pr) from rfl, add_tupD (by rw [List.length_map, List.length_singleton]; omega), ok_ok]
          refine ⟨rfl, ?_⟩
          show D.v (.tuple (one.map pr ++ [pr (i, b)])) = D.v (.tuple ((one ++ [(i, b)]).map pr))
          rw [List.map_append]
          rfl
        rw [ok_ok]
        have hfl := List.length_filter_le (fre (i, b)) (allp (frt rows i j))
        rw [cat_list (by rw [List.length_map, List.length_map]; omega), ok_ok]
        refine ⟨rfl, some (.v (nI b)), some (.v (.list (((allp (frt rows i j)).filter (fre (i, b))).map pairsD))), x5, ?_⟩
        rw [hnext, List.filter_cons, if_pos h1, List.filter_nil, List.map_singleton, allp_snoc]
        unfold stp
        rw [List.map_append, List.map_map]
        rfl
      · rw [hnext, List.filter_cons, if_neg (by rw [h1]; exact Bool.false_ne_true), List.filter_nil, List.map_nil, List.append_nil]
        exact ⟨_, _, _, rfl⟩
    · rintro e s' ⟨rfl, x3, x4, x5, rfl⟩
      refine ⟨trivial, rfl, some (.v (nI i)), x3, x4, x5, ?_⟩
      rw [Nat.zero_add, List.length_map, frt_full]
  · rintro e s ⟨rfl, x2, x3, x4, x5, rfl⟩
    refine ⟨trivial, ?_⟩
    unfold LH.S_law_pairings_3
    rw [show (rngI 0 rows.length).length = rows.length by unfold rngI; rw [List.length_map, List.length_range], Nat.zero_add]
    have hw : frt rows rows.length 0 = wanting rows := by unfold frt wanting; simp
    rw [hw]
    simp only [envE, so_seq, so_if, so_ret, so_retN, so_exp, so_nil, so_nx, so_rt, so_asg, so_asgG, so_par2, so_par3, ok_gNm, ok_gMore, ok_gNone, so_asgT, so_sub, so_for, ok_TB, ok_Tru, ok_notT, ok_andT, ok_orT, ok_andV, ok_orV, ok_notV, ok_iteE, ok_frz, ok_new, ok_mfArg, ok_mfBin, ok_lc, ok_M, ok_M0, ok_moNone, ok_moSome, ok_Sl,
  ok_bin, ok_un, ok_arg, ok_cons, ok_nil, ok_call, ok_var, ok_C, ok_ok, ok_stuck, ok_noX, bOf_bool, low_v, iOf_int, addD_int, subD_int, negD_int, ltD_int, leD_int, gtD_int, geD_int, fInt_int, isD_bool, isNotD_bool, tru_bool, List.map_cons, List.map_nil, List.length_cons, List.length_nil, List.replicate_succ, List.replicate_zero, List.cons_append, List.nil_append,
  List.append_nil, List.getElem?_cons_zero, List.getElem?_cons_succ, List.set_cons_zero, List.set_cons_succ, Option.some.injEq, exists_eq_left', exists_eq_left, true_and, and_true, true_implies, false_implies, implies_true, Bool.false_eq_true, reduceCtorEq, false_and, and_false, D.v.injEq, PyData.int.injEq, D.ref.injEq, p1i_int, p2_two, p3_three, decide_true, Bool.not_true, Bool.not_false, decide_eq_true_eq, decide_eq_false_iff_not]
    rw [Sg.sort_givs, ok_ok, hE]
    exact ⟨rfl, List.take_length⟩
end
end Fw.Tl
namespace Fw.Tl
open PySem PySem.Spec PyProof.Rows L2 Fw Fw.Hl Fw.Da Fw.Aq
section
variable {rows R : List (List Nat)} {S lot l : List Nat} {sd : Nat → Bool} {st : Sto} {a b m w n k : Nat} {μ ν : List (Nat × Nat)}
def RowOf (S : List Nat) (l : List Nat) : Prop := l.Nodup ∧ ∀ b ∈ l, b ∈ S
theorem rows_of_ok (hS : S.length ≤ 3) :
    (LH.f_law_rows_of [.v (.list (S.map nI))] st).Ok fun d st' => ∃ rs : List (List Nat), d = .v (.list (rs.map tNs)) ∧ st' = st ∧ rs.length ≤ 54 ∧ ∀ l ∈ rs, RowOf S l := by
  refine fnT_ok ?_
  unfold LH.S_law_rows_of
  have t0 : ∀ s, fTup [] s = .ok (.v (.tuple [])) s := fun s => rfl
  have t1 : ∀ {a : PyData} {s}, gDisp [.v a] s = .ok [a] s := fun {_ _} => rfl
  simp only [envE, so_seq, so_if, so_ret, so_retN, so_exp, so_nil, so_nx, so_rt, so_asg, so_asgG, so_par2, so_par3, ok_gNm, ok_gMore, ok_gNone, so_asgT, so_sub, so_for, ok_TB, ok_Tru, ok_notT, ok_andT, ok_orT, ok_andV, ok_orV, ok_notV, ok_iteE, ok_frz, ok_new, ok_mfArg, ok_mfBin, ok_lc, ok_M, ok_M0, ok_moNone, ok_moSome, ok_Sl,
  ok_bin, ok_un, ok_arg, ok_cons, ok_nil, ok_call, ok_var, ok_C, ok_ok, ok_stuck, ok_noX, bOf_bool, low_v, iOf_int, addD_int, subD_int, negD_int, ltD_int, leD_int, gtD_int, geD_int, fInt_int, isD_bool, isNotD_bool, tru_bool, List.map_cons, List.map_nil, List.length_cons, List.length_nil, List.replicate_succ, List.replicate_zero, List.cons_append, List.nil_append,
  List.append_nil, List.getElem?_cons_zero, List.getElem?_cons_succ, List.set_cons_zero, List.set_cons_succ, Option.some.injEq, exists_eq_left', exists_eq_left, true_and, and_true, true_implies, false_implies, implies_true, Bool.false_eq_true, reduceCtorEq, false_and, and_false, D.v.injEq, PyData.int.injEq, D.ref.injEq, p1i_int, p2_two, p3_three, decide_true, Bool.not_true, Bool.not_false, decide_eq_true_eq, decide_eq_false_iff_not, t0, t1]
  unfold LH.S_law_rows_of_2 LH.law_rows_of_E3
  simp only [envE, so_seq, so_if, so_ret, so_retN, so_exp, so_nil, so_nx, so_rt, so_asg, so_asgG, so_par2, so_par3, ok_gNm, ok_gMore, ok_gNone, so_asgT, so_sub, so_for, ok_TB, ok_Tru, ok_notT, ok_andT, ok_orT, ok_andV, ok_orV, ok_notV, ok_iteE, ok_frz, ok_new, ok_mfArg, ok_mfBin, ok_lc, ok_M, ok_M0, ok_moNone, ok_moSome, ok_Sl,
  ok_bin, ok_un, ok_arg, ok_cons, ok_nil, ok_call, ok_var, ok_C, ok_ok, ok_stuck, ok_noX, bOf_bool, low_v, iOf_int, addD_int, subD_int, negD_int, ltD_int, leD_int, gtD_int, geD_int, fInt_int, isD_bool, isNotD_bool, tru_bool, List.map_cons, List.map_nil, List.length_cons, List.length_nil, List.replicate_succ, List.replicate_zero, List.cons_append, List.nil_append,
  List.append_nil, List.getElem?_cons_zero, List.getElem?_cons_succ, List.set_cons_zero, List.set_cons_succ, Option.some.injEq, exists_eq_left', exists_eq_left, true_and, and_true, true_implies, false_implies, implies_true, Bool.false_eq_true, reduceCtorEq, false_and, and_false, D.v.injEq, PyData.int.injEq, D.ref.injEq, p1i_int, p2_two, p3_three, decide_true, Bool.not_true, Bool.not_false, decide_eq_true_eq, decide_eq_false_iff_not, ok_R1, Fw.len_list, List.length_map]
  refine ⟨⟨by omega, by omega⟩, ?_⟩
  rw [Int.toNat_natCast]
  refine forL_inv (fun i e s => s = st ∧ ∃ (fo la : List (List Nat)) (x3 x4 x5 x6 : Option D), e = [some (.v (.list (S.map nI))), some (.v (.list (fo.map tNs))), some (.v (.list (la.map tNs))), x3, x4, x5, x6] ∧ fo.length ≤ 2 * 3 ^ i ∧ la.length ≤ 3 ^ i ∧ (∀ l ∈ fo, RowOf S l) ∧ ∀ l ∈ la, RowOf S l) _ _ _ 0 ?_ ?_ ⟨rfl, [[]], [[]], _, _, _, _, rfl, by decide, by decide, ?_, ?_⟩
  · rintro i d e s hd ⟨rfl, fo, la, x3, x4, x5, x6, rfl, hf, hl, gf, gl⟩
    obtain ⟨hi, rfl⟩ := rngI_get hd
    rw [Nat.zero_add] at *
    have hp : 3 ^ i ≤ 9 := by
      have : i = 0 ∨ i = 1 ∨ i = 2 := by omega
      rcases this with rfl | rfl | rfl <;> decide
    have hp2 : 3 ^ (i + 1) = 3 * 3 ^ i := by rw [Nat.pow_succ]; omega
    refine ⟨trivial, ?_⟩
    unfold LH.law_rows_of_G3 LH.law_rows_of_B1
    simp only [envE, so_seq, so_if, so_ret, so_retN, so_exp, so_nil, so_nx, so_rt, so_asg, so_asgG, so_par2, so_par3, ok_gNm, ok_gMore, ok_gNone, so_asgT, so_sub, so_for, ok_TB, ok_Tru, ok_notT, ok_andT, ok_orT, ok_andV, ok_orV, ok_notV, ok_iteE, ok_frz, ok_new, ok_mfArg, ok_mfBin, ok_lc, ok_M, ok_M0, ok_moNone, ok_moSome, ok_Sl,
  ok_bin, ok_un, ok_arg, ok_cons, ok_nil, ok_call, ok_var, ok_C, ok_ok, ok_stuck, ok_noX, bOf_bool, low_v, iOf_int, addD_int, subD_int, negD_int, ltD_int, leD_int, gtD_int, geD_int, fInt_int, isD_bool, isNotD_bool, tru_bool, List.map_cons, List.map_nil, List.length_cons, List.length_nil, List.replicate_succ, List.replicate_zero, List.cons_append, List.nil_append,
  List.append_nil, List.getElem?_cons_zero, List.getElem?_cons_succ, List.set_cons_zero, List.set_cons_succ, Option.some.injEq, exists_eq_left', exists_eq_left, true_and, and_true, true_implies, false_implies, implies_true, Bool.false_eq_true, reduceCtorEq, false_and, and_false, D.v.injEq, PyData.int.injEq, D.ref.injEq, p1i_int, p2_two, p3_three, decide_true, Bool.not_true, Bool.not_false, decide_eq_true_eq, decide_eq_false_iff_not, disp0]
    unfold LH.law_rows_of_B1_2 LH.law_rows_of_E2
    simp only [envE, so_seq, so_if, so_ret, so_retN, so_exp, so_nil, so_nx, so_rt, so_asg, so_asgG, so_par2, so_par3, ok_gNm, ok_gMore, ok_gNone, so_asgT, so_sub, so_for, ok_TB, ok_Tru, ok_notT, ok_andT, ok_orT, ok_andV, ok_orV, ok_notV, ok_iteE, ok_frz, ok_new, ok_mfArg, ok_mfBin, ok_lc, ok_M, ok_M0, ok_moNone, ok_moSome, ok_Sl,
  ok_bin, ok_un, ok_arg, ok_cons, ok_nil, ok_call, ok_var, ok_C, ok_ok, ok_stuck, ok_noX, bOf_bool, low_v, iOf_int, addD_int, subD_int, negD_int, ltD_int, leD_int, gtD_int, geD_int, fInt_int, isD_bool, isNotD_bool, tru_bool, List.map_cons, List.map_nil, List.length_cons, List.length_nil, List.replicate_succ, List.replicate_zero, List.cons_append, List.nil_append,
  List.append_nil, List.getElem?_cons_zero, List.getElem?_cons_succ, List.set_cons_zero, List.set_cons_succ, Option.some.injEq, exists_eq_left', exists_eq_left, true_and, and_true, true_implies, false_implies, implies_true, Bool.false_eq_true, reduceCtorEq, false_and, and_false, D.v.injEq, PyData.int.injEq, D.ref.injEq, p1i_int, p2_two, p3_three, decide_true, Bool.not_true, Bool.not_false, decide_eq_true_eq, decide_eq_false_iff_not, ok_seq, seqW_list, List.map_map]
    refine forL_inv (fun j e s' => s' = s ∧ ∃ (lo : List (List Nat)) (x5 x6 : Option D), e = [some (.v (.list (S.map nI))), some (.v (.list (fo.map tNs))), some (.v (.list (la.map tNs))), some (.v (.int (0 + (i : Int)))), some (.v (.list (lo.map tNs))), x5, x6] ∧ lo.length ≤ 3 * j ∧ ∀ l ∈ lo, RowOf S l) _ _ _ 0 ?_ ?_ ⟨rfl, [], _, _, rfl, Nat.le_refl _, (fun l z => nomatch z)⟩
    · rintro j d e s' hd ⟨rfl, lo, x5, x6, rfl, hlo, glo⟩
      rw [List.getElem?_map] at hd
      obtain ⟨r, hr, rfl⟩ := Option.map_eq_some_iff.mp hd
      have hjl : j < la.length := (List.getElem?_eq_some_iff.mp hr).1
      rw [Nat.zero_add] at *
      have hrS := gl r (List.mem_of_getElem? hr)
      have hrl : r.length ≤ 3 := Nat.le_trans (Da.le_of hrS.1 (fun x => x) (fun b hb => hrS.2 b hb) (fun _ _ _ _ e => e)) hS
      refine ⟨trivial, ?_⟩
      unfold LH.law_rows_of_G2 LH.law_rows_of_B2
      show (gNm 5 (.one (.v (tNs r))) _ _).Ok _
      unfold LH.law_rows_of_E1
      simp only [envE, so_seq, so_if, so_ret, so_retN, so_exp, so_nil, so_nx, so_rt, so_asg, so_asgG, so_par2, so_par3, ok_gNm, ok_gMore, ok_gNone, so_asgT, so_sub, so_for, ok_TB, ok_Tru, ok_notT, ok_andT, ok_orT, ok_andV, ok_orV, ok_notV, ok_iteE, ok_frz, ok_new, ok_mfArg, ok_mfBin, ok_lc, ok_M, ok_M0, ok_moNone, ok_moSome, ok_Sl,
  ok_bin, ok_un, ok_arg, ok_cons, ok_nil, ok_call, ok_var, ok_C, ok_ok, ok_stuck, ok_noX, bOf_bool, low_v, iOf_int, addD_int, subD_int, negD_int, ltD_int, leD_int, gtD_int, geD_int, fInt_int, isD_bool, isNotD_bool, tru_bool, List.map_cons, List.map_nil, List.length_cons, List.length_nil, List.replicate_succ, List.replicate_zero, List.cons_append, List.nil_append,
  List.append_nil, List.getElem?_cons_zero, List.getElem?_cons_succ, List.set_cons_zero, List.set_cons_succ, Option.some.injEq, exists_eq_left', exists_eq_left, true_and, and_true, true_implies, false_implies, implies_true, Bool.false_eq_true, reduceCtorEq, false_and, and_false, D.v.injEq, PyData.int.injEq, D.ref.injEq, p1i_int, p2_two, p3_three, decide_true, Bool.not_true, Bool.not_false, decide_eq_true_eq, decide_eq_false_iff_not, ok_seq, seqW_list, List.map_map]
      rw [lcL_mapA _ (fun b : Nat => if (!decide (b ∈ r)) = true then some (tNs (r ++ [b])) else none), fm_filter]
      rotate_left
      · intro b hb
        unfold LH.law_rows_of_G1 LH.law_rows_of_T1 LH.law_rows_of_M1
        show (gNm 6 (.one (.v (nI b))) _ _).Ok _
        have t2 : ∀ s, fTup [.v (nI b)] s = .ok (.v (.tuple [nI b])) s := fun s => rfl
        have t3 : ∀ s, addD (.v (tNs r)) (.v (.tuple [nI b])) s = .ok (.v (tNs (r ++ [b]))) s := fun s => by
          have h1 : addD (.v (.tuple (r.map nI))) (.v (.tuple [nI b])) s = _ := add_tupD (by rw [List.length_map, List.length_singleton]; omega)
          show addD (.v (.tuple (r.map nI))) (.v (.tuple [nI b])) s = .ok (.v (.tuple ((r ++ [b]).map nI))) s
          rw [h1, List.map_append]
          rfl
        simp only [envE, so_seq, so_if, so_ret, so_retN, so_exp, so_nil, so_nx, so_rt, so_asg, so_asgG, so_par2, so_par3, ok_gNm, ok_gMore, ok_gNone, so_asgT, so_sub, so_for, ok_TB, ok_Tru, ok_notT, ok_andT, ok_orT, ok_andV, ok_orV, ok_notV, ok_iteE, ok_frz, ok_new, ok_mfArg, ok_mfBin, ok_lc, ok_M, ok_M0, ok_moNone, ok_moSome, ok_Sl,
  ok_bin, ok_un, ok_arg, ok_cons, ok_nil, ok_call, ok_var, ok_C, ok_ok, ok_stuck, ok_noX, bOf_bool, low_v, iOf_int, addD_int, subD_int, negD_int, ltD_int, leD_int, gtD_int, geD_int, fInt_int, isD_bool, isNotD_bool, tru_bool, List.map_cons, List.map_nil, List.length_cons, List.length_nil, List.replicate_succ, List.replicate_zero, List.cons_append, List.nil_append,
  List.append_nil, List.getElem?_cons_zero, List.getElem?_cons_succ, List.set_cons_zero, List.set_cons_succ, Option.some.injEq, exists_eq_left', exists_eq_left, true_and, and_true, true_implies, false_implies, implies_true, Bool.false_eq_true, reduceCtorEq, false_and, and_false, D.v.injEq, PyData.int.injEq, D.ref.injEq, p1i_int, p2_two, p3_three, decide_true, Bool.not_true, Bool.not_false, decide_eq_true_eq, decide_eq_false_iff_not, wipeE, notIn_tup, t2, t3]
        exact ⟨fun h => by rw [if_pos h], fun h => by rw [if_neg (by rw [h]; exact Bool.false_ne_true)]⟩
      rw [ok_ok]
      have hfl := List.length_filter_le (fun b => !decide (b ∈ r)) S
      have hcat : ∀ s, gCat (.v (.list (lo.map tNs))) (.v (.list ((S.filter fun b => !decide (b ∈ r)).map fun b => tNs (r ++ [b])))) s = .ok ((lo ++ (S.filter fun b => !decide (b ∈ r)).map fun b => r ++ [b]).map tNs) s := fun s => by
        rw [cat_list (by rw [List.length_map, List.length_map]; omega), List.map_append, List.map_map]
        rfl
      simp only [envE, so_seq, so_if, so_ret, so_retN, so_exp, so_nil, so_nx, so_rt, so_asg, so_asgG, so_par2, so_par3, ok_gNm, ok_gMore, ok_gNone, so_asgT, so_sub, so_for, ok_TB, ok_Tru, ok_notT, ok_andT, ok_orT, ok_andV, ok_orV, ok_notV, ok_iteE, ok_frz, ok_new, ok_mfArg, ok_mfBin, ok_lc, ok_M, ok_M0, ok_moNone, ok_moSome, ok_Sl,
  ok_bin, ok_un, ok_arg, ok_cons, ok_nil, ok_call, ok_var, ok_C, ok_ok, ok_stuck, ok_noX, bOf_bool, low_v, iOf_int, addD_int, subD_int, negD_int, ltD_int, leD_int, gtD_int, geD_int, fInt_int, isD_bool, isNotD_bool, tru_bool, List.map_cons, List.map_nil, List.length_cons, List.length_nil, List.replicate_succ, List.replicate_zero, List.cons_append, List.nil_append,
  List.append_nil, List.getElem?_cons_zero, List.getElem?_cons_succ, List.set_cons_zero, List.set_cons_succ, Option.some.injEq, exists_eq_left', exists_eq_left, true_and, and_true, true_implies, false_implies, implies_true, Bool.false_eq_true, reduceCtorEq, false_and, and_false, D.v.injEq, PyData.int.injEq, D.ref.injEq, p1i_int, p2_two, p3_three, decide_true, Bool.not_true, Bool.not_false, decide_eq_true_eq, decide_eq_false_iff_not, hcat]
      refine ⟨_, _, _, rfl, by rw [List.length_append, List.length_map]; omega, fun l hl => ?_⟩
      rcases List.mem_append.mp hl with z | z
      · exact glo l z
      · obtain ⟨b, hb, rfl⟩ := List.mem_map.mp z
        obtain ⟨q1, q2⟩ := List.mem_filter.mp hb
        have q3 : ¬ b ∈ r := by simpa using q2
        refine ⟨List.nodup_append.mpr ⟨hrS.1, by simp, fun x hx y hy e => ?_⟩, fun x hx => ?_⟩
        · rw [List.mem_singleton] at hy
          subst hy
          subst e
          exact q3 hx
        · rcases List.mem_append.mp hx with z | z
          · exact hrS.2 x z
          · rw [List.mem_singleton.mp z]; exact q1
    · rintro e s' ⟨rfl, lo, x5, x6, rfl, hlo, glo⟩
      rw [List.length_map, Nat.zero_add] at hlo
      refine ⟨trivial, ?_⟩
      unfold LH.law_rows_of_B1_3
      have hcat : ∀ s, gCat (.v (.list (fo.map tNs))) (.v (.list (lo.map tNs))) s = .ok ((fo ++ lo).map tNs) s := fun s => by
        rw [cat_list (by rw [List.length_map, List.length_map]; omega), List.map_append]
      simp only [envE, so_seq, so_if, so_ret, so_retN, so_exp, so_nil, so_nx, so_rt, so_asg, so_asgG, so_par2, so_par3, ok_gNm, ok_gMore, ok_gNone, so_asgT, so_sub, so_for, ok_TB, ok_Tru, ok_notT, ok_andT, ok_orT, ok_andV, ok_orV, ok_notV, ok_iteE, ok_frz, ok_new, ok_mfArg, ok_mfBin, ok_lc, ok_M, ok_M0, ok_moNone, ok_moSome, ok_Sl,
  ok_bin, ok_un, ok_arg, ok_cons, ok_nil, ok_call, ok_var, ok_C, ok_ok, ok_stuck, ok_noX, bOf_bool, low_v, iOf_int, addD_int, subD_int, negD_int, ltD_int, leD_int, gtD_int, geD_int, fInt_int, isD_bool, isNotD_bool, tru_bool, List.map_cons, List.map_nil, List.length_cons, List.length_nil, List.replicate_succ, List.replicate_zero, List.cons_append, List.nil_append,
  List.append_nil, List.getElem?_cons_zero, List.getElem?_cons_succ, List.set_cons_zero, List.set_cons_succ, Option.some.injEq, exists_eq_left', exists_eq_left, true_and, and_true, true_implies, false_implies, implies_true, Bool.false_eq_true, reduceCtorEq, false_and, and_false, D.v.injEq, PyData.int.injEq, D.ref.injEq, p1i_int, p2_two, p3_three, decide_true, Bool.not_true, Bool.not_false, decide_eq_true_eq, decide_eq_false_iff_not, hcat]
      refine ⟨rfl, fo ++ lo, lo, _, _, _, _, rfl, by rw [List.length_append]; omega, by omega, fun l hl => ?_, glo⟩
      rcases List.mem_append.mp hl with z | z
      · exact gf l z
      · exact glo l z
  · rintro e s ⟨rfl, fo, la, x3, x4, x5, x6, rfl, hf, hl, gf, gl⟩
    rw [show (rngI 0 S.length).length = S.length by unfold rngI; rw [List.length_map, List.length_range], Nat.zero_add] at hf
    clear hl
    refine ⟨trivial, ?_⟩
    unfold LH.S_law_rows_of_3
    have hp : 3 ^ S.length ≤ 27 := by
      have : S.length = 0 ∨ S.length = 1 ∨ S.length = 2 ∨ S.length = 3 := by omega
      rcases this with h | h | h | h <;> rw [h] <;> decide
    simp only [envE, so_seq, so_if, so_ret, so_retN, so_exp, so_nil, so_nx, so_rt, so_asg, so_asgG, so_par2, so_par3, ok_gNm, ok_gMore, ok_gNone, so_asgT, so_sub, so_for, ok_TB, ok_Tru, ok_notT, ok_andT, ok_orT, ok_andV, ok_orV, ok_notV, ok_iteE, ok_frz, ok_new, ok_mfArg, ok_mfBin, ok_lc, ok_M, ok_M0, ok_moNone, ok_moSome, ok_Sl,
  ok_bin, ok_un, ok_arg, ok_cons, ok_nil, ok_call, ok_var, ok_C, ok_ok, ok_stuck, ok_noX, bOf_bool, low_v, iOf_int, addD_int, subD_int, negD_int, ltD_int, leD_int, gtD_int, geD_int, fInt_int, isD_bool, isNotD_bool, tru_bool, List.map_cons, List.map_nil, List.length_cons, List.length_nil, List.replicate_succ, List.replicate_zero, List.cons_append, List.nil_append,
  List.append_nil, List.getElem?_cons_zero, List.getElem?_cons_succ, List.set_cons_zero, List.set_cons_succ, Option.some.injEq, exists_eq_left', exists_eq_left, true_and, and_true, true_implies, false_implies, implies_true, Bool.false_eq_true, reduceCtorEq, false_and, and_false, D.v.injEq, PyData.int.injEq, D.ref.injEq, p1i_int, p2_two, p3_three, decide_true, Bool.not_true, Bool.not_false, decide_eq_true_eq, decide_eq_false_iff_not]
    exact ⟨fo, rfl, List.take_length, by omega, gf⟩
  · intro l hl; rw [List.mem_singleton.mp hl]; exact ⟨List.nodup_nil, fun b z => nomatch z⟩
  · intro l hl; rw [List.mem_singleton.mp hl]; exact ⟨List.nodup_nil, fun b z => nomatch z⟩
end
end Fw.Tl
namespace Wk47
open PySem PySem.Spec PyProof.Rows L2 Fw Fw.Hl Fw.Da Fw.Aq Fw.Tl
section
variable {rows : List (List Nat)} {S lot l : List Nat} {sd : Nat → Bool} {st : Sto} {a b m w n k : Nat} {μ ν ps Q h : List (Nat × Nat)} {p q : Nat × Nat} {o : Option Nat}
theorem best_told_eq (H : Hall rows) (hl : Lot rows lot true) (hn : rows.length ≤ 50) (oh : Opt rows (oth rows.length lot) h) : f_best_told [.v (hallD rows), .v (tNs lot), .v (nI b)] st = .ok (.v (optD (partner h b))) st := by
  refine Out.Ok.is (fnT_ok ?_)
  unfold S_best_told
  have e1 : ∀ s, f_high_pairing [.v (hallD rows), .v (tNs lot)] s = .ok (.v (pairsD h)) s := fun s => high_eq H hl hn oh
  have h4 : ∀ s, f_partner_of [.v (pairsD h), .v (nI b)] s = .ok (.v (optD (partner h b))) s := fun s => partner_eq
  simp only [envE, so_seq, so_if, so_ret, so_retN, so_exp, so_nil, so_nx, so_rt, so_asg, so_asgG, so_par2, so_par3, ok_gNm, ok_gMore, ok_gNone, so_asgT, so_sub, so_for, ok_TB, ok_Tru, ok_notT, ok_andT, ok_orT, ok_andV, ok_orV, ok_notV, ok_iteE, ok_frz, ok_new, ok_mfArg, ok_mfBin, ok_lc, ok_M, ok_M0, ok_moNone, ok_moSome, ok_Sl,
  ok_bin, ok_un, ok_arg, ok_cons, ok_nil, ok_call, ok_var, ok_C, ok_ok, ok_stuck, ok_noX, bOf_bool, low_v, iOf_int, addD_int, subD_int, negD_int, ltD_int, leD_int, gtD_int, geD_int, fInt_int, isD_bool, isNotD_bool, tru_bool, List.map_cons, List.map_nil, List.length_cons, List.length_nil, List.replicate_succ, List.replicate_zero, List.cons_append, List.nil_append,
  List.append_nil, List.getElem?_cons_zero, List.getElem?_cons_succ, List.set_cons_zero, List.set_cons_succ, Option.some.injEq, exists_eq_left', exists_eq_left, true_and, and_true, true_implies, false_implies, implies_true, Bool.false_eq_true, reduceCtorEq, false_and, and_false, D.v.injEq, PyData.int.injEq, D.ref.injEq, p1i_int, p2_two, p3_three, decide_true, Bool.not_true, Bool.not_false, decide_eq_true_eq, decide_eq_false_iff_not, e1, h4]
  cases partner h b <;> (first | exact ⟨rfl, rfl, List.take_length⟩ | exact ⟨rfl, List.take_length⟩ | exact List.take_length | exact ⟨rfl, trivial, List.take_length⟩)
theorem come_eq (H : Hall rows) (hl : Lot rows lot true) (hn : rows.length ≤ 50) (hb : b < rows.length) (t : Told rows lot b l) (o : Opt (rows.set b l) lot ν) : f_law_come [.v (hallD rows), .v (tNs lot), .v (nI b), .v (tNs l)] st = .ok (.v (optD (partner ν b))) st := by
  refine Out.Ok.is (fnT_ok ?_)
  unfold S_law_come
  have e1 : ∀ s, f_law_told_by [.v (hallD rows), .v (nI b), .v (tNs l)] s = .ok (.v (hallD (rows.set b l))) s := fun s => told_by_eq hn hb
  have e2 : ∀ s, f_law_asking [.v (hallD (rows.set b l)), .v (tNs lot)] s = .ok (.v (pairsD ν)) s := fun s => asking_eq (two_lot (told_hall_ok H hb t) (told_lot_ok hl hb t)) (by rw [List.length_set]; exact hn) o
  have h4 : ∀ s, f_law_partner [.v (pairsD ν), .v (nI b)] s = .ok (.v (optD (partner ν b))) s := fun s => lpart_eq
  simp only [envE, so_seq, so_if, so_ret, so_retN, so_exp, so_nil, so_nx, so_rt, so_asg, so_asgG, so_par2, so_par3, ok_gNm, ok_gMore, ok_gNone, so_asgT, so_sub, so_for, ok_TB, ok_Tru, ok_notT, ok_andT, ok_orT, ok_andV, ok_orV, ok_notV, ok_iteE, ok_frz, ok_new, ok_mfArg, ok_mfBin, ok_lc, ok_M, ok_M0, ok_moNone, ok_moSome, ok_Sl,
  ok_bin, ok_un, ok_arg, ok_cons, ok_nil, ok_call, ok_var, ok_C, ok_ok, ok_stuck, ok_noX, bOf_bool, low_v, iOf_int, addD_int, subD_int, negD_int, ltD_int, leD_int, gtD_int, geD_int, fInt_int, isD_bool, isNotD_bool, tru_bool, List.map_cons, List.map_nil, List.length_cons, List.length_nil, List.replicate_succ, List.replicate_zero, List.cons_append, List.nil_append,
  List.append_nil, List.getElem?_cons_zero, List.getElem?_cons_succ, List.set_cons_zero, List.set_cons_succ, Option.some.injEq, exists_eq_left', exists_eq_left, true_and, and_true, true_implies, false_implies, implies_true, Bool.false_eq_true, reduceCtorEq, false_and, and_false, D.v.injEq, PyData.int.injEq, D.ref.injEq, p1i_int, p2_two, p3_three, decide_true, Bool.not_true, Bool.not_false, decide_eq_true_eq, decide_eq_false_iff_not, e1, e2, h4]
  cases partner ν b <;> (first | exact ⟨rfl, rfl, List.take_length⟩ | exact ⟨rfl, List.take_length⟩ | exact List.take_length | exact ⟨rfl, trivial, List.take_length⟩)
theorem in_optT {l : List Nat} {c : Option Nat} : inU (.v (optD c)) (.v (tNs l)) st = .ok (.v (.bool (inO l c))) st := by
  cases c with
  | some c => exact in_tup
  | none =>
    show (match inS st (.v .none) (.v (tNs l)) with
      | some k => Out.ok (D.v (.bool k)) st
      | none => .stuck) = _
    have e : inS st (.v .none) (.v (tNs l)) = some false := by
      show (if flatP .none && (l.map nI).all flatP then some ((l.map nI).any fun y => PyData.eqv y .none) else _) = _
      rw [flat_nats]
      have z : ((l.map nI).any fun y => PyData.eqv y .none) = false := by
        rw [List.any_map]
        exact List.any_eq_false.mpr fun _ _ => by simp [PyData.eqv]
      rw [z]
      rfl
    rw [e]
    rfl
theorem cut_slice {l : List Nat} {k : Nat} {s : Sto} : slD (.v (tNs l)) none (some ((k : Int) + 1)) s = .ok (.v (tNs (l.take (k + 1)))) s := by
  show slD (.v (.tuple (l.map nI))) none (some ((k + 1 : Nat) : Int)) s = _
  rw [slice_tup, cut_take, ← List.map_take]
theorem cut_list_eq (hb : b < rows.length) (ho : ∀ q, o = some q → q ∈ row rows b) : f_cut_list [.v (hallD rows), .v (nI b), .v (optD o)] st = .ok (.v (tNs (cutR (row rows b) o))) st := by
  refine Out.Ok.is (fnT_ok ?_)
  unfold S_cut_list S_cut_list_2
  have t0 : ∀ s, fTup [] s = .ok (.v (.tuple [])) s := fun s => rfl
  simp only [envE, so_seq, so_if, so_ret, so_retN, so_exp, so_nil, so_nx, so_rt, so_asg, so_asgG, so_par2, so_par3, ok_gNm, ok_gMore, ok_gNone, so_asgT, so_sub, so_for, ok_TB, ok_Tru, ok_notT, ok_andT, ok_orT, ok_andV, ok_orV, ok_notV, ok_iteE, ok_frz, ok_new, ok_mfArg, ok_mfBin, ok_lc, ok_M, ok_M0, ok_moNone, ok_moSome, ok_Sl,
  ok_bin, ok_un, ok_arg, ok_cons, ok_nil, ok_call, ok_var, ok_C, ok_ok, ok_stuck, ok_noX, bOf_bool, low_v, iOf_int, addD_int, subD_int, negD_int, ltD_int, leD_int, gtD_int, geD_int, fInt_int, isD_bool, isNotD_bool, tru_bool, List.map_cons, List.map_nil, List.length_cons, List.length_nil, List.replicate_succ, List.replicate_zero, List.cons_append, List.nil_append,
  List.append_nil, List.getElem?_cons_zero, List.getElem?_cons_succ, List.set_cons_zero, List.set_cons_succ, Option.some.injEq, exists_eq_left', exists_eq_left, true_and, and_true, true_implies, false_implies, implies_true, Bool.false_eq_true, reduceCtorEq, false_and, and_false, D.v.injEq, PyData.int.injEq, D.ref.injEq, p1i_int, p2_two, p3_three, decide_true, Bool.not_true, Bool.not_false, decide_eq_true_eq, decide_eq_false_iff_not, hall1, hall_row hb, Hl.isNot_none, t0, ok_Index, isT_tup, Bool.or_true]
  cases o with
  | none => exact ⟨(fun z => nomatch z), fun _ => ⟨rfl, List.take_length⟩⟩
  | some q =>
    refine ⟨fun _ => ?_, (fun z => nomatch z)⟩
    have hix : ∀ st, fmIndex (.v (tNs (row rows b))) [.v (optD (some q))] st = .ok (.v (nI ((row rows b).idxOf q))) st := fun st => index_tN (ho q rfl)
    rw [hix, ok_ok, addD_int, ok_ok]
    refine ⟨_, rfl, ?_⟩
    rw [cut_slice, ok_ok]
    exact ⟨rfl, rfl, List.take_length⟩
def paperD (rows : List (List Nat)) (b : Nat) (μ h : List (Nat × Nat)) : PyData := if partner μ b = partner h b then .tuple [.str "same", pairsD μ, pairsD h] else .tuple [.str "list", tNs (cutR (row rows b) (partner h b))]
theorem eq_optD {x y : Option Nat} : eqD (.v (optD x)) (.v (optD y)) st = .ok (.v (.bool (decide (x = y)))) st := by
  have r : ∀ o : Option Nat, SeqAt.shaped (optD o) = true := fun o => by
    cases o with
    | none => exact shaped_of (rep_none (w := 2) (k := 1))
    | some b => exact shaped_int
  have h1 : eqT st (.v (optD x)) (.v (optD y)) = some (decide (x = y)) := by
    rw [eqT_of (r x) (r y)]
    cases x <;> cases y
    · simp [optD, PyData.eqv]
    · simp [optD, PyData.eqv]
    · simp [optD, PyData.eqv]
    · rename_i a b
      show some (PyData.eqv (nI a) (nI b)) = _
      rw [eqv_nat]
      simp
  have h2 : eqS st (.v (optD x)) (.v (optD y)) = eqT st (.v (optD x)) (.v (optD y)) := by cases x <;> cases y <;> rfl
  unfold eqD
  rw [h2, h1]
theorem ne_optD {x y : Option Nat} : neD (.v (optD x)) (.v (optD y)) st = .ok (.v (.bool (!decide (x = y)))) st := by
  have h := eq_optD (st := st) (x := x) (y := y)
  unfold eqD at h
  unfold neD
  cases e : eqS st (.v (optD x)) (.v (optD y)) with
  | none => rw [e] at h; cases h
  | some k => rw [e] at h; cases h; rfl
theorem gain_paper_eq (H : Hall rows) (hl : Lot rows lot true) (hn : rows.length ≤ 50) (hb : b < rows.length) (o : Opt rows lot μ) (oh : Opt rows (oth rows.length lot) h) : f_gain_paper [.v (hallD rows), .v (tNs lot), .v (nI b)] st = .ok (.v (paperD rows b μ h)) st := by
  refine Out.Ok.is (fnT_ok ?_)
  unfold S_gain_paper
  have e0 : ∀ s, f_low_pairing [.v (hallD rows), .v (tNs lot)] s = .ok (.v (pairsD μ)) s := fun s => low_eq (two_lot H hl) hn o
  have e1 : ∀ s, f_high_pairing [.v (hallD rows), .v (tNs lot)] s = .ok (.v (pairsD h)) s := fun s => high_eq H hl hn oh
  simp only [envE, so_seq, so_if, so_ret, so_retN, so_exp, so_nil, so_nx, so_rt, so_asg, so_asgG, so_par2, so_par3, ok_gNm, ok_gMore, ok_gNone, so_asgT, so_sub, so_for, ok_TB, ok_Tru, ok_notT, ok_andT, ok_orT, ok_andV, ok_orV, ok_notV, ok_iteE, ok_frz, ok_new, ok_mfArg, ok_mfBin, ok_lc, ok_M, ok_M0, ok_moNone, ok_moSome, ok_Sl,
  ok_bin, ok_un, ok_arg, ok_cons, ok_nil, ok_call, ok_var, ok_C, ok_ok, ok_stuck, ok_noX, bOf_bool, low_v, iOf_int, addD_int, subD_int, negD_int, ltD_int, leD_int, gtD_int, geD_int, fInt_int, isD_bool, isNotD_bool, tru_bool, List.map_cons, List.map_nil, List.length_cons, List.length_nil, List.replicate_succ, List.replicate_zero, List.cons_append, List.nil_append,
  List.append_nil, List.getElem?_cons_zero, List.getElem?_cons_succ, List.set_cons_zero, List.set_cons_succ, Option.some.injEq, exists_eq_left', exists_eq_left, true_and, and_true, true_implies, false_implies, implies_true, Bool.false_eq_true, reduceCtorEq, false_and, and_false, D.v.injEq, PyData.int.injEq, D.ref.injEq, p1i_int, p2_two, p3_three, decide_true, Bool.not_true, Bool.not_false, decide_eq_true_eq, decide_eq_false_iff_not, e0, e1]
  unfold S_gain_paper_2
  have h4 : ∀ ps s, f_partner_of [.v (pairsD ps), .v (nI b)] s = .ok (.v (optD (partner ps b))) s := fun ps s => partner_eq
  have t3 : ∀ {x y z : PyData} {s}, fTup [.v x, .v y, .v z] s = .ok (.v (.tuple [x, y, z])) s := fun {_ _ _ _} => rfl
  have t2 : ∀ {x y : PyData} {s}, fTup [.v x, .v y] s = .ok (.v (.tuple [x, y])) s := fun {_ _ _} => rfl
  have e2 : ∀ s, f_cut_list [.v (hallD rows), .v (nI b), .v (optD (partner h b))] s = .ok (.v (tNs (cutR (row rows b) (partner h b)))) s := fun s => cut_list_eq hb fun q e => (want_row (partner_want oh.clm.prg e)).1
  simp only [envE, so_seq, so_if, so_ret, so_retN, so_exp, so_nil, so_nx, so_rt, so_asg, so_asgG, so_par2, so_par3, ok_gNm, ok_gMore, ok_gNone, so_asgT, so_sub, so_for, ok_TB, ok_Tru, ok_notT, ok_andT, ok_orT, ok_andV, ok_orV, ok_notV, ok_iteE, ok_frz, ok_new, ok_mfArg, ok_mfBin, ok_lc, ok_M, ok_M0, ok_moNone, ok_moSome, ok_Sl,
  ok_bin, ok_un, ok_arg, ok_cons, ok_nil, ok_call, ok_var, ok_C, ok_ok, ok_stuck, ok_noX, bOf_bool, low_v, iOf_int, addD_int, subD_int, negD_int, ltD_int, leD_int, gtD_int, geD_int, fInt_int, isD_bool, isNotD_bool, tru_bool, List.map_cons, List.map_nil, List.length_cons, List.length_nil, List.replicate_succ, List.replicate_zero, List.cons_append, List.nil_append,
  List.append_nil, List.getElem?_cons_zero, List.getElem?_cons_succ, List.set_cons_zero, List.set_cons_succ, Option.some.injEq, exists_eq_left', exists_eq_left, true_and, and_true, true_implies, false_implies, implies_true, Bool.false_eq_true, reduceCtorEq, false_and, and_false, D.v.injEq, PyData.int.injEq, D.ref.injEq, p1i_int, p2_two, p3_three, decide_true, Bool.not_true, Bool.not_false, decide_eq_true_eq, decide_eq_false_iff_not, h4, eq_optD, t3]
  unfold paperD
  refine ⟨fun h => by rw [if_pos h]; exact ⟨rfl, List.take_length⟩, fun h => ?_⟩
  rw [if_neg h]
  unfold S_gain_paper_3
  simp only [envE, so_seq, so_if, so_ret, so_retN, so_exp, so_nil, so_nx, so_rt, so_asg, so_asgG, so_par2, so_par3, ok_gNm, ok_gMore, ok_gNone, so_asgT, so_sub, so_for, ok_TB, ok_Tru, ok_notT, ok_andT, ok_orT, ok_andV, ok_orV, ok_notV, ok_iteE, ok_frz, ok_new, ok_mfArg, ok_mfBin, ok_lc, ok_M, ok_M0, ok_moNone, ok_moSome, ok_Sl,
  ok_bin, ok_un, ok_arg, ok_cons, ok_nil, ok_call, ok_var, ok_C, ok_ok, ok_stuck, ok_noX, bOf_bool, low_v, iOf_int, addD_int, subD_int, negD_int, ltD_int, leD_int, gtD_int, geD_int, fInt_int, isD_bool, isNotD_bool, tru_bool, List.map_cons, List.map_nil, List.length_cons, List.length_nil, List.replicate_succ, List.replicate_zero, List.cons_append, List.nil_append,
  List.append_nil, List.getElem?_cons_zero, List.getElem?_cons_succ, List.set_cons_zero, List.set_cons_succ, Option.some.injEq, exists_eq_left', exists_eq_left, true_and, and_true, true_implies, false_implies, implies_true, Bool.false_eq_true, reduceCtorEq, false_and, and_false, D.v.injEq, PyData.int.injEq, D.ref.injEq, p1i_int, p2_two, p3_three, decide_true, Bool.not_true, Bool.not_false, decide_eq_true_eq, decide_eq_false_iff_not, h4, e2, t2]
  (first | exact ⟨rfl, rfl, List.take_length⟩ | exact ⟨rfl, List.take_length⟩ | exact List.take_length | exact ⟨rfl, trivial, List.take_length⟩)
def cutAll (rows : List (List Nat)) (lot : List Nat) (Q : List (Nat × Nat)) : List (List Nat) := (List.range rows.length).map fun x => if x ∈ lot then row rows x else cutR (row rows x) (partner Q x)
theorem cutAll_len : (cutAll rows lot Q).length = rows.length := by unfold cutAll; rw [List.length_map, List.length_range]
theorem cutAll_row (ha : a < rows.length) : row (cutAll rows lot Q) a = if a ∈ lot then row rows a else cutR (row rows a) (partner Q a) := by
  conv => lhs; unfold row
  unfold cutAll
  rw [List.getD_eq_getElem?_getD, List.getElem?_map, List.getElem?_range ha]
  rfl
theorem cutAll_out (ha : ¬ a < rows.length) : row (cutAll rows lot Q) a = [] := row_out (by rw [cutAll_len]; exact ha)
theorem cutAll_cut : Cut rows (cutAll rows lot Q) (oth rows.length lot) Q := by
  refine ⟨cutAll_len, fun x hx => ?_, fun x hx => ?_⟩
  · obtain ⟨h1, h2⟩ := List.mem_filter.mp hx
    have h2 : ¬ x ∈ lot := fun z => by rw [decide_eq_true z] at h2; cases h2
    rw [cutAll_row (List.mem_range.mp h1), if_neg h2]
  · by_cases hn : x < rows.length
    · rw [cutAll_row hn, if_pos]
      refine Classical.byContradiction fun z => hx (List.mem_filter.mpr ⟨List.mem_range.mpr hn, by rw [decide_eq_false z]; rfl⟩)
    · rw [cutAll_out hn, row_out hn]
theorem cutAll_hall (H : Hall rows) : Hall (cutAll rows lot Q) := by
  have c := cutAll_cut (rows := rows) (lot := lot) (Q := Q)
  refine ⟨by rw [cutAll_len]; exact H.pos, fun a => ?_, fun {a b} h => ?_⟩
  · by_cases hn : a < rows.length
    · rw [cutAll_row hn]
      split
      · exact H.nd a
      · cases partner Q a with
        | none => exact List.nodup_nil
        | some q => exact (H.nd a).sublist (List.take_sublist _ _)
    · rw [cutAll_out hn]; exact List.nodup_nil
  · rw [cutAll_len]; exact H.mem (c.sub h)
theorem cutAll_lot (hl : Lot rows lot true) : Lot (cutAll rows lot Q) lot true :=
  ⟨hl.nd, fun x hx => by rw [cutAll_len]; exact hl.lt x hx, hl.so, fun _ {a b} h => hl.two rfl (cutAll_cut.sub h)⟩
theorem cut_to_eq (H : Hall rows) (hn : rows.length ≤ 50) (pQ : Prg rows Q) : f_cut_to [.v (hallD rows), .v (tNs lot), .v (pairsD Q)] st = .ok (.v (hallD (cutAll rows lot Q))) st := by
  refine Out.Ok.is (fnT_ok ?_)
  unfold S_cut_to
  simp only [envE, so_seq, so_if, so_ret, so_retN, so_exp, so_nil, so_nx, so_rt, so_asg, so_asgG, so_par2, so_par3, ok_gNm, ok_gMore, ok_gNone, so_asgT, so_sub, so_for, ok_TB, ok_Tru, ok_notT, ok_andT, ok_orT, ok_andV, ok_orV, ok_notV, ok_iteE, ok_frz, ok_new, ok_mfArg, ok_mfBin, ok_lc, ok_M, ok_M0, ok_moNone, ok_moSome, ok_Sl,
  ok_bin, ok_un, ok_arg, ok_cons, ok_nil, ok_call, ok_var, ok_C, ok_ok, ok_stuck, ok_noX, bOf_bool, low_v, iOf_int, addD_int, subD_int, negD_int, ltD_int, leD_int, gtD_int, geD_int, fInt_int, isD_bool, isNotD_bool, tru_bool, List.map_cons, List.map_nil, List.length_cons, List.length_nil, List.replicate_succ, List.replicate_zero, List.cons_append, List.nil_append,
  List.append_nil, List.getElem?_cons_zero, List.getElem?_cons_succ, List.set_cons_zero, List.set_cons_succ, Option.some.injEq, exists_eq_left', exists_eq_left, true_and, and_true, true_implies, false_implies, implies_true, Bool.false_eq_true, reduceCtorEq, false_and, and_false, D.v.injEq, PyData.int.injEq, D.ref.injEq, p1i_int, p2_two, p3_three, decide_true, Bool.not_true, Bool.not_false, decide_eq_true_eq, decide_eq_false_iff_not, disp0]
  unfold S_cut_to_2 cut_to_E1
  simp only [envE, so_seq, so_if, so_ret, so_retN, so_exp, so_nil, so_nx, so_rt, so_asg, so_asgG, so_par2, so_par3, ok_gNm, ok_gMore, ok_gNone, so_asgT, so_sub, so_for, ok_TB, ok_Tru, ok_notT, ok_andT, ok_orT, ok_andV, ok_orV, ok_notV, ok_iteE, ok_frz, ok_new, ok_mfArg, ok_mfBin, ok_lc, ok_M, ok_M0, ok_moNone, ok_moSome, ok_Sl,
  ok_bin, ok_un, ok_arg, ok_cons, ok_nil, ok_call, ok_var, ok_C, ok_ok, ok_stuck, ok_noX, bOf_bool, low_v, iOf_int, addD_int, subD_int, negD_int, ltD_int, leD_int, gtD_int, geD_int, fInt_int, isD_bool, isNotD_bool, tru_bool, List.map_cons, List.map_nil, List.length_cons, List.length_nil, List.replicate_succ, List.replicate_zero, List.cons_append, List.nil_append,
  List.append_nil, List.getElem?_cons_zero, List.getElem?_cons_succ, List.set_cons_zero, List.set_cons_succ, Option.some.injEq, exists_eq_left', exists_eq_left, true_and, and_true, true_implies, false_implies, implies_true, Bool.false_eq_true, reduceCtorEq, false_and, and_false, D.v.injEq, PyData.int.injEq, D.ref.injEq, p1i_int, p2_two, p3_three, decide_true, Bool.not_true, Bool.not_false, decide_eq_true_eq, decide_eq_false_iff_not, ok_R1, hall0]
  refine ⟨⟨by omega, by omega⟩, ?_⟩
  rw [Int.toNat_natCast]
  refine forL_inv (fun i e s => s = st ++ [.lst (((cutAll rows lot Q).take i).map tNs)] ∧ ∃ x4 x5, e = [some (.v (hallD rows)), some (.v (tNs lot)), some (.v (pairsD Q)), some (.ref st.length), x4, x5]) _ _ _ 0 ?_ ?_ ⟨rfl, _, _, rfl⟩
  · rintro i d e s hd ⟨rfl, x4, x5, rfl⟩
    obtain ⟨hi, rfl⟩ := rngI_get hd
    refine ⟨trivial, ?_⟩
    rw [Int.zero_add, Nat.zero_add]
    unfold cut_to_G1 cut_to_B1
    show (gNm 4 (.one (.v (nI i))) _ _).Ok _
    simp only [envE, so_seq, so_if, so_ret, so_retN, so_exp, so_nil, so_nx, so_rt, so_asg, so_asgG, so_par2, so_par3, ok_gNm, ok_gMore, ok_gNone, so_asgT, so_sub, so_for, ok_TB, ok_Tru, ok_notT, ok_andT, ok_orT, ok_andV, ok_orV, ok_notV, ok_iteE, ok_frz, ok_new, ok_mfArg, ok_mfBin, ok_lc, ok_M, ok_M0, ok_moNone, ok_moSome, ok_Sl,
  ok_bin, ok_un, ok_arg, ok_cons, ok_nil, ok_call, ok_var, ok_C, ok_ok, ok_stuck, ok_noX, bOf_bool, low_v, iOf_int, addD_int, subD_int, negD_int, ltD_int, leD_int, gtD_int, geD_int, fInt_int, isD_bool, isNotD_bool, tru_bool, List.map_cons, List.map_nil, List.length_cons, List.length_nil, List.replicate_succ, List.replicate_zero, List.cons_append, List.nil_append,
  List.append_nil, List.getElem?_cons_zero, List.getElem?_cons_succ, List.set_cons_zero, List.set_cons_succ, Option.some.injEq, exists_eq_left', exists_eq_left, true_and, and_true, true_implies, false_implies, implies_true, Bool.false_eq_true, reduceCtorEq, false_and, and_false, D.v.injEq, PyData.int.injEq, D.ref.injEq, p1i_int, p2_two, p3_three, decide_true, Bool.not_true, Bool.not_false, decide_eq_true_eq, decide_eq_false_iff_not, hall1, hall_row hi]
    unfold cut_to_B1_2
    have h4 : ∀ s, f_partner_of [.v (pairsD Q), .v (nI i)] s = .ok (.v (optD (partner Q i))) s := fun s => partner_eq
    have e2 : ∀ s, f_cut_list [.v (hallD rows), .v (nI i), .v (optD (partner Q i))] s = .ok (.v (tNs (cutR (row rows i) (partner Q i)))) s := fun s => cut_list_eq hi fun q e => (want_row (partner_want pQ e)).1
    have hin : ∀ s, inU (.v (nI i)) (.v (tNs lot)) s = .ok (.v (.bool (decide (i ∈ lot)))) s := fun s => in_tup
    simp only [envE, so_seq, so_if, so_ret, so_retN, so_exp, so_nil, so_nx, so_rt, so_asg, so_asgG, so_par2, so_par3, ok_gNm, ok_gMore, ok_gNone, so_asgT, so_sub, so_for, ok_TB, ok_Tru, ok_notT, ok_andT, ok_orT, ok_andV, ok_orV, ok_notV, ok_iteE, ok_frz, ok_new, ok_mfArg, ok_mfBin, ok_lc, ok_M, ok_M0, ok_moNone, ok_moSome, ok_Sl,
  ok_bin, ok_un, ok_arg, ok_cons, ok_nil, ok_call, ok_var, ok_C, ok_ok, ok_stuck, ok_noX, bOf_bool, low_v, iOf_int, addD_int, subD_int, negD_int, ltD_int, leD_int, gtD_int, geD_int, fInt_int, isD_bool, isNotD_bool, tru_bool, List.map_cons, List.map_nil, List.length_cons, List.length_nil, List.replicate_succ, List.replicate_zero, List.cons_append, List.nil_append,
  List.append_nil, List.getElem?_cons_zero, List.getElem?_cons_succ, List.set_cons_zero, List.set_cons_succ, Option.some.injEq, exists_eq_left', exists_eq_left, true_and, and_true, true_implies, false_implies, implies_true, Bool.false_eq_true, reduceCtorEq, false_and, and_false, D.v.injEq, PyData.int.injEq, D.ref.injEq, p1i_int, p2_two, p3_three, decide_true, Bool.not_true, Bool.not_false, decide_eq_true_eq, decide_eq_false_iff_not, hin, h4, e2, isL_ref last_at]
    have hil : i < (cutAll rows lot Q).length := by rw [cutAll_len]; exact hi
    have hnext : (cutAll rows lot Q).take (i + 1) = (cutAll rows lot Q).take i ++ [if i ∈ lot then row rows i else cutR (row rows i) (partner Q i)] := by
      rw [List.take_add_one, List.getElem?_eq_getElem hil]
      have := cutAll_row (lot := lot) (Q := Q) hi
      unfold row at this
      rw [List.getD_eq_getElem?_getD, List.getElem?_eq_getElem hil] at this
      show _ ++ [(cutAll rows lot Q)[i]] = _
      rw [show (cutAll rows lot Q)[i] = _ from this]
      rfl
    have happ : ∀ x : List Nat, fmAppend (.ref st.length) [.v (tNs x)] (st ++ [.lst (((cutAll rows lot Q).take i).map tNs)]) = .ok (.v .none) (st ++ [.lst (((cutAll rows lot Q).take i ++ [x]).map tNs)]) := fun x => by
      rw [Fw.append_at last_at (by rw [List.length_map, List.length_take]; omega), last_set, List.map_append]
      rfl
    refine ⟨fun h => ?_, fun h => ?_⟩
    · rw [happ, ok_ok, hnext, if_pos h]
      exact ⟨rfl, _, _, rfl⟩
    · rw [happ, ok_ok, hnext, if_neg h]
      exact ⟨rfl, _, _, rfl⟩
  · rintro e s ⟨rfl, x4, x5, rfl⟩
    refine ⟨trivial, ?_⟩
    unfold S_cut_to_3
    rw [show (rngI 0 rows.length).length = rows.length by unfold rngI; rw [List.length_map, List.length_range], Nat.zero_add, List.take_of_length_le (by rw [cutAll_len]; exact Nat.le_refl _)]
    have t2 : ∀ {x y : PyData} {s}, fTup [.v x, .v y] s = .ok (.v (.tuple [x, y])) s := fun {_ _ _} => rfl
    simp only [envE, so_seq, so_if, so_ret, so_retN, so_exp, so_nil, so_nx, so_rt, so_asg, so_asgG, so_par2, so_par3, ok_gNm, ok_gMore, ok_gNone, so_asgT, so_sub, so_for, ok_TB, ok_Tru, ok_notT, ok_andT, ok_orT, ok_andV, ok_orV, ok_notV, ok_iteE, ok_frz, ok_new, ok_mfArg, ok_mfBin, ok_lc, ok_M, ok_M0, ok_moNone, ok_moSome, ok_Sl,
  ok_bin, ok_un, ok_arg, ok_cons, ok_nil, ok_call, ok_var, ok_C, ok_ok, ok_stuck, ok_noX, bOf_bool, low_v, iOf_int, addD_int, subD_int, negD_int, ltD_int, leD_int, gtD_int, geD_int, fInt_int, isD_bool, isNotD_bool, tru_bool, List.map_cons, List.map_nil, List.length_cons, List.length_nil, List.replicate_succ, List.replicate_zero, List.cons_append, List.nil_append,
  List.append_nil, List.getElem?_cons_zero, List.getElem?_cons_succ, List.set_cons_zero, List.set_cons_succ, Option.some.injEq, exists_eq_left', exists_eq_left, true_and, and_true, true_implies, false_implies, implies_true, Bool.false_eq_true, reduceCtorEq, false_and, and_false, D.v.injEq, PyData.int.injEq, D.ref.injEq, p1i_int, p2_two, p3_three, decide_true, Bool.not_true, Bool.not_false, decide_eq_true_eq, decide_eq_false_iff_not, hall0, tup_of last_at, t2]
    refine ⟨?_, List.take_left⟩
    show PyData.tuple [nI rows.length, _] = .tuple [nI (cutAll rows lot Q).length, _]
    rw [cutAll_len]
theorem law_cut_eq (H : Hall rows) (hn : rows.length ≤ 50) (pQ : Prg rows Q) : f_law_cut [.v (hallD rows), .v (tNs lot), .v (pairsD Q)] st = .ok (.v (hallD (cutAll rows lot Q))) st := by
  refine Out.Ok.is (fnT_ok ?_)
  unfold S_law_cut
  simp only [envE, so_seq, so_if, so_ret, so_retN, so_exp, so_nil, so_nx, so_rt, so_asg, so_asgG, so_par2, so_par3, ok_gNm, ok_gMore, ok_gNone, so_asgT, so_sub, so_for, ok_TB, ok_Tru, ok_notT, ok_andT, ok_orT, ok_andV, ok_orV, ok_notV, ok_iteE, ok_frz, ok_new, ok_mfArg, ok_mfBin, ok_lc, ok_M, ok_M0, ok_moNone, ok_moSome, ok_Sl,
  ok_bin, ok_un, ok_arg, ok_cons, ok_nil, ok_call, ok_var, ok_C, ok_ok, ok_stuck, ok_noX, bOf_bool, low_v, iOf_int, addD_int, subD_int, negD_int, ltD_int, leD_int, gtD_int, geD_int, fInt_int, isD_bool, isNotD_bool, tru_bool, List.map_cons, List.map_nil, List.length_cons, List.length_nil, List.replicate_succ, List.replicate_zero, List.cons_append, List.nil_append,
  List.append_nil, List.getElem?_cons_zero, List.getElem?_cons_succ, List.set_cons_zero, List.set_cons_succ, Option.some.injEq, exists_eq_left', exists_eq_left, true_and, and_true, true_implies, false_implies, implies_true, Bool.false_eq_true, reduceCtorEq, false_and, and_false, D.v.injEq, PyData.int.injEq, D.ref.injEq, p1i_int, p2_two, p3_three, decide_true, Bool.not_true, Bool.not_false, decide_eq_true_eq, decide_eq_false_iff_not, disp0]
  unfold S_law_cut_2 law_cut_E1
  simp only [envE, so_seq, so_if, so_ret, so_retN, so_exp, so_nil, so_nx, so_rt, so_asg, so_asgG, so_par2, so_par3, ok_gNm, ok_gMore, ok_gNone, so_asgT, so_sub, so_for, ok_TB, ok_Tru, ok_notT, ok_andT, ok_orT, ok_andV, ok_orV, ok_notV, ok_iteE, ok_frz, ok_new, ok_mfArg, ok_mfBin, ok_lc, ok_M, ok_M0, ok_moNone, ok_moSome, ok_Sl,
  ok_bin, ok_un, ok_arg, ok_cons, ok_nil, ok_call, ok_var, ok_C, ok_ok, ok_stuck, ok_noX, bOf_bool, low_v, iOf_int, addD_int, subD_int, negD_int, ltD_int, leD_int, gtD_int, geD_int, fInt_int, isD_bool, isNotD_bool, tru_bool, List.map_cons, List.map_nil, List.length_cons, List.length_nil, List.replicate_succ, List.replicate_zero, List.cons_append, List.nil_append,
  List.append_nil, List.getElem?_cons_zero, List.getElem?_cons_succ, List.set_cons_zero, List.set_cons_succ, Option.some.injEq, exists_eq_left', exists_eq_left, true_and, and_true, true_implies, false_implies, implies_true, Bool.false_eq_true, reduceCtorEq, false_and, and_false, D.v.injEq, PyData.int.injEq, D.ref.injEq, p1i_int, p2_two, p3_three, decide_true, Bool.not_true, Bool.not_false, decide_eq_true_eq, decide_eq_false_iff_not, ok_enum, hall1, enum_tup, Aq.enum_rows]
  refine forL_inv (fun i e s => s = st ++ [.lst (((cutAll rows lot Q).take i).map tNs)] ∧ ∃ x4 x5 x6, e = [some (.v (hallD rows)), some (.v (tNs lot)), some (.v (pairsD Q)), some (.ref st.length), x4, x5, x6]) _ _ _ 0 ?_ ?_ ⟨rfl, _, _, _, rfl⟩
  · rintro i d e s hd ⟨rfl, x4, x5, x6, rfl⟩
    rw [List.getElem?_map] at hd
    obtain ⟨j, hj, rfl⟩ := Option.map_eq_some_iff.mp hd
    obtain ⟨hi, hj⟩ := List.getElem?_eq_some_iff.mp hj
    rw [List.getElem_range] at hj
    subst hj
    rw [List.length_range] at hi
    refine ⟨trivial, ?_⟩
    rw [Nat.zero_add]
    unfold law_cut_G1 law_cut_B1
    rw [ok_gTp2]
    have h4 : ∀ s, f_law_partner [.v (pairsD Q), .v (nI i)] s = .ok (.v (optD (partner Q i))) s := fun s => lpart_eq
    have hin : ∀ s, inU (.v (nI i)) (.v (tNs lot)) s = .ok (.v (.bool (decide (i ∈ lot)))) s := fun s => in_tup
    have hin2 : ∀ s, inU (.v (optD (partner Q i))) (.v (tNs (row rows i))) s = .ok (.v (.bool (inO (row rows i) (partner Q i)))) s := fun s => in_optT
    simp only [envE, so_seq, so_if, so_ret, so_retN, so_exp, so_nil, so_nx, so_rt, so_asg, so_asgG, so_par2, so_par3, ok_gNm, ok_gMore, ok_gNone, so_asgT, so_sub, so_for, ok_TB, ok_Tru, ok_notT, ok_andT, ok_orT, ok_andV, ok_orV, ok_notV, ok_iteE, ok_frz, ok_new, ok_mfArg, ok_mfBin, ok_lc, ok_M, ok_M0, ok_moNone, ok_moSome, ok_Sl,
  ok_bin, ok_un, ok_arg, ok_cons, ok_nil, ok_call, ok_var, ok_C, ok_ok, ok_stuck, ok_noX, bOf_bool, low_v, iOf_int, addD_int, subD_int, negD_int, ltD_int, leD_int, gtD_int, geD_int, fInt_int, isD_bool, isNotD_bool, tru_bool, List.map_cons, List.map_nil, List.length_cons, List.length_nil, List.replicate_succ, List.replicate_zero, List.cons_append, List.nil_append,
  List.append_nil, List.getElem?_cons_zero, List.getElem?_cons_succ, List.set_cons_zero, List.set_cons_succ, Option.some.injEq, exists_eq_left', exists_eq_left, true_and, and_true, true_implies, false_implies, implies_true, Bool.false_eq_true, reduceCtorEq, false_and, and_false, D.v.injEq, PyData.int.injEq, D.ref.injEq, p1i_int, p2_two, p3_three, decide_true, Bool.not_true, Bool.not_false, decide_eq_true_eq, decide_eq_false_iff_not, h4, hin2, ok_Index, isT_tup, Bool.or_true]
    have hil : i < (cutAll rows lot Q).length := by rw [cutAll_len]; exact hi
    have hnext : (cutAll rows lot Q).take (i + 1) = (cutAll rows lot Q).take i ++ [if i ∈ lot then row rows i else cutR (row rows i) (partner Q i)] := by
      rw [List.take_add_one, List.getElem?_eq_getElem hil]
      have := cutAll_row (lot := lot) (Q := Q) hi
      unfold row at this
      rw [List.getD_eq_getElem?_getD, List.getElem?_eq_getElem hil] at this
      show _ ++ [(cutAll rows lot Q)[i]] = _
      rw [show (cutAll rows lot Q)[i] = _ from this]
      rfl
    have happ : ∀ x : List Nat, fmAppend (.ref st.length) [.v (tNs x)] (st ++ [.lst (((cutAll rows lot Q).take i).map tNs)]) = .ok (.v .none) (st ++ [.lst (((cutAll rows lot Q).take i ++ [x]).map tNs)]) := fun x => by
      rw [Fw.append_at last_at (by rw [List.length_map, List.length_take]; omega), last_set, List.map_append]
      rfl
    have hend : ∀ k : Nat, (row rows i).take k = cutR (row rows i) (partner Q i) → (law_cut_B1_2 [some (.v (hallD rows)), some (.v (tNs lot)), some (.v (pairsD Q)), some (.ref st.length), some (.v (nI i)), some (.v (tNs (row rows i))), some (.v (.int (k : Int)))] (st ++ [.lst (((cutAll rows lot Q).take i).map tNs)])).Ok (fun e s => s = st ++ [.lst (((cutAll rows lot Q).take (i + 1)).map tNs)] ∧ ∃ x4 x5 x6, e = [some (.v (hallD rows)), some (.v (tNs lot)), some (.v (pairsD Q)), some (.ref st.length), x4, x5, x6]) (fun d s => D.low st.length d = true ∧ d = .v (hallD (cutAll rows lot Q)) ∧ s.take st.length = st) := by
      intro k hk
      have hsl : ∀ s, slD (.v (tNs (row rows i))) none (some (k : Int)) s = .ok (.v (tNs ((row rows i).take k))) s := fun s => by
        show slD (.v (.tuple ((row rows i).map nI))) none _ s = _
        rw [slice_tup, cut_take, ← List.map_take]
      unfold law_cut_B1_2
      simp only [envE, so_seq, so_if, so_ret, so_retN, so_exp, so_nil, so_nx, so_rt, so_asg, so_asgG, so_par2, so_par3, ok_gNm, ok_gMore, ok_gNone, so_asgT, so_sub, so_for, ok_TB, ok_Tru, ok_notT, ok_andT, ok_orT, ok_andV, ok_orV, ok_notV, ok_iteE, ok_frz, ok_new, ok_mfArg, ok_mfBin, ok_lc, ok_M, ok_M0, ok_moNone, ok_moSome, ok_Sl,
  ok_bin, ok_un, ok_arg, ok_cons, ok_nil, ok_call, ok_var, ok_C, ok_ok, ok_stuck, ok_noX, bOf_bool, low_v, iOf_int, addD_int, subD_int, negD_int, ltD_int, leD_int, gtD_int, geD_int, fInt_int, isD_bool, isNotD_bool, tru_bool, List.map_cons, List.map_nil, List.length_cons, List.length_nil, List.replicate_succ, List.replicate_zero, List.cons_append, List.nil_append,
  List.append_nil, List.getElem?_cons_zero, List.getElem?_cons_succ, List.set_cons_zero, List.set_cons_succ, Option.some.injEq, exists_eq_left', exists_eq_left, true_and, and_true, true_implies, false_implies, implies_true, Bool.false_eq_true, reduceCtorEq, false_and, and_false, D.v.injEq, PyData.int.injEq, D.ref.injEq, p1i_int, p2_two, p3_three, decide_true, Bool.not_true, Bool.not_false, decide_eq_true_eq, decide_eq_false_iff_not, hin, hsl, isL_ref last_at]
      refine ⟨fun h => ?_, fun h => ?_⟩
      · rw [happ, ok_ok, hnext, if_pos h]
        exact ⟨rfl, _, _, _, rfl⟩
      · rw [hk, happ, ok_ok, hnext, if_neg h]
        exact ⟨rfl, _, _, _, rfl⟩
    cases e : partner Q i with
    | none =>
      refine ⟨fun z => (nomatch z), fun _ => hend 0 ?_⟩
      rw [e, List.take_zero]
      rfl
    | some q =>
      have hq := (want_row (partner_want pQ e)).1
      have hix : ∀ st, fmIndex (.v (tNs (row rows i))) [.v (optD (some q))] st = .ok (.v (nI ((row rows i).idxOf q))) st := fun st => index_tN hq
      refine ⟨fun _ => ?_, fun z => ?_⟩
      · rw [hix, ok_ok, addD_int, ok_ok]
        exact hend ((row rows i).idxOf q + 1) (by rw [e]; rfl)
      · have : inO (row rows i) (some q) = true := decide_eq_true hq
        rw [this] at z
        cases z
  · rintro e s ⟨rfl, x4, x5, x6, rfl⟩
    refine ⟨trivial, ?_⟩
    unfold S_law_cut_3
    rw [List.length_map, List.length_range, Nat.zero_add, List.take_of_length_le (by rw [cutAll_len]; exact Nat.le_refl _)]
    have t2 : ∀ {x y : PyData} {s}, fTup [.v x, .v y] s = .ok (.v (.tuple [x, y])) s := fun {_ _ _} => rfl
    simp only [envE, so_seq, so_if, so_ret, so_retN, so_exp, so_nil, so_nx, so_rt, so_asg, so_asgG, so_par2, so_par3, ok_gNm, ok_gMore, ok_gNone, so_asgT, so_sub, so_for, ok_TB, ok_Tru, ok_notT, ok_andT, ok_orT, ok_andV, ok_orV, ok_notV, ok_iteE, ok_frz, ok_new, ok_mfArg, ok_mfBin, ok_lc, ok_M, ok_M0, ok_moNone, ok_moSome, ok_Sl,
  ok_bin, ok_un, ok_arg, ok_cons, ok_nil, ok_call, ok_var, ok_C, ok_ok, ok_stuck, ok_noX, bOf_bool, low_v, iOf_int, addD_int, subD_int, negD_int, ltD_int, leD_int, gtD_int, geD_int, fInt_int, isD_bool, isNotD_bool, tru_bool, List.map_cons, List.map_nil, List.length_cons, List.length_nil, List.replicate_succ, List.replicate_zero, List.cons_append, List.nil_append,
  List.append_nil, List.getElem?_cons_zero, List.getElem?_cons_succ, List.set_cons_zero, List.set_cons_succ, Option.some.injEq, exists_eq_left', exists_eq_left, true_and, and_true, true_implies, false_implies, implies_true, Bool.false_eq_true, reduceCtorEq, false_and, and_false, D.v.injEq, PyData.int.injEq, D.ref.injEq, p1i_int, p2_two, p3_three, decide_true, Bool.not_true, Bool.not_false, decide_eq_true_eq, decide_eq_false_iff_not, hall0, tup_of last_at, t2]
    refine ⟨?_, List.take_left⟩
    show PyData.tuple [nI rows.length, _] = .tuple [nI (cutAll rows lot Q).length, _]
    rw [cutAll_len]
end
end Wk47
namespace Wk47
open PySem PySem.Spec PyProof.Rows L2 Fw Fw.Hl Fw.Da Fw.Aq Fw.Tl
section
variable {rows : List (List Nat)} {S lot l : List Nat} {sd : Nat → Bool} {st : Sto} {a b m w n k : Nat} {μ ν ps Q h : List (Nat × Nat)} {p q : Nat × Nat} {o : Option Nat}
theorem told_lot (hl : Lot rows lot true) (hb : ¬ b ∈ lot) (r : RowOf lot l) : Told rows lot b l := ⟨r.1, fun x hx => ⟨hl.lt x (r.2 x hx), ⟨fun _ => hb, fun _ => r.2 x hx⟩⟩⟩
theorem rep_paper (hp : Prs n μ) (hq : Prs n h) (hn : n ≤ 50) (hc : ∀ x ∈ cutR (row rows b) (partner h b), x < 10 ^ 12) (hcl : (cutR (row rows b) (partner h b)).length ≤ 150) : Rep (paperD rows b μ h) (3 * (150 + 1)) 3 := by
  have hs : ∀ s : Str, (PyData.str s).leavesShort 13 = true → (PyData.str s).canLay0 = true → (PyData.str s).bulk ≤ 150 → Rep (.str s) 150 2 := fun s h h2 h3 => ⟨rfl, rfl, h, h2, h3, by simp [PyData.depth]⟩
  unfold paperD
  split
  · refine rep_tup (w := 150) (k := 2) (w' := 3) (fun x hx => ?_) (by simp)
    simp only [List.mem_cons, List.not_mem_nil, or_false] at hx
    rcases hx with rfl | rfl | rfl
    · exact hs _ (by decide +kernel) (by decide +kernel) (by decide +kernel)
    · exact rep_prs hp hn
    · exact rep_prs hq hn
  · refine rep_tup (w := 150) (k := 2) (w' := 3) (fun x hx => ?_) (by simp)
    simp only [List.mem_cons, List.not_mem_nil, or_false] at hx
    rcases hx with rfl | rfl
    · exact hs _ (by decide +kernel) (by decide +kernel) (by decide +kernel)
    · have := rep_tNs (w := 150) hc hcl
      exact ⟨this.sh, this.nd, this.ls, this.can, this.bulk, Nat.le_trans this.dep (by decide)⟩
theorem one_ok {s : Src} {rest : Sto} {hs : Str} {x0 x2 x10 x11 x12 x13 x14 x15 x16 x17 x18 : Option D} (H : Hall rows) (hl : Lot rows lot true) (hn : rows.length ≤ 50) (ok : s.ok) (o : Opt rows lot μ) (oh : Opt rows (oth rows.length lot) h) (hbn : b < rows.length) (hb : ¬ b ∈ lot) :
    (law_B2 [x0, some (.ref 1), x2, some (.v (hallD rows)), some (.v (tNs lot)), some (.v (.str hs)), some (.v (tNs (oth rows.length lot))), some (.v (pairsD μ)), some (.v (pairsD h)), some (.v (nI b)), x10, x11, x12, x13, x14, x15, x16, x17, x18] (s.sto rest)).Ok
      (fun e2 s2 => ∃ (s : Src), s2 = s.sto rest ∧ s.ok ∧ ∃ x10 x11 x13 x14 x15, e2 = [x0, some (.ref 1), x2, some (.v (hallD rows)), some (.v (tNs lot)), some (.v (.str hs)), some (.v (tNs (oth rows.length lot))), some (.v (pairsD μ)), some (.v (pairsD h)), some (.v (nI b)), x10, x11, x12, x13, x14, x15, x16, x17, x18])
      (fun d st => D.low 0 d = true ∧ d = .v (.bool true)) := by
  have TL := two_lot H hl
  have rest2 : ∀ (rs : List (List Nat)) (x11 : Option D), rs.length ≤ 54 → (∀ l ∈ rs, Told rows lot b l) →
      (law_B2_4 [x0, some (.ref 1), x2, some (.v (hallD rows)), some (.v (tNs lot)), some (.v (.str hs)), some (.v (tNs (oth rows.length lot))), some (.v (pairsD μ)), some (.v (pairsD h)), some (.v (nI b)), some (.v (optD (partner h b))), some (.v (.list (rs.map tNs))), x12, x13, x14, x15, x16, x17, x18] (s.sto rest)).Ok
      (fun e2 s2 => ∃ (s : Src), s2 = s.sto rest ∧ s.ok ∧ ∃ x10 x11 x13 x14 x15, e2 = [x0, some (.ref 1), x2, some (.v (hallD rows)), some (.v (tNs lot)), some (.v (.str hs)), some (.v (tNs (oth rows.length lot))), some (.v (pairsD μ)), some (.v (pairsD h)), some (.v (nI b)), x10, x11, x12, x13, x14, x15, x16, x17, x18])
      (fun d st => D.low 0 d = true ∧ d = .v (.bool true)) := by
    intro rs x11 hrl hrs
    unfold law_B2_4 law_E1 law_T1
    simp only [envE, so_seq, so_if, so_ret, so_retN, so_exp, so_nil, so_nx, so_rt, so_asg, so_asgG, so_par2, so_par3, ok_gNm, ok_gMore, ok_gNone, so_asgT, so_sub, so_for, ok_TB, ok_Tru, ok_notT, ok_andT, ok_orT, ok_andV, ok_orV, ok_notV, ok_iteE, ok_frz, ok_new, ok_mfArg, ok_mfBin, ok_lc, ok_M, ok_M0, ok_moNone, ok_moSome, ok_Sl,
  ok_bin, ok_un, ok_arg, ok_cons, ok_nil, ok_call, ok_var, ok_C, ok_ok, ok_stuck, ok_noX, bOf_bool, low_v, iOf_int, addD_int, subD_int, negD_int, ltD_int, leD_int, gtD_int, geD_int, fInt_int, isD_bool, isNotD_bool, tru_bool, List.map_cons, List.map_nil, List.length_cons, List.length_nil, List.replicate_succ, List.replicate_zero, List.cons_append, List.nil_append,
  List.append_nil, List.getElem?_cons_zero, List.getElem?_cons_succ, List.set_cons_zero, List.set_cons_succ, Option.some.injEq, exists_eq_left', exists_eq_left, true_and, and_true, true_implies, false_implies, implies_true, Bool.false_eq_true, reduceCtorEq, false_and, and_false, D.v.injEq, PyData.int.injEq, D.ref.injEq, p1i_int, p2_two, p3_three, decide_true, Bool.not_true, Bool.not_false, decide_eq_true_eq, decide_eq_false_iff_not, ok_R1]
    refine ⟨⟨by decide, by decide⟩, ?_⟩
    refine (lcL_draw (fun _ z => ∃ l, z = tNs l ∧ Told rows lot b l) _ s ok ?_).mono ?_
    · intro d hd s ok
      obtain ⟨i', hi'⟩ := List.getElem?_of_mem hd
      obtain ⟨_, rfl⟩ := rngI_get hi'
      unfold law_G1 law_M1
      simp only [envE, so_seq, so_if, so_ret, so_retN, so_exp, so_nil, so_nx, so_rt, so_asg, so_asgG, so_par2, so_par3, ok_gNm, ok_gMore, ok_gNone, so_asgT, so_sub, so_for, ok_TB, ok_Tru, ok_notT, ok_andT, ok_orT, ok_andV, ok_orV, ok_notV, ok_iteE, ok_frz, ok_new, ok_mfArg, ok_mfBin, ok_lc, ok_M, ok_M0, ok_moNone, ok_moSome, ok_Sl,
  ok_bin, ok_un, ok_arg, ok_cons, ok_nil, ok_call, ok_var, ok_C, ok_ok, ok_stuck, ok_noX, bOf_bool, low_v, iOf_int, addD_int, subD_int, negD_int, ltD_int, leD_int, gtD_int, geD_int, fInt_int, isD_bool, isNotD_bool, tru_bool, List.map_cons, List.map_nil, List.length_cons, List.length_nil, List.replicate_succ, List.replicate_zero, List.cons_append, List.nil_append,
  List.append_nil, List.getElem?_cons_zero, List.getElem?_cons_succ, List.set_cons_zero, List.set_cons_succ, Option.some.injEq, exists_eq_left', exists_eq_left, true_and, and_true, true_implies, false_implies, implies_true, Bool.false_eq_true, reduceCtorEq, false_and, and_false, D.v.injEq, PyData.int.injEq, D.ref.injEq, p1i_int, p2_two, p3_three, decide_true, Bool.not_true, Bool.not_false, decide_eq_true_eq, decide_eq_false_iff_not, wipeE]
      refine (drawn_row_ok (rest := rest) (lot := lot) (a := b) hn ok).mono ?_
      rintro _ _ ⟨l, s4, rfl, rfl, ok4, t⟩
      exact ⟨_, s4, rfl, rfl, ok4, l, rfl, t⟩
    rintro zs _ ⟨s4, rfl, ok4, hz⟩
    have hz2 : zs.length = 4 := by
      have := hz.length
      rw [show (rngI 0 (Int.toNat 4)).length = 4 from rfl] at this
      omega
    obtain ⟨ls, rfl, hls⟩ : ∃ ls : List (List Nat), zs = ls.map tNs ∧ ∀ l ∈ ls, Told rows lot b l := by
      have hm : ∀ z ∈ zs, ∃ l, z = tNs l ∧ Told rows lot b l := fun z hzz => by
        obtain ⟨_, _, h⟩ := paired_mem hz hzz
        exact h
      clear hz hz2
      induction zs with
      | nil => exact ⟨[], rfl, fun l z => nomatch z⟩
      | cons z r ih =>
        obtain ⟨l, rfl, t⟩ := hm _ List.mem_cons_self
        obtain ⟨ls, rfl, h⟩ := ih fun z hz => hm z (List.mem_cons_of_mem _ hz)
        refine ⟨l :: ls, rfl, fun x hx => ?_⟩
        rcases List.mem_cons.mp hx with rfl | q
        · exact t
        · exact h x q
    rw [List.length_map] at hz2
    have hcat : ∀ s, gCat (.v (.list (rs.map tNs))) (.v (.list (ls.map tNs))) s = .ok ((rs ++ ls).map tNs) s := fun s => by
      rw [cat_list (by rw [List.length_map, List.length_map]; omega), List.map_append]
    have hall : ∀ l ∈ rs ++ ls, Told rows lot b l := fun l hl => by
      rcases List.mem_append.mp hl with z | z
      · exact hrs l z
      · exact hls l z
    generalize rs ++ ls = all at hcat hall
    simp only [envE, so_seq, so_if, so_ret, so_retN, so_exp, so_nil, so_nx, so_rt, so_asg, so_asgG, so_par2, so_par3, ok_gNm, ok_gMore, ok_gNone, so_asgT, so_sub, so_for, ok_TB, ok_Tru, ok_notT, ok_andT, ok_orT, ok_andV, ok_orV, ok_notV, ok_iteE, ok_frz, ok_new, ok_mfArg, ok_mfBin, ok_lc, ok_M, ok_M0, ok_moNone, ok_moSome, ok_Sl,
  ok_bin, ok_un, ok_arg, ok_cons, ok_nil, ok_call, ok_var, ok_C, ok_ok, ok_stuck, ok_noX, bOf_bool, low_v, iOf_int, addD_int, subD_int, negD_int, ltD_int, leD_int, gtD_int, geD_int, fInt_int, isD_bool, isNotD_bool, tru_bool, List.map_cons, List.map_nil, List.length_cons, List.length_nil, List.replicate_succ, List.replicate_zero, List.cons_append, List.nil_append,
  List.append_nil, List.getElem?_cons_zero, List.getElem?_cons_succ, List.set_cons_zero, List.set_cons_succ, Option.some.injEq, exists_eq_left', exists_eq_left, true_and, and_true, true_implies, false_implies, implies_true, Bool.false_eq_true, reduceCtorEq, false_and, and_false, D.v.injEq, PyData.int.injEq, D.ref.injEq, p1i_int, p2_two, p3_three, decide_true, Bool.not_true, Bool.not_false, decide_eq_true_eq, decide_eq_false_iff_not, hcat]
    unfold law_B2_5 law_E2
    simp only [envE, so_seq, so_if, so_ret, so_retN, so_exp, so_nil, so_nx, so_rt, so_asg, so_asgG, so_par2, so_par3, ok_gNm, ok_gMore, ok_gNone, so_asgT, so_sub, so_for, ok_TB, ok_Tru, ok_notT, ok_andT, ok_orT, ok_andV, ok_orV, ok_notV, ok_iteE, ok_frz, ok_new, ok_mfArg, ok_mfBin, ok_lc, ok_M, ok_M0, ok_moNone, ok_moSome, ok_Sl,
  ok_bin, ok_un, ok_arg, ok_cons, ok_nil, ok_call, ok_var, ok_C, ok_ok, ok_stuck, ok_noX, bOf_bool, low_v, iOf_int, addD_int, subD_int, negD_int, ltD_int, leD_int, gtD_int, geD_int, fInt_int, isD_bool, isNotD_bool, tru_bool, List.map_cons, List.map_nil, List.length_cons, List.length_nil, List.replicate_succ, List.replicate_zero, List.cons_append, List.nil_append,
  List.append_nil, List.getElem?_cons_zero, List.getElem?_cons_succ, List.set_cons_zero, List.set_cons_succ, Option.some.injEq, exists_eq_left', exists_eq_left, true_and, and_true, true_implies, false_implies, implies_true, Bool.false_eq_true, reduceCtorEq, false_and, and_false, D.v.injEq, PyData.int.injEq, D.ref.injEq, p1i_int, p2_two, p3_three, decide_true, Bool.not_true, Bool.not_false, decide_eq_true_eq, decide_eq_false_iff_not, ok_seq, seqW_list, List.map_map]
    refine forL_inv (fun _ e st => st = s4.sto rest ∧ ∃ x13, e = [x0, some (.ref 1), x2, some (.v (hallD rows)), some (.v (tNs lot)), some (.v (.str hs)), some (.v (tNs (oth rows.length lot))), some (.v (pairsD μ)), some (.v (pairsD h)), some (.v (nI b)), some (.v (optD (partner h b))), some (.v (.list (all.map tNs))), x12, x13, x14, x15, x16, x17, x18]) _ _ _ 0 ?_ ?_ ⟨rfl, _, rfl⟩
    · rintro j d e st hd ⟨rfl, x13, rfl⟩
      rw [List.getElem?_map] at hd
      obtain ⟨l, hlj, rfl⟩ := Option.map_eq_some_iff.mp hd
      have t := hall l (List.mem_of_getElem? hlj)
      refine ⟨trivial, ?_⟩
      unfold law_G2 law_B3
      show (gNm 13 (.one (.v (tNs l))) _ _).Ok _
      obtain ⟨ξ, oξ⟩ := opt_ex (two_lot (told_hall_ok H hbn t) (told_lot_ok hl hbn t)) (by rw [List.length_set]; exact hn)
      have f1 : ∀ s, f_law_come [.v (hallD rows), .v (tNs lot), .v (nI b), .v (tNs l)] s = .ok (.v (optD (partner ξ b))) s := fun s => come_eq H hl hn hbn t oξ
      have f2 : ∀ s, f_law_rather [.v (hallD rows), .v (nI b), .v (optD (partner ξ b)), .v (optD (partner h b))] s = .ok (.v (.bool false)) s := fun s => by
        rw [show f_law_rather _ s = _ from lrat_eq H hn hbn, decide_eq_false (no_better H hl hn hbn hb t oξ oh)]
      simp only [envE, so_seq, so_if, so_ret, so_retN, so_exp, so_nil, so_nx, so_rt, so_asg, so_asgG, so_par2, so_par3, ok_gNm, ok_gMore, ok_gNone, so_asgT, so_sub, so_for, ok_TB, ok_Tru, ok_notT, ok_andT, ok_orT, ok_andV, ok_orV, ok_notV, ok_iteE, ok_frz, ok_new, ok_mfArg, ok_mfBin, ok_lc, ok_M, ok_M0, ok_moNone, ok_moSome, ok_Sl,
  ok_bin, ok_un, ok_arg, ok_cons, ok_nil, ok_call, ok_var, ok_C, ok_ok, ok_stuck, ok_noX, bOf_bool, low_v, iOf_int, addD_int, subD_int, negD_int, ltD_int, leD_int, gtD_int, geD_int, fInt_int, isD_bool, isNotD_bool, tru_bool, List.map_cons, List.map_nil, List.length_cons, List.length_nil, List.replicate_succ, List.replicate_zero, List.cons_append, List.nil_append,
  List.append_nil, List.getElem?_cons_zero, List.getElem?_cons_succ, List.set_cons_zero, List.set_cons_succ, Option.some.injEq, exists_eq_left', exists_eq_left, true_and, and_true, true_implies, false_implies, implies_true, Bool.false_eq_true, reduceCtorEq, false_and, and_false, D.v.injEq, PyData.int.injEq, D.ref.injEq, p1i_int, p2_two, p3_three, decide_true, Bool.not_true, Bool.not_false, decide_eq_true_eq, decide_eq_false_iff_not, f1, f2]
      exact ⟨_, rfl⟩
    · rintro e st ⟨rfl, x13, rfl⟩
      refine ⟨trivial, ?_⟩
      unfold law_B2_6
      have ho : ∀ q, partner h b = some q → q ∈ row rows b := fun q e => (want_row (partner_want oh.clm.prg e)).1
      have t0 : ∀ s, fTup [] s = .ok (.v (.tuple [])) s := fun s => rfl
      have tc : Told rows lot b (cutR (row rows b) (partner h b)) := cutR_told H hl
      obtain ⟨ξ, oξ⟩ := opt_ex (two_lot (told_hall_ok H hbn tc) (told_lot_ok hl hbn tc)) (by rw [List.length_set]; exact hn)
      have hget := cut_gets H hl hn hbn hb oh oξ
      have rest3 : (law_B2_7 [x0, some (.ref 1), x2, some (.v (hallD rows)), some (.v (tNs lot)), some (.v (.str hs)), some (.v (tNs (oth rows.length lot))), some (.v (pairsD μ)), some (.v (pairsD h)), some (.v (nI b)), some (.v (optD (partner h b))), some (.v (.list (all.map tNs))), x12, x13, some (.v (tNs (cutR (row rows b) (partner h b)))), x15, x16, x17, x18] (s4.sto rest)).Ok
          (fun e2 s2 => ∃ (s : Src), s2 = s.sto rest ∧ s.ok ∧ ∃ x10 x11 x13 x14 x15, e2 = [x0, some (.ref 1), x2, some (.v (hallD rows)), some (.v (tNs lot)), some (.v (.str hs)), some (.v (tNs (oth rows.length lot))), some (.v (pairsD μ)), some (.v (pairsD h)), some (.v (nI b)), x10, x11, x12, x13, x14, x15, x16, x17, x18])
          (fun d st => D.low 0 d = true ∧ d = .v (.bool true)) := by
        have g1 : ∀ s, f_cut_list [.v (hallD rows), .v (nI b), .v (optD (partner h b))] s = .ok (.v (tNs (cutR (row rows b) (partner h b)))) s := fun s => cut_list_eq hbn ho
        have g2 : ∀ s, f_law_come [.v (hallD rows), .v (tNs lot), .v (nI b), .v (tNs (cutR (row rows b) (partner h b)))] s = .ok (.v (optD (partner h b))) s := fun s => by
          rw [show f_law_come _ s = _ from come_eq H hl hn hbn tc oξ, hget]
        have hcl : (cutR (row rows b) (partner h b)).length ≤ 50 := by
          have h1 : (cutR (row rows b) (partner h b)).length ≤ (row rows b).length := by
            cases partner h b with
            | none => exact Nat.zero_le _
            | some q => exact (List.take_sublist _ _).length_le
          have := row_len (a := b) H
          omega
        have hcm : ∀ x ∈ cutR (row rows b) (partner h b), x < 10 ^ 12 := fun x hx => by
          have := (H.mem (mem_cutR hx).1).1
          exact Nat.lt_trans (Nat.lt_of_lt_of_le this hn) (by decide)
        have rc := rep_tNs hcm hcl
        have rp := rep_paper (rows := rows) (b := b) o.clm.prg.toPrs oh.clm.prg.toPrs hn hcm (by omega)
        unfold law_B2_7
        simp only [envE, so_seq, so_if, so_ret, so_retN, so_exp, so_nil, so_nx, so_rt, so_asg, so_asgG, so_par2, so_par3, ok_gNm, ok_gMore, ok_gNone, so_asgT, so_sub, so_for, ok_TB, ok_Tru, ok_notT, ok_andT, ok_orT, ok_andV, ok_orV, ok_notV, ok_iteE, ok_frz, ok_new, ok_mfArg, ok_mfBin, ok_lc, ok_M, ok_M0, ok_moNone, ok_moSome, ok_Sl,
  ok_bin, ok_un, ok_arg, ok_cons, ok_nil, ok_call, ok_var, ok_C, ok_ok, ok_stuck, ok_noX, bOf_bool, low_v, iOf_int, addD_int, subD_int, negD_int, ltD_int, leD_int, gtD_int, geD_int, fInt_int, isD_bool, isNotD_bool, tru_bool, List.map_cons, List.map_nil, List.length_cons, List.length_nil, List.replicate_succ, List.replicate_zero, List.cons_append, List.nil_append,
  List.append_nil, List.getElem?_cons_zero, List.getElem?_cons_succ, List.set_cons_zero, List.set_cons_succ, Option.some.injEq, exists_eq_left', exists_eq_left, true_and, and_true, true_implies, false_implies, implies_true, Bool.false_eq_true, reduceCtorEq, false_and, and_false, D.v.injEq, PyData.int.injEq, D.ref.injEq, p1i_int, p2_two, p3_three, decide_true, Bool.not_true, Bool.not_false, decide_eq_true_eq, decide_eq_false_iff_not, g1, g2, ne_optD, repr_of rc, neD_str]
        unfold law_B2_8
        have h4 : ∀ s, f_law_partner [.v (pairsD μ), .v (nI b)] s = .ok (.v (optD (partner μ b))) s := fun s => lpart_eq
        have t3 : ∀ {x y z : PyData} {s}, fTup [.v x, .v y, .v z] s = .ok (.v (.tuple [x, y, z])) s := fun {_ _ _ _} => rfl
        have t2 : ∀ {x y : PyData} {s}, fTup [.v x, .v y] s = .ok (.v (.tuple [x, y])) s := fun {_ _ _} => rfl
        have g3 : ∀ s, f_gain_paper [.v (hallD rows), .v (tNs lot), .v (nI b)] s = .ok (.v (paperD rows b μ h)) s := fun s => gain_paper_eq H hl hn hbn o oh
        simp only [envE, so_seq, so_if, so_ret, so_retN, so_exp, so_nil, so_nx, so_rt, so_asg, so_asgG, so_par2, so_par3, ok_gNm, ok_gMore, ok_gNone, so_asgT, so_sub, so_for, ok_TB, ok_Tru, ok_notT, ok_andT, ok_orT, ok_andV, ok_orV, ok_notV, ok_iteE, ok_frz, ok_new, ok_mfArg, ok_mfBin, ok_lc, ok_M, ok_M0, ok_moNone, ok_moSome, ok_Sl,
  ok_bin, ok_un, ok_arg, ok_cons, ok_nil, ok_call, ok_var, ok_C, ok_ok, ok_stuck, ok_noX, bOf_bool, low_v, iOf_int, addD_int, subD_int, negD_int, ltD_int, leD_int, gtD_int, geD_int, fInt_int, isD_bool, isNotD_bool, tru_bool, List.map_cons, List.map_nil, List.length_cons, List.length_nil, List.replicate_succ, List.replicate_zero, List.cons_append, List.nil_append,
  List.append_nil, List.getElem?_cons_zero, List.getElem?_cons_succ, List.set_cons_zero, List.set_cons_succ, Option.some.injEq, exists_eq_left', exists_eq_left, true_and, and_true, true_implies, false_implies, implies_true, Bool.false_eq_true, reduceCtorEq, false_and, and_false, D.v.injEq, PyData.int.injEq, D.ref.injEq, p1i_int, p2_two, p3_three, decide_true, Bool.not_true, Bool.not_false, decide_eq_true_eq, decide_eq_false_iff_not, h4, eq_optD, t3, t2]
        have fin : ∀ z : PyData, z = paperD rows b μ h → (law_B2_9 [x0, some (.ref 1), x2, some (.v (hallD rows)), some (.v (tNs lot)), some (.v (.str hs)), some (.v (tNs (oth rows.length lot))), some (.v (pairsD μ)), some (.v (pairsD h)), some (.v (nI b)), some (.v (optD (partner h b))), some (.v (.list (all.map tNs))), x12, x13, some (.v (tNs (cutR (row rows b) (partner h b)))), some (.v z), x16, x17, x18] (s4.sto rest)).Ok
            (fun e2 s2 => ∃ (s : Src), s2 = s.sto rest ∧ s.ok ∧ ∃ x10 x11 x13 x14 x15, e2 = [x0, some (.ref 1), x2, some (.v (hallD rows)), some (.v (tNs lot)), some (.v (.str hs)), some (.v (tNs (oth rows.length lot))), some (.v (pairsD μ)), some (.v (pairsD h)), some (.v (nI b)), x10, x11, x12, x13, x14, x15, x16, x17, x18])
            (fun d st => D.low 0 d = true ∧ d = .v (.bool true)) := by
          intro z hz
          unfold law_B2_9
          rw [hz]
          simp only [envE, so_seq, so_if, so_ret, so_retN, so_exp, so_nil, so_nx, so_rt, so_asg, so_asgG, so_par2, so_par3, ok_gNm, ok_gMore, ok_gNone, so_asgT, so_sub, so_for, ok_TB, ok_Tru, ok_notT, ok_andT, ok_orT, ok_andV, ok_orV, ok_notV, ok_iteE, ok_frz, ok_new, ok_mfArg, ok_mfBin, ok_lc, ok_M, ok_M0, ok_moNone, ok_moSome, ok_Sl,
  ok_bin, ok_un, ok_arg, ok_cons, ok_nil, ok_call, ok_var, ok_C, ok_ok, ok_stuck, ok_noX, bOf_bool, low_v, iOf_int, addD_int, subD_int, negD_int, ltD_int, leD_int, gtD_int, geD_int, fInt_int, isD_bool, isNotD_bool, tru_bool, List.map_cons, List.map_nil, List.length_cons, List.length_nil, List.replicate_succ, List.replicate_zero, List.cons_append, List.nil_append,
  List.append_nil, List.getElem?_cons_zero, List.getElem?_cons_succ, List.set_cons_zero, List.set_cons_succ, Option.some.injEq, exists_eq_left', exists_eq_left, true_and, and_true, true_implies, false_implies, implies_true, Bool.false_eq_true, reduceCtorEq, false_and, and_false, D.v.injEq, PyData.int.injEq, D.ref.injEq, p1i_int, p2_two, p3_three, decide_true, Bool.not_true, Bool.not_false, decide_eq_true_eq, decide_eq_false_iff_not, g3, repr_of rp, neD_str]
          unfold law_B2_10 paperD
          by_cases hc : partner μ b = partner h b
          · rw [if_pos hc]
            have s0 : ∀ {x y z : PyData} {s}, subsD (.v (.tuple [x, y, z])) (.v (.int 0)) s = .ok (.v x) s := fun {_ _ _ _} => sub_tup (k := 0) rfl
            simp only [envE, so_seq, so_if, so_ret, so_retN, so_exp, so_nil, so_nx, so_rt, so_asg, so_asgG, so_par2, so_par3, ok_gNm, ok_gMore, ok_gNone, so_asgT, so_sub, so_for, ok_TB, ok_Tru, ok_notT, ok_andT, ok_orT, ok_andV, ok_orV, ok_notV, ok_iteE, ok_frz, ok_new, ok_mfArg, ok_mfBin, ok_lc, ok_M, ok_M0, ok_moNone, ok_moSome, ok_Sl,
  ok_bin, ok_un, ok_arg, ok_cons, ok_nil, ok_call, ok_var, ok_C, ok_ok, ok_stuck, ok_noX, bOf_bool, low_v, iOf_int, addD_int, subD_int, negD_int, ltD_int, leD_int, gtD_int, geD_int, fInt_int, isD_bool, isNotD_bool, tru_bool, List.map_cons, List.map_nil, List.length_cons, List.length_nil, List.replicate_succ, List.replicate_zero, List.cons_append, List.nil_append,
  List.append_nil, List.getElem?_cons_zero, List.getElem?_cons_succ, List.set_cons_zero, List.set_cons_succ, Option.some.injEq, exists_eq_left', exists_eq_left, true_and, and_true, true_implies, false_implies, implies_true, Bool.false_eq_true, reduceCtorEq, false_and, and_false, D.v.injEq, PyData.int.injEq, D.ref.injEq, p1i_int, p2_two, p3_three, decide_true, Bool.not_true, Bool.not_false, decide_eq_true_eq, decide_eq_false_iff_not, s0, eqD_str]
            exact ⟨fun z => absurd z (by decide), fun _ => ⟨s4, rfl, ok4, _, _, _, _, _, rfl⟩⟩
          · rw [if_neg hc]
            have s0 : ∀ {x y : PyData} {s}, subsD (.v (.tuple [x, y])) (.v (.int 0)) s = .ok (.v x) s := fun {_ _ _} => sub_tup (k := 0) rfl
            have g4 : ∀ s, f_law_gains [.v (hallD rows), .v (tNs lot), .v (nI b), .v (tNs (cutR (row rows b) (partner h b)))] s = .ok (.v (.bool true)) s := fun s => by
              rw [show f_law_gains _ s = _ from lgains_eq H hl hn hbn tc o oξ]
              congr 3
              unfold gain
              rw [hget]
              refine decide_eq_true (Nat.lt_of_le_of_ne (oh.top o.clm (List.mem_filter.mpr ⟨List.mem_range.mpr hbn, by rw [decide_eq_false hb]; rfl⟩)) fun z => hc ?_)
              exact (pl_inj oh.clm.prg o.clm.prg z).symm
            simp only [envE, so_seq, so_if, so_ret, so_retN, so_exp, so_nil, so_nx, so_rt, so_asg, so_asgG, so_par2, so_par3, ok_gNm, ok_gMore, ok_gNone, so_asgT, so_sub, so_for, ok_TB, ok_Tru, ok_notT, ok_andT, ok_orT, ok_andV, ok_orV, ok_notV, ok_iteE, ok_frz, ok_new, ok_mfArg, ok_mfBin, ok_lc, ok_M, ok_M0, ok_moNone, ok_moSome, ok_Sl,
  ok_bin, ok_un, ok_arg, ok_cons, ok_nil, ok_call, ok_var, ok_C, ok_ok, ok_stuck, ok_noX, bOf_bool, low_v, iOf_int, addD_int, subD_int, negD_int, ltD_int, leD_int, gtD_int, geD_int, fInt_int, isD_bool, isNotD_bool, tru_bool, List.map_cons, List.map_nil, List.length_cons, List.length_nil, List.replicate_succ, List.replicate_zero, List.cons_append, List.nil_append,
  List.append_nil, List.getElem?_cons_zero, List.getElem?_cons_succ, List.set_cons_zero, List.set_cons_succ, Option.some.injEq, exists_eq_left', exists_eq_left, true_and, and_true, true_implies, false_implies, implies_true, Bool.false_eq_true, reduceCtorEq, false_and, and_false, D.v.injEq, PyData.int.injEq, D.ref.injEq, p1i_int, p2_two, p3_three, decide_true, Bool.not_true, Bool.not_false, decide_eq_true_eq, decide_eq_false_iff_not, s0, eqD_str, g4]
            exact ⟨s4, rfl, ok4, _, _, _, _, _, rfl⟩
        refine ⟨fun hc => fin _ ?_, fun hc => fin _ ?_⟩
        · unfold paperD; rw [if_pos hc.symm]
        · unfold paperD; rw [if_neg fun z => hc z.symm]
      simp only [envE, so_seq, so_if, so_ret, so_retN, so_exp, so_nil, so_nx, so_rt, so_asg, so_asgG, so_par2, so_par3, ok_gNm, ok_gMore, ok_gNone, so_asgT, so_sub, so_for, ok_TB, ok_Tru, ok_notT, ok_andT, ok_orT, ok_andV, ok_orV, ok_notV, ok_iteE, ok_frz, ok_new, ok_mfArg, ok_mfBin, ok_lc, ok_M, ok_M0, ok_moNone, ok_moSome, ok_Sl,
  ok_bin, ok_un, ok_arg, ok_cons, ok_nil, ok_call, ok_var, ok_C, ok_ok, ok_stuck, ok_noX, bOf_bool, low_v, iOf_int, addD_int, subD_int, negD_int, ltD_int, leD_int, gtD_int, geD_int, fInt_int, isD_bool, isNotD_bool, tru_bool, List.map_cons, List.map_nil, List.length_cons, List.length_nil, List.replicate_succ, List.replicate_zero, List.cons_append, List.nil_append,
  List.append_nil, List.getElem?_cons_zero, List.getElem?_cons_succ, List.set_cons_zero, List.set_cons_succ, Option.some.injEq, exists_eq_left', exists_eq_left, true_and, and_true, true_implies, false_implies, implies_true, Bool.false_eq_true, reduceCtorEq, false_and, and_false, D.v.injEq, PyData.int.injEq, D.ref.injEq, p1i_int, p2_two, p3_three, decide_true, Bool.not_true, Bool.not_false, decide_eq_true_eq, decide_eq_false_iff_not, hall1, hall_row hbn, Hl.isNot_none, t0, ok_Index, isT_tup, Bool.or_true]
      cases e : partner h b with
      | none =>
        rw [e] at rest3
        exact ⟨(fun z => nomatch z), fun _ => rest3⟩
      | some q =>
        refine ⟨fun _ => ?_, (fun z => nomatch z)⟩
        have hix : ∀ st, fmIndex (.v (tNs (row rows b))) [.v (optD (some q))] st = .ok (.v (nI ((row rows b).idxOf q))) st := fun st => index_tN (ho q e)
        rw [hix, ok_ok, addD_int, ok_ok]
        refine ⟨_, rfl, ?_⟩
        rw [cut_slice, ok_ok]
        rw [e] at rest3
        exact rest3
  unfold law_B2
  have h4 : ∀ s, f_law_partner [.v (pairsD h), .v (nI b)] s = .ok (.v (optD (partner h b))) s := fun s => lpart_eq
  have g0 : ∀ s, f_best_told [.v (hallD rows), .v (tNs lot), .v (nI b)] s = .ok (.v (optD (partner h b))) s := fun s => best_told_eq H hl hn oh
  have ro : Rep (optD (partner h b)) 2 1 := rep_opt fun v e => by
    have := (H.mem (want_row (partner_want oh.clm.prg e)).1).1
    exact Nat.lt_trans (Nat.lt_of_lt_of_le this hn) (by decide)
  simp only [envE, so_seq, so_if, so_ret, so_retN, so_exp, so_nil, so_nx, so_rt, so_asg, so_asgG, so_par2, so_par3, ok_gNm, ok_gMore, ok_gNone, so_asgT, so_sub, so_for, ok_TB, ok_Tru, ok_notT, ok_andT, ok_orT, ok_andV, ok_orV, ok_notV, ok_iteE, ok_frz, ok_new, ok_mfArg, ok_mfBin, ok_lc, ok_M, ok_M0, ok_moNone, ok_moSome, ok_Sl,
  ok_bin, ok_un, ok_arg, ok_cons, ok_nil, ok_call, ok_var, ok_C, ok_ok, ok_stuck, ok_noX, bOf_bool, low_v, iOf_int, addD_int, subD_int, negD_int, ltD_int, leD_int, gtD_int, geD_int, fInt_int, isD_bool, isNotD_bool, tru_bool, List.map_cons, List.map_nil, List.length_cons, List.length_nil, List.replicate_succ, List.replicate_zero, List.cons_append, List.nil_append,
  List.append_nil, List.getElem?_cons_zero, List.getElem?_cons_succ, List.set_cons_zero, List.set_cons_succ, Option.some.injEq, exists_eq_left', exists_eq_left, true_and, and_true, true_implies, false_implies, implies_true, Bool.false_eq_true, reduceCtorEq, false_and, and_false, D.v.injEq, PyData.int.injEq, D.ref.injEq, p1i_int, p2_two, p3_three, decide_true, Bool.not_true, Bool.not_false, decide_eq_true_eq, decide_eq_false_iff_not, h4]
  unfold law_B2_2
  simp only [envE, so_seq, so_if, so_ret, so_retN, so_exp, so_nil, so_nx, so_rt, so_asg, so_asgG, so_par2, so_par3, ok_gNm, ok_gMore, ok_gNone, so_asgT, so_sub, so_for, ok_TB, ok_Tru, ok_notT, ok_andT, ok_orT, ok_andV, ok_orV, ok_notV, ok_iteE, ok_frz, ok_new, ok_mfArg, ok_mfBin, ok_lc, ok_M, ok_M0, ok_moNone, ok_moSome, ok_Sl,
  ok_bin, ok_un, ok_arg, ok_cons, ok_nil, ok_call, ok_var, ok_C, ok_ok, ok_stuck, ok_noX, bOf_bool, low_v, iOf_int, addD_int, subD_int, negD_int, ltD_int, leD_int, gtD_int, geD_int, fInt_int, isD_bool, isNotD_bool, tru_bool, List.map_cons, List.map_nil, List.length_cons, List.length_nil, List.replicate_succ, List.replicate_zero, List.cons_append, List.nil_append,
  List.append_nil, List.getElem?_cons_zero, List.getElem?_cons_succ, List.set_cons_zero, List.set_cons_succ, Option.some.injEq, exists_eq_left', exists_eq_left, true_and, and_true, true_implies, false_implies, implies_true, Bool.false_eq_true, reduceCtorEq, false_and, and_false, D.v.injEq, PyData.int.injEq, D.ref.injEq, p1i_int, p2_two, p3_three, decide_true, Bool.not_true, Bool.not_false, decide_eq_true_eq, decide_eq_false_iff_not, g0, repr_of ro, neD_str]
  have hlen : ∀ s, fLen [.v (tNs lot)] s = .ok (.v (nI lot.length)) s := fun s => by
    show fLen [.v (.tuple (lot.map nI))] s = _
    rw [Fw.len_tup, List.length_map]
  have hlist : ∀ s, gList [.v (tNs lot)] s = .ok (lot.map nI) s := fun s => rfl
  unfold law_B2_3
  simp only [envE, so_seq, so_if, so_ret, so_retN, so_exp, so_nil, so_nx, so_rt, so_asg, so_asgG, so_par2, so_par3, ok_gNm, ok_gMore, ok_gNone, so_asgT, so_sub, so_for, ok_TB, ok_Tru, ok_notT, ok_andT, ok_orT, ok_andV, ok_orV, ok_notV, ok_iteE, ok_frz, ok_new, ok_mfArg, ok_mfBin, ok_lc, ok_M, ok_M0, ok_moNone, ok_moSome, ok_Sl,
  ok_bin, ok_un, ok_arg, ok_cons, ok_nil, ok_call, ok_var, ok_C, ok_ok, ok_stuck, ok_noX, bOf_bool, low_v, iOf_int, addD_int, subD_int, negD_int, ltD_int, leD_int, gtD_int, geD_int, fInt_int, isD_bool, isNotD_bool, tru_bool, List.map_cons, List.map_nil, List.length_cons, List.length_nil, List.replicate_succ, List.replicate_zero, List.cons_append, List.nil_append,
  List.append_nil, List.getElem?_cons_zero, List.getElem?_cons_succ, List.set_cons_zero, List.set_cons_succ, Option.some.injEq, exists_eq_left', exists_eq_left, true_and, and_true, true_implies, false_implies, implies_true, Bool.false_eq_true, reduceCtorEq, false_and, and_false, D.v.injEq, PyData.int.injEq, D.ref.injEq, p1i_int, p2_two, p3_three, decide_true, Bool.not_true, Bool.not_false, decide_eq_true_eq, decide_eq_false_iff_not, hlen, hlist, disp0]
  refine ⟨fun h4 => ?_, fun _ => rest2 [] none (by decide) (fun l z => nomatch z)⟩
  refine (rows_of_ok (S := lot) (by omega)).mono ?_
  rintro _ _ ⟨rs, rfl, rfl, hrl, hrs⟩
  exact rest2 rs none hrl fun l hlr => told_lot hl hb (hrs l hlr)
end
end Wk47
namespace Wk47
open PySem PySem.Spec PyProof.Rows L2 Fw Fw.Hl Fw.Da Fw.Aq Fw.Tl
section
variable {rows : List (List Nat)} {S lot l : List Nat} {sd : Nat → Bool} {st : Sto} {a b m w n k : Nat} {μ ν ps Q h : List (Nat × Nat)} {p q : Nat × Nat} {o : Option Nat}
theorem law_ok (ns : List Int) (h : ns.length ≤ 63) : ∃ st, f_law [.scr ns] [] = .ok (.v (.bool true)) st := by
  have key : (f_law [.scr ns] []).Ok fun d st => d = .v (.bool true) := by
    refine fnT_ok ?_
    unfold S_law
    simp only [envE, so_seq, so_if, so_ret, so_retN, so_exp, so_nil, so_nx, so_rt, so_asg, so_asgG, so_par2, so_par3, ok_gNm, ok_gMore, ok_gNone, so_asgT, so_sub, so_for, ok_TB, ok_Tru, ok_notT, ok_andT, ok_orT, ok_andV, ok_orV, ok_notV, ok_iteE, ok_frz, ok_new, ok_mfArg, ok_mfBin, ok_lc, ok_M, ok_M0, ok_moNone, ok_moSome, ok_Sl,
  ok_bin, ok_un, ok_arg, ok_cons, ok_nil, ok_call, ok_var, ok_C, ok_ok, ok_stuck, ok_noX, bOf_bool, low_v, iOf_int, addD_int, subD_int, negD_int, ltD_int, leD_int, gtD_int, geD_int, fInt_int, isD_bool, isNotD_bool, tru_bool, List.map_cons, List.map_nil, List.length_cons, List.length_nil, List.replicate_succ, List.replicate_zero, List.cons_append, List.nil_append,
  List.append_nil, List.getElem?_cons_zero, List.getElem?_cons_succ, List.set_cons_zero, List.set_cons_succ, Option.some.injEq, exists_eq_left', exists_eq_left, true_and, and_true, true_implies, false_implies, implies_true, Bool.false_eq_true, reduceCtorEq, false_and, and_false, D.v.injEq, PyData.int.injEq, D.ref.injEq, p1i_int, p2_two, p3_three, decide_true, Bool.not_true, Bool.not_false, decide_eq_true_eq, decide_eq_false_iff_not]
    refine (opensB ns (by omega)).mono ?_
    rintro _ _ ⟨s, rfl, rfl, ok⟩
    unfold S_law_2 law_E6
    simp only [envE, so_seq, so_if, so_ret, so_retN, so_exp, so_nil, so_nx, so_rt, so_asg, so_asgG, so_par2, so_par3, ok_gNm, ok_gMore, ok_gNone, so_asgT, so_sub, so_for, ok_TB, ok_Tru, ok_notT, ok_andT, ok_orT, ok_andV, ok_orV, ok_notV, ok_iteE, ok_frz, ok_new, ok_mfArg, ok_mfBin, ok_lc, ok_M, ok_M0, ok_moNone, ok_moSome, ok_Sl,
  ok_bin, ok_un, ok_arg, ok_cons, ok_nil, ok_call, ok_var, ok_C, ok_ok, ok_stuck, ok_noX, bOf_bool, low_v, iOf_int, addD_int, subD_int, negD_int, ltD_int, leD_int, gtD_int, geD_int, fInt_int, isD_bool, isNotD_bool, tru_bool, List.map_cons, List.map_nil, List.length_cons, List.length_nil, List.replicate_succ, List.replicate_zero, List.cons_append, List.nil_append,
  List.append_nil, List.getElem?_cons_zero, List.getElem?_cons_succ, List.set_cons_zero, List.set_cons_succ, Option.some.injEq, exists_eq_left', exists_eq_left, true_and, and_true, true_implies, false_implies, implies_true, Bool.false_eq_true, reduceCtorEq, false_and, and_false, D.v.injEq, PyData.int.injEq, D.ref.injEq, p1i_int, p2_two, p3_three, decide_true, Bool.not_true, Bool.not_false, decide_eq_true_eq, decide_eq_false_iff_not, ok_R1]
    refine ⟨⟨by decide, by decide⟩, ?_⟩
    refine forL_inv (fun i e st => ∃ (s : Src) (rest : Sto), st = s.sto rest ∧ s.ok ∧ ∃ x2 x3 x4 x5 x6 x7 x8 x9 x10 x11 x12 x13 x14 x15 x16 x17 x18, e = [some (.scr ns), some (.ref 1), x2, x3, x4, x5, x6, x7, x8, x9, x10, x11, x12, x13, x14, x15, x16, x17, x18]) _ _ _ 0 ?_ ?_ ⟨s, [], rfl, ok, _, _, _, _, _, _, _, _, _, _, _, _, _, _, _, _, _, rfl⟩
    · rintro i d e st hd ⟨s, rest, rfl, ok, x2, x3, x4, x5, x6, x7, x8, x9, x10, x11, x12, x13, x14, x15, x16, x17, x18, rfl⟩
      obtain ⟨hi, rfl⟩ := rngI_get hd
      have hi3 : i < 3 := hi
      refine ⟨trivial, ?_⟩
      rw [Int.zero_add]
      unfold law_G6 law_B1
      obtain ⟨m, hm, hm2, hm8⟩ : ∃ m : Nat, (∀ st, subsD (.v (.list [.int 6, .int 7, .int 9])) (.v (.int (i : Int))) st = .ok (.v (nI m)) st) ∧ 2 ≤ m ∧ m ≤ 9 := by
        have : i = 0 ∨ i = 1 ∨ i = 2 := by omega
        rcases this with rfl | rfl | rfl
        · exact ⟨6, fun st => sub_list (k := 0) rfl, by decide, by decide⟩
        · exact ⟨7, fun st => sub_list (k := 1) rfl, by decide, by decide⟩
        · exact ⟨9, fun st => sub_list (k := 2) rfl, by decide, by decide⟩
      have disp3 : ∀ {a b c : PyData} {st}, gDisp [.v a, .v b, .v c] st = .ok [a, b, c] st := fun {_ _ _ _} => rfl
      simp only [envE, so_seq, so_if, so_ret, so_retN, so_exp, so_nil, so_nx, so_rt, so_asg, so_asgG, so_par2, so_par3, ok_gNm, ok_gMore, ok_gNone, so_asgT, so_sub, so_for, ok_TB, ok_Tru, ok_notT, ok_andT, ok_orT, ok_andV, ok_orV, ok_notV, ok_iteE, ok_frz, ok_new, ok_mfArg, ok_mfBin, ok_lc, ok_M, ok_M0, ok_moNone, ok_moSome, ok_Sl,
  ok_bin, ok_un, ok_arg, ok_cons, ok_nil, ok_call, ok_var, ok_C, ok_ok, ok_stuck, ok_noX, bOf_bool, low_v, iOf_int, addD_int, subD_int, negD_int, ltD_int, leD_int, gtD_int, geD_int, fInt_int, isD_bool, isNotD_bool, tru_bool, List.map_cons, List.map_nil, List.length_cons, List.length_nil, List.replicate_succ, List.replicate_zero, List.cons_append, List.nil_append,
  List.append_nil, List.getElem?_cons_zero, List.getElem?_cons_succ, List.set_cons_zero, List.set_cons_succ, Option.some.injEq, exists_eq_left', exists_eq_left, true_and, and_true, true_implies, false_implies, implies_true, Bool.false_eq_true, reduceCtorEq, false_and, and_false, D.v.injEq, PyData.int.injEq, D.ref.injEq, p1i_int, p2_two, p3_three, decide_true, Bool.not_true, Bool.not_false, decide_eq_true_eq, decide_eq_false_iff_not, disp3, hm]
      refine (two_sides_ok (rest := rest) (least := 2) (by decide) hm2 (by omega) ok).mono ?_
      rintro _ _ ⟨rows, lot, s1, rfl, rfl, ok1, H, h1, hn, hl⟩
      have hn50 : rows.length ≤ 50 := by omega
      rw [ok_gTpT]
      have TL := two_lot H hl
      have TO := two_oth H hl
      obtain ⟨μ, oμ⟩ := opt_ex TL hn50
      obtain ⟨h, oh⟩ := opt_ex TO hn50
      have rH := rep_hall H hn50
      unfold law_B1_2
      have e1 : ∀ s, f_law_others [.v (hallD rows), .v (tNs lot)] s = .ok (.v (tNs (oth rows.length lot))) s := fun s => others_eq hn50
      simp only [envE, so_seq, so_if, so_ret, so_retN, so_exp, so_nil, so_nx, so_rt, so_asg, so_asgG, so_par2, so_par3, ok_gNm, ok_gMore, ok_gNone, so_asgT, so_sub, so_for, ok_TB, ok_Tru, ok_notT, ok_andT, ok_orT, ok_andV, ok_orV, ok_notV, ok_iteE, ok_frz, ok_new, ok_mfArg, ok_mfBin, ok_lc, ok_M, ok_M0, ok_moNone, ok_moSome, ok_Sl,
  ok_bin, ok_un, ok_arg, ok_cons, ok_nil, ok_call, ok_var, ok_C, ok_ok, ok_stuck, ok_noX, bOf_bool, low_v, iOf_int, addD_int, subD_int, negD_int, ltD_int, leD_int, gtD_int, geD_int, fInt_int, isD_bool, isNotD_bool, tru_bool, List.map_cons, List.map_nil, List.length_cons, List.length_nil, List.replicate_succ, List.replicate_zero, List.cons_append, List.nil_append,
  List.append_nil, List.getElem?_cons_zero, List.getElem?_cons_succ, List.set_cons_zero, List.set_cons_succ, Option.some.injEq, exists_eq_left', exists_eq_left, true_and, and_true, true_implies, false_implies, implies_true, Bool.false_eq_true, reduceCtorEq, false_and, and_false, D.v.injEq, PyData.int.injEq, D.ref.injEq, p1i_int, p2_two, p3_three, decide_true, Bool.not_true, Bool.not_false, decide_eq_true_eq, decide_eq_false_iff_not, repr_of rH, e1]
      unfold law_B1_3
      have e2 : ∀ s, f_law_asking [.v (hallD rows), .v (tNs lot)] s = .ok (.v (pairsD μ)) s := fun s => asking_eq TL hn50 oμ
      have e3 : ∀ s, f_law_asking [.v (hallD rows), .v (tNs (oth rows.length lot))] s = .ok (.v (pairsD h)) s := fun s => asking_eq TO hn50 oh
      simp only [envE, so_seq, so_if, so_ret, so_retN, so_exp, so_nil, so_nx, so_rt, so_asg, so_asgG, so_par2, so_par3, ok_gNm, ok_gMore, ok_gNone, so_asgT, so_sub, so_for, ok_TB, ok_Tru, ok_notT, ok_andT, ok_orT, ok_andV, ok_orV, ok_notV, ok_iteE, ok_frz, ok_new, ok_mfArg, ok_mfBin, ok_lc, ok_M, ok_M0, ok_moNone, ok_moSome, ok_Sl,
  ok_bin, ok_un, ok_arg, ok_cons, ok_nil, ok_call, ok_var, ok_C, ok_ok, ok_stuck, ok_noX, bOf_bool, low_v, iOf_int, addD_int, subD_int, negD_int, ltD_int, leD_int, gtD_int, geD_int, fInt_int, isD_bool, isNotD_bool, tru_bool, List.map_cons, List.map_nil, List.length_cons, List.length_nil, List.replicate_succ, List.replicate_zero, List.cons_append, List.nil_append,
  List.append_nil, List.getElem?_cons_zero, List.getElem?_cons_succ, List.set_cons_zero, List.set_cons_succ, Option.some.injEq, exists_eq_left', exists_eq_left, true_and, and_true, true_implies, false_implies, implies_true, Bool.false_eq_true, reduceCtorEq, false_and, and_false, D.v.injEq, PyData.int.injEq, D.ref.injEq, p1i_int, p2_two, p3_three, decide_true, Bool.not_true, Bool.not_false, decide_eq_true_eq, decide_eq_false_iff_not, e2, e3]
      unfold law_B1_4 law_E3
      have hsl : ∀ s, slD (.v (tNs (oth rows.length lot))) none (some (4 : Int)) s = .ok (.v (tNs ((oth rows.length lot).take 4))) s := fun s => by
        show slD (.v (.tuple ((oth rows.length lot).map nI))) none (some ((4 : Nat) : Int)) s = _
        rw [slice_tup, cut_take, ← List.map_take]
      simp only [envE, so_seq, so_if, so_ret, so_retN, so_exp, so_nil, so_nx, so_rt, so_asg, so_asgG, so_par2, so_par3, ok_gNm, ok_gMore, ok_gNone, so_asgT, so_sub, so_for, ok_TB, ok_Tru, ok_notT, ok_andT, ok_orT, ok_andV, ok_orV, ok_notV, ok_iteE, ok_frz, ok_new, ok_mfArg, ok_mfBin, ok_lc, ok_M, ok_M0, ok_moNone, ok_moSome, ok_Sl,
  ok_bin, ok_un, ok_arg, ok_cons, ok_nil, ok_call, ok_var, ok_C, ok_ok, ok_stuck, ok_noX, bOf_bool, low_v, iOf_int, addD_int, subD_int, negD_int, ltD_int, leD_int, gtD_int, geD_int, fInt_int, isD_bool, isNotD_bool, tru_bool, List.map_cons, List.map_nil, List.length_cons, List.length_nil, List.replicate_succ, List.replicate_zero, List.cons_append, List.nil_append,
  List.append_nil, List.getElem?_cons_zero, List.getElem?_cons_succ, List.set_cons_zero, List.set_cons_succ, Option.some.injEq, exists_eq_left', exists_eq_left, true_and, and_true, true_implies, false_implies, implies_true, Bool.false_eq_true, reduceCtorEq, false_and, and_false, D.v.injEq, PyData.int.injEq, D.ref.injEq, p1i_int, p2_two, p3_three, decide_true, Bool.not_true, Bool.not_false, decide_eq_true_eq, decide_eq_false_iff_not, ok_seq]
      rw [hsl, ok_ok, show (D.v (tNs ((oth rows.length lot).take 4))) = .v (.tuple (((oth rows.length lot).take 4).map nI)) from rfl, seqW_tup, ok_ok, List.map_map]
      refine forL_inv (fun _ e st => ∃ (s : Src), st = s.sto rest ∧ s.ok ∧ ∃ x9 x10 x11 x13 x14 x15, e = [some (.scr ns), some (.ref 1), some (.v (.int (i : Int))), some (.v (hallD rows)), some (.v (tNs lot)), some (.v (.str (hallD rows).shown)), some (.v (tNs (oth rows.length lot))), some (.v (pairsD μ)), some (.v (pairsD h)), x9, x10, x11, x12, x13, x14, x15, x16, x17, x18]) _ _ _ 0 ?_ ?_ ⟨s1, rfl, ok1, _, _, _, _, _, _, rfl⟩
      · rintro j d e st hd ⟨s2, rfl, ok2, y9, y10, y11, y13, y14, y15, rfl⟩
        rw [List.getElem?_map] at hd
        obtain ⟨b, hb, rfl⟩ := Option.map_eq_some_iff.mp hd
        obtain ⟨hb1, hb2⟩ := List.mem_filter.mp (List.mem_of_mem_take (List.mem_of_getElem? hb))
        refine ⟨trivial, ?_⟩
        unfold law_G3
        show (gNm 9 (.one (.v (nI b))) _ _).Ok _
        simp only [envE, so_seq, so_if, so_ret, so_retN, so_exp, so_nil, so_nx, so_rt, so_asg, so_asgG, so_par2, so_par3, ok_gNm, ok_gMore, ok_gNone, so_asgT, so_sub, so_for, ok_TB, ok_Tru, ok_notT, ok_andT, ok_orT, ok_andV, ok_orV, ok_notV, ok_iteE, ok_frz, ok_new, ok_mfArg, ok_mfBin, ok_lc, ok_M, ok_M0, ok_moNone, ok_moSome, ok_Sl,
  ok_bin, ok_un, ok_arg, ok_cons, ok_nil, ok_call, ok_var, ok_C, ok_ok, ok_stuck, ok_noX, bOf_bool, low_v, iOf_int, addD_int, subD_int, negD_int, ltD_int, leD_int, gtD_int, geD_int, fInt_int, isD_bool, isNotD_bool, tru_bool, List.map_cons, List.map_nil, List.length_cons, List.length_nil, List.replicate_succ, List.replicate_zero, List.cons_append, List.nil_append,
  List.append_nil, List.getElem?_cons_zero, List.getElem?_cons_succ, List.set_cons_zero, List.set_cons_succ, Option.some.injEq, exists_eq_left', exists_eq_left, true_and, and_true, true_implies, false_implies, implies_true, Bool.false_eq_true, reduceCtorEq, false_and, and_false, D.v.injEq, PyData.int.injEq, D.ref.injEq, p1i_int, p2_two, p3_three, decide_true, Bool.not_true, Bool.not_false, decide_eq_true_eq, decide_eq_false_iff_not]
        refine (one_ok H hl hn50 ok2 oμ oh (List.mem_range.mp hb1) (fun z => by rw [decide_eq_true z] at hb2; cases hb2)).mono ?_ ?_
        · rintro _ _ ⟨s3, rfl, ok3, y10, y11, y13, y14, y15, rfl⟩
          exact ⟨s3, rfl, ok3, _, _, _, _, _, _, rfl⟩
        · exact fun _ _ h => h
      · rintro e st ⟨s2, rfl, ok2, y9, y10, y11, y13, y14, y15, rfl⟩
        refine ⟨trivial, ?_⟩
        unfold law_B1_5
        have hrest : ∀ Qs : List (List (Nat × Nat)), (∀ Q ∈ Qs, Clm rows Q ∧ Srt Q) → (law_B1_6 [some (.scr ns), some (.ref 1), some (.v (.int (i : Int))), some (.v (hallD rows)), some (.v (tNs lot)), some (.v (.str (hallD rows).shown)), some (.v (tNs (oth rows.length lot))), some (.v (pairsD μ)), some (.v (pairsD h)), y9, y10, y11, x12, y13, y14, y15, some (.v (.list (Qs.map pairsD))), x17, x18] (s2.sto rest)).Ok
            (fun e2 s2 => ∃ (s : Src) (rest : Sto), s2 = s.sto rest ∧ s.ok ∧ ∃ x2 x3 x4 x5 x6 x7 x8 x9 x10 x11 x12 x13 x14 x15 x16 x17 x18, e2 = [some (.scr ns), some (.ref 1), x2, x3, x4, x5, x6, x7, x8, x9, x10, x11, x12, x13, x14, x15, x16, x17, x18]) (fun d s => D.low 0 d = true ∧ d = .v (.bool true)) := by
          intro Qs hQs
          unfold law_B1_6 law_E5
          simp only [envE, so_seq, so_if, so_ret, so_retN, so_exp, so_nil, so_nx, so_rt, so_asg, so_asgG, so_par2, so_par3, ok_gNm, ok_gMore, ok_gNone, so_asgT, so_sub, so_for, ok_TB, ok_Tru, ok_notT, ok_andT, ok_orT, ok_andV, ok_orV, ok_notV, ok_iteE, ok_frz, ok_new, ok_mfArg, ok_mfBin, ok_lc, ok_M, ok_M0, ok_moNone, ok_moSome, ok_Sl,
  ok_bin, ok_un, ok_arg, ok_cons, ok_nil, ok_call, ok_var, ok_C, ok_ok, ok_stuck, ok_noX, bOf_bool, low_v, iOf_int, addD_int, subD_int, negD_int, ltD_int, leD_int, gtD_int, geD_int, fInt_int, isD_bool, isNotD_bool, tru_bool, List.map_cons, List.map_nil, List.length_cons, List.length_nil, List.replicate_succ, List.replicate_zero, List.cons_append, List.nil_append,
  List.append_nil, List.getElem?_cons_zero, List.getElem?_cons_succ, List.set_cons_zero, List.set_cons_succ, Option.some.injEq, exists_eq_left', exists_eq_left, true_and, and_true, true_implies, false_implies, implies_true, Bool.false_eq_true, reduceCtorEq, false_and, and_false, D.v.injEq, PyData.int.injEq, D.ref.injEq, p1i_int, p2_two, p3_three, decide_true, Bool.not_true, Bool.not_false, decide_eq_true_eq, decide_eq_false_iff_not, ok_seq, seqW_list, List.map_map]
          refine forL_inv (fun _ e st => st = s2.sto rest ∧ ∃ x16 x17 x18, e = [some (.scr ns), some (.ref 1), some (.v (.int (i : Int))), some (.v (hallD rows)), some (.v (tNs lot)), some (.v (.str (hallD rows).shown)), some (.v (tNs (oth rows.length lot))), some (.v (pairsD μ)), some (.v (pairsD h)), y9, y10, y11, x12, y13, y14, y15, x16, x17, x18]) _ _ _ 0 ?_ ?_ ⟨rfl, _, _, _, rfl⟩
          · rintro j d e st hd ⟨rfl, z16, z17, z18, rfl⟩
            rw [List.getElem?_map] at hd
            obtain ⟨Q, hQ, rfl⟩ := Option.map_eq_some_iff.mp hd
            obtain ⟨cQ, sQ⟩ := hQs Q (List.mem_of_getElem? hQ)
            refine ⟨trivial, ?_⟩
            unfold law_G5 law_B4
            show (gNm 17 (.one (.v (pairsD Q))) _ _).Ok _
            have HR := cutAll_hall (lot := lot) (Q := Q) H
            have lR := cutAll_lot (Q := Q) hl
            have hR50 : (cutAll rows lot Q).length ≤ 50 := by rw [cutAll_len]; exact hn50
            have oQ := cut_all_opt H hl hn50 HR lR cutAll_cut cQ sQ
            have f1 : ∀ s, f_cut_to [.v (hallD rows), .v (tNs lot), .v (pairsD Q)] s = .ok (.v (hallD (cutAll rows lot Q))) s := fun s => cut_to_eq H hn50 cQ.prg
            have f2 : ∀ s, f_law_cut [.v (hallD rows), .v (tNs lot), .v (pairsD Q)] s = .ok (.v (hallD (cutAll rows lot Q))) s := fun s => law_cut_eq H hn50 cQ.prg
            have f3 : ∀ s, f_low_pairing [.v (hallD (cutAll rows lot Q)), .v (tNs lot)] s = .ok (.v (pairsD Q)) s := fun s => low_eq (two_lot HR lR) hR50 oQ
            have r1 := rep_hall HR hR50
            have r2 := rep_prs cQ.prg.toPrs hn50
            simp only [envE, so_seq, so_if, so_ret, so_retN, so_exp, so_nil, so_nx, so_rt, so_asg, so_asgG, so_par2, so_par3, ok_gNm, ok_gMore, ok_gNone, so_asgT, so_sub, so_for, ok_TB, ok_Tru, ok_notT, ok_andT, ok_orT, ok_andV, ok_orV, ok_notV, ok_iteE, ok_frz, ok_new, ok_mfArg, ok_mfBin, ok_lc, ok_M, ok_M0, ok_moNone, ok_moSome, ok_Sl,
  ok_bin, ok_un, ok_arg, ok_cons, ok_nil, ok_call, ok_var, ok_C, ok_ok, ok_stuck, ok_noX, bOf_bool, low_v, iOf_int, addD_int, subD_int, negD_int, ltD_int, leD_int, gtD_int, geD_int, fInt_int, isD_bool, isNotD_bool, tru_bool, List.map_cons, List.map_nil, List.length_cons, List.length_nil, List.replicate_succ, List.replicate_zero, List.cons_append, List.nil_append,
  List.append_nil, List.getElem?_cons_zero, List.getElem?_cons_succ, List.set_cons_zero, List.set_cons_succ, Option.some.injEq, exists_eq_left', exists_eq_left, true_and, and_true, true_implies, false_implies, implies_true, Bool.false_eq_true, reduceCtorEq, false_and, and_false, D.v.injEq, PyData.int.injEq, D.ref.injEq, p1i_int, p2_two, p3_three, decide_true, Bool.not_true, Bool.not_false, decide_eq_true_eq, decide_eq_false_iff_not, f1]
            unfold law_B4_2
            simp only [envE, so_seq, so_if, so_ret, so_retN, so_exp, so_nil, so_nx, so_rt, so_asg, so_asgG, so_par2, so_par3, ok_gNm, ok_gMore, ok_gNone, so_asgT, so_sub, so_for, ok_TB, ok_Tru, ok_notT, ok_andT, ok_orT, ok_andV, ok_orV, ok_notV, ok_iteE, ok_frz, ok_new, ok_mfArg, ok_mfBin, ok_lc, ok_M, ok_M0, ok_moNone, ok_moSome, ok_Sl,
  ok_bin, ok_un, ok_arg, ok_cons, ok_nil, ok_call, ok_var, ok_C, ok_ok, ok_stuck, ok_noX, bOf_bool, low_v, iOf_int, addD_int, subD_int, negD_int, ltD_int, leD_int, gtD_int, geD_int, fInt_int, isD_bool, isNotD_bool, tru_bool, List.map_cons, List.map_nil, List.length_cons, List.length_nil, List.replicate_succ, List.replicate_zero, List.cons_append, List.nil_append,
  List.append_nil, List.getElem?_cons_zero, List.getElem?_cons_succ, List.set_cons_zero, List.set_cons_succ, Option.some.injEq, exists_eq_left', exists_eq_left, true_and, and_true, true_implies, false_implies, implies_true, Bool.false_eq_true, reduceCtorEq, false_and, and_false, D.v.injEq, PyData.int.injEq, D.ref.injEq, p1i_int, p2_two, p3_three, decide_true, Bool.not_true, Bool.not_false, decide_eq_true_eq, decide_eq_false_iff_not, f2, f3, repr_of r1, repr_of r2, neD_str]
            exact ⟨_, _, _, rfl⟩
          · rintro e st ⟨rfl, z16, z17, z18, rfl⟩
            refine ⟨trivial, ?_⟩
            unfold law_B1_7
            simp only [envE, so_seq, so_if, so_ret, so_retN, so_exp, so_nil, so_nx, so_rt, so_asg, so_asgG, so_par2, so_par3, ok_gNm, ok_gMore, ok_gNone, so_asgT, so_sub, so_for, ok_TB, ok_Tru, ok_notT, ok_andT, ok_orT, ok_andV, ok_orV, ok_notV, ok_iteE, ok_frz, ok_new, ok_mfArg, ok_mfBin, ok_lc, ok_M, ok_M0, ok_moNone, ok_moSome, ok_Sl,
  ok_bin, ok_un, ok_arg, ok_cons, ok_nil, ok_call, ok_var, ok_C, ok_ok, ok_stuck, ok_noX, bOf_bool, low_v, iOf_int, addD_int, subD_int, negD_int, ltD_int, leD_int, gtD_int, geD_int, fInt_int, isD_bool, isNotD_bool, tru_bool, List.map_cons, List.map_nil, List.length_cons, List.length_nil, List.replicate_succ, List.replicate_zero, List.cons_append, List.nil_append,
  List.append_nil, List.getElem?_cons_zero, List.getElem?_cons_succ, List.set_cons_zero, List.set_cons_succ, Option.some.injEq, exists_eq_left', exists_eq_left, true_and, and_true, true_implies, false_implies, implies_true, Bool.false_eq_true, reduceCtorEq, false_and, and_false, D.v.injEq, PyData.int.injEq, D.ref.injEq, p1i_int, p2_two, p3_three, decide_true, Bool.not_true, Bool.not_false, decide_eq_true_eq, decide_eq_false_iff_not, repr_of rH, neD_str]
            exact ⟨s2, rest, rfl, ok2, _, _, _, _, _, _, _, _, _, _, _, _, _, _, _, _, _, rfl⟩
        have h0 : ∀ s, subsD (.v (hallD rows)) (.v (.int 0)) s = .ok (.v (nI rows.length)) s := fun s => hall0
        have disp2 : ∀ {a b : PyData} {st}, gDisp [.v a, .v b] st = .ok [a, b] st := fun {_ _ _} => rfl
        simp only [envE, so_seq, so_if, so_ret, so_retN, so_exp, so_nil, so_nx, so_rt, so_asg, so_asgG, so_par2, so_par3, ok_gNm, ok_gMore, ok_gNone, so_asgT, so_sub, so_for, ok_TB, ok_Tru, ok_notT, ok_andT, ok_orT, ok_andV, ok_orV, ok_notV, ok_iteE, ok_frz, ok_new, ok_mfArg, ok_mfBin, ok_lc, ok_M, ok_M0, ok_moNone, ok_moSome, ok_Sl,
  ok_bin, ok_un, ok_arg, ok_cons, ok_nil, ok_call, ok_var, ok_C, ok_ok, ok_stuck, ok_noX, bOf_bool, low_v, iOf_int, addD_int, subD_int, negD_int, ltD_int, leD_int, gtD_int, geD_int, fInt_int, isD_bool, isNotD_bool, tru_bool, List.map_cons, List.map_nil, List.length_cons, List.length_nil, List.replicate_succ, List.replicate_zero, List.cons_append, List.nil_append,
  List.append_nil, List.getElem?_cons_zero, List.getElem?_cons_succ, List.set_cons_zero, List.set_cons_succ, Option.some.injEq, exists_eq_left', exists_eq_left, true_and, and_true, true_implies, false_implies, implies_true, Bool.false_eq_true, reduceCtorEq, false_and, and_false, D.v.injEq, PyData.int.injEq, D.ref.injEq, p1i_int, p2_two, p3_three, decide_true, Bool.not_true, Bool.not_false, decide_eq_true_eq, decide_eq_false_iff_not, h0, disp2]
        refine ⟨fun hlt => ?_, fun _ => hrest [μ, h] fun Q hQ => ?_⟩
        · have hn6 : rows.length ≤ 6 := by omega
          obtain ⟨E, hp, hE⟩ := lpairs_eq hn6 H
          have f3 : ∀ s, f_law_pairings [.v (hallD rows)] s = .ok (.v (.list (E.map pairsD))) s := hE
          unfold law_E4
          simp only [envE, so_seq, so_if, so_ret, so_retN, so_exp, so_nil, so_nx, so_rt, so_asg, so_asgG, so_par2, so_par3, ok_gNm, ok_gMore, ok_gNone, so_asgT, so_sub, so_for, ok_TB, ok_Tru, ok_notT, ok_andT, ok_orT, ok_andV, ok_orV, ok_notV, ok_iteE, ok_frz, ok_new, ok_mfArg, ok_mfBin, ok_lc, ok_M, ok_M0, ok_moNone, ok_moSome, ok_Sl,
  ok_bin, ok_un, ok_arg, ok_cons, ok_nil, ok_call, ok_var, ok_C, ok_ok, ok_stuck, ok_noX, bOf_bool, low_v, iOf_int, addD_int, subD_int, negD_int, ltD_int, leD_int, gtD_int, geD_int, fInt_int, isD_bool, isNotD_bool, tru_bool, List.map_cons, List.map_nil, List.length_cons, List.length_nil, List.replicate_succ, List.replicate_zero, List.cons_append, List.nil_append,
  List.append_nil, List.getElem?_cons_zero, List.getElem?_cons_succ, List.set_cons_zero, List.set_cons_succ, Option.some.injEq, exists_eq_left', exists_eq_left, true_and, and_true, true_implies, false_implies, implies_true, Bool.false_eq_true, reduceCtorEq, false_and, and_false, D.v.injEq, PyData.int.injEq, D.ref.injEq, p1i_int, p2_two, p3_three, decide_true, Bool.not_true, Bool.not_false, decide_eq_true_eq, decide_eq_false_iff_not, ok_seq, f3, seqW_list, List.map_map]
          rw [An.lcL_auto (fun ν : List (Nat × Nat) => decide (breaking rows ν = [])) pairsD]
          rotate_left
          · intro ν hν
            unfold law_G4 law_T2 law_M2
            show (gNm 17 (.one (.v (pairsD ν))) _ _).Ok _
            have hb : ∀ s, f_law_breaking [.v (hallD rows), .v (pairsD ν)] s = .ok (.v (.list ((breaking rows ν).map pr))) s := fun s => lbreak_eq H hn50
            have he0 : ∀ s, eqD (.v (.list ((breaking rows ν).map pr))) (.v (.list [])) s = .ok (.v (.bool (decide (breaking rows ν = [])))) s := fun s => by
              rw [eq_nilL (shaped_prs _).1]
              cases breaking rows ν <;> rfl
            simp only [envE, so_seq, so_if, so_ret, so_retN, so_exp, so_nil, so_nx, so_rt, so_asg, so_asgG, so_par2, so_par3, ok_gNm, ok_gMore, ok_gNone, so_asgT, so_sub, so_for, ok_TB, ok_Tru, ok_notT, ok_andT, ok_orT, ok_andV, ok_orV, ok_notV, ok_iteE, ok_frz, ok_new, ok_mfArg, ok_mfBin, ok_lc, ok_M, ok_M0, ok_moNone, ok_moSome, ok_Sl,
  ok_bin, ok_un, ok_arg, ok_cons, ok_nil, ok_call, ok_var, ok_C, ok_ok, ok_stuck, ok_noX, bOf_bool, low_v, iOf_int, addD_int, subD_int, negD_int, ltD_int, leD_int, gtD_int, geD_int, fInt_int, isD_bool, isNotD_bool, tru_bool, List.map_cons, List.map_nil, List.length_cons, List.length_nil, List.replicate_succ, List.replicate_zero, List.cons_append, List.nil_append,
  List.append_nil, List.getElem?_cons_zero, List.getElem?_cons_succ, List.set_cons_zero, List.set_cons_succ, Option.some.injEq, exists_eq_left', exists_eq_left, true_and, and_true, true_implies, false_implies, implies_true, Bool.false_eq_true, reduceCtorEq, false_and, and_false, D.v.injEq, PyData.int.injEq, D.ref.injEq, p1i_int, p2_two, p3_three, decide_true, Bool.not_true, Bool.not_false, decide_eq_true_eq, decide_eq_false_iff_not, wipeE, hb, disp0, he0]
          rw [ok_ok]
          refine hrest _ fun Q hQ => ?_
          obtain ⟨hQ1, hQ2⟩ := List.mem_filter.mp hQ
          have := (mem_pairs hn50).mp (hp.mem_iff.mp hQ1)
          exact ⟨⟨this.1, of_decide_eq_true hQ2⟩, this.2⟩
        · simp only [List.mem_cons, List.not_mem_nil, or_false] at hQ
          rcases hQ with rfl | rfl
          · exact ⟨oμ.clm, oμ.srt⟩
          · exact ⟨oh.clm, oh.srt⟩
    · rintro e st ⟨s, rest, rfl, ok, x2, x3, x4, x5, x6, x7, x8, x9, x10, x11, x12, x13, x14, x15, x16, x17, x18, rfl⟩
      refine ⟨trivial, ?_⟩
      unfold S_law_3
      simp only [envE, so_seq, so_if, so_ret, so_retN, so_exp, so_nil, so_nx, so_rt, so_asg, so_asgG, so_par2, so_par3, ok_gNm, ok_gMore, ok_gNone, so_asgT, so_sub, so_for, ok_TB, ok_Tru, ok_notT, ok_andT, ok_orT, ok_andV, ok_orV, ok_notV, ok_iteE, ok_frz, ok_new, ok_mfArg, ok_mfBin, ok_lc, ok_M, ok_M0, ok_moNone, ok_moSome, ok_Sl,
  ok_bin, ok_un, ok_arg, ok_cons, ok_nil, ok_call, ok_var, ok_C, ok_ok, ok_stuck, ok_noX, bOf_bool, low_v, iOf_int, addD_int, subD_int, negD_int, ltD_int, leD_int, gtD_int, geD_int, fInt_int, isD_bool, isNotD_bool, tru_bool, List.map_cons, List.map_nil, List.length_cons, List.length_nil, List.replicate_succ, List.replicate_zero, List.cons_append, List.nil_append,
  List.append_nil, List.getElem?_cons_zero, List.getElem?_cons_succ, List.set_cons_zero, List.set_cons_succ, Option.some.injEq, exists_eq_left', exists_eq_left, true_and, and_true, true_implies, false_implies, implies_true, Bool.false_eq_true, reduceCtorEq, false_and, and_false, D.v.injEq, PyData.int.injEq, D.ref.injEq, p1i_int, p2_two, p3_three, decide_true, Bool.not_true, Bool.not_false, decide_eq_true_eq, decide_eq_false_iff_not]
  obtain ⟨d, st, e, rfl⟩ := key.eq
  exact ⟨st, e⟩
end
end Wk47
theorem PySem.Challenge.cw_pairsandprices_k47_whole_who_is_asked_holds : PySem.Challenge.rw_pairsandprices_k47_whole_who_is_asked.Holds := by
  exact Wk47.holds Wk47.law_ok
