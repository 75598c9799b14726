import PyProof.Rows.All
import Wide.All
import OpenK.AllK
import Wide.FinOn
import HandS.ForMost
import HandS.Flow
import KE.KDictKeyed
import HandS.TupAny
import HandS.Style
import HandS.Deep
import KE.KTupSum
import HandS.SortInts
import PyProof.ReprReads
import PyProof.Rows.NestShow
import PyProof.CallFns
import KE.KIndexOf
import HandS.Strs
import HandS.Zip
import KE.GoesEnum
import HandS.Defaults
import HandS.Words
import HandS.HeadEnd
import HandS.Head0
import HandS.Head1
import HandS.Head2
import HandS.HeadHook1
import HandS.HeadHook2
import HandS.Conv
import HandS.IsInst
import HandS.TupSets
import PyProof.ReprBulk
import PyProof.EqKinds
import HandS.DictComp
import HandS.Small
import HandS.Star
import HandS.ListItems
import KE.KDictList
import KE.KDictPairs
import HandS.WordsDict
import KE.GoesZip
import KE.GoesMore
import HandS.TupLe
import PyProof.DictUpdate
import KE.SortData
import HandS.SetFor
import KE.KDictWalk
import PyProof.SumAny
import KE.DataMinMax
import KE.LtData
import PySem.Challenge.RW_pairsandprices_k37_whole_choosing
set_option Elab.async false
set_option linter.all false
set_option maxRecDepth 100000
set_option maxHeartbeats 0
namespace Fw
open PySem PySem.Spec PyProof.Rows L2
inductive D where
  | v (d : PyData)
  | ref (n : Nat)
  | scr (ns : List Int)
inductive O where
  | dead
  | lst (ds : List PyData)
  | dct (t : Bool) (kvs : List (PyData × D))
  | lck (t : Bool) (kvs : List (PyData × D))
  | tpl (ds : List D)
  | tab (kvs : List (PyData × D))
abbrev Sto := List O
abbrev Ev := List (Option D)
def D.low (n : Nat) : D → Bool
  | .ref m => decide (m < n)
  | _ => true
def O.low (n : Nat) : O → Bool
  | .dct _ kvs => kvs.all fun p => p.2.low n
  | .lck _ kvs => kvs.all fun p => p.2.low n
  | .tpl ds => ds.all fun d => d.low n
  | .tab kvs => kvs.all fun p => p.2.low n
  | _ => true
structure Exn where
  cls : Str
  fs : List (Str × PyData)
inductive Out (α : Type) where
  | ok (a : α) (st : Sto)
  | exn (e : Exn) (st : Sto)
  | stuck
def Out.bind {α β : Type} (x : Out α) (f : α → Sto → Out β) : Out β :=
  match x with
  | .ok a st => f a st
  | .exn e st => .exn e st
  | .stuck => .stuck
def Out.post {α : Type} (x : Out α) (P : α → Sto → Prop) (E : Exn → Sto → Prop) : Prop :=
  match x with
  | .ok a st => P a st
  | .exn e st => E e st
  | .stuck => False
theorem Out.post_bind {α β : Type} {x : Out α} {f : α → Sto → Out β} {P : β → Sto → Prop} {E : Exn → Sto → Prop}
    (h : (x.bind f).post P E) : x.post (fun a st => (f a st).post P E) E := by
  cases x <;> exact h
theorem Out.post_mono {α : Type} {x : Out α} {P P' : α → Sto → Prop} {E E' : Exn → Sto → Prop}
    (h : x.post P E) (hp : ∀ a st, P a st → P' a st) (he : ∀ e st, E e st → E' e st) : x.post P' E' := by
  cases x
  · exact hp _ _ h
  · exact he _ _ h
  · exact h
@[simp] theorem bind_ok {α β : Type} (a : α) (st : Sto) (f : α → Sto → Out β) : (Out.ok a st).bind f = f a st := rfl
@[simp] theorem bind_exn {α β : Type} (e : Exn) (st : Sto) (f : α → Sto → Out β) : (Out.exn e st : Out α).bind f = .exn e st := rfl
@[simp] theorem bind_stuck {α β : Type} (f : α → Sto → Out β) : (Out.stuck : Out α).bind f = .stuck := rfl
structure Gh where
  ad : List Addr
  hid : List Addr
def Gh.psh (ι : Gh) (p : Addr) : Gh := ⟨ι.ad ++ [p], ι.hid⟩
def Gh.tk (ι : Gh) (k : Nat) : Gh := ⟨ι.ad.take k, ι.hid⟩
def Frz (ι : Gh) (st : Sto) (a : Addr) : Prop := a ∉ ι.hid ∧ ∀ (n : Nat) (o : O), st[n]? = some o → ι.ad[n]? = some a → o = O.dead
def kD : Key → PyData
  | .inl i => .int i
  | .inr x => .str x
mutual
inductive Rp (F : Addr → Prop) (H : Hp) : V → PyData → Prop
  | non : Rp F H .non .none
  | bl (b : Bool) : Rp F H (.bl b) (.bool b)
  | int (i : Int) : Rp F H (.int i) (.int i)
  | str (x : Str) : Rp F H (.str x) (.str x)
  | lst {a : Addr} {xs : List V} {ds : List PyData} : H a = some (.lst xs) → F a → RpA F H xs ds → Rp F H (.ref a) (.list ds)
  | tup {a : Addr} {xs : List V} {ds : List PyData} {o : Obj} : H a = some (.frz o (.tup xs)) → o.dict = Option.none → F a → RpA F H xs ds → Rp F H (.ref a) (.tuple ds)
  | dcK {a : Addr} {xs : List (Key × V)} {ds : List (PyData × PyData)} : Rd H a (.dK xs) → F a → RpK F H xs ds → Rp F H (.ref a) (.dict ds)
  | dcT {a : Addr} {xs : List (List Key × V)} {ds : List (PyData × PyData)} : Rd H a (.dT xs) → F a → RpT F H xs ds → ds ≠ [] → Rp F H (.ref a) (.dict ds)
inductive RpA (F : Addr → Prop) (H : Hp) : List V → List PyData → Prop
  | nil : RpA F H [] []
  | cons {x : V} {xs : List V} {d : PyData} {ds : List PyData} : Rp F H x d → RpA F H xs ds → RpA F H (x :: xs) (d :: ds)
inductive RpK (F : Addr → Prop) (H : Hp) : List (Key × V) → List (PyData × PyData) → Prop
  | nil : RpK F H [] []
  | cons {k : Key} {x : V} {xs : List (Key × V)} {d : PyData} {ds : List (PyData × PyData)} : Rp F H x d → RpK F H xs ds → RpK F H ((k, x) :: xs) ((kD k, d) :: ds)
inductive RpT (F : Addr → Prop) (H : Hp) : List (List Key × V) → List (PyData × PyData) → Prop
  | nil : RpT F H [] []
  | cons {k : List Key} {x : V} {xs : List (List Key × V)} {d : PyData} {ds : List (PyData × PyData)} : Rp F H x d → RpT F H xs ds → RpT F H ((k, x) :: xs) ((.tuple (k.map kD), d) :: ds)
end
def Kp (u : HO) (x : Option HO) : Prop :=
  x = some u ∨ ((∃ kvs, u = .dK kvs) ∨ (∃ kvs, u = .dT kvs)) ∧ ∃ o, x = some (.frz o u)
structure Ext (ι : Gh) (st : Sto) (H : Hp) (ι' : Gh) (st' : Sto) (H' : Hp) : Prop where
  keep : ∀ q u, H q = some u → Frz ι st q → Frz ι' st' q ∧ H' q = some u
  pre : ∀ (n : Nat) (a : Addr), ι.ad[n]? = some a → ι'.ad[n]? = some a
  hid : ι'.hid = ι.hid
  keepZ : ∀ a, a ∈ ι.hid → H' a = H a
  lk : ∀ {n : Nat} {t : Bool} {kvs : List (PyData × D)} {a : Addr}, st[n]? = some (.lck t kvs) → ι.ad[n]? = some a → st'[n]? = some (.lck t kvs) ∧ H' a = H a
theorem Ext.refl {ι : Gh} {st : Sto} {H : Hp} : Ext ι st H ι st H := ⟨fun _ _ e f => ⟨f, e⟩, fun _ _ e => e, rfl, fun _ _ => rfl, fun h _ => ⟨h, rfl⟩⟩
theorem Ext.trans {ι ι1 ι2 : Gh} {st st1 st2 : Sto} {H H1 H2 : Hp} (a : Ext ι st H ι1 st1 H1) (b : Ext ι1 st1 H1 ι2 st2 H2) : Ext ι st H ι2 st2 H2 :=
  ⟨fun q u e f => let ⟨f1, k1⟩ := a.keep q u e f; b.keep q u k1 f1, fun n x e => b.pre n x (a.pre n x e), b.hid.trans a.hid, fun q h => (b.keepZ q (by rw [a.hid]; exact h)).trans (a.keepZ q h), fun h hi => let ⟨h1, e1⟩ := a.lk h hi; let ⟨h2, e2⟩ := b.lk h1 (a.pre _ _ hi); ⟨h2, e2.trans e1⟩⟩
theorem Kp.lst {xs : List V} {x : Option HO} (h : Kp (.lst xs) x) : x = some (.lst xs) := by
  rcases h with h | ⟨z | z, _⟩
  · exact h
  all_goals (obtain ⟨_, z⟩ := z; cases z)
theorem Kp.tup {xs : List V} {o : Obj} {x : Option HO} (h : Kp (.frz o (.tup xs)) x) : x = some (.frz o (.tup xs)) := by
  rcases h with h | ⟨z | z, _⟩
  · exact h
  all_goals (obtain ⟨_, z⟩ := z; cases z)
theorem rd_mv {F F' : Addr → Prop} {H H' : Hp} (hk : ∀ q u, H q = some u → F q → F' q ∧ Kp u (H' q)) {a : Addr} {u : HO} (hu : (∃ kvs, u = .dK kvs) ∨ (∃ kvs, u = .dT kvs)) (r : Rd H a u) (f : F a) : F' a ∧ Rd H' a u := by
  rcases r with r | ⟨o, r⟩
  · obtain ⟨f', k⟩ := hk _ _ r f
    rcases k with k | ⟨_, o, k⟩
    · exact ⟨f', .inl k⟩
    · exact ⟨f', .inr ⟨o, k⟩⟩
  · obtain ⟨f', k⟩ := hk _ _ r f
    rcases k with k | ⟨z, _⟩
    · exact ⟨f', .inr ⟨o, k⟩⟩
    · rcases z with ⟨_, z⟩ | ⟨_, z⟩ <;> cases z
section
variable {F F' : Addr → Prop} {H H' : Hp}
mutual
theorem Rp.mv (hk : ∀ q u, H q = some u → F q → F' q ∧ Kp u (H' q)) : ∀ {v : V} {d : PyData}, Rp F H v d → Rp F' H' v d
  | _, _, .non => .non
  | _, _, .bl b => .bl b
  | _, _, .int i => .int i
  | _, _, .str z => .str z
  | _, _, .lst e f r => .lst (hk _ _ e f).2.lst (hk _ _ e f).1 (RpA.mv hk r)
  | _, _, .tup e z f r => .tup (hk _ _ e f).2.tup z (hk _ _ e f).1 (RpA.mv hk r)
  | _, _, .dcK e f r => .dcK (rd_mv hk (.inl ⟨_, rfl⟩) e f).2 (rd_mv hk (.inl ⟨_, rfl⟩) e f).1 (RpK.mv hk r)
  | _, _, .dcT e f r z => .dcT (rd_mv hk (.inr ⟨_, rfl⟩) e f).2 (rd_mv hk (.inr ⟨_, rfl⟩) e f).1 (RpT.mv hk r) z
theorem RpA.mv (hk : ∀ q u, H q = some u → F q → F' q ∧ Kp u (H' q)) : ∀ {v : List V} {d : List PyData}, RpA F H v d → RpA F' H' v d
  | _, _, .nil => .nil
  | _, _, .cons h r => .cons (Rp.mv hk h) (RpA.mv hk r)
theorem RpK.mv (hk : ∀ q u, H q = some u → F q → F' q ∧ Kp u (H' q)) : ∀ {v : List (Key × V)} {d : List (PyData × PyData)}, RpK F H v d → RpK F' H' v d
  | _, _, .nil => .nil
  | _, _, .cons h r => .cons (Rp.mv hk h) (RpK.mv hk r)
theorem RpT.mv (hk : ∀ q u, H q = some u → F q → F' q ∧ Kp u (H' q)) : ∀ {v : List (List Key × V)} {d : List (PyData × PyData)}, RpT F H v d → RpT F' H' v d
  | _, _, .nil => .nil
  | _, _, .cons h r => .cons (Rp.mv hk h) (RpT.mv hk r)
end
end
section
variable {ι ι' : Gh} {st st' : Sto} {H H' : Hp}
theorem Rp.ext (x : Ext ι st H ι' st' H') {v : V} {d : PyData} (h : Rp (Frz ι st) H v d) : Rp (Frz ι' st') H' v d := Rp.mv (fun q u e f => let ⟨a, b⟩ := x.keep q u e f; ⟨a, .inl b⟩) h
theorem RpA.ext (x : Ext ι st H ι' st' H') {v : List V} {d : List PyData} (h : RpA (Frz ι st) H v d) : RpA (Frz ι' st') H' v d := RpA.mv (fun q u e f => let ⟨a, b⟩ := x.keep q u e f; ⟨a, .inl b⟩) h
theorem RpK.ext (x : Ext ι st H ι' st' H') {v : List (Key × V)} {d : List (PyData × PyData)} (h : RpK (Frz ι st) H v d) : RpK (Frz ι' st') H' v d := RpK.mv (fun q u e f => let ⟨a, b⟩ := x.keep q u e f; ⟨a, .inl b⟩) h
theorem RpT.ext (x : Ext ι st H ι' st' H') {v : List (List Key × V)} {d : List (PyData × PyData)} (h : RpT (Frz ι st) H v d) : RpT (Frz ι' st') H' v d := RpT.mv (fun q u e f => let ⟨a, b⟩ := x.keep q u e f; ⟨a, .inl b⟩) h
end
theorem RpA.length {F : Addr → Prop} {H : Hp} : ∀ {xs : List V} {ds : List PyData}, RpA F H xs ds → xs.length = ds.length
  | _, _, .nil => rfl
  | _, _, .cons _ r => by rw [List.length_cons, List.length_cons, RpA.length r]
theorem RpA.get {F : Addr → Prop} {H : Hp} : ∀ {xs : List V} {ds : List PyData} {i : Nat} {d : PyData}, RpA F H xs ds → ds[i]? = some d → ∃ x, xs[i]? = some x ∧ Rp F H x d
  | _, _, _, _, .nil, e => by simp at e
  | _, _, 0, _, .cons r _, e => by simp at e; subst e; exact ⟨_, rfl, r⟩
  | _, _, i + 1, d, .cons _ r, e => by
    obtain ⟨x, h1, h2⟩ := RpA.get (i := i) (d := d) r (by simpa using e)
    exact ⟨x, by simpa using h1, h2⟩
theorem RpA.append {F : Addr → Prop} {H : Hp} : ∀ {xs ys : List V} {ds es : List PyData}, RpA F H xs ds → RpA F H ys es → RpA F H (xs ++ ys) (ds ++ es)
  | _, _, _, _, .nil, s => s
  | _, _, _, _, .cons r t, s => .cons r (RpA.append t s)
theorem RpA.take {F : Addr → Prop} {H : Hp} : ∀ {xs : List V} {ds : List PyData} (n : Nat), RpA F H xs ds → RpA F H (xs.take n) (ds.take n)
  | _, _, 0, _ => .nil
  | _, _, _ + 1, .nil => .nil
  | _, _, n + 1, .cons r t => .cons r (RpA.take n t)
theorem RpA.drop {F : Addr → Prop} {H : Hp} : ∀ {xs : List V} {ds : List PyData} (n : Nat), RpA F H xs ds → RpA F H (xs.drop n) (ds.drop n)
  | _, _, 0, r => r
  | _, _, _ + 1, .nil => .nil
  | _, _, n + 1, .cons _ t => RpA.drop n t
theorem RpA.set {F : Addr → Prop} {H : Hp} {x : V} {d : PyData} (r : Rp F H x d) : ∀ {xs : List V} {ds : List PyData} (i : Nat), RpA F H xs ds → RpA F H (xs.set i x) (ds.set i d)
  | _, _, _, .nil => .nil
  | _, _, 0, .cons _ t => .cons r t
  | _, _, i + 1, .cons q t => .cons q (RpA.set r i t)
theorem RpA.erase {F : Addr → Prop} {H : Hp} : ∀ {xs : List V} {ds : List PyData} (i : Nat), RpA F H xs ds → RpA F H (xs.eraseIdx i) (ds.eraseIdx i)
  | _, _, _, .nil => .nil
  | _, _, 0, .cons _ t => t
  | _, _, i + 1, .cons q t => .cons q (RpA.erase i t)
theorem RpA.reverse {F : Addr → Prop} {H : Hp} : ∀ {xs : List V} {ds : List PyData}, RpA F H xs ds → RpA F H xs.reverse ds.reverse
  | _, _, .nil => .nil
  | _, _, .cons r t => by
    rw [List.reverse_cons, List.reverse_cons]
    exact (RpA.reverse t).append (.cons r .nil)
theorem RpA.dropLast {F : Addr → Prop} {H : Hp} {xs : List V} {ds : List PyData} (r : RpA F H xs ds) : RpA F H xs.dropLast ds.dropLast := by
  rw [List.dropLast_eq_take, List.dropLast_eq_take, r.length]
  exact r.take _
theorem RpA.rep {F : Addr → Prop} {H : Hp} {xs : List V} {ds : List PyData} (r : RpA F H xs ds) : ∀ k : Nat, RpA F H (List.replicate k xs).flatten (List.replicate k ds).flatten
  | 0 => .nil
  | k + 1 => by
    rw [List.replicate_succ, List.replicate_succ, List.flatten_cons, List.flatten_cons]
    exact r.append (RpA.rep r k)
def KL (K : PySem.W.Frag) (a : Addr) (xs : List V) : Prop :=
  ∃ (o : Obj) (its : Array Value) (n : Nat), K.lookup a = some o ∧ o.cls = .type "list" ∧ o.dict = none ∧ o.data = .seq its n ∧ its.size ≤ sizeLine ∧ Vals xs its.toList
def RD (K : PySem.W.Frag) (ι : Gh) (st : Sto) (H : Hp) (x : V) : D → Prop
  | .v d => Rp (Frz ι st) H x d
  | .ref n => ∃ a, ι.ad[n]? = some a ∧ x = .ref a
  | .scr ns => ∃ a, x = .ref a ∧ (KL K a (ns.map V.int) ∨ ∃ o, H a = some (.frz o (.lst (ns.map V.int))) ∧ Frz ι st a)
section
variable {K : PySem.W.Frag} {ι ι' : Gh} {st st' : Sto} {H H' : Hp}
theorem RD.ext (e : Ext ι st H ι' st' H') {x : V} : ∀ {d : D}, RD K ι st H x d → RD K ι' st' H' x d
  | .v d, h => Rp.ext e h
  | .ref n, ⟨a, h1, h2⟩ => ⟨a, e.pre n a h1, h2⟩
  | .scr ns, ⟨a, h1, h2⟩ => by
    refine ⟨a, h1, ?_⟩
    rcases h2 with h2 | ⟨o, h2, f⟩
    · exact .inl h2
    · obtain ⟨f', k⟩ := e.keep _ _ h2 f
      exact .inr ⟨o, k, f'⟩
theorem RD.scr {x : V} {ns : List Int} (h : RD K ι st H x (.scr ns)) : ∃ a, x = .ref a ∧ SqL K H a (ns.map V.int) := by
  obtain ⟨a, h1, h2⟩ := h
  refine ⟨a, h1, ?_⟩
  rcases h2 with h2 | ⟨o, h2, _⟩
  · exact .inr h2
  · exact .inl (.inr ⟨o, h2⟩)
end
def RK (K : PySem.W.Frag) (ι : Gh) (st : Sto) (H : Hp) : List (PyData × D) → List (Key × V) → Prop := Paired fun p q => p.1 = kD q.1 ∧ RD K ι st H q.2 p.2
def RT (K : PySem.W.Frag) (ι : Gh) (st : Sto) (H : Hp) : List (PyData × D) → List (List Key × V) → Prop := Paired fun p q => p.1 = .tuple (q.1.map kD) ∧ RD K ι st H q.2 p.2
def RDA (K : PySem.W.Frag) (ι : Gh) (st : Sto) (H : Hp) : List D → List V → Prop := Paired fun d x => RD K ι st H x d
mutual
def keyN : PyData → Option NestedKey
  | .none => some .none
  | .int i => some (.num i)
  | .tuple ds => (keyNA ds).map .tup
  | _ => Option.none
def keyNA : List PyData → Option (List NestedKey)
  | [] => some []
  | d :: ds => match keyN d, keyNA ds with
    | some k, some ks => some (k :: ks)
    | _, _ => Option.none
end
def keyP (d : PyData) : Option NestedKey := match d with
  | .tuple ds => match keyN (.tuple ds) with
    | some k => if k.depth ≤ 8 then some k else Option.none
    | Option.none => Option.none
  | _ => Option.none
def TabO (a : Addr) (xs : List (NestedKey × Addr × V)) : HO := .ext fun h => ∃ (w : World) (ys : List (NestedKey × Addr × Value)), Paired (fun p q => p.1 = q.1 ∧ p.2.1 = q.2.1 ∧ RelV p.2.2 q.2.2) xs ys ∧
  ∃ o es ep, h.get? a = some o ∧ o.ExactDict ∧ o.data = .dict es ep ∧ es.toList = ys.map fun x => (⟨x.1.hash w, .ref x.2.1, x.2.2⟩ : DictEntry)
def RTab (K : PySem.W.Frag) (ι : Gh) (st : Sto) (H : Hp) : List (PyData × D) → List (NestedKey × Addr × V) → Prop := Paired fun p q => keyP p.1 = some q.1 ∧ Rp (Frz ι st) H (.ref q.2.1) p.1 ∧ RD K ι st H q.2.2 p.2
def RO (K : PySem.W.Frag) (ι : Gh) (st : Sto) (H : Hp) (a : Addr) : O → Prop
  | .dead => True
  | .lst ds => ∃ xs, H a = some (.lst xs) ∧ RpA (Frz ι st) H xs ds
  | .dct false kvs => ∃ xs, H a = some (.dK xs) ∧ RK K ι st H kvs xs
  | .dct true kvs => ∃ xs, H a = some (.dT xs) ∧ RT K ι st H kvs xs
  | .lck false kvs => ∃ xs o, H a = some (.frz o (.dK xs)) ∧ RK K ι st H kvs xs
  | .lck true kvs => ∃ xs o, H a = some (.frz o (.dT xs)) ∧ RT K ι st H kvs xs
  | .tpl ds => ∃ xs o, H a = some (.frz o (.tup xs)) ∧ RDA K ι st H ds xs
  | .tab kvs => ∃ xs, H a = some (TabO a xs) ∧ (a == sysModules) = false ∧ (xs.map (·.1)).Nodup ∧ xs.length ≤ sizeLine ∧ RTab K ι st H kvs xs
def szOk : HO → Prop
  | .lst xs => xs.length ≤ sizeLine
  | .tup xs => xs.length ≤ sizeLine
  | .dK xs => xs.length ≤ sizeLine
  | .dT xs => xs.length ≤ sizeLine
  | .frz _ u => szOk u
  | _ => True
def HF (H : Hp) : Prop := ∀ a u, H a = some u → szOk u
def HdO : HO → Prop
  | .lst _ => True
  | .dK _ => True
  | .dT _ => True
  | _ => False
structure SRel (K : PySem.W.Frag) (ι : Gh) (st : Sto) (H : Hp) : Prop where
  len : ι.ad.length = st.length
  obj : ∀ (n : Nat) (o : O) (a : Addr), st[n]? = some o → ι.ad[n]? = some a → RO K ι st H a o
  inj : ∀ (m n : Nat) (a : Addr) (o u : O), ι.ad[m]? = some a → ι.ad[n]? = some a → st[m]? = some o → st[n]? = some u → o ≠ O.dead → u ≠ O.dead → m = n
  low : ∀ (n : Nat) (o : O), st[n]? = some o → o.low n = true
  hid : ∀ a, a ∈ ι.hid → (∃ u, H a = some u ∧ HdO u) ∧ ∀ (n : Nat) (o : O), st[n]? = some o → ι.ad[n]? = some a → o = O.dead
  hf : HF H
def EvR (K : PySem.W.Frag) (ι : Gh) (st : Sto) (H : Hp) (σ : L2.St) (env : Ev) : Prop :=
  σ.length = env.length ∧ ∀ (i : Nat) (d : D), env[i]? = some (some d) → ∃ x, σ[i]? = some (some x) ∧ RD K ι st H x d
section
variable {K : PySem.W.Frag} {ι ι' : Gh} {st st' : Sto} {H H' : Hp}
theorem EvR.ext (e : Ext ι st H ι' st' H') {σ : L2.St} {env : Ev} (h : EvR K ι st H σ env) : EvR K ι' st' H' σ env :=
  ⟨h.1, fun i d q => let ⟨x, h1, h2⟩ := h.2 i d q; ⟨x, h1, h2.ext e⟩⟩
theorem EvR.set {σ : L2.St} {env : Ev} (h : EvR K ι st H σ env) {x : V} {d : D} (r : RD K ι st H x d) (i : Nat) : EvR K ι st H (σ.set i (some x)) (env.set i (some d)) := by
  refine ⟨by rw [List.length_set, List.length_set]; exact h.1, fun j d' q => ?_⟩
  by_cases hj : i = j
  · subst hj
    by_cases hl : i < env.length
    · rw [List.getElem?_set_self hl] at q
      cases q
      exact ⟨x, by rw [List.getElem?_set_self (by rw [h.1]; exact hl)], r⟩
    · rw [List.getElem?_eq_none (by rw [List.length_set]; omega)] at q
      cases q
  · rw [List.getElem?_set_ne hj] at q
    obtain ⟨y, h1, h2⟩ := h.2 j d' q
    exact ⟨y, by rw [List.getElem?_set_ne hj]; exact h1, h2⟩
theorem EvR.none {σ : L2.St} {env : Ev} (h : EvR K ι st H σ env) (i : Nat) : EvR K ι st H (σ.set i Option.none) (env.set i Option.none) := by
  refine ⟨by rw [List.length_set, List.length_set]; exact h.1, fun j d' q => ?_⟩
  by_cases hj : i = j
  · subst hj
    by_cases hl : i < env.length
    · rw [List.getElem?_set_self hl] at q
      cases q
    · rw [List.getElem?_eq_none (by rw [List.length_set]; omega)] at q
      cases q
  · rw [List.getElem?_set_ne hj] at q
    obtain ⟨y, h1, h2⟩ := h.2 j d' q
    exact ⟨y, by rw [List.getElem?_set_ne hj]; exact h1, h2⟩
end
def wipeE (env : Ev) : List Nat → Ev
  | [] => env
  | v :: vs => (wipeE env vs).set v none
theorem EvR.wipe {K : PySem.W.Frag} {ι : Gh} {st : Sto} {H : Hp} {σ : L2.St} {env : Ev} (h : EvR K ι st H σ env) : ∀ vs : List Nat, EvR K ι st H (L2.wipe σ vs) (wipeE env vs)
  | [] => h
  | v :: vs => (EvR.wipe h vs).none v
abbrev XW := Exn → Gh → Sto → Hp → Prop
abbrev WF : XW := fun _ _ _ _ => False
abbrev ME := Ev → Sto → Out D
abbrev MT := Ev → Sto → Out Bool
abbrev MA := Ev → Sto → Out (List D)
def RDs (K : PySem.W.Frag) (ι : Gh) (st : Sto) (H : Hp) : List V → List D → Prop := Paired fun x d => RD K ι st H x d
theorem RDs.ext {K : PySem.W.Frag} {ι ι' : Gh} {st st' : Sto} {H H' : Hp} (e : Ext ι st H ι' st' H') : ∀ {xs : List V} {ds : List D}, RDs K ι st H xs ds → RDs K ι' st' H' xs ds
  | _, _, .nil => .nil
  | _, _, .cons h r => .cons (RD.ext e h) (RDs.ext e r)
def PO1 (K : PySem.W.Frag) (ι : Gh) (st : Sto) (H : Hp) (Q : VK) (d : D) (st' : Sto) : Prop := ∀ ι' H' x, SRel K ι' st' H' → Ext ι st H ι' st' H' → RD K ι' st' H' x d → Q x H'
def PB1 (K : PySem.W.Frag) (ι : Gh) (st : Sto) (H : Hp) (Q : Bool → Hp → Prop) (b : Bool) (st' : Sto) : Prop := ∀ ι' H', SRel K ι' st' H' → Ext ι st H ι' st' H' → Q b H'
def PA1 (K : PySem.W.Frag) (ι : Gh) (st : Sto) (H : Hp) (Q : List V → Hp → Prop) (ds : List D) (st' : Sto) : Prop := ∀ ι' H' xs, SRel K ι' st' H' → Ext ι st H ι' st' H' → RDs K ι' st' H' xs ds → Q xs H'
def PX1 (K : PySem.W.Frag) (W : XW) (ι : Gh) (st : Sto) (H : Hp) (e : Exn) (st' : Sto) : Prop := ∀ ι' H', SRel K ι' st' H' → Ext ι st H ι' st' H' → W e ι' st' H'
def TEo (K : PySem.W.Frag) (W : XW) (m : ME) : TE := fun σ H Q => ∃ ι env st, SRel K ι st H ∧ EvR K ι st H σ env ∧ (m env st).post (PO1 K ι st H Q) (PX1 K W ι st H)
def TTo (K : PySem.W.Frag) (W : XW) (m : MT) : TT := fun σ H Q => ∃ ι env st, SRel K ι st H ∧ EvR K ι st H σ env ∧ (m env st).post (PB1 K ι st H Q) (PX1 K W ι st H)
def TAo (K : PySem.W.Frag) (W : XW) (m : MA) : TA := fun σ H Q => ∃ ι env st, SRel K ι st H ∧ EvR K ι st H σ env ∧ (m env st).post (PA1 K ι st H Q) (PX1 K W ι st H)
section
variable {X : Cx} {pins : List (Addr × Obj)} {σ : L2.St} {H : Hp} {s : Shared}
theorem sz_of {P : Program} {w : World} {h : Heap} {a : Addr} {u : HO} (k : ObjOk P w H h a u) : szOk u := by
  induction u with
  | lst xs => exact k.1
  | tup xs => exact k.1
  | dK xs => exact k.1
  | dT xs => exact k.1
  | frz o u ih => exact ih k.2
  | _ => trivial
theorem hf_of (I : Inv X pins σ H s) : HF H := fun a u e => sz_of (I.hok a u e)
variable {K : PySem.W.Frag} {W : XW} {e : Expr} {es : List Expr}
theorem pe_wrap {t : TE} {m : ME} (h : PE X e t) (hi : ∀ σ H Q, TEo K W m σ H Q → t σ H (fun v H' => HF H' → Q v H')) : PE X e (TEo K W m) :=
  ⟨fun pins s σ H Q I q => thn (h.run pins s σ H _ I (hi σ H Q q)) fun _ _ ⟨v, H', I', r, q'⟩ => ⟨v, H', I', r, q' (hf_of I')⟩⟩
theorem pt_wrap {t : TT} {m : MT} (h : PT X e t) (hi : ∀ σ H Q, TTo K W m σ H Q → t σ H (fun v H' => HF H' → Q v H')) : PT X e (TTo K W m) :=
  ⟨fun pins s σ H Q I q => thn (h.run pins s σ H _ I (hi σ H Q q)) fun _ _ ⟨H', I', q'⟩ => ⟨H', I', q' (hf_of I')⟩⟩
theorem pw_wrap {t : TT} {m : MT} (h : PW X e t) (hi : ∀ σ H Q, TTo K W m σ H Q → t σ H (fun v H' => HF H' → Q v H')) : PW X e (TTo K W m) :=
  ⟨fun wh pins s σ H Q I q => thn (h.run wh pins s σ H _ I (hi σ H Q q)) fun _ _ ⟨H', I', q'⟩ => ⟨H', I', q' (hf_of I')⟩⟩
theorem pa_wrap {t : TA} {m : MA} (h : PA X es t) (hi : ∀ σ H Q, TAo K W m σ H Q → t σ H (fun v H' => HF H' → Q v H')) : PA X es (TAo K W m) :=
  ⟨fun pos pins s σ H Q I q => thn (h.run pos pins s σ H _ I (hi σ H Q q)) fun _ _ ⟨v, H', I', r, q'⟩ => ⟨v, H', I', r, q' (hf_of I')⟩⟩
end
end Fw
namespace Fw
open PySem PySem.Spec PyProof.Rows L2
section
variable {K : PySem.W.Frag} {ι ι' : Gh} {st st' : Sto} {H H' : Hp}
theorem PO1.ext {Q : VK} {d : D} {s2 : Sto} (h : PO1 K ι st H Q d s2) (e : Ext ι st H ι' st' H') : PO1 K ι' st' H' Q d s2 :=
  fun ι2 H2 x R E r => h ι2 H2 x R (e.trans E) r
theorem PB1.ext {Q : Bool → Hp → Prop} {b : Bool} {s2 : Sto} (h : PB1 K ι st H Q b s2) (e : Ext ι st H ι' st' H') : PB1 K ι' st' H' Q b s2 :=
  fun ι2 H2 R E => h ι2 H2 R (e.trans E)
theorem PA1.ext {Q : List V → Hp → Prop} {d : List D} {s2 : Sto} (h : PA1 K ι st H Q d s2) (e : Ext ι st H ι' st' H') : PA1 K ι' st' H' Q d s2 :=
  fun ι2 H2 x R E r => h ι2 H2 x R (e.trans E) r
theorem PX1.ext {W : XW} {x : Exn} {s2 : Sto} (h : PX1 K W ι st H x s2) (e : Ext ι st H ι' st' H') : PX1 K W ι' st' H' x s2 :=
  fun ι2 H2 R E => h ι2 H2 R (e.trans E)
theorem SRel.live (R : SRel K ι st H) {n : Nat} {o : O} {a : Addr} (h : st[n]? = some o) (hi : ι.ad[n]? = some a) (hl : o ≠ O.dead) : ∃ u, H a = some u ∧ ∀ xs, u ≠ .tup xs := by
  have q := R.obj n o a h hi
  cases o with
  | dead => exact absurd rfl hl
  | lst ds => obtain ⟨xs, e, _⟩ := q; exact ⟨_, e, fun _ z => nomatch z⟩
  | dct t kvs =>
    cases t with
    | false => obtain ⟨xs, e, _⟩ := q; exact ⟨_, e, fun _ z => nomatch z⟩
    | true => obtain ⟨xs, e, _⟩ := q; exact ⟨_, e, fun _ z => nomatch z⟩
  | lck t kvs =>
    cases t with
    | false => obtain ⟨xs, o, e, _⟩ := q; exact ⟨_, e, fun _ z => nomatch z⟩
    | true => obtain ⟨xs, o, e, _⟩ := q; exact ⟨_, e, fun _ z => nomatch z⟩
  | tpl ds => obtain ⟨xs, o, e, _⟩ := q; exact ⟨_, e, fun _ z => nomatch z⟩
  | tab kvs => obtain ⟨xs, e, _⟩ := q; exact ⟨_, e, fun _ z => nomatch (show HO.ext _ = HO.tup _ from z)⟩
theorem SRel.hid_new (R : SRel K ι st H) {p : Addr} (hp : H p = none) : p ∉ ι.hid := fun z => by
  obtain ⟨⟨_, e, _⟩, _⟩ := R.hid p z
  rw [hp] at e
  cases e
theorem SRel.frz_new (R : SRel K ι st H) {p : Addr} (hp : H p = none) : Frz ι st p := ⟨R.hid_new hp, fun n o h hi => by
  by_cases hd : o = O.dead
  · exact hd
  · obtain ⟨u, e, _⟩ := R.live h hi hd
    rw [hp] at e; cases e⟩
theorem RK.ext (e : Ext ι st H ι' st' H') : ∀ {kvs : List (PyData × D)} {xs : List (Key × V)}, RK K ι st H kvs xs → RK K ι' st' H' kvs xs
  | _, _, .nil => .nil
  | _, _, .cons h r => .cons ⟨h.1, h.2.ext e⟩ (RK.ext e r)
theorem RT.ext (e : Ext ι st H ι' st' H') : ∀ {kvs : List (PyData × D)} {xs : List (List Key × V)}, RT K ι st H kvs xs → RT K ι' st' H' kvs xs
  | _, _, .nil => .nil
  | _, _, .cons h r => .cons ⟨h.1, h.2.ext e⟩ (RT.ext e r)
theorem RTab.ext (e : Ext ι st H ι' st' H') : ∀ {kvs : List (PyData × D)} {xs : List (NestedKey × Addr × V)}, RTab K ι st H kvs xs → RTab K ι' st' H' kvs xs
  | _, _, .nil => .nil
  | _, _, .cons h r => .cons ⟨h.1, h.2.1.ext e, h.2.2.ext e⟩ (RTab.ext e r)
theorem RDA.ext (e : Ext ι st H ι' st' H') : ∀ {ds : List D} {xs : List V}, RDA K ι st H ds xs → RDA K ι' st' H' ds xs
  | _, _, .nil => .nil
  | _, _, .cons h r => .cons (h.ext e) (RDA.ext e r)
theorem RO.ext (e : Ext ι st H ι' st' H') {a : Addr} (h : ∀ u, H a = some u → H' a = some u) : ∀ {o : O}, RO K ι st H a o → RO K ι' st' H' a o
  | .dead, _ => trivial
  | .lst _, ⟨xs, q, r⟩ => ⟨xs, h _ q, r.ext e⟩
  | .dct false _, ⟨xs, q, r⟩ => ⟨xs, h _ q, RK.ext e r⟩
  | .dct true _, ⟨xs, q, r⟩ => ⟨xs, h _ q, RT.ext e r⟩
  | .lck false _, ⟨xs, o, q, r⟩ => ⟨xs, o, h _ q, RK.ext e r⟩
  | .lck true _, ⟨xs, o, q, r⟩ => ⟨xs, o, h _ q, RT.ext e r⟩
  | .tpl _, ⟨xs, o, q, r⟩ => ⟨xs, o, h _ q, RDA.ext e r⟩
  | .tab _, ⟨xs, q, r⟩ => ⟨xs, h _ q, r.1, r.2.1, r.2.2.1, RTab.ext e r.2.2.2⟩
theorem Ext.fresh (R : SRel K ι st H) {p : Addr} {u : HO} (hp : H p = none) : Ext ι st H ι st (upd H p u) :=
  ⟨fun q o e f => ⟨f, by rw [upd_ne (ne_of_none e hp)]; exact e⟩, fun _ _ e => e, rfl, fun q hq => upd_ne fun z => R.hid_new hp (z ▸ hq), fun h hi => ⟨h, upd_ne (let ⟨_, e, _⟩ := R.live h hi (fun z => nomatch z); ne_of_none e hp)⟩⟩
theorem SRel.fresh (R : SRel K ι st H) {p : Addr} {u : HO} (hp : H p = none) (hf : HF (upd H p u)) : SRel K ι st (upd H p u) :=
  ⟨R.len, fun n o a h hi => (R.obj n o a h hi).ext (Ext.fresh R hp) fun v e => by rw [upd_ne (ne_of_none e hp)]; exact e, R.inj, R.low, fun a h => ⟨let ⟨xs, e, d⟩ := (R.hid a h).1; ⟨xs, by rw [upd_ne (ne_of_none e hp)]; exact e, d⟩, (R.hid a h).2⟩, hf⟩
theorem frz_push {p q : Addr} {o : O} (R : ι.ad.length = st.length) (f : Frz ι st q) (hq : q ≠ p) : Frz (ι.psh p) (st ++ [o]) q := ⟨f.1, fun n u h hi => by
  replace hi : (ι.ad ++ [p])[n]? = some q := hi
  by_cases hn : n < st.length
  · rw [List.getElem?_append_left hn] at h
    rw [List.getElem?_append_left (by rw [R]; exact hn)] at hi
    exact f.2 n u h hi
  · by_cases hn2 : n = st.length
    · subst hn2
      rw [← R, List.getElem?_append_right (Nat.le_refl _), Nat.sub_self] at hi
      exact absurd (Option.some.inj hi).symm hq
    · rw [List.getElem?_eq_none (by rw [List.length_append, List.length_singleton]; omega)] at h
      cases h⟩
theorem Ext.push {p : Addr} {u : HO} {o : O} (R : SRel K ι st H) (hp : H p = none) : Ext ι st H (ι.psh p) (st ++ [o]) (upd H p u) := by
  refine ⟨fun q v e f => ?_, fun n a e => ?_, rfl, fun q hq => upd_ne fun z => ?_, fun h hi => ⟨by rw [List.getElem?_append_left (List.getElem?_eq_some_iff.mp h).1]; exact h, upd_ne (let ⟨_, e, _⟩ := R.live h hi (fun z => nomatch z); ne_of_none e hp)⟩⟩
  · have nq := ne_of_none e hp
    exact ⟨frz_push R.len f nq, by rw [upd_ne nq]; exact e⟩
  · show (ι.ad ++ [p])[n]? = some a
    rw [List.getElem?_append_left (List.getElem?_eq_some_iff.mp e).1]
    exact e
  · obtain ⟨⟨_, e, _⟩, _⟩ := R.hid q hq
    rw [z, hp] at e
    cases e
theorem SRel.push (R : SRel K ι st H) {p : Addr} {u : HO} {o : O} (hp : H p = none) (hf : HF (upd H p u)) (ho : RO K (ι.psh p) (st ++ [o]) (upd H p u) p o) (hw : o.low st.length = true) : SRel K (ι.psh p) (st ++ [o]) (upd H p u) := by
  have old : ∀ {n : Nat} {v : O} {a : Addr}, (st ++ [o])[n]? = some v → (ι.ad ++ [p])[n]? = some a → (n < st.length ∧ st[n]? = some v ∧ ι.ad[n]? = some a) ∨ (n = st.length ∧ v = o ∧ a = p) := by
    intro n v a h hi
    by_cases hn : n < st.length
    · rw [List.getElem?_append_left hn] at h
      rw [List.getElem?_append_left (by rw [R.len]; exact hn)] at hi
      exact .inl ⟨hn, h, hi⟩
    · by_cases hn2 : n = st.length
      · subst hn2
        rw [List.getElem?_append_right (Nat.le_refl _), Nat.sub_self] at h
        rw [← R.len, List.getElem?_append_right (Nat.le_refl _), Nat.sub_self] at hi
        exact .inr ⟨rfl, (Option.some.inj h).symm, (Option.some.inj hi).symm⟩
      · rw [List.getElem?_eq_none (by rw [List.length_append, List.length_singleton]; omega)] at h
        cases h
  refine ⟨by show (ι.ad ++ [p]).length = _; rw [List.length_append, List.length_append, R.len]; rfl, fun n v a h hi => ?_, fun m n a v w hm hn h1 h2 l1 l2 => ?_, fun n v h => ?_, fun a ha => ⟨?_, fun n v h hi => ?_⟩, hf⟩
  · rcases old h hi with ⟨_, h1, h2⟩ | ⟨_, rfl, rfl⟩
    · exact (R.obj n v a h1 h2).ext (Ext.push R hp) fun z e => by rw [upd_ne (ne_of_none e hp)]; exact e
    · exact ho
  · rcases old h1 hm with ⟨_, a1, a2⟩ | ⟨e1, _, rfl⟩
    · rcases old h2 hn with ⟨_, b1, b2⟩ | ⟨_, _, rfl⟩
      · exact R.inj m n a v w a2 b2 a1 b1 l1 l2
      · exact absurd ((R.frz_new hp).2 m v a1 a2) l1
    · rcases old h2 hn with ⟨_, b1, b2⟩ | ⟨e2, _, _⟩
      · exact absurd ((R.frz_new hp).2 n w b1 b2) l2
      · rw [e1, e2]
  · by_cases hn : n < st.length
    · rw [List.getElem?_append_left hn] at h
      exact R.low n v h
    · by_cases hn2 : n = st.length
      · subst hn2
        rw [List.getElem?_append_right (Nat.le_refl _), Nat.sub_self] at h
        rw [← Option.some.inj h]
        exact hw
      · rw [List.getElem?_eq_none (by rw [List.length_append, List.length_singleton]; omega)] at h
        cases h
  · obtain ⟨xs, e, d⟩ := (R.hid a ha).1
    exact ⟨xs, by rw [upd_ne (ne_of_none e hp)]; exact e, d⟩
  · rcases old h hi with ⟨_, h1, h2⟩ | ⟨_, rfl, rfl⟩
    · exact (R.hid a ha).2 n v h1 h2
    · obtain ⟨xs, e, _⟩ := (R.hid a ha).1
      rw [hp] at e
      cases e
theorem frz_set {n : Nat} {o o' : O} {q : Addr} (h : st[n]? = some o) (hl : o ≠ O.dead) (f : Frz ι st q) : Frz ι (st.set n o') q := ⟨f.1, fun m u hm hi => by
  by_cases e : n = m
  · subst e
    exact absurd (f.2 n o h hi) hl
  · rw [List.getElem?_set_ne e] at hm
    exact f.2 m u hm hi⟩
theorem Ext.write (R : SRel K ι st H) {n : Nat} {o o' : O} {a : Addr} {u : HO} (h : st[n]? = some o) (hi : ι.ad[n]? = some a) (hl : o ≠ O.dead) (hk : ∀ t kvs, o ≠ .lck t kvs) : Ext ι st H ι (st.set n o') (upd H a u) := by
  refine ⟨fun q v e f => ⟨frz_set h hl f, ?_⟩, fun _ _ e => e, rfl, fun q hq => upd_ne fun z => ?_, fun {m t kvs b} hm hb => ?_⟩
  · have nq : q ≠ a := fun z => by subst z; exact hl (f.2 n o h hi)
    rw [upd_ne nq]
    exact e
  · subst z
    exact hl ((R.hid q hq).2 n o h hi)
  · have nm : n ≠ m := fun z => by subst z; rw [h] at hm; exact hk t kvs (Option.some.inj hm)
    exact ⟨by rw [List.getElem?_set_ne nm]; exact hm, upd_ne fun z => by subst z; exact nm (R.inj n m b o _ hi hb h hm hl (fun z => nomatch z))⟩
theorem SRel.write (R : SRel K ι st H) {n : Nat} {o o' : O} {a : Addr} {u : HO} (h : st[n]? = some o) (hi : ι.ad[n]? = some a) (hl : o ≠ O.dead) (hk : ∀ t kvs, o ≠ .lck t kvs) (hf : HF (upd H a u)) (ho : RO K ι (st.set n o') (upd H a u) a o') (hw : o'.low n = true) : SRel K ι (st.set n o') (upd H a u) := by
  refine ⟨by rw [List.length_set]; exact R.len, fun m v b hm hb => ?_, fun i j b v w hib hjb h1 h2 l1 l2 => ?_, fun m v hm => ?_, fun b hb => ⟨?_, fun m v hm hi' => ?_⟩, hf⟩
  · by_cases e : n = m
    · subst e
      rw [List.getElem?_set_self (List.getElem?_eq_some_iff.mp h).1] at hm
      cases hm
      rw [hi] at hb; cases hb
      exact ho
    · rw [List.getElem?_set_ne e] at hm
      by_cases ed : v = O.dead
      · subst ed; trivial
      · refine (R.obj m v b hm hb).ext (Ext.write R h hi hl hk) fun z q => ?_
        have nb : b ≠ a := fun z => by subst z; exact e (R.inj n m b o v hi hb h hm hl ed)
        rw [upd_ne nb]
        exact q
  · have live : ∀ {i : Nat} {v : O}, (st.set n o')[i]? = some v → v ≠ O.dead → ∃ v', st[i]? = some v' ∧ v' ≠ O.dead := fun {i v} q l => by
      by_cases e : n = i
      · subst e; exact ⟨o, h, hl⟩
      · rw [List.getElem?_set_ne e] at q
        exact ⟨v, q, l⟩
    obtain ⟨v', a1, a2⟩ := live h1 l1
    obtain ⟨w', b1, b2⟩ := live h2 l2
    exact R.inj i j b v' w' hib hjb a1 b1 a2 b2
  · by_cases e : n = m
    · subst e
      rw [List.getElem?_set_self (List.getElem?_eq_some_iff.mp h).1] at hm
      rw [← Option.some.inj hm]
      exact hw
    · rw [List.getElem?_set_ne e] at hm
      exact R.low m v hm
  · obtain ⟨xs, e, d⟩ := (R.hid b hb).1
    have nb : b ≠ a := fun z => by subst z; exact hl ((R.hid b hb).2 n o h hi)
    exact ⟨xs, by rw [upd_ne nb]; exact e, d⟩
  · by_cases e : n = m
    · subst e
      exact absurd ((R.hid b hb).2 n o h hi') hl
    · rw [List.getElem?_set_ne e] at hm
      exact (R.hid b hb).2 m v hm hi'
theorem frz_take {q : Addr} {k : Nat} (f : Frz ι st q) : Frz (ι.tk k) (st.take k) q := ⟨f.1, fun n o h hi => by
  replace hi : (ι.ad.take k)[n]? = some q := hi
  rw [List.getElem?_take] at h hi
  split at h
  · rename_i hn
    rw [if_pos hn] at hi
    exact f.2 n o h hi
  · cases h⟩
theorem frz_takeK {k : Nat} : ∀ q u, H q = some u → Frz ι st q → Frz (ι.tk k) (st.take k) q ∧ Kp u (H q) := fun _ _ e f => ⟨frz_take f, .inl e⟩
theorem D.low_mono {k n : Nat} (h : n ≤ k) : ∀ {d : D}, d.low n = true → d.low k = true
  | .v _, _ => rfl
  | .ref m, q => decide_eq_true (Nat.lt_of_lt_of_le (of_decide_eq_true q) h)
  | .scr _, _ => rfl
theorem RD.take {k : Nat} {x : V} : ∀ {d : D}, d.low k = true → RD K ι st H x d → RD K (ι.tk k) (st.take k) H x d
  | .v d, _, h => Rp.mv frz_takeK h
  | .ref n, hl, ⟨a, h1, h2⟩ => ⟨a, by show (ι.ad.take k)[n]? = _; rw [List.getElem?_take, if_pos (of_decide_eq_true hl)]; exact h1, h2⟩
  | .scr ns, _, ⟨a, h1, h2⟩ => ⟨a, h1, h2.imp id fun ⟨o, q, f⟩ => ⟨o, q, frz_take f⟩⟩
theorem RK.take {k : Nat} : ∀ {kvs : List (PyData × D)} {xs : List (Key × V)}, kvs.all (fun p => p.2.low k) = true → RK K ι st H kvs xs → RK K (ι.tk k) (st.take k) H kvs xs
  | _, _, _, .nil => .nil
  | _, _, hl, .cons h r => by
    rw [List.all_cons, Bool.and_eq_true] at hl
    exact .cons ⟨h.1, h.2.take hl.1⟩ (RK.take hl.2 r)
theorem RT.take {k : Nat} : ∀ {kvs : List (PyData × D)} {xs : List (List Key × V)}, kvs.all (fun p => p.2.low k) = true → RT K ι st H kvs xs → RT K (ι.tk k) (st.take k) H kvs xs
  | _, _, _, .nil => .nil
  | _, _, hl, .cons h r => by
    rw [List.all_cons, Bool.and_eq_true] at hl
    exact .cons ⟨h.1, h.2.take hl.1⟩ (RT.take hl.2 r)
theorem RDA.take {k : Nat} : ∀ {ds : List D} {xs : List V}, ds.all (fun d => d.low k) = true → RDA K ι st H ds xs → RDA K (ι.tk k) (st.take k) H ds xs
  | _, _, _, .nil => .nil
  | _, _, hl, .cons h r => by
    rw [List.all_cons, Bool.and_eq_true] at hl
    exact .cons (h.take hl.1) (RDA.take hl.2 r)
theorem RTab.take {k : Nat} : ∀ {kvs : List (PyData × D)} {xs : List (NestedKey × Addr × V)}, kvs.all (fun p => p.2.low k) = true → RTab K ι st H kvs xs → RTab K (ι.tk k) (st.take k) H kvs xs
  | _, _, _, .nil => .nil
  | _, _, hl, .cons h r => by
    rw [List.all_cons, Bool.and_eq_true] at hl
    exact .cons ⟨h.1, Rp.mv frz_takeK h.2.1, h.2.2.take hl.1⟩ (RTab.take hl.2 r)
theorem SRel.take (R : SRel K ι st H) (k : Nat) : SRel K (ι.tk k) (st.take k) H := by
  refine ⟨by show (ι.ad.take k).length = _; rw [List.length_take, List.length_take, R.len], fun n o a h hi => ?_, fun i j b v w hib hjb h1 h2 l1 l2 => ?_, fun n v h => ?_, fun b hb => ⟨(R.hid b hb).1, fun n v h hi => ?_⟩, R.hf⟩
  · replace hi : (ι.ad.take k)[n]? = some a := hi
    rw [List.getElem?_take] at h hi
    split at h
    · rename_i hn
      rw [if_pos hn] at hi
      have q := R.obj n o a h hi
      have lw := R.low n o h
      cases o with
      | dead => trivial
      | lst ds =>
        obtain ⟨xs, e, r⟩ := q
        exact ⟨xs, e, RpA.mv frz_takeK r⟩
      | dct t kvs =>
        have lw' : kvs.all (fun p => p.2.low k) = true := List.all_eq_true.mpr fun p hp => D.low_mono (Nat.le_of_lt hn) (List.all_eq_true.mp lw p hp)
        cases t with
        | false => obtain ⟨xs, e, r⟩ := q; exact ⟨xs, e, r.take lw'⟩
        | true => obtain ⟨xs, e, r⟩ := q; exact ⟨xs, e, r.take lw'⟩
      | lck t kvs =>
        have lw' : kvs.all (fun p => p.2.low k) = true := List.all_eq_true.mpr fun p hp => D.low_mono (Nat.le_of_lt hn) (List.all_eq_true.mp lw p hp)
        cases t with
        | false => obtain ⟨xs, o, e, r⟩ := q; exact ⟨xs, o, e, r.take lw'⟩
        | true => obtain ⟨xs, o, e, r⟩ := q; exact ⟨xs, o, e, r.take lw'⟩
      | tpl ds =>
        have lw' : ds.all (fun d => d.low k) = true := List.all_eq_true.mpr fun p hp => D.low_mono (Nat.le_of_lt hn) (List.all_eq_true.mp lw p hp)
        obtain ⟨xs, o, e, r⟩ := q; exact ⟨xs, o, e, RDA.take lw' r⟩
      | tab kvs =>
        have lw' : kvs.all (fun p => p.2.low k) = true := List.all_eq_true.mpr fun p hp => D.low_mono (Nat.le_of_lt hn) (List.all_eq_true.mp lw p hp)
        obtain ⟨xs, e, r⟩ := q; exact ⟨xs, e, r.1, r.2.1, r.2.2.1, RTab.take lw' r.2.2.2⟩
    · cases h
  · replace hib : (ι.ad.take k)[i]? = some b := hib
    replace hjb : (ι.ad.take k)[j]? = some b := hjb
    rw [List.getElem?_take] at hib hjb h1 h2
    split at h1
    · split at h2
      · rename_i a1 a2
        rw [if_pos a1] at hib
        rw [if_pos a2] at hjb
        exact R.inj i j b v w hib hjb h1 h2 l1 l2
      · cases h2
    · cases h1
  · rw [List.getElem?_take] at h
    split at h
    · exact R.low n v h
    · cases h
  · replace hi : (ι.ad.take k)[n]? = some b := hi
    rw [List.getElem?_take] at h hi
    split at h
    · rename_i hn
      rw [if_pos hn] at hi
      exact (R.hid b hb).2 n v h hi
    · cases h
end
end Fw
namespace Fw
open PySem PySem.Spec PyProof.Rows L2
section
variable {K : PySem.W.Frag} {W : XW} {ι : Gh} {st : Sto} {H : Hp} {Q : VK}
theorem PO1.same (h : PO1 K ι st H Q d st) (R : SRel K ι st H) {x : V} (r : RD K ι st H x d) : Q x H := h ι H x R Ext.refl r
theorem PO1.newTup {xs : List V} {ds : List PyData} (h : PO1 K ι st H Q (.v (.tuple ds)) st) (R : SRel K ι st H) (r : RpA (Frz ι st) H xs ds) {p : Addr} (hp : H p = none) {o : Obj} (ho : o.dict = none) (hf : HF (upd H p (.frz o (.tup xs)))) : Q (.ref p) (upd H p (.frz o (.tup xs))) :=
  h ι _ _ (R.fresh hp hf) (Ext.fresh R hp) (.tup upd_same ho (R.frz_new hp) (r.ext (Ext.fresh R hp)))
def KTup (H : Hp) (a : Addr) (xs : List V) : Prop := ∃ o, H a = some (.frz o (.tup xs)) ∧ o.dict = none
theorem KTup.sq {K : PySem.W.Frag} {H : Hp} {a : Addr} {xs : List V} (h : KTup H a xs) : SqT K H a xs := let ⟨o, h, _⟩ := h; .inl (.inr ⟨o, h⟩)
def NewT (H : Hp) (xs : List V) (Q : VK) : Prop := ∀ p o, H p = none → o.dict = none → Q (.ref p) (upd H p (.frz o (.tup xs)))
theorem NewT.laid {X : Cx} {pins : List (Addr × Obj)} {σ : L2.St} {H : Hp} {s : Shared} {Q : VK} {xs : List V} {its : List Value} {t' : Nat} (I : Inv X pins σ H s) (hv : Vals xs its) (hz : xs.length ≤ sizeLine) (q : NewT H xs Q) :
    EP X pins σ Q (.ref s.heap.objs.size) { s with heap := s.heap.push { cls := .type "tuple", data := .seq its.toArray }, toks := t' } := by
  have hf : H s.heap.objs.size = none := I.hok.fresh (Nat.le_refl _)
  refine ⟨.ref s.heap.objs.size, upd H s.heap.objs.size (.frz { cls := .type "tuple", data := .seq its.toArray } (.tup xs)), I.laid (t' := t') (fun b u e => Heap.get?_push_of_some _ e) (Nat.le_refl _) ?_, rfl, q _ _ hf rfl⟩
  exact ⟨Heap.get?_push_size _ rfl, hz, its, hv, IsTup.new _ _⟩
theorem pe_tupN {X : Cx} {es : List Expr} {t : TA} {x1} {pos : Pos} (h : PA X es t) : PE X (.Tuple es x1 pos) (fun σ H Q => t σ H fun xs H1 => xs.length ≤ sizeLine ∧ NewT H1 xs Q) :=
  ⟨fun pins s σ H Q I hq => wpAny_Tuple_spliced (thn (h.run pos pins s σ H _ I hq) fun us s1 ⟨xs, H1, I1, r, z, q⟩ => ⟨by rw [← r.length]; exact z, q.laid (t' := s1.toks) I1 r z⟩)⟩
theorem PO1.newLst {xs : List V} {ds : List PyData} (h : PO1 K ι st H Q (.v (.list ds)) st) (R : SRel K ι st H) (r : RpA (Frz ι st) H xs ds) {p : Addr} (hp : H p = none) (hf : HF (upd H p (.lst xs))) : Q (.ref p) (upd H p (.lst xs)) :=
  h ι _ _ (R.fresh hp hf) (Ext.fresh R hp) (.lst upd_same (R.frz_new hp) (r.ext (Ext.fresh R hp)))
end
def viewL (st : Sto) : D → Option (List PyData)
  | .v (.list xs) => some xs
  | .ref n => match st[n]? with
    | some (.lst xs) => some xs
    | _ => none
  | _ => none
def viewS (st : Sto) : D → Option (List PyData)
  | .v (.tuple xs) => some xs
  | d => viewL st d
def viewP (st : Sto) : D → Option PyData
  | .v d => some d
  | d => (viewL st d).map .list
theorem viewL_at {K : PySem.W.Frag} {ι : Gh} {st : Sto} {H : Hp} (R : SRel K ι st H) {x : V} {d : D} {ds : List PyData} (e : viewL st d = some ds) (r : RD K ι st H x d) : ∃ a xs, x = .ref a ∧ H a = some (.lst xs) ∧ RpA (Frz ι st) H xs ds := by
  cases d with
  | v z =>
    cases z with
    | list zs =>
      have e' : zs = ds := Option.some.inj e
      subst e'
      have r' : Rp (Frz ι st) H x (.list zs) := r
      cases r' with
      | lst h _ t => exact ⟨_, _, rfl, h, t⟩
    | _ => cases e
  | scr ns => cases e
  | ref n =>
    obtain ⟨a, h1, h2⟩ := r
    cases q : st[n]? with
    | none =>
      simp only [viewL, q] at e
      cases e
    | some o =>
      simp only [viewL, q] at e
      cases o with
      | lst zs =>
        have e' : zs = ds := Option.some.inj e
        subst e'
        obtain ⟨xs, e1, r⟩ := R.obj n _ a q h1
        exact ⟨a, xs, h2, e1, r⟩
      | dead => cases e
      | dct _ _ => cases e
      | lck _ _ => cases e
      | tpl _ => cases e
      | tab _ => cases e
theorem viewS_at {K : PySem.W.Frag} {ι : Gh} {st : Sto} {H : Hp} (R : SRel K ι st H) {x : V} {d : D} {ds : List PyData} (e : viewS st d = some ds) (r : RD K ι st H x d) :
    ∃ a xs, x = .ref a ∧ (H a = some (.lst xs) ∨ KTup H a xs) ∧ RpA (Frz ι st) H xs ds := by
  have other : viewL st d = some ds → ∃ a xs, x = .ref a ∧ (H a = some (.lst xs) ∨ KTup H a xs) ∧ RpA (Frz ι st) H xs ds := fun q =>
    let ⟨a, xs, h1, h2, h3⟩ := viewL_at R q r
    ⟨a, xs, h1, .inl h2, h3⟩
  cases d with
  | v z =>
    cases z with
    | tuple zs =>
      have e' : zs = ds := Option.some.inj e
      subst e'
      have r' : Rp (Frz ι st) H x (.tuple zs) := r
      cases r' with
      | tup h z _ t => exact ⟨_, _, rfl, .inr ⟨_, h, z⟩, t⟩
    | list _ => exact other e
    | _ => cases e
  | ref n => exact other e
  | scr ns => exact other e
theorem viewS_atF {K : PySem.W.Frag} {ι : Gh} {st : Sto} {H : Hp} (R : SRel K ι st H) {x : V} {d : D} {ds : List PyData} (e : viewS st d = some ds) (r : RD K ι st H x d) :
    ∃ a xs, x = .ref a ∧ (H a = some (.lst xs) ∨ KTup H a xs ∧ Frz ι st a) ∧ RpA (Frz ι st) H xs ds := by
  have other : viewL st d = some ds → ∃ a xs, x = .ref a ∧ (H a = some (.lst xs) ∨ KTup H a xs ∧ Frz ι st a) ∧ RpA (Frz ι st) H xs ds := fun q =>
    let ⟨a, xs, h1, h2, h3⟩ := viewL_at R q r
    ⟨a, xs, h1, .inl h2, h3⟩
  cases d with
  | v z =>
    cases z with
    | tuple zs =>
      have e' : zs = ds := Option.some.inj e
      subst e'
      have r' : Rp (Frz ι st) H x (.tuple zs) := r
      cases r' with
      | tup h z f t => exact ⟨_, _, rfl, .inr ⟨⟨_, h, z⟩, f⟩, t⟩
    | list _ => exact other e
    | _ => cases e
  | ref n => exact other e
  | scr ns => exact other e
mutual
theorem Rp.dp {K : PySem.W.Frag} {F : Addr → Prop} {H : Hp} : ∀ {x : V} {d : PyData}, Rp F H x d → d.hasDict = false → Dp K H x d
  | _, _, .non, _ => .non
  | _, _, .bl b, _ => .bl b
  | _, _, .int i, _ => .int i
  | _, _, .str z, _ => .str z
  | _, _, .lst h _ r, q => .lst (.of h) (RpA.dp r (by simpa [PyData.hasDict] using q))
  | _, _, .tup h _ _ r, q => .tup (.inl (.inr ⟨_, h⟩)) (RpA.dp r (by simpa [PyData.hasDict] using q))
  | _, _, .dcK _ _ _, q => by simp [PyData.hasDict] at q
  | _, _, .dcT _ _ _ _, q => by simp [PyData.hasDict] at q
theorem RpA.dp {K : PySem.W.Frag} {F : Addr → Prop} {H : Hp} : ∀ {xs : List V} {ds : List PyData}, RpA F H xs ds → PyData.hasDictAll ds = false → DpAll K H xs ds
  | _, _, .nil, _ => .nil
  | _, _, .cons h r, q => by
    have q' := q
    simp only [PyData.hasDictAll, Bool.or_eq_false_iff] at q'
    exact .cons (Rp.dp h q'.1) (RpA.dp r q'.2)
end
theorem viewP_at {K : PySem.W.Frag} {ι : Gh} {st : Sto} {H : Hp} (R : SRel K ι st H) {x : V} {d : D} {z : PyData} (e : viewP st d = some z) (r : RD K ι st H x d) (hn : z.hasDict = false) : Dp K H x z := by
  have other : (viewL st d).map PyData.list = some z → Dp K H x z := fun q => by
    obtain ⟨ds, q1, rfl⟩ := Option.map_eq_some_iff.mp q
    obtain ⟨a, xs, rfl, h2, h3⟩ := viewL_at R q1 r
    exact .lst (.of h2) (h3.dp (by simpa [PyData.hasDict] using hn))
  cases d with
  | v d =>
    cases e
    exact Rp.dp r hn
  | ref n => exact other e
  | scr ns => exact other e
def mVar (i : Nat) : ME := fun env st => match env[i]? with
  | some (some d) => .ok d st
  | _ => .stuck
def mC (d : PyData) : ME := fun _ st => .ok (.v d) st
abbrev F1 := D → Sto → Out D
abbrev F2 := D → D → Sto → Out D
abbrev FA := List D → Sto → Out D
def mUn (f : F1) (ma : ME) : ME := fun env st => (ma env st).bind fun a s1 => f a s1
def mBin (f : F2) (ma mb : ME) : ME := fun env st => (ma env st).bind fun a s1 => (mb env s1).bind fun b s2 => f a b s2
def mArg (f : FA) (ma : MA) : ME := fun env st => (ma env st).bind fun ds s1 => f ds s1
def mNil : MA := fun _ st => .ok [] st
def mCons (ma : ME) (mr : MA) : MA := fun env st => (ma env st).bind fun a s1 => (mr env s1).bind fun ds s2 => .ok (a :: ds) s2
def Op1 (K : PySem.W.Frag) (W : XW) (r : V → Hp → VK → Prop) (f : F1) : Prop := ∀ (ι : Gh) (st : Sto) (H : Hp) (x : V) (a : D) (Q : VK), SRel K ι st H → RD K ι st H x a →
  (f a st).post (PO1 K ι st H Q) (PX1 K W ι st H) → r x H (fun v H' => HF H' → Q v H')
def Op2 (K : PySem.W.Frag) (W : XW) (r : R2) (f : F2) : Prop := ∀ (ι : Gh) (st : Sto) (H : Hp) (x y : V) (a b : D) (Q : VK), SRel K ι st H → RD K ι st H x a → RD K ι st H y b →
  (f a b st).post (PO1 K ι st H Q) (PX1 K W ι st H) → r x y H (fun v H' => HF H' → Q v H')
def OpA (K : PySem.W.Frag) (W : XW) (r : List V → Hp → VK → Prop) (f : FA) : Prop := ∀ (ι : Gh) (st : Sto) (H : Hp) (xs : List V) (ds : List D) (Q : VK), SRel K ι st H → RDs K ι st H xs ds →
  (f ds st).post (PO1 K ι st H Q) (PX1 K W ι st H) → r xs H (fun v H' => HF H' → Q v H')
section
variable {K : PySem.W.Frag} {W : XW} {σ : L2.St} {H : Hp} {Q : VK} {ma mb : ME}
theorem te_un {r : V → Hp → VK → Prop} {f : F1} (hf : Op1 K W r f) (h : TEo K W (mUn f ma) σ H Q) : TEo K W ma σ H fun x H1 => r x H1 (fun v H' => HF H' → Q v H') := by
  obtain ⟨ι, env, st, R, EV, p⟩ := h
  refine ⟨ι, env, st, R, EV, Out.post_mono (Out.post_bind p) (fun a s1 q ι1 H1 x R1 E1 ra => ?_) fun _ _ q => q⟩
  exact hf ι1 s1 H1 x a Q R1 ra (Out.post_mono q (fun _ _ z => z.ext E1) fun _ _ z => z.ext E1)
theorem te_bin {r : R2} {f : F2} (hf : Op2 K W r f) (h : TEo K W (mBin f ma mb) σ H Q) : tOp r (TEo K W ma) (TEo K W mb) σ H (fun v H' => HF H' → Q v H') := by
  obtain ⟨ι, env, st, R, EV, p⟩ := h
  refine ⟨ι, env, st, R, EV, Out.post_mono (Out.post_bind p) (fun a s1 q ι1 H1 x R1 E1 ra => ?_) fun _ _ q => q⟩
  refine ⟨ι1, env, s1, R1, EV.ext E1, Out.post_mono (Out.post_bind q) (fun b s2 q2 ι2 H2 y R2 E2 rb => ?_) fun _ _ z => z.ext E1⟩
  exact hf ι2 s2 H2 x y a b Q R2 (ra.ext E2) rb (Out.post_mono q2 (fun _ _ z => (z.ext E1).ext E2) fun _ _ z => (z.ext E1).ext E2)
theorem te_arg {r : List V → Hp → VK → Prop} {f : FA} {m : MA} (hf : OpA K W r f) (h : TEo K W (mArg f m) σ H Q) : TAo K W m σ H fun xs H1 => r xs H1 (fun v H' => HF H' → Q v H') := by
  obtain ⟨ι, env, st, R, EV, p⟩ := h
  refine ⟨ι, env, st, R, EV, Out.post_mono (Out.post_bind p) (fun a s1 q ι1 H1 x R1 E1 ra => ?_) fun _ _ q => q⟩
  exact hf ι1 s1 H1 x a Q R1 ra (Out.post_mono q (fun _ _ z => z.ext E1) fun _ _ z => z.ext E1)
end
section
variable {X : Cx} {W : XW} {a b e : Expr} {es : List Expr} {ma mb : ME} {pos : Pos}
theorem x_var (i : Nat) {x : Str} (h : PE X (.Name x pos) (tVar i)) : PE X (.Name x pos) (TEo X.K W (mVar i)) := pe_wrap h fun σ H Q q => by
  obtain ⟨ι, env, st, R, EV, p⟩ := q
  unfold mVar at p
  cases e : env[i]? with
  | none => rw [e] at p; exact p.elim
  | some o =>
    rw [e] at p
    cases o with
    | none => exact p.elim
    | some d =>
      obtain ⟨x, h1, h2⟩ := EV.2 i d e
      exact ⟨x, h1, fun _ => p ι H x R Ext.refl h2⟩
theorem x_const {v : V} {d : PyData} (h : PE X e (tC v)) (r : ∀ F H, Rp F H v d) : PE X e (TEo X.K W (mC d)) := pe_wrap h fun σ H Q q => by
  obtain ⟨ι, env, st, R, EV, p⟩ := q
  exact fun _ => p ι H v R Ext.refl (r _ _)
theorem x_int {i : Int} {j} : PE X (.Constant (.int i) j pos) (TEo X.K W (mC (.int i))) := x_const pe_int fun _ _ => .int i
theorem x_bl {i : Bool} {j} : PE X (.Constant (.bool i) j pos) (TEo X.K W (mC (.bool i))) := x_const pe_bl fun _ _ => .bl i
theorem x_non {j} : PE X (.Constant .none j pos) (TEo X.K W (mC .none)) := x_const pe_non fun _ _ => .non
theorem x_str {z : Str} {j} : PE X (.Constant (.str z) j pos) (TEo X.K W (mC (.str z))) := x_const pe_str fun _ _ => .str z
theorem x_op {op : Operator} {r : R2} {f : F2} (ho : OpR X (binaryOp op) r) (hf : Op2 X.K W r f) (ha : PE X a (TEo X.K W ma)) (hb : PE X b (TEo X.K W mb)) : PE X (.BinOp a op b pos) (TEo X.K W (mBin f ma mb)) :=
  pe_wrap (pe_op ho ha hb) fun σ H Q q => te_bin hf q
theorem x_un {op : UnaryOp} {r : V → Hp → VK → Prop} {f : F1} (ho : UnR X (unaryOp op) r) (hf : Op1 X.K W r f) (ha : PE X a (TEo X.K W ma)) : PE X (.UnaryOp op a pos) (TEo X.K W (mUn f ma)) :=
  pe_wrap (pe_un ho ha) fun σ H Q q => te_un hf q
theorem xa_nil : PA X [] (TAo X.K W mNil) := pa_wrap pa_nil fun σ H Q q => by
  obtain ⟨ι, env, st, R, EV, p⟩ := q
  exact fun _ => p ι H [] R Ext.refl .nil
theorem xa_cons {mr : MA} (ha : PE X e (TEo X.K W ma)) (hr : PA X es (TAo X.K W mr)) (hs : starEach (e :: es) X.env = (false, eval e X.env) :: starEach es X.env := by rfl) : PA X (e :: es) (TAo X.K W (mCons ma mr)) :=
  pa_wrap (pa_cons ha hr hs) fun σ H Q q => by
    obtain ⟨ι, env, st, R, EV, p⟩ := q
    refine ⟨ι, env, st, R, EV, Out.post_mono (Out.post_bind p) (fun a s1 q ι1 H1 x R1 E1 ra => ?_) fun _ _ q => q⟩
    refine ⟨ι1, env, s1, R1, EV.ext E1, Out.post_mono (Out.post_bind q) (fun b s2 q2 ι2 H2 y R2 E2 rb => ?_) fun _ _ z => z.ext E1⟩
    exact fun _ => q2 ι2 H2 (x :: y) R2 (E1.trans E2) (.cons (ra.ext E2) rb)
theorem x_callB {id : String} {x : Str} {p : Pos} {r : List V → Hp → VK → Prop} {f : FA} {m : MA} (hc : CallR X (.builtin id) r) (hf : OpA X.K W r f) (hg : Gl X x) (hm : X.mg x = none) (hv : bootBuiltins x = some (.builtin id)) (ha : PA X (e :: es) (TAo X.K W m)) (hn : x ≠ "__name__" := by decide) (hdb : (x == ("__debug__" : Str)) = false := by decide)
    (he : starEach (e :: es) X.env = (false, eval e X.env) :: starEach es X.env := by rfl) (hpl : (backTo pos (starEach es X.env)).any (·.1) = false := by rfl) : PE X (.Call (.Name x p) (e :: es) [] pos) (TEo X.K W (mArg f m)) :=
  pe_wrap (pe_callB hc hg hm hv ha hn hdb he hpl) fun σ H Q q => te_arg hf q
theorem x_callT {T : String} {x : Str} {p : Pos} {r : List V → Hp → VK → Prop} {f : FA} {m : MA} (hc : CallR X (.type T) r) (hf : OpA X.K W r f) (hg : Gl X x) (hm : X.mg x = none) (hv : bootBuiltins x = some (.type T)) (ha : PA X (e :: es) (TAo X.K W m)) (hn : x ≠ "__name__" := by decide) (hdb : (x == ("__debug__" : Str)) = false := by decide)
    (he : starEach (e :: es) X.env = (false, eval e X.env) :: starEach es X.env := by rfl) (hpl : (backTo pos (starEach es X.env)).any (·.1) = false := by rfl) : PE X (.Call (.Name x p) (e :: es) [] pos) (TEo X.K W (mArg f m)) :=
  pe_wrap (pe_callTy hc hg hm hv ha hn hdb he hpl) fun σ H Q q => te_arg hf q
def valsOf : List D → Option (List PyData)
  | [] => some []
  | .v d :: r => (valsOf r).map (d :: ·)
  | _ :: _ => none
def fTup : FA := fun ds st => match valsOf ds with
  | some zs => if zs.length ≤ 1000 then .ok (.v (.tuple zs)) st else .stuck
  | none => .stuck
theorem lim1000 {n : Nat} (h : n ≤ 1000) : n ≤ sizeLine := Nat.le_of_lt (small1000 h)
theorem valsOf_at {K : PySem.W.Frag} {ι : Gh} {st : Sto} {H : Hp} : ∀ {ds : List D} {zs : List PyData} {xs : List V}, valsOf ds = some zs → RDs K ι st H xs ds → RpA (Frz ι st) H xs zs
  | [], _, _, e, .nil => by cases e; exact .nil
  | .v d :: r, _, _, e, .cons h t => by
    obtain ⟨ws, e1, rfl⟩ := Option.map_eq_some_iff.mp (show (valsOf r).map (d :: ·) = _ from e)
    exact .cons h (valsOf_at e1 t)
theorem xs_len {F : Addr → Prop} {H : Hp} {xs : List V} {ds : List PyData} (r : RpA F H xs ds) {n : Nat} (h : ds.length ≤ n) : xs.length ≤ n := by
  rw [r.length]
  exact h
theorem opTup {K : PySem.W.Frag} {W : XW} : OpA K W (fun xs H Q => xs.length ≤ sizeLine ∧ NewT H xs Q) fTup := by
  intro ι st H xs ds Q R r p
  unfold fTup at p
  cases e : valsOf ds with
  | none => rw [e] at p; exact p.elim
  | some zs =>
    rw [e] at p
    have p : (if zs.length ≤ 1000 then Out.ok (D.v (.tuple zs)) st else .stuck).post (PO1 K ι st H Q) (PX1 K W ι st H) := p
    split at p
    · rename_i hl
      have ra := valsOf_at e r
      exact ⟨lim1000 (xs_len ra hl), fun q o hq ho hf => PO1.newTup p R ra hq ho hf⟩
    · exact p.elim
theorem x_tup {k : Nat} {m : MA} (h : PA X es (TAo X.K W m)) : PE X (.Tuple es k pos) (TEo X.K W (mArg fTup m)) := pe_wrap (pe_tupN h) fun σ H Q q => te_arg opTup q
theorem RDs.length {K : PySem.W.Frag} {ι : Gh} {st : Sto} {H : Hp} {xs : List V} {ds : List D} (h : RDs K ι st H xs ds) : xs.length = ds.length := Paired.length h
end
end Fw
namespace Fw
open PySem PySem.Spec PyProof.Rows L2
def iOf : D → Option Int
  | .v (.int i) => some i
  | _ => none
def bOf : D → Option Bool
  | .v (.bool b) => some b
  | _ => none
def sOf : D → Option Str
  | .v (.str z) => some z
  | _ => none
def tOf : D → Option (List PyData)
  | .v (.tuple xs) => some xs
  | _ => none
def lim : Nat := 1000000
theorem lim_ok {n : Nat} (h : n ≤ lim) : n ≤ sizeLine := Nat.le_trans h (by decide)
section
variable {K : PySem.W.Frag} {W : XW} {ι : Gh} {st : Sto} {H : Hp} {x : V} {d : D}
theorem iOf_at {i : Int} (e : iOf d = some i) (r : RD K ι st H x d) : x = .int i := by
  cases d with
  | v z =>
    cases z with
    | int j =>
      have e' : j = i := Option.some.inj e
      subst e'
      have r' : Rp (Frz ι st) H x (.int j) := r
      cases r'
      rfl
    | _ => cases e
  | _ => cases e
theorem bOf_at {i : Bool} (e : bOf d = some i) (r : RD K ι st H x d) : x = .bl i := by
  cases d with
  | v z =>
    cases z with
    | bool j =>
      have e' : j = i := Option.some.inj e
      subst e'
      have r' : Rp (Frz ι st) H x (.bool j) := r
      cases r'
      rfl
    | _ => cases e
  | _ => cases e
theorem sOf_at {i : Str} (e : sOf d = some i) (r : RD K ι st H x d) : x = .str i := by
  cases d with
  | v z =>
    cases z with
    | str j =>
      have e' : j = i := Option.some.inj e
      subst e'
      have r' : Rp (Frz ι st) H x (.str j) := r
      cases r'
      rfl
    | _ => cases e
  | _ => cases e
theorem tOf_at {ds : List PyData} (e : tOf d = some ds) (r : RD K ι st H x d) : ∃ a xs, x = .ref a ∧ KTup H a xs ∧ RpA (Frz ι st) H xs ds := by
  cases d with
  | v z =>
    cases z with
    | tuple zs =>
      have e' : zs = ds := Option.some.inj e
      subst e'
      have r' : Rp (Frz ι st) H x (.tuple zs) := r
      cases r' with
      | tup h z _ t => exact ⟨_, _, rfl, ⟨_, h, z⟩, t⟩
    | _ => cases e
  | _ => cases e
theorem tOf_eq {ds : List PyData} (e : tOf d = some ds) : d = .v (.tuple ds) := by
  cases d with
  | v z =>
    cases z with
    | tuple zs =>
      have e' : zs = ds := Option.some.inj e
      subst e'
      rfl
    | _ => cases e
  | _ => cases e
end
def addD : F2 := fun a b st =>
  match iOf a, iOf b with
  | some i, some j => .ok (.v (.int (i + j))) st
  | _, _ => match tOf a, tOf b with
    | some xs, some ys => if xs.length + ys.length ≤ lim then .ok (.v (.tuple (xs ++ ys))) st else .stuck
    | _, _ => match viewL st a, viewL st b with
      | some xs, some ys => if xs.length + ys.length ≤ lim then .ok (.v (.list (xs ++ ys))) st else .stuck
      | _, _ => match sOf a, sOf b with
        | some y, some z => if y.length + z.length ≤ lim then .ok (.v (.str (y ++ z))) st else .stuck
        | _, _ => .stuck
def rStrAdd : R2 := fun x y H Q => ∃ i j, x = .str i ∧ y = .str j ∧ i.length + j.length ≤ sizeLine ∧ Q (.str (i ++ j)) H
def rCatN (K : PySem.W.Frag) : R2 := fun x y H Q => ∃ a b xs ys, x = .ref a ∧ y = .ref b ∧ SqT K H a xs ∧ SqT K H b ys ∧ xs.length + ys.length ≤ sizeLine ∧
  (xs = [] → Q (.ref b) H) ∧ (xs ≠ [] → ys = [] → Q (.ref a) H) ∧ (xs ≠ [] → ys ≠ [] → NewT H (xs ++ ys) Q)
theorem op_catN {X : Cx} : OpR X (binaryOp .Add) (rCatN X.K) := by
  intro pins s σ H x y v u Q I rx ry h
  obtain ⟨a, b, xs, ys, rfl, rfl, ha, hb, hz, q0, q1, q2⟩ := h
  cases rx
  cases ry
  obtain ⟨its, r1, p1, _⟩ := I.tuple ha
  obtain ⟨its2, r2, p2, _⟩ := I.tuple hb
  by_cases hx : xs = []
  · subst hx
    cases r1
    exact cat_tup0 p1 p2 ⟨.ref b, H, I, rfl, q0 rfl⟩
  · refine HT.cat_tup p1 p2 (fun z => hx (r1.nil_iff.mp z)) (fun z => ⟨.ref a, H, I, rfl, q1 hx (r2.nil_iff.mp z)⟩) (fun z => ?_) ?_
    · exact (q2 hx fun w => z (r2.nil_iff.mpr w)).laid (t' := s.toks) I (r1.append r2) (by rw [List.length_append]; exact hz)
    · rw [← r1.length, ← r2.length]
      exact hz
def rAddU (K : PySem.W.Frag) : R2 := fun x y H Q => rI0 (fun i j => .int (i + j)) x y H Q ∨ rCatN K x y H Q ∨ rCat x y H Q ∨ rStrAdd x y H Q
theorem or_addU {X : Cx} : OpR X (binaryOp .Add) (rAddU X.K) := op_add.or (op_catN.or (op_cat.or op_add_str))
theorem op2_add {K : PySem.W.Frag} {W : XW} : Op2 K W (rAddU K) addD := by
  intro ι st H x y a b Q R ra rb p
  unfold addD at p
  split at p
  · rename_i i j e1 e2
    exact .inl ⟨i, j, iOf_at e1 ra, iOf_at e2 rb, fun _ => p.same R (.int _)⟩
  · split at p
    · rename_i xs ys e1 e2
      split at p
      · rename_i hl
        obtain ⟨a1, us, rfl, h1, r1⟩ := tOf_at e1 ra
        obtain ⟨b1, vs, rfl, h2, r2⟩ := tOf_at e2 rb
        have hz : us.length + vs.length ≤ sizeLine := by rw [r1.length, r2.length]; exact lim_ok hl
        refine .inr (.inl ⟨a1, b1, us, vs, rfl, rfl, h1.sq, h2.sq, hz, fun z => ?_, fun _ z => ?_, fun _ _ q o hq ho hf => ?_⟩)
        · subst z
          cases r1
          intro _
          rw [tOf_eq e2] at rb
          exact p.same R rb
        · subst z
          cases r2
          intro _
          rw [tOf_eq e1] at ra
          rw [List.append_nil] at p
          exact p.same R ra
        · exact p.newTup R (r1.append r2) hq ho hf
      · exact p.elim
    · split at p
      · rename_i xs ys e1 e2
        split at p
        · rename_i hl
          obtain ⟨a1, us, rfl, h1, r1⟩ := viewL_at R e1 ra
          obtain ⟨b1, vs, rfl, h2, r2⟩ := viewL_at R e2 rb
          have hz : us.length + vs.length ≤ sizeLine := by rw [r1.length, r2.length]; exact lim_ok hl
          exact .inr (.inr (.inl ⟨a1, b1, us, vs, rfl, rfl, h1, h2, hz, fun q hq hf => p.newLst R (r1.append r2) hq hf⟩))
        · exact p.elim
      · split at p
        · rename_i y1 z1 e1 e2
          split at p
          · rename_i hl
            exact .inr (.inr (.inr ⟨y1, z1, sOf_at e1 ra, sOf_at e2 rb, lim_ok hl, fun _ => p.same R (.str _)⟩))
          · exact p.elim
        · exact p.elim
def intD (C : Int → Int → Bool) (g : Int → Int → PyData) : F2 := fun a b st => match iOf a, iOf b with
  | some i, some j => if C i j then .ok (.v (g i j)) st else .stuck
  | _, _ => .stuck
theorem op2_int {K : PySem.W.Frag} {W : XW} {C : Int → Int → Bool} {C' : Int → Int → Prop} {g : Int → Int → PyData} {g' : Int → Int → V} (hc : ∀ i j, C i j = true → C' i j) (hg : ∀ F H i j, Rp F H (g' i j) (g i j)) : Op2 K W (rI C' g') (intD C g) := by
  intro ι st H x y a b Q R ra rb p
  unfold intD at p
  split at p
  · rename_i i j e1 e2
    split at p
    · rename_i h
      exact ⟨i, j, iOf_at e1 ra, iOf_at e2 rb, hc i j h, fun _ => p.same R (hg _ _ i j)⟩
    · exact p.elim
  · exact p.elim
def intD0 (g : Int → Int → PyData) : F2 := fun a b st => match iOf a, iOf b with
  | some i, some j => .ok (.v (g i j)) st
  | _, _ => .stuck
theorem op2_int0 {K : PySem.W.Frag} {W : XW} {g : Int → Int → PyData} {g' : Int → Int → V} (hg : ∀ F H i j, Rp F H (g' i j) (g i j)) : Op2 K W (rI0 g') (intD0 g) := by
  intro ι st H x y a b Q R ra rb p
  unfold intD0 at p
  split at p
  · rename_i i j e1 e2
    exact ⟨i, j, iOf_at e1 ra, iOf_at e2 rb, fun _ => p.same R (hg _ _ i j)⟩
  · exact p.elim
abbrev subD : F2 := intD0 fun i j => .int (i - j)
def cMul (i j : Int) : Bool := (decide (-(2 ^ 64) < i) && decide (i < 2 ^ 64)) || (decide (-(2 ^ 64) < j) && decide (j < 2 ^ 64))
theorem cMul_ok {i j : Int} (h : cMul i j = true) : CMul i j := by
  unfold cMul at h
  simp only [Bool.or_eq_true, Bool.and_eq_true, decide_eq_true_eq] at h
  exact h
def mulD : F2 := fun a b st => match iOf a, iOf b with
  | some i, some j => if cMul i j then .ok (.v (.int (i * j))) st else .stuck
  | _, _ => match viewL st a, iOf b with
    | some xs, some k => if -1000000 ≤ k ∧ k ≤ 1000000 ∧ xs.length * k.toNat ≤ lim then .ok (.v (.list (List.replicate k.toNat xs).flatten)) st else .stuck
    | _, _ => .stuck
theorem op2_mul {K : PySem.W.Frag} {W : XW} : Op2 K W (fun x y H Q => rI CMul (fun i j => .int (i * j)) x y H Q ∨ rRep x y H Q) mulD := by
  intro ι st H x y a b Q R ra rb p
  unfold mulD at p
  split at p
  · rename_i i j e1 e2
    split at p
    · rename_i h
      exact .inl ⟨i, j, iOf_at e1 ra, iOf_at e2 rb, cMul_ok h, fun _ => p.same R (.int _)⟩
    · exact p.elim
  · split at p
    · rename_i xs k e1 e2
      split at p
      · rename_i h
        obtain ⟨a1, us, rfl, h1, r1⟩ := viewL_at R e1 ra
        refine .inr ⟨a1, k, us, rfl, iOf_at e2 rb, h1, by omega, by omega, by rw [r1.length]; exact lim_ok h.2.2, fun q hq hf => p.newLst R (r1.rep _) hq hf⟩
      · exact p.elim
    · exact p.elim
def cDiv (i j : Int) : Bool := decide (j ≠ 0) && decide (j.natAbs < 1073741824)
theorem cDiv_ok {i j : Int} (h : cDiv i j = true) : CDivN i j := by
  unfold cDiv at h
  simp only [Bool.and_eq_true, decide_eq_true_eq] at h
  exact h
abbrev fdivD : F2 := intD cDiv fun i j => .int (i.fdiv j)
abbrev modD : F2 := intD (fun _ j => decide (j ≠ 0)) fun i j => .int (i.fmod j)
section
variable {X : Cx} {W : XW} {a b e : Expr} {ma mb : ME} {pos : Pos}
theorem x_add (ha : PE X a (TEo X.K W ma)) (hb : PE X b (TEo X.K W mb)) : PE X (.BinOp a .Add b pos) (TEo X.K W (mBin addD ma mb)) := x_op or_addU op2_add ha hb
theorem x_sub (ha : PE X a (TEo X.K W ma)) (hb : PE X b (TEo X.K W mb)) : PE X (.BinOp a .Sub b pos) (TEo X.K W (mBin subD ma mb)) := x_op op_sub (op2_int0 fun _ _ _ _ => .int _) ha hb
theorem x_mul (ha : PE X a (TEo X.K W ma)) (hb : PE X b (TEo X.K W mb)) : PE X (.BinOp a .Mult b pos) (TEo X.K W (mBin mulD ma mb)) := x_op (op_mul.or op_rep) op2_mul ha hb
theorem x_fdiv (ha : PE X a (TEo X.K W ma)) (hb : PE X b (TEo X.K W mb)) : PE X (.BinOp a .FloorDiv b pos) (TEo X.K W (mBin fdivD ma mb)) := x_op op_fdivN (op2_int (fun _ _ => cDiv_ok) fun _ _ _ _ => .int _) ha hb
theorem x_mod (ha : PE X a (TEo X.K W ma)) (hb : PE X b (TEo X.K W mb)) : PE X (.BinOp a .Mod b pos) (TEo X.K W (mBin modD ma mb)) := x_op op_modN (op2_int (fun _ _ h => of_decide_eq_true h) fun _ _ _ _ => .int _) ha hb
end
def negD : F1 := fun a st => match iOf a with
  | some i => .ok (.v (.int (-i))) st
  | none => .stuck
theorem op1_neg {K : PySem.W.Frag} {W : XW} : Op1 K W (rU fun i => .int (-i)) negD := by
  intro ι st H x a Q R ra p
  unfold negD at p
  split at p
  · rename_i i e
    exact ⟨i, iOf_at e ra, fun _ => p.same R (.int _)⟩
  · exact p.elim
theorem x_neg {X : Cx} {W : XW} {a : Expr} {ma : ME} {pos : Pos} (ha : PE X a (TEo X.K W ma)) : PE X (.UnaryOp .USub a pos) (TEo X.K W (mUn negD ma)) := x_un un_neg op1_neg ha
abbrev ltD : F2 := intD0 fun i j => .bool (decide (i < j))
abbrev leD : F2 := intD0 fun i j => .bool (decide (i ≤ j))
abbrev gtD : F2 := intD0 fun i j => .bool (decide (j < i))
abbrev geD : F2 := intD0 fun i j => .bool (decide (j ≤ i))
def eqT (st : Sto) (a b : D) : Option Bool := match viewP st a, viewP st b with
  | some x, some y => if SeqAt.shaped x && SeqAt.shaped y then some (PyData.eqv x y) else none
  | _, _ => none
def eqS (st : Sto) (a b : D) : Option Bool := match sOf a, sOf b with
  | some x, some y => some (decide (x = y))
  | _, _ => eqT st a b
def eqD : F2 := fun a b st => match eqS st a b with
  | some k => .ok (.v (.bool k)) st
  | none => .stuck
def neD : F2 := fun a b st => match eqS st a b with
  | some k => .ok (.v (.bool (!k))) st
  | none => .stuck
theorem noDict_of {z : PyData} (h : SeqAt.shaped z = true) : z.hasDict = false := PyData.hasDict_of_canLay _ (SeqAt.canLay_of_shaped h)
theorem eqT_at {K : PySem.W.Frag} {ι : Gh} {st : Sto} {H : Hp} (R : SRel K ι st H) {a b : D} {x y : V} {k : Bool} (e : eqT st a b = some k) (ra : RD K ι st H x a) (rb : RD K ι st H y b) :
    ∃ d e, Dp K H x d ∧ Dp K H y e ∧ SeqAt.shaped d = true ∧ SeqAt.shaped e = true ∧ PyData.eqv d e = k := by
  unfold eqT at e
  split at e
  · rename_i z w e1 e2
    split at e
    · rename_i h
      rw [Bool.and_eq_true] at h
      exact ⟨z, w, viewP_at R e1 ra (noDict_of h.1), viewP_at R e2 rb (noDict_of h.2), h.1, h.2, Option.some.inj e⟩
    · cases e
  · cases e
theorem eqS_at {K : PySem.W.Frag} {ι : Gh} {st : Sto} {H : Hp} (R : SRel K ι st H) {a b : D} {x y : V} {k : Bool} (e : eqS st a b = some k) (ra : RD K ι st H x a) (rb : RD K ι st H y b) :
    (scal x y = true ∧ decide (x = y) = k) ∨ ∃ d e, Dp K H x d ∧ Dp K H y e ∧ SeqAt.shaped d = true ∧ SeqAt.shaped e = true ∧ PyData.eqv d e = k := by
  unfold eqS at e
  split at e
  · rename_i z w e1 e2
    have q1 := sOf_at e1 ra
    have q2 := sOf_at e2 rb
    subst q1 q2
    refine .inl ⟨rfl, ?_⟩
    rw [dec_str, ← Option.some.inj e]
    by_cases h : z = w
    · subst h; simp
    · rw [decide_eq_false h]; exact beq_eq_false_iff_ne.mpr h
  · exact .inr (eqT_at R e ra rb)
def rEqU (K : PySem.W.Frag) : R2 := fun x y H Q => rEq x y H Q ∨ rEqD K x y H Q
def rNeU (K : PySem.W.Frag) : R2 := fun x y H Q => rNe x y H Q ∨ rNeD K x y H Q
theorem op2_eq {K : PySem.W.Frag} {W : XW} : Op2 K W (rEqU K) eqD := by
  intro ι st H x y a b Q R ra rb p
  unfold eqD at p
  split at p
  · rename_i k e
    rcases eqS_at R e ra rb with ⟨h1, h2⟩ | ⟨d, e', h1, h2, h3, h4, h5⟩
    · exact .inl ⟨h1, fun _ => by rw [h2]; exact p.same R (.bl _)⟩
    · exact .inr ⟨d, e', h1, h2, h3, h4, fun _ => by rw [h5]; exact p.same R (.bl _)⟩
  · exact p.elim
theorem op2_ne {K : PySem.W.Frag} {W : XW} : Op2 K W (rNeU K) neD := by
  intro ι st H x y a b Q R ra rb p
  unfold neD at p
  split at p
  · rename_i k e
    rcases eqS_at R e ra rb with ⟨h1, h2⟩ | ⟨d, e', h1, h2, h3, h4, h5⟩
    · exact .inl ⟨h1, fun _ => by rw [h2]; exact p.same R (.bl _)⟩
    · exact .inr ⟨d, e', h1, h2, h3, h4, fun _ => by rw [h5]; exact p.same R (.bl _)⟩
  · exact p.elim
def isS : D → D → Option Bool
  | .v (.bool a), .v (.bool b) => some (decide (a = b))
  | a, .v .none => some (match a with | .v .none => true | _ => false)
  | _, _ => none
def isD : F2 := fun a b st => match isS a b with
  | some k => .ok (.v (.bool k)) st
  | none => .stuck
def isNotD : F2 := fun a b st => match isS a b with
  | some k => .ok (.v (.bool (!k))) st
  | none => .stuck
def rIsU : R2 := fun x y H Q => rIsB x y H Q ∨ (y = .non ∧ Q (.bl (decide (x = .non))) H)
def rIsNotU : R2 := fun x y H Q => rNotB x y H Q ∨ (y = .non ∧ Q (.bl (!decide (x = .non))) H)
theorem isNone_at {K : PySem.W.Frag} {ι : Gh} {st : Sto} {H : Hp} {x : V} : ∀ {d : D}, RD K ι st H x d → decide (x = .non) = (match d with | .v .none => true | _ => false)
  | .v z, r => by
    have r' : Rp (Frz ι st) H x z := r
    cases r' <;> rfl
  | .ref n, ⟨a, _, h⟩ => by rw [h]; rfl
  | .scr ns, ⟨a, h, _⟩ => by rw [h]; rfl
theorem isS_at {K : PySem.W.Frag} {ι : Gh} {st : Sto} {H : Hp} {a b : D} {x y : V} {k : Bool} (e : isS a b = some k) (ra : RD K ι st H x a) (rb : RD K ι st H y b) :
    (∃ i j : Bool, x = .bl i ∧ y = .bl j ∧ decide (i = j) = k) ∨ (y = .non ∧ decide (x = .non) = k) := by
  unfold isS at e
  split at e
  · rename_i i j
    exact .inl ⟨i, j, bOf_at rfl ra, bOf_at rfl rb, Option.some.inj e⟩
  · have rb' : Rp (Frz ι st) H y .none := rb
    cases rb'
    exact .inr ⟨rfl, (isNone_at ra).trans (Option.some.inj e)⟩
  · cases e
theorem op2_is {K : PySem.W.Frag} {W : XW} : Op2 K W rIsU isD := by
  intro ι st H x y a b Q R ra rb p
  unfold isD at p
  split at p
  · rename_i k e
    rcases isS_at e ra rb with ⟨i, j, h1, h2, h3⟩ | ⟨h1, h2⟩
    · exact .inl ⟨i, j, h1, h2, fun _ => by rw [h3]; exact p.same R (.bl _)⟩
    · exact .inr ⟨h1, fun _ => by rw [h2]; exact p.same R (.bl _)⟩
  · exact p.elim
theorem op2_isNot {K : PySem.W.Frag} {W : XW} : Op2 K W rIsNotU isNotD := by
  intro ι st H x y a b Q R ra rb p
  unfold isNotD at p
  split at p
  · rename_i k e
    rcases isS_at e ra rb with ⟨i, j, h1, h2, h3⟩ | ⟨h1, h2⟩
    · exact .inl ⟨i, j, h1, h2, fun _ => by rw [h3]; exact p.same R (.bl _)⟩
    · exact .inr ⟨h1, fun _ => by rw [h2]; exact p.same R (.bl _)⟩
  · exact p.elim
def flatP : PyData → Bool
  | .list _ | .tuple _ | .dict _ => false
  | _ => true
def inS (st : Sto) (a b : D) : Option Bool := match a, viewS st b with
  | .v x, some ys => if flatP x && ys.all flatP then some (ys.any fun y => PyData.eqv y x)
      else match viewL st b with
        | some _ => if SeqAt.shaped x && SeqAt.shaped (.list ys) then some (ys.any fun y => PyData.eqv y x) else none
        | none => if SeqAt.shaped x && SeqAt.shaped (.tuple ys) then some (ys.any fun y => PyData.eqv y x) else none
  | _, _ => none
def inD : F2 := fun a b st => match inS st a b with
  | some k => .ok (.v (.bool k)) st
  | none => .stuck
def notInD : F2 := fun a b st => match inS st a b with
  | some k => .ok (.v (.bool (!k))) st
  | none => .stuck
theorem flat_of {F : Addr → Prop} {H : Hp} {x : V} {d : PyData} (r : Rp F H x d) (h : flatP d = true) : flatV x = true := by
  cases r <;> first | rfl | exact absurd h Bool.false_ne_true
theorem flatAll_of {F : Addr → Prop} {H : Hp} : ∀ {xs : List V} {ds : List PyData}, RpA F H xs ds → ds.all flatP = true → xs.all flatV = true
  | _, _, .nil, _ => rfl
  | _, _, .cons r t, h => by
    rw [List.all_cons, Bool.and_eq_true] at h
    rw [List.all_cons, flat_of r h.1, flatAll_of t h.2]
    rfl
theorem eqV_of {F : Addr → Prop} {H : Hp} {x y : V} {d e : PyData} (r : Rp F H x d) (q : Rp F H y e) (h : flatP d = true) (h' : flatP e = true) : eqV x y = PyData.eqv d e := by
  cases r <;> first
    | exact absurd h Bool.false_ne_true
    | (cases q <;> first
        | exact absurd h' Bool.false_ne_true
        | rfl
        | simp [eqV, PyData.eqv])
theorem inV_of {F : Addr → Prop} {H : Hp} {x : V} {d : PyData} (r : Rp F H x d) (h : flatP d = true) : ∀ {xs : List V} {ds : List PyData}, RpA F H xs ds → ds.all flatP = true → inV x xs = ds.any fun y => PyData.eqv y d
  | _, _, .nil, _ => rfl
  | _, _, .cons q t, h' => by
    rw [List.all_cons, Bool.and_eq_true] at h'
    have ih := inV_of r h t h'.2
    unfold inV at ih ⊢
    rw [List.any_cons, List.any_cons, ih, eqV_of q r h'.1 h]
theorem inS_at {K : PySem.W.Frag} {ι : Gh} {st : Sto} {H : Hp} (R : SRel K ι st H) {a b : D} {x y : V} {k : Bool} (e : inS st a b = some k) (ra : RD K ι st H x a) (rb : RD K ι st H y b) :
    (∃ p xs, y = .ref p ∧ (SqL K H p xs ∨ SqT K H p xs) ∧ flatV x = true ∧ xs.all flatV = true ∧ inV x xs = k) ∨
    (∃ d ds, Dp K H x d ∧ Dp K H y (.list ds) ∧ SeqAt.shaped d = true ∧ SeqAt.shaped (.list ds) = true ∧ (ds.any fun z => PyData.eqv z d) = k) ∨
    ∃ d ds, Dp K H x d ∧ Dp K H y (.tuple ds) ∧ SeqAt.shaped d = true ∧ SeqAt.shaped (.tuple ds) = true ∧ (ds.any fun z => PyData.eqv z d) = k := by
  unfold inS at e
  split at e
  · rename_i d ys e1
    obtain ⟨p, xs, rfl, h1, h2⟩ := viewS_at R e1 rb
    split at e
    · rename_i hf
      rw [Bool.and_eq_true] at hf
      exact .inl ⟨p, xs, rfl, h1.imp .of KTup.sq, flat_of ra hf.1, flatAll_of h2 hf.2, (inV_of ra hf.1 h2 hf.2).trans (Option.some.inj e)⟩
    · split at e
      · rename_i zs e2
        split at e
        · rename_i hs
          rw [Bool.and_eq_true] at hs
          refine .inr (.inl ⟨d, ys, viewP_at R rfl ra (noDict_of hs.1), ?_, hs.1, hs.2, Option.some.inj e⟩)
          obtain ⟨a2, us, e3, h3, h4⟩ := viewL_at R e2 rb
          cases e3
          have eq : ys = zs := by
            have : viewS st b = viewL st b := by
              cases b with
              | v w =>
                cases w with
                | tuple _ => cases e2
                | _ => rfl
              | _ => rfl
            rw [this, e2] at e1
            exact (Option.some.inj e1).symm
          subst eq
          exact .lst (.of h3) (h4.dp (by simpa [PyData.hasDict] using noDict_of hs.2))
        · cases e
      · rename_i e2
        split at e
        · rename_i hs
          rw [Bool.and_eq_true] at hs
          have eb : b = .v (.tuple ys) := by
            cases b with
            | v w =>
              cases w with
              | tuple zs => cases e1; rfl
              | _ => exact absurd (e2.symm.trans e1) (fun z => nomatch z)
            | _ => exact absurd (e2.symm.trans e1) (fun z => nomatch z)
          subst eb
          exact .inr (.inr ⟨d, ys, viewP_at R rfl ra (noDict_of hs.1), viewP_at R rfl rb (noDict_of hs.2), hs.1, hs.2, Option.some.inj e⟩)
        · cases e
  · cases e
def rInDT (K : PySem.W.Frag) : R2 := fun x y H Q => ∃ d ds, Dp K H x d ∧ Dp K H y (.tuple ds) ∧ SeqAt.shaped d = true ∧ SeqAt.shaped (.tuple ds) = true ∧ Q (.bl (ds.any fun z => PyData.eqv z d)) H
def rNotInDT (K : PySem.W.Frag) : R2 := fun x y H Q => ∃ d ds, Dp K H x d ∧ Dp K H y (.tuple ds) ∧ SeqAt.shaped d = true ∧ SeqAt.shaped (.tuple ds) = true ∧ Q (.bl (!(ds.any fun z => PyData.eqv z d))) H
theorem op_inDT {X : Cx} (hu : X.A.units + 65 < cLine) : OpR X (compareOp .In) (rInDT X.K) := by
  rintro pins s σ H x y v u Q I rx ry ⟨d, ds, hd, he, sd, se, q⟩
  obtain ⟨as, r1⟩ := Dp.reads I d x v hd rx
  obtain ⟨bs, r2⟩ := Dp.reads I (.tuple ds) y u he ry
  exact SeqAt.in_tuple_reads r2 r1 (SeqAt.canLay_of_shaped se) (SeqAt.canLay_of_shaped sd) (room_in_shaped sd hu) ⟨.bl _, H, I, rfl, q⟩
theorem op_notInDT {X : Cx} (hu : X.A.units + 65 < cLine) : OpR X (compareOp .NotIn) (rNotInDT X.K) := by
  rintro pins s σ H x y v u Q I rx ry ⟨d, ds, hd, he, sd, se, q⟩
  obtain ⟨as, r1⟩ := Dp.reads I d x v hd rx
  obtain ⟨bs, r2⟩ := Dp.reads I (.tuple ds) y u he ry
  exact SeqAt.notIn_tuple_reads r2 r1 (SeqAt.canLay_of_shaped se) (SeqAt.canLay_of_shaped sd) (room_in_shaped sd hu) ⟨.bl _, H, I, rfl, q⟩
def rInU (K : PySem.W.Frag) : R2 := fun x y H Q => rIn K false x y H Q ∨ rInD K x y H Q ∨ rInDT K x y H Q
def rNotInU (K : PySem.W.Frag) : R2 := fun x y H Q => rIn K true x y H Q ∨ rNotInD K x y H Q ∨ rNotInDT K x y H Q
theorem op2_in {K : PySem.W.Frag} {W : XW} : Op2 K W (rInU K) inD := by
  intro ι st H x y a b Q R ra rb p
  unfold inD at p
  split at p
  · rename_i k e
    rcases inS_at R e ra rb with ⟨q, xs, h1, h2, h3, h4, h5⟩ | ⟨d, ds, h1, h2, h3, h4, h5⟩ | ⟨d, ds, h1, h2, h3, h4, h5⟩
    · refine .inl ⟨q, xs, h1, h2, h3, h4, fun _ => ?_⟩
      rw [if_neg Bool.false_ne_true, h5]
      exact p.same R (.bl _)
    · exact .inr (.inl ⟨d, ds, h1, h2, h3, h4, fun _ => by rw [h5]; exact p.same R (.bl _)⟩)
    · exact .inr (.inr ⟨d, ds, h1, h2, h3, h4, fun _ => by rw [h5]; exact p.same R (.bl _)⟩)
  · exact p.elim
theorem op2_notIn {K : PySem.W.Frag} {W : XW} : Op2 K W (rNotInU K) notInD := by
  intro ι st H x y a b Q R ra rb p
  unfold notInD at p
  split at p
  · rename_i k e
    rcases inS_at R e ra rb with ⟨q, xs, h1, h2, h3, h4, h5⟩ | ⟨d, ds, h1, h2, h3, h4, h5⟩ | ⟨d, ds, h1, h2, h3, h4, h5⟩
    · refine .inl ⟨q, xs, h1, h2, h3, h4, fun _ => ?_⟩
      rw [if_pos rfl, h5]
      exact p.same R (.bl _)
    · exact .inr (.inl ⟨d, ds, h1, h2, h3, h4, fun _ => by rw [h5]; exact p.same R (.bl _)⟩)
    · exact .inr (.inr ⟨d, ds, h1, h2, h3, h4, fun _ => by rw [h5]; exact p.same R (.bl _)⟩)
  · exact p.elim
end Fw
namespace Fw
open PySem PySem.Spec PyProof.Rows L2
structure Gd (X : Cx) : Prop where
  calm : X.calm = true
  gu : X.A.guards = some []
  un : X.A.units + 150 < cLine
theorem pe_or {X : Cx} {e : Expr} {t u : TE} (h : PE X e t) (h' : PE X e u) : PE X e (fun σ H Q => t σ H Q ∨ u σ H Q) :=
  ⟨fun pins s σ H Q I q => q.elim (h.run pins s σ H Q I) (h'.run pins s σ H Q I)⟩
theorem te_or {K : PySem.W.Frag} {W : XW} {σ : L2.St} {H : Hp} {Q : VK} {ma mb : ME} {f g h : F2} (hc : ∀ a b st, h a b st = f a b st ∨ h a b st = g a b st) (q : TEo K W (mBin h ma mb) σ H Q) : TEo K W (mBin f ma mb) σ H Q ∨ TEo K W (mBin g ma mb) σ H Q := by
  obtain ⟨ι, env, st, R, EV, p⟩ := q
  have key : mBin h ma mb env st = mBin f ma mb env st ∨ mBin h ma mb env st = mBin g ma mb env st := by
    unfold mBin
    cases ma env st with
    | ok a s1 =>
      cases e : mb env s1 with
      | ok b s2 =>
        simp only [bind_ok, e]
        exact hc a b s2
      | exn _ _ => exact .inl (by simp only [bind_ok, e, bind_exn])
      | stuck => exact .inl (by simp only [bind_ok, e, bind_stuck])
    | exn _ _ => exact .inl rfl
    | stuck => exact .inl rfl
  rcases key with e | e <;> rw [e] at p
  · exact .inl ⟨ι, env, st, R, EV, p⟩
  · exact .inr ⟨ι, env, st, R, EV, p⟩
def key1 : PyData → Option Key
  | .int i => some (.inl i)
  | .str z => some (.inr z)
  | _ => none
def keysT : List PyData → Option (List Key)
  | [] => some []
  | d :: r => match key1 d, keysT r with
    | some k, some ks => some (k :: ks)
    | _, _ => none
def keyT : PyData → Option (List Key)
  | .tuple ds => keysT ds
  | _ => none
def keq (t : Bool) (a b : PyData) : Bool := if t then decide (keyT a = keyT b) else decide (key1 a = key1 b)
def getK (t : Bool) (kvs : List (PyData × D)) (k : PyData) : Option D := (kvs.find? fun p => keq t p.1 k).map (·.2)
def isTK : List (PyData × PyData) → Bool
  | (.tuple _, _) :: _ => true
  | _ => false
def viewK (st : Sto) : D → Option (Bool × List (PyData × D))
  | .v (.dict kvs) => some (isTK kvs, kvs.map fun p => (p.1, .v p.2))
  | .ref n => match st[n]? with
    | some (.dct t kvs) => some (t, kvs)
    | some (.lck t kvs) => some (t, kvs)
    | _ => none
  | _ => none
theorem key1_kD (k : Key) : key1 (kD k) = some k := by cases k <;> rfl
theorem keysT_kD : ∀ ks : List Key, keysT (ks.map kD) = some ks
  | [] => rfl
  | k :: r => by
    rw [List.map_cons]
    unfold keysT
    rw [key1_kD, keysT_kD r]
theorem kD_of {d : PyData} {k : Key} (h : key1 d = some k) : d = kD k := by
  cases d with
  | int i => cases h; rfl
  | str z => cases h; rfl
  | _ => cases h
theorem kV_of {F : Addr → Prop} {H : Hp} {x : V} {k : Key} (r : Rp F H x (kD k)) : x = kV k := by
  cases k <;> (cases r; rfl)
section
variable {K : PySem.W.Frag} {ι : Gh} {st : Sto} {H : Hp}
def ROpt (K : PySem.W.Frag) (ι : Gh) (st : Sto) (H : Hp) : Option D → Option V → Prop
  | some d, some x => RD K ι st H x d
  | none, none => True
  | _, _ => False
theorem RK.get {kd : PyData} {k : Key} (hk : key1 kd = some k) : ∀ {kvs : List (PyData × D)} {xs : List (Key × V)}, RK K ι st H kvs xs → ROpt K ι st H (getK false kvs kd) (valV xs k)
  | _, _, .nil => trivial
  | _, _, .cons (a := p) (b := q) h t => by
    have ih := RK.get hk t
    unfold getK at ih ⊢
    by_cases e : q.1 = k
    · rw [valV_pos e]
      have e2 : keq false p.1 kd = true := by
        unfold keq
        rw [if_neg Bool.false_ne_true, h.1, key1_kD, hk, e, decide_eq_true rfl]
      rw [List.find?_cons, e2]
      exact h.2
    · rw [valV_neg e]
      have e2 : keq false p.1 kd = false := by
        unfold keq
        rw [if_neg Bool.false_ne_true, h.1, key1_kD, hk]
        exact decide_eq_false fun z => e (Option.some.inj z)
      rw [List.find?_cons, e2]
      exact ih
theorem RT.get {kd : PyData} {k : List Key} (hk : keyT kd = some k) : ∀ {kvs : List (PyData × D)} {xs : List (List Key × V)}, RT K ι st H kvs xs → ROpt K ι st H (getK true kvs kd) (valV xs k)
  | _, _, .nil => trivial
  | _, _, .cons (a := p) (b := q) h t => by
    have ih := RT.get hk t
    unfold getK at ih ⊢
    have kt : keyT p.1 = some q.1 := by rw [h.1]; exact keysT_kD q.1
    by_cases e : q.1 = k
    · rw [valV_pos e]
      have e2 : keq true p.1 kd = true := by
        unfold keq
        rw [if_pos rfl, kt, hk, e, decide_eq_true rfl]
      rw [List.find?_cons, e2]
      exact h.2
    · rw [valV_neg e]
      have e2 : keq true p.1 kd = false := by
        unfold keq
        rw [if_pos rfl, kt, hk]
        exact decide_eq_false fun z => e (Option.some.inj z)
      rw [List.find?_cons, e2]
      exact ih
theorem RpK.rk : ∀ {xs : List (Key × V)} {ds : List (PyData × PyData)}, RpK (Frz ι st) H xs ds → RK K ι st H (ds.map fun p => (p.1, D.v p.2)) xs
  | _, _, .nil => .nil
  | _, _, .cons h r => .cons ⟨rfl, h⟩ (RpK.rk r)
theorem RpT.rt : ∀ {xs : List (List Key × V)} {ds : List (PyData × PyData)}, RpT (Frz ι st) H xs ds → RT K ι st H (ds.map fun p => (p.1, D.v p.2)) xs
  | _, _, .nil => .nil
  | _, _, .cons h r => .cons ⟨rfl, h⟩ (RpT.rt r)
theorem RpK.kind : ∀ {xs : List (Key × V)} {ds : List (PyData × PyData)}, RpK (Frz ι st) H xs ds → isTK ds = false
  | _, _, .nil => rfl
  | _, _, .cons (k := k) h r => by cases k <;> rfl
theorem RpT.kind : ∀ {xs : List (List Key × V)} {ds : List (PyData × PyData)}, RpT (Frz ι st) H xs ds → ds ≠ [] → isTK ds = true
  | _, _, .nil, h => absurd rfl h
  | _, _, .cons _ _, _ => rfl
theorem viewK_at (R : SRel K ι st H) {x : V} {d : D} {t : Bool} {kvs : List (PyData × D)} (e : viewK st d = some (t, kvs)) (r : RD K ι st H x d) :
    ∃ a, x = .ref a ∧ ((t = false ∧ ∃ xs, Rd H a (.dK xs) ∧ RK K ι st H kvs xs) ∨ (t = true ∧ ∃ xs, Rd H a (.dT xs) ∧ RT K ι st H kvs xs)) := by
  cases d with
  | v z =>
    cases z with
    | dict zs =>
      have e' := Option.some.inj e
      injection e' with e1 e2
      subst e1 e2
      have r' : Rp (Frz ι st) H x (.dict zs) := r
      cases r' with
      | dcK h _ q => exact ⟨_, rfl, .inl ⟨q.kind, _, h, q.rk⟩⟩
      | dcT h _ q z => exact ⟨_, rfl, .inr ⟨q.kind z, _, h, q.rt⟩⟩
    | _ => cases e
  | scr ns => cases e
  | ref n =>
    obtain ⟨a, h1, h2⟩ := r
    cases q : st[n]? with
    | none => simp only [viewK, q] at e; cases e
    | some o =>
      simp only [viewK, q] at e
      have ro := R.obj n o a q h1
      cases o with
      | dct t' kvs' =>
        have e' := Option.some.inj e
        injection e' with e1 e2
        subst e1 e2
        cases t' with
        | false => obtain ⟨xs, h3, h4⟩ := ro; exact ⟨a, h2, .inl ⟨rfl, xs, .inl h3, h4⟩⟩
        | true => obtain ⟨xs, h3, h4⟩ := ro; exact ⟨a, h2, .inr ⟨rfl, xs, .inl h3, h4⟩⟩
      | lck t' kvs' =>
        have e' := Option.some.inj e
        injection e' with e1 e2
        subst e1 e2
        cases t' with
        | false => obtain ⟨xs, o, h3, h4⟩ := ro; exact ⟨a, h2, .inl ⟨rfl, xs, .inr ⟨o, h3⟩, h4⟩⟩
        | true => obtain ⟨xs, o, h3, h4⟩ := ro; exact ⟨a, h2, .inr ⟨rfl, xs, .inr ⟨o, h3⟩, h4⟩⟩
      | _ => cases e
end
def findS (st : Sto) (a b : D) : Option (Option D) := match viewK st a, b with
  | some (false, kvs), .v kd => match key1 kd with
    | some _ => some (getK false kvs kd)
    | none => none
  | _, _ => none
theorem findS_at {K : PySem.W.Frag} {ι : Gh} {st : Sto} {H : Hp} (R : SRel K ι st H) {a b : D} {x y : V} {o : Option D} (e : findS st a b = some o) (ra : RD K ι st H x a) (rb : RD K ι st H y b) :
    ∃ p r, x = .ref p ∧ DGet H p y r ∧ ROpt K ι st H o r := by
  unfold findS at e
  split at e
  · rename_i kvs kd e1
    split at e
    · rename_i k e2
      obtain ⟨p, rfl, ⟨_, xs, h1, h2⟩ | ⟨z, _⟩⟩ := viewK_at R e1 ra
      · have rb' : Rp (Frz ι st) H y kd := rb
        rw [kD_of e2] at rb'
        rw [← Option.some.inj e]
        exact ⟨p, valV xs k, rfl, .inl ⟨xs, k, h1, kV_of rb', rfl⟩, RK.get e2 h2⟩
      · cases z
    · cases e
  · cases e
def lookD : F2 := fun a b st => match findS st a b with
  | some (some d) => .ok d st
  | _ => .stuck
def rDGet : R2 := fun x y H Q => ∃ a v, x = .ref a ∧ DGet H a y (some v) ∧ Q v H
theorem op2_look {K : PySem.W.Frag} {W : XW} : Op2 K W rDGet lookD := by
  intro ι st H x y a b Q R ra rb p
  unfold lookD at p
  split at p
  · rename_i d e
    obtain ⟨q, r, h1, h2, h3⟩ := findS_at R e ra rb
    cases r with
    | none => exact h3.elim
    | some v => exact ⟨q, v, h1, h2, fun _ => p.same R h3⟩
  · exact p.elim
def ixD : F2 := fun a b st => match viewS st a, iOf b with
  | some xs, some i => match atI xs i with
    | some d => .ok (.v d) st
    | none => .stuck
  | _, _ => match sOf a, iOf b with
    | some z, some i => if z.length ≤ lim then match atI z.cps.toList i with
        | some c => .ok (.v (.str ⟨#[c]⟩)) st
        | none => .stuck
      else .stuck
    | _, _ => .stuck
theorem atI_rp {F : Addr → Prop} {H : Hp} {xs : List V} {ds : List PyData} (r : RpA F H xs ds) {i : Int} {d : PyData} (h : atI ds i = some d) : ∃ x, atI xs i = some x ∧ Rp F H x d := by
  unfold atI at h ⊢
  obtain ⟨j, h1, h2⟩ := Option.bind_eq_some_iff.mp h
  obtain ⟨x, h3, h4⟩ := r.get h2
  exact ⟨x, Option.bind_eq_some_iff.mpr ⟨j, by rw [r.length]; exact h1, h3⟩, h4⟩
theorem op2_ix {K : PySem.W.Frag} {W : XW} : Op2 K W (rIx K) ixD := by
  intro ι st H x y a b Q R ra rb p
  unfold ixD at p
  split at p
  · rename_i xs i e1 e2
    split at p
    · rename_i d e3
      obtain ⟨q, us, rfl, h1, h2⟩ := viewS_at R e1 ra
      obtain ⟨z, h3, h4⟩ := atI_rp h2 e3
      rcases h1 with h1 | h1
      · exact .inl ⟨q, us, i, z, rfl, iOf_at e2 rb, .of h1, h3, fun _ => p.same R h4⟩
      · exact .inr (.inl ⟨q, us, i, z, rfl, iOf_at e2 rb, h1.sq, h3, fun _ => p.same R h4⟩)
    · exact p.elim
  · split at p
    · rename_i z i e1 e2
      split at p
      · rename_i hl
        split at p
        · rename_i c e3
          exact .inr (.inr ⟨z, i, c, sOf_at e1 ra, iOf_at e2 rb, lim_ok hl, e3, fun _ => p.same R (.str _)⟩)
        · exact p.elim
      · exact p.elim
    · exact p.elim
def subsD : F2 := fun a b st => match viewK st a with
  | some _ => lookD a b st
  | none => ixD a b st
section
variable {X : Cx} {W : XW} {a b e : Expr} {ma mb : ME} {pos : Pos}
theorem x_sub' (g : Gd X) (ha : PE X a (TEo X.K W ma)) (hb : PE X b (TEo X.K W mb)) (hs : PlainIx b := by exact fun _ _ => rfl) : PE X (.Subscript a b pos) (TEo X.K W (mBin subsD ma mb)) := by
  have h1 := pe_dget (pos := pos) (by have := g.un; omega) ha hb hs
  have h2 := pe_ix (pos := pos) ix_seq ha hb hs
  refine pe_wrap (pe_or h1 h2) fun σ H Q q => ?_
  have q' := te_or (f := lookD) (g := ixD) (fun a b st => by
    unfold subsD
    cases viewK st a <;> simp) q
  exact q'.imp (fun z => te_bin op2_look z) fun z => te_bin op2_ix z
def dinD : F2 := fun a b st => match findS st b a with
  | some o => .ok (.v (.bool o.isSome)) st
  | none => .stuck
def dnotinD : F2 := fun a b st => match findS st b a with
  | some o => .ok (.v (.bool (!o.isSome))) st
  | none => .stuck
def rDIn : R2 := fun y x H Q => ∃ a o, x = .ref a ∧ DGet H a y o ∧ Q (.bl o.isSome) H
def rDNotIn : R2 := fun y x H Q => ∃ a o, x = .ref a ∧ DGet H a y o ∧ Q (.bl (!o.isSome)) H
theorem ROpt.isSome {K : PySem.W.Frag} {ι : Gh} {st : Sto} {H : Hp} : ∀ {o : Option D} {r : Option V}, ROpt K ι st H o r → r.isSome = o.isSome
  | some _, some _, _ => rfl
  | none, none, _ => rfl
  | some _, none, h => h.elim
  | none, some _, h => h.elim
theorem op2_din {K : PySem.W.Frag} : Op2 K W rDIn dinD := by
  intro ι st H x y a b Q R ra rb p
  unfold dinD at p
  split at p
  · rename_i o e
    obtain ⟨q, r, h1, h2, h3⟩ := findS_at R e rb ra
    exact ⟨q, r, h1, h2, fun _ => by rw [h3.isSome]; exact p.same R (.bl _)⟩
  · exact p.elim
theorem op2_dnotin {K : PySem.W.Frag} : Op2 K W rDNotIn dnotinD := by
  intro ι st H x y a b Q R ra rb p
  unfold dnotinD at p
  split at p
  · rename_i o e
    obtain ⟨q, r, h1, h2, h3⟩ := findS_at R e rb ra
    exact ⟨q, r, h1, h2, fun _ => by rw [h3.isSome]; exact p.same R (.bl _)⟩
  · exact p.elim
def inU : F2 := fun a b st => match viewK st b with
  | some _ => dinD a b st
  | none => inD a b st
def notInU : F2 := fun a b st => match viewK st b with
  | some _ => dnotinD a b st
  | none => notInD a b st
theorem pc_wrap {op : CmpOp} {t : TE} {m : ME} (h : PC X op a b t) (hi : ∀ σ H Q, TEo X.K W m σ H Q → t σ H (fun v H' => HF H' → Q v H')) : PC X op a b (TEo X.K W m) :=
  ⟨fun pins s σ H Q I q => thn (h.run pins s σ H _ I (hi σ H Q q)) fun _ _ h1 => thn h1 fun _ _ h2 => thn h2 fun _ _ ⟨v, H', I', r, q'⟩ => ⟨v, H', I', r, q' (hf_of I')⟩⟩
theorem pc_R {op : CmpOp} {r : R2} {ta tb : TE} (ho : OpR X (compareOp op) r) (ha : PE X a ta) (hb : PE X b tb) : PC X op a b (tOp r ta tb) :=
  ⟨fun pins s σ H Q I h => binT ha hb I h fun v u s2 x y H2 I2 rx ry q => ho pins s2 σ H2 x y v u Q I2 rx ry q⟩
theorem pc_or {op : CmpOp} {t u : TE} (h : PC X op a b t) (h' : PC X op a b u) : PC X op a b (fun σ H Q => t σ H Q ∨ u σ H Q) :=
  ⟨fun pins s σ H Q I q => q.elim (h.run pins s σ H Q I) (h'.run pins s σ H Q I)⟩
theorem c_op {op : CmpOp} {r : R2} {f : F2} (ho : OpR X (compareOp op) r) (hf : Op2 X.K W r f) (ha : PE X a (TEo X.K W ma)) (hb : PE X b (TEo X.K W mb)) : PC X op a b (TEo X.K W (mBin f ma mb)) :=
  pc_wrap (pc_R ho ha hb) fun σ H Q q => te_bin hf q
theorem c_in (g : Gd X) (ha : PE X a (TEo X.K W ma)) (hb : PE X b (TEo X.K W mb)) : PC X .In a b (TEo X.K W (mBin inU ma mb)) := by
  have un := g.un
  refine pc_wrap (pc_or (pc_din (X := X) (by omega) ha hb) (pc_R (op_in_seq.or ((op_inD (X := X) (by omega)).or (op_inDT (X := X) (by omega)))) ha hb)) fun σ H Q q => ?_
  have q' := te_or (f := dinD) (g := inD) (fun a b st => by
    unfold inU
    cases viewK st b <;> simp) q
  exact q'.imp (fun z => te_bin op2_din z) fun z => te_bin op2_in z
theorem c_notIn (g : Gd X) (ha : PE X a (TEo X.K W ma)) (hb : PE X b (TEo X.K W mb)) : PC X .NotIn a b (TEo X.K W (mBin notInU ma mb)) := by
  have un := g.un
  refine pc_wrap (pc_or (pc_dnotin (X := X) (by omega) ha hb) (pc_R (op_notIn_seq.or ((op_notInD (X := X) (by omega)).or (op_notInDT (X := X) (by omega)))) ha hb)) fun σ H Q q => ?_
  have q' := te_or (f := dnotinD) (g := notInD) (fun a b st => by
    unfold notInU
    cases viewK st b <;> simp) q
  exact q'.imp (fun z => te_bin op2_dnotin z) fun z => te_bin op2_notIn z
theorem c_lt (ha : PE X a (TEo X.K W ma)) (hb : PE X b (TEo X.K W mb)) : PC X .Lt a b (TEo X.K W (mBin ltD ma mb)) := c_op op_lt (op2_int0 fun _ _ _ _ => .bl _) ha hb
theorem c_gt (ha : PE X a (TEo X.K W ma)) (hb : PE X b (TEo X.K W mb)) : PC X .Gt a b (TEo X.K W (mBin gtD ma mb)) := c_op op_gt (op2_int0 fun _ _ _ _ => .bl _) ha hb
theorem c_ge (ha : PE X a (TEo X.K W ma)) (hb : PE X b (TEo X.K W mb)) : PC X .GtE a b (TEo X.K W (mBin geD ma mb)) := c_op op_ge (op2_int0 fun _ _ _ _ => .bl _) ha hb
theorem c_eq (g : Gd X) (ha : PE X a (TEo X.K W ma)) (hb : PE X b (TEo X.K W mb)) : PC X .Eq a b (TEo X.K W (mBin eqD ma mb)) := c_op (op_eq.or (op_eqD (by have := g.un; omega))) op2_eq ha hb
theorem c_ne (g : Gd X) (ha : PE X a (TEo X.K W ma)) (hb : PE X b (TEo X.K W mb)) : PC X .NotEq a b (TEo X.K W (mBin neD ma mb)) := c_op (op_ne.or (op_neD (by have := g.un; omega))) op2_ne ha hb
theorem c_is (ha : PE X a (TEo X.K W ma)) (hb : PE X b (TEo X.K W mb)) : PC X .Is a b (TEo X.K W (mBin isD ma mb)) := c_op (op_isBl.or op_isN) op2_is ha hb
theorem c_isNot (ha : PE X a (TEo X.K W ma)) (hb : PE X b (TEo X.K W mb)) : PC X .IsNot a b (TEo X.K W (mBin isNotD ma mb)) := c_op (op_notBl.or op_notN) op2_isNot ha hb
end
def fLen : FA := fun ds st => match ds with
  | [d] => match viewS st d with
    | some xs => .ok (.v (.int xs.length)) st
    | none => match sOf d with
      | some z => if z.length ≤ lim then .ok (.v (.int z.length)) st else .stuck
      | none => .stuck
  | _ => .stuck
theorem RDs.one {K : PySem.W.Frag} {ι : Gh} {st : Sto} {H : Hp} {xs : List V} {d : D} (r : RDs K ι st H xs [d]) : ∃ x, xs = [x] ∧ RD K ι st H x d := by
  cases r with
  | cons h t => cases t; exact ⟨_, rfl, h⟩
theorem RDs.two {K : PySem.W.Frag} {ι : Gh} {st : Sto} {H : Hp} {xs : List V} {d e : D} (r : RDs K ι st H xs [d, e]) : ∃ x y, xs = [x, y] ∧ RD K ι st H x d ∧ RD K ι st H y e := by
  cases r with
  | cons h t =>
    obtain ⟨y, rfl, r2⟩ := RDs.one t
    exact ⟨_, y, rfl, h, r2⟩
theorem opA_len {K : PySem.W.Frag} {W : XW} : OpA K W (fun xs H Q => ∃ x n, xs = [x] ∧ LenV K x H n ∧ Q (.int n) H) fLen := by
  intro ι st H xs ds Q R r p
  unfold fLen at p
  split at p
  · rename_i d
    obtain ⟨x, rfl, r1⟩ := r.one
    split at p
    · rename_i zs e
      obtain ⟨q, us, rfl, h1, h2⟩ := viewS_at R e r1
      refine ⟨_, zs.length, rfl, h1.imp (fun h => ⟨us, .of h, h2.length.symm⟩) (fun h => ⟨us, h.sq, h2.length.symm⟩), fun _ => p.same R (.int _)⟩
    · split at p
      · rename_i z e
        split at p
        · rename_i hl
          have e2 := sOf_at e r1
          subst e2
          exact ⟨_, z.length, rfl, ⟨lim_ok hl, rfl⟩, fun _ => p.same R (.int _)⟩
        · exact p.elim
      · exact p.elim
  · exact p.elim
def fAbs : FA := fun ds st => match ds with
  | [d] => match iOf d with
    | some i => .ok (.v (.int (if i < 0 then -i else i))) st
    | none => .stuck
  | _ => .stuck
theorem opA_abs {K : PySem.W.Frag} {W : XW} : OpA K W (fun xs H Q => ∃ i, xs = [.int i] ∧ Q (.int (if i < 0 then -i else i)) H) fAbs := by
  intro ι st H xs ds Q R r p
  unfold fAbs at p
  split at p
  · obtain ⟨x, rfl, r1⟩ := r.one
    split at p
    · rename_i i e
      have e2 := iOf_at e r1
      subst e2
      exact ⟨i, rfl, fun _ => p.same R (.int _)⟩
    · exact p.elim
  · exact p.elim
def fInt : FA := fun ds st => match ds with
  | [d] => match iOf d with
    | some i => .ok (.v (.int i)) st
    | none => match bOf d with
      | some k => .ok (.v (.int (if k then 1 else 0))) st
      | none => .stuck
  | _ => .stuck
theorem opA_int {K : PySem.W.Frag} {W : XW} : OpA K W (fun xs H Q => (∃ i, xs = [.int i] ∧ Q (.int i) H) ∨ ∃ k, xs = [.bl k] ∧ Q (.int (if k then 1 else 0)) H) fInt := by
  intro ι st H xs ds Q R r p
  unfold fInt at p
  split at p
  · obtain ⟨x, rfl, r1⟩ := r.one
    split at p
    · rename_i i e
      have e2 := iOf_at e r1
      subst e2
      exact .inl ⟨i, rfl, fun _ => p.same R (.int _)⟩
    · split at p
      · rename_i i e
        have e2 := bOf_at e r1
        subst e2
        exact .inr ⟨i, rfl, fun _ => p.same R (.int _)⟩
      · exact p.elim
  · exact p.elim
def f2I (g : Int → Int → Int) : FA := fun ds st => match ds with
  | [a, b] => match iOf a, iOf b with
    | some i, some j => .ok (.v (.int (g i j))) st
    | _, _ => .stuck
  | _ => .stuck
def intMax (i j : Int) : Int := if j > i then j else i
def intMin (i j : Int) : Int := if j < i then j else i
def intsOf : List PyData → Option (List Int)
  | [] => some []
  | .int i :: r => (intsOf r).map (i :: ·)
  | _ :: _ => none
theorem intsOf_at {F : Addr → Prop} {H : Hp} : ∀ {ds : List PyData} {ns : List Int} {xs : List V}, intsOf ds = some ns → RpA F H xs ds → xs = ns.map V.int
  | [], ns, _, e, .nil => by cases e; rfl
  | d :: r, ns, _, e, .cons h t => by
    cases d with
    | int i =>
      obtain ⟨ms, e1, rfl⟩ := Option.map_eq_some_iff.mp (show (intsOf r).map (i :: ·) = some ns from e)
      cases h
      rw [intsOf_at e1 t]
      rfl
    | _ => cases e
end Fw
namespace Fw
open PySem PySem.Spec PyProof.Rows L2
def lstMax : List Int → Int
  | [] => 0
  | [a] => a
  | a :: r => max a (lstMax r)
def lstMin : List Int → Int
  | [] => 0
  | [a] => a
  | a :: r => min a (lstMin r)
theorem lstMax_uniq : ∀ {ns : List Int} {m : Int}, m ∈ ns → (∀ y ∈ ns, y ≤ m) → m = lstMax ns
  | [], _, h, _ => by cases h
  | [a], m, h, _ => by simpa [lstMax] using h
  | a :: b :: r, m, h, hm => by
    have e : lstMax (a :: b :: r) = max a (lstMax (b :: r)) := rfl
    rw [e]
    have key : ∀ (l : List Int), l ≠ [] → lstMax l ∈ l ∧ ∀ y ∈ l, y ≤ lstMax l := by
      intro l
      induction l with
      | nil => intro h; exact absurd rfl h
      | cons x t ih =>
        intro _
        cases t with
        | nil => simp [lstMax]
        | cons y t =>
          obtain ⟨i1, i2⟩ := ih (by simp)
          have e : lstMax (x :: y :: t) = max x (lstMax (y :: t)) := rfl
          rw [e]
          constructor
          · by_cases hx : x ≤ lstMax (y :: t)
            · rw [Int.max_eq_right hx]; exact List.mem_cons_of_mem _ i1
            · rw [Int.max_eq_left (by omega)]; exact List.mem_cons_self
          · intro z hz
            rcases List.mem_cons.mp hz with rfl | hz
            · omega
            · have := i2 z hz; omega
    obtain ⟨k1, k2⟩ := key (b :: r) (by simp)
    rcases List.mem_cons.mp h with rfl | h
    · have := hm _ (List.mem_cons_of_mem _ k1)
      omega
    · have h1 := k2 m h
      have h2 := hm _ (List.mem_cons_of_mem _ k1)
      have h3 := hm a List.mem_cons_self
      omega
theorem lstMin_uniq : ∀ {ns : List Int} {m : Int}, m ∈ ns → (∀ y ∈ ns, m ≤ y) → m = lstMin ns
  | [], _, h, _ => by cases h
  | [a], m, h, _ => by simpa [lstMin] using h
  | a :: b :: r, m, h, hm => by
    have e : lstMin (a :: b :: r) = min a (lstMin (b :: r)) := rfl
    rw [e]
    have key : ∀ (l : List Int), l ≠ [] → lstMin l ∈ l ∧ ∀ y ∈ l, lstMin l ≤ y := by
      intro l
      induction l with
      | nil => intro h; exact absurd rfl h
      | cons x t ih =>
        intro _
        cases t with
        | nil => simp [lstMin]
        | cons y t =>
          obtain ⟨i1, i2⟩ := ih (by simp)
          have e : lstMin (x :: y :: t) = min x (lstMin (y :: t)) := rfl
          rw [e]
          constructor
          · by_cases hx : x ≤ lstMin (y :: t)
            · rw [Int.min_eq_left hx]; exact List.mem_cons_self
            · rw [Int.min_eq_right (by omega)]; exact List.mem_cons_of_mem _ i1
          · intro z hz
            rcases List.mem_cons.mp hz with rfl | hz
            · omega
            · have := i2 z hz; omega
    obtain ⟨k1, k2⟩ := key (b :: r) (by simp)
    rcases List.mem_cons.mp h with rfl | h
    · have := hm _ (List.mem_cons_of_mem _ k1)
      omega
    · have h1 := k2 m h
      have h2 := hm _ (List.mem_cons_of_mem _ k1)
      have h3 := hm a List.mem_cons_self
      omega
def fIntsL (g : List Int → Int) : FA := fun ds st => match ds with
  | [d] => match viewL st d with
    | some xs => match intsOf xs with
      | some ns => if 0 < ns.length then .ok (.v (.int (g ns))) st else .stuck
      | none => .stuck
    | none => .stuck
  | _ => .stuck
theorem opA_maxL {K : PySem.W.Frag} {W : XW} : OpA K W (rMax K) (fIntsL lstMax) := by
  intro ι st H xs ds Q R r p
  unfold fIntsL at p
  split at p
  · obtain ⟨x, rfl, r1⟩ := r.one
    split at p
    · rename_i zs e
      split at p
      · rename_i ns e2
        split at p
        · rename_i hl
          obtain ⟨q, us, rfl, h1, h2⟩ := viewL_at R e r1
          have h3 := intsOf_at e2 h2
          subst h3
          exact ⟨q, ns, rfl, .of h1, hl, fun m h4 h5 _ => by rw [lstMax_uniq h4 h5]; exact p.same R (.int _)⟩
        · exact p.elim
      · exact p.elim
    · exact p.elim
  · exact p.elim
theorem opA_minL {K : PySem.W.Frag} {W : XW} : OpA K W (rMin K) (fIntsL lstMin) := by
  intro ι st H xs ds Q R r p
  unfold fIntsL at p
  split at p
  · obtain ⟨x, rfl, r1⟩ := r.one
    split at p
    · rename_i zs e
      split at p
      · rename_i ns e2
        split at p
        · rename_i hl
          obtain ⟨q, us, rfl, h1, h2⟩ := viewL_at R e r1
          have h3 := intsOf_at e2 h2
          subst h3
          exact ⟨q, ns, rfl, .of h1, hl, fun m h4 h5 _ => by rw [lstMin_uniq h4 h5]; exact p.same R (.int _)⟩
        · exact p.elim
      · exact p.elim
    · exact p.elim
  · exact p.elim
def fTuple : FA := fun ds st => match ds with
  | [d] => match viewS st d with
    | some xs => .ok (.v (.tuple xs)) st
    | none => .stuck
  | _ => .stuck
theorem call_tupleN {X : Cx} : CallR X (.type "tuple") (fun xs H Q => ∃ p ys, xs = [.ref p] ∧ ((SqL X.K H p ys ∧ NewT H ys Q) ∨ (SqT X.K H p ys ∧ Q (.ref p) H))) := by
  intro pins s σ H xs us Q I r h
  obtain ⟨p, ys, rfl, h⟩ := h
  obtain ⟨u, rfl, rx⟩ := vals1 r
  cases rx
  rcases h with ⟨hq, q⟩ | ⟨hq, q⟩
  · obtain ⟨its, rv, pl, hz⟩ := I.list hq
    have hlen := rv.length
    refine call_tuple_list pl.isList (fun h2 kp => ?_) (by rw [List.size_toArray]; omega)
    exact q.laid (t' := s.toks) (I.kept (t' := s.toks) kp) rv hz
  · obtain ⟨its, _, pl, _⟩ := I.tuple hq
    exact call_tuple_same pl ⟨.ref p, H, I, rfl, q⟩
theorem opA_tuple {K : PySem.W.Frag} {W : XW} : OpA K W (fun xs H Q => ∃ p ys, xs = [.ref p] ∧ ((SqL K H p ys ∧ NewT H ys Q) ∨ (SqT K H p ys ∧ Q (.ref p) H))) fTuple := by
  intro ι st H xs ds Q R r p
  unfold fTuple at p
  split at p
  · rename_i d
    obtain ⟨x, rfl, r1⟩ := r.one
    split at p
    · rename_i zs e
      obtain ⟨q, us, rfl, h1, h2⟩ := viewS_atF R e r1
      rcases h1 with h1 | ⟨⟨o, h1, h3⟩, hfz⟩
      · exact ⟨q, us, rfl, .inl ⟨.of h1, fun a o ha ho hf => p.newTup R h2 ha ho hf⟩⟩
      · exact ⟨q, us, rfl, .inr ⟨.inl (.inr ⟨o, h1⟩), fun _ => p.same R (.tup h1 h3 hfz h2)⟩⟩
    · exact p.elim
  · exact p.elim
def fRepr : FA := fun ds st => match ds with
  | [d] => match viewP st d with
    | some z => if z.showable && !z.hasDict && decide (z.depth ≤ 60) && decide (z.shown.length ≤ lim) then .ok (.v (.str z.shown)) st else .stuck
    | none => .stuck
  | _ => .stuck
def rRepr (K : PySem.W.Frag) : List V → Hp → VK → Prop := fun xs H Q => ∃ x z, xs = [x] ∧ Dp K H x z ∧ z.showable = true ∧ z.hasDict = false ∧ z.depth ≤ 60 ∧ z.shown.length ≤ sizeLine ∧ Q (.str z.shown) H
theorem call_reprN {X : Cx} (g : Gd X) : CallR X (.builtin "repr") (rRepr X.K) := by
  intro pins s σ H xs us Q I r h
  obtain ⟨x, z, rfl, hd, h1, h2, h3, h4, q⟩ := h
  obtain ⟨u, rfl, ru⟩ := vals1 r
  obtain ⟨as, rd⟩ := Dp.reads I z x u hd ru
  cases z with
  | none =>
    cases rd
    exact PySem.P.repr_of_none ⟨.str _, H, I.tok _, ⟨_, rfl⟩, by simpa only [PyData.shown] using q⟩
  | bool b =>
    cases rd
    exact PySem.P.repr_of_bool ⟨.str _, H, I.tok _, ⟨_, rfl⟩, by simpa only [PyData.shown] using q⟩
  | int i =>
    cases rd
    exact PySem.P.repr_of_int (by simpa [PyData.showable] using h1) ⟨.str _, H, I.tok _, ⟨_, rfl⟩, by simpa only [PyData.shown] using q⟩
  | str y =>
    cases rd
    exact PySem.P.repr_of_str ⟨.str _, H, I.tok _, ⟨_, rfl⟩, by simpa only [PyData.shown] using q⟩ (by simpa only [PyData.shown] using h4)
  | list zs =>
    cases rd with
    | list e1 e2 e3 e4 =>
      refine repr_of_reads' (Reads.list e1 e2 e3 e4) h1 (PyData.noDict_hsm h2) g.gu (by have := g.un; omega) (fun _ _ e => e) (fun h' u tk hk => ⟨.str _, H, I.kept hk, ⟨_, rfl⟩, q⟩) h4
  | tuple zs =>
    cases rd with
    | tuple e1 e2 e3 e4 =>
      refine repr_of_reads' (Reads.tuple e1 e2 e3 e4) h1 (PyData.noDict_hsm h2) g.gu (by have := g.un; omega) (fun _ _ e => e) (fun h' u tk hk => ⟨.str _, H, I.kept hk, ⟨_, rfl⟩, q⟩) h4
  | dict zs => simp [PyData.hasDict] at h2
theorem opA_repr {K : PySem.W.Frag} {W : XW} : OpA K W (rRepr K) fRepr := by
  intro ι st H xs ds Q R r p
  unfold fRepr at p
  split at p
  · obtain ⟨x, rfl, r1⟩ := r.one
    split at p
    · rename_i z e
      split at p
      · rename_i h
        simp only [Bool.and_eq_true, Bool.not_eq_true', decide_eq_true_eq] at h
        exact ⟨x, z, rfl, viewP_at R e r1 h.1.1.2, h.1.1.1, h.1.1.2, h.1.2, lim_ok h.2, fun _ => p.same R (.str _)⟩
      · exact p.elim
    · exact p.elim
  · exact p.elim
abbrev MF := Ev → Sto → Out (List PyData)
def PF1 (K : PySem.W.Frag) (ι : Gh) (st : Sto) (H : Hp) (Q : VK) (zs : List PyData) (st' : Sto) : Prop :=
  ∀ ι' H' xs p, SRel K ι' st' H' → Ext ι st H ι' st' H' → RpA (Frz ι' st') H' xs zs → H' p = none → HF (upd H' p (.lst xs)) → Q (.ref p) (upd H' p (.lst xs))
def TFo (K : PySem.W.Frag) (W : XW) (m : MF) : TE := fun σ H Q => ∃ ι env st, SRel K ι st H ∧ EvR K ι st H σ env ∧ (m env st).post (PF1 K ι st H Q) (PX1 K W ι st H)
def mFrz (m : MF) : ME := fun env st => (m env st).bind fun zs s1 => .ok (.v (.list zs)) s1
def mNew (m : MF) : ME := fun env st => (m env st).bind fun zs s1 => .ok (.ref s1.length) (s1 ++ [.lst zs])
section
variable {X : Cx} {W : XW} {e : Expr}
theorem pf_wrap {t : TE} {m : MF} (h : PE X e t) (hi : ∀ σ H Q, TFo X.K W m σ H Q → t σ H (fun v H' => HF H' → Q v H')) : PE X e (TFo X.K W m) :=
  ⟨fun pins s σ H Q I q => thn (h.run pins s σ H _ I (hi σ H Q q)) fun _ _ ⟨v, H', I', r, q'⟩ => ⟨v, H', I', r, q' (hf_of I')⟩⟩
theorem x_frz {m : MF} (h : PE X e (TFo X.K W m)) : PE X e (TEo X.K W (mFrz m)) := pe_wrap h fun σ H Q q => by
  obtain ⟨ι, env, st, R, EV, p⟩ := q
  refine ⟨ι, env, st, R, EV, Out.post_mono (Out.post_bind p) (fun zs s1 q ι1 H1 xs a R1 E1 ra ha hf _ => ?_) fun _ _ q => q⟩
  exact q ι1 _ _ (R1.fresh ha hf) (E1.trans (Ext.fresh R1 ha)) (.lst upd_same (R1.frz_new ha) (ra.ext (Ext.fresh R1 ha)))
theorem x_new {m : MF} (h : PE X e (TFo X.K W m)) : PE X e (TEo X.K W (mNew m)) := pe_wrap h fun σ H Q q => by
  obtain ⟨ι, env, st, R, EV, p⟩ := q
  refine ⟨ι, env, st, R, EV, Out.post_mono (Out.post_bind p) (fun zs s1 q ι1 H1 xs a R1 E1 ra ha hf _ => ?_) fun _ _ q => q⟩
  have E2 : Ext ι1 s1 H1 (ι1.psh a) (s1 ++ [.lst zs]) (upd H1 a (.lst xs)) := Ext.push R1 ha
  refine q (ι1.psh a) _ _ (R1.push ha hf ⟨xs, upd_same, ra.ext E2⟩ rfl) (E1.trans E2) ⟨a, ?_, rfl⟩
  show (ι1.ad ++ [a])[s1.length]? = _
  rw [← R1.len, List.getElem?_append_right (Nat.le_refl _), Nat.sub_self]
  rfl
end
abbrev GA := List D → Sto → Out (List PyData)
def mfArg (f : GA) (ma : MA) : MF := fun env st => (ma env st).bind fun ds s1 => f ds s1
def mfBin (f : D → D → Sto → Out (List PyData)) (ma mb : ME) : MF := fun env st => (ma env st).bind fun a s1 => (mb env s1).bind fun b s2 => f a b s2
def NewL (H : Hp) (xs : List V) (Q : VK) : Prop := ∀ p, H p = none → Q (.ref p) (upd H p (.lst xs))
theorem PF1.new {K : PySem.W.Frag} {ι : Gh} {st : Sto} {H : Hp} {Q : VK} {zs : List PyData} (h : PF1 K ι st H Q zs st) (R : SRel K ι st H) {xs : List V} (r : RpA (Frz ι st) H xs zs) : NewL H xs (fun v H' => HF H' → Q v H') :=
  fun p hp hf => h ι H xs p R Ext.refl r hp hf
theorem PF1.ext {K : PySem.W.Frag} {ι ι' : Gh} {st st' s2 : Sto} {H H' : Hp} {Q : VK} {zs : List PyData} (h : PF1 K ι st H Q zs s2) (e : Ext ι st H ι' st' H') : PF1 K ι' st' H' Q zs s2 :=
  fun ι2 H2 xs p R E r => h ι2 H2 xs p R (e.trans E) r
def OpFA (K : PySem.W.Frag) (W : XW) (r : List V → Hp → VK → Prop) (f : GA) : Prop := ∀ (ι : Gh) (st : Sto) (H : Hp) (xs : List V) (ds : List D) (Q : VK), SRel K ι st H → RDs K ι st H xs ds →
  (f ds st).post (PF1 K ι st H Q) (PX1 K W ι st H) → r xs H (fun v H' => HF H' → Q v H')
def OpF2 (K : PySem.W.Frag) (W : XW) (r : R2) (f : D → D → Sto → Out (List PyData)) : Prop := ∀ (ι : Gh) (st : Sto) (H : Hp) (x y : V) (a b : D) (Q : VK), SRel K ι st H → RD K ι st H x a → RD K ι st H y b →
  (f a b st).post (PF1 K ι st H Q) (PX1 K W ι st H) → r x y H (fun v H' => HF H' → Q v H')
section
variable {K : PySem.W.Frag} {W : XW} {σ : L2.St} {H : Hp} {Q : VK} {ma mb : ME}
theorem tf_arg {r : List V → Hp → VK → Prop} {f : GA} {m : MA} (hf : OpFA K W r f) (h : TFo K W (mfArg f m) σ H Q) : TAo K W m σ H fun xs H1 => r xs H1 (fun v H' => HF H' → Q v H') := by
  obtain ⟨ι, env, st, R, EV, p⟩ := h
  refine ⟨ι, env, st, R, EV, Out.post_mono (Out.post_bind p) (fun a s1 q ι1 H1 x R1 E1 ra => ?_) fun _ _ q => q⟩
  exact hf ι1 s1 H1 x a Q R1 ra (Out.post_mono q (fun _ _ z => z.ext E1) fun _ _ z => z.ext E1)
theorem tf_bin {r : R2} {f : D → D → Sto → Out (List PyData)} (hf : OpF2 K W r f) (h : TFo K W (mfBin f ma mb) σ H Q) : tOp r (TEo K W ma) (TEo K W mb) σ H (fun v H' => HF H' → Q v H') := by
  obtain ⟨ι, env, st, R, EV, p⟩ := h
  refine ⟨ι, env, st, R, EV, Out.post_mono (Out.post_bind p) (fun a s1 q ι1 H1 x R1 E1 ra => ?_) fun _ _ q => q⟩
  refine ⟨ι1, env, s1, R1, EV.ext E1, Out.post_mono (Out.post_bind q) (fun b s2 q2 ι2 H2 y R2 E2 rb => ?_) fun _ _ z => z.ext E1⟩
  exact hf ι2 s2 H2 x y a b Q R2 (ra.ext E2) rb (Out.post_mono q2 (fun _ _ z => (z.ext E1).ext E2) fun _ _ z => (z.ext E1).ext E2)
end
def gDisp : GA := fun ds st => match valsOf ds with
  | some zs => if zs.length ≤ 1000 then .ok zs st else .stuck
  | none => .stuck
theorem opF_disp {K : PySem.W.Frag} {W : XW} : OpFA K W (fun xs H Q => xs.length ≤ sizeLine ∧ NewL H xs Q) gDisp := by
  intro ι st H xs ds Q R r p
  unfold gDisp at p
  split at p
  · rename_i zs e
    split at p
    · rename_i hl
      have ra := valsOf_at e r
      exact ⟨lim1000 (xs_len ra hl), p.new R ra⟩
    · exact p.elim
  · exact p.elim
def gList : GA := fun ds st => match ds with
  | [d] => match viewS st d with
    | some xs => .ok xs st
    | none => .stuck
  | _ => .stuck
theorem opF_list {K : PySem.W.Frag} {W : XW} : OpFA K W (fun xs H Q => ∃ p ys, xs = [.ref p] ∧ (SqL K H p ys ∨ SqT K H p ys) ∧ ∀ l, H l = none → Q (.ref l) (upd H l (.lst ys))) gList := by
  intro ι st H xs ds Q R r p
  unfold gList at p
  split at p
  · obtain ⟨x, rfl, r1⟩ := r.one
    split at p
    · rename_i zs e
      obtain ⟨q, us, rfl, h1, h2⟩ := viewS_at R e r1
      exact ⟨q, us, rfl, h1.imp .of KTup.sq, p.new R h2⟩
    · exact p.elim
  · exact p.elim
def insI (a : Int) : List Int → List Int
  | [] => [a]
  | b :: r => if a ≤ b then a :: b :: r else b :: insI a r
def sortI : List Int → List Int
  | [] => []
  | a :: r => insI a (sortI r)
theorem rpA_ints {F : Addr → Prop} {H : Hp} : ∀ ns : List Int, RpA F H (ns.map V.int) (ns.map PyData.int)
  | [] => .nil
  | n :: r => .cons (.int n) (rpA_ints r)
def gCat : D → D → Sto → Out (List PyData) := fun a b st => match viewL st a, viewL st b with
  | some xs, some ys => if xs.length + ys.length ≤ lim then .ok (xs ++ ys) st else .stuck
  | _, _ => .stuck
theorem opF_cat {K : PySem.W.Frag} {W : XW} : OpF2 K W rCat gCat := by
  intro ι st H x y a b Q R ra rb p
  unfold gCat at p
  split at p
  · rename_i xs ys e1 e2
    split at p
    · rename_i hl
      obtain ⟨a1, us, rfl, h1, r1⟩ := viewL_at R e1 ra
      obtain ⟨b1, vs, rfl, h2, r2⟩ := viewL_at R e2 rb
      have hz : us.length + vs.length ≤ sizeLine := by rw [r1.length, r2.length]; exact lim_ok hl
      exact ⟨a1, b1, us, vs, rfl, rfl, h1, h2, hz, p.new R (r1.append r2)⟩
    · exact p.elim
  · exact p.elim
section
variable {X : Cx} {W : XW} {a b e : Expr} {es : List Expr} {ma mb : ME} {m : MA} {pos p : Pos}
theorem xf_disp (h : PA X es (TAo X.K W m)) : PE X (.List es pos) (TFo X.K W (mfArg gDisp m)) := pf_wrap (pe_lst h) fun σ H Q q => tf_arg opF_disp q
theorem xf_list {x : Str} (hg : Gl X x) (hm : X.mg x = none) (hv : bootBuiltins x = some (.type "list")) (ha : PA X (e :: es) (TAo X.K W m)) (hn : x ≠ "__name__" := by decide) (hdb : (x == ("__debug__" : Str)) = false := by decide)
    (he : starEach (e :: es) X.env = (false, eval e X.env) :: starEach es X.env := by rfl) (hpl : (backTo pos (starEach es X.env)).any (·.1) = false := by rfl) : PE X (.Call (.Name x p) (e :: es) [] pos) (TFo X.K W (mfArg gList m)) :=
  pf_wrap (pe_callTy call_list_of hg hm hv ha hn hdb he hpl) fun σ H Q q => tf_arg opF_list q
theorem xf_cat (ha : PE X a (TEo X.K W ma)) (hb : PE X b (TEo X.K W mb)) : PE X (.BinOp a .Add b pos) (TFo X.K W (mfBin gCat ma mb)) := pf_wrap (pe_op op_cat ha hb) fun σ H Q q => tf_bin opF_cat q
end
end Fw
namespace Fw
open PySem PySem.Spec PyProof.Rows L2
abbrev MO := Ev → Sto → Out (Option Int)
def PO2 (K : PySem.W.Frag) (ι : Gh) (st : Sto) (H : Hp) (Q : Option Int → Hp → Prop) (b : Option Int) (st' : Sto) : Prop := ∀ ι' H', SRel K ι' st' H' → Ext ι st H ι' st' H' → Q b H'
theorem PO2.ext {K : PySem.W.Frag} {ι ι' : Gh} {st st' s2 : Sto} {H H' : Hp} {Q : Option Int → Hp → Prop} {b : Option Int} (h : PO2 K ι st H Q b s2) (e : Ext ι st H ι' st' H') : PO2 K ι' st' H' Q b s2 :=
  fun ι2 H2 R E => h ι2 H2 R (e.trans E)
def TOo (K : PySem.W.Frag) (W : XW) (m : MO) : TO := fun σ H Q => ∃ ι env st, SRel K ι st H ∧ EvR K ι st H σ env ∧ (m env st).post (PO2 K ι st H Q) (PX1 K W ι st H)
def moNone : MO := fun _ st => .ok none st
def moSome (m : ME) : MO := fun env st => (m env st).bind fun d s1 => match iOf d with
  | some i => .ok (some i) s1
  | none => .stuck
section
variable {X : Cx} {W : XW} {e : Expr}
theorem po_wrap {o : Option Expr} {t : TO} {m : MO} (h : PO X o t) (hi : ∀ σ H Q, TOo X.K W m σ H Q → t σ H (fun v H' => HF H' → Q v H')) : PO X o (TOo X.K W m) :=
  ⟨fun pins s σ H Q I q => thn (h.run pins s σ H _ I (hi σ H Q q)) fun _ _ ⟨v, H', I', r, q'⟩ => ⟨v, H', I', r, q' (hf_of I')⟩⟩
theorem xo_none : PO X none (TOo X.K W moNone) := po_wrap po_none fun σ H Q q => by
  obtain ⟨ι, env, st, R, EV, p⟩ := q
  exact fun _ => p ι H R Ext.refl
theorem xo_some {m : ME} (h : PE X e (TEo X.K W m)) : PO X (some e) (TOo X.K W (moSome m)) := po_wrap (po_some h) fun σ H Q q => by
  obtain ⟨ι, env, st, R, EV, p⟩ := q
  refine ⟨ι, env, st, R, EV, Out.post_mono (Out.post_bind p) (fun d s1 q ι1 H1 x R1 E1 ra => ?_) fun _ _ q => q⟩
  split at q
  · rename_i i e
    exact ⟨i, iOf_at e ra, fun _ => q ι1 H1 R1 E1⟩
  · exact q.elim
end
def cutP {α : Type} (xs : List α) (lo hi : Option Int) : List α := (xs.drop (HT.sIx xs.length 0 lo)).take (HT.sIx xs.length xs.length hi - HT.sIx xs.length 0 lo)
theorem RpA.cut {F : Addr → Prop} {H : Hp} {xs : List V} {ds : List PyData} (r : RpA F H xs ds) (lo hi : Option Int) : RpA F H (cutV xs lo hi) (cutP ds lo hi) := by
  unfold cutV cutP
  rw [r.length]
  exact (r.drop _).take _
def rSlN (K : PySem.W.Frag) : V → Option Int → Option Int → Hp → VK → Prop := fun x lo hi H Q => ∃ a xs, x = .ref a ∧ SqT K H a xs ∧
  (HT.sIx xs.length 0 lo = 0 ∧ HT.sIx xs.length xs.length hi = xs.length → Q (.ref a) H) ∧ (¬ (HT.sIx xs.length 0 lo = 0 ∧ HT.sIx xs.length xs.length hi = xs.length) → NewT H (cutV xs lo hi) Q)
theorem sl_tupN {X : Cx} : SlR X (rSlN X.K) := by
  intro pins s σ H x v vl vu lo hi sl Q I rx hs pl pu h
  obtain ⟨a, xs, rfl, hx, q1, q2⟩ := h
  cases rx
  obtain ⟨its, r, ht, hz⟩ := I.tuple hx
  have hlen : its.toArray.size = xs.length := by rw [List.size_toArray]; exact r.length.symm
  refine ⟨"tuple", _, PyProof.Rows.slot_tuple_getitem.lookup, ht.typeIs, ?_⟩
  by_cases hw : HT.sIx xs.length 0 lo = 0 ∧ HT.sIx xs.length xs.length hi = xs.length
  · refine getItem_tuple_whole ht hs pl pu ?_ ⟨.ref a, H, I, rfl, q1 hw⟩
    rw [hlen]
    exact hw
  · refine HT.getItem_tuple_cut ht hs pl pu ?_ ?_ ?_
    · rw [hlen]
      exact hw
    · rw [hlen]
      refine (q2 hw).laid (t' := s.toks) I ?_ (Nat.le_trans (cutV_length xs lo hi) hz)
      exact (r.drop _).take _
    · rw [hlen]
      exact hz
def slD (a : D) (lo hi : Option Int) : Sto → Out D := fun st => match viewL st a with
  | some xs => .ok (.v (.list (cutP xs lo hi))) st
  | none => match tOf a with
    | some xs => .ok (.v (.tuple (cutP xs lo hi))) st
    | none => match sOf a with
      | some z => if z.length ≤ lim then .ok (.v (.str (cutS z lo hi))) st else .stuck
      | none => .stuck
def mSl (m : ME) (lo hi : MO) : ME := fun env st => (m env st).bind fun a s1 => (lo env s1).bind fun l s2 => (hi env s2).bind fun h s3 => slD a l h s3
def mfSl (m : ME) (lo hi : MO) : MF := fun env st => (m env st).bind fun a s1 => (lo env s1).bind fun l s2 => (hi env s2).bind fun h s3 => match viewL s3 a with
  | some xs => .ok (cutP xs l h) s3
  | none => .stuck
theorem cut_whole {α : Type} {xs : List α} {lo hi : Option Int} (h1 : HT.sIx xs.length 0 lo = 0) (h2 : HT.sIx xs.length xs.length hi = xs.length) : cutP xs lo hi = xs := by
  unfold cutP
  rw [h1, h2, List.drop_zero, Nat.sub_zero, List.take_length]
section
variable {X : Cx} {W : XW} {e : Expr} {m : ME} {lo hi : Option Expr} {ml mh : MO} {pos p2 : Pos}
theorem x_slice (he : PE X e (TEo X.K W m)) (hl : PO X lo (TOo X.K W ml)) (hu : PO X hi (TOo X.K W mh)) : PE X (.Subscript e (.Slice lo hi none p2) pos) (TEo X.K W (mSl m ml mh)) := by
  refine pe_wrap (pe_slice (sl_list.or (sl_tupN.or sl_str)) he hl hu) fun σ H Q q => ?_
  obtain ⟨ι, env, st, R, EV, p⟩ := q
  refine ⟨ι, env, st, R, EV, Out.post_mono (Out.post_bind p) (fun a s1 q ι1 H1 x R1 E1 ra => ?_) fun _ _ q => q⟩
  refine ⟨ι1, env, s1, R1, EV.ext E1, Out.post_mono (Out.post_bind q) (fun l s2 q2 ι2 H2 R2 E2 => ?_) fun _ _ z => z.ext E1⟩
  refine ⟨ι2, env, s2, R2, (EV.ext E1).ext E2, Out.post_mono (Out.post_bind q2) (fun u s3 q3 ι3 H3 R3 E3 => ?_) fun _ _ z => (z.ext E1).ext E2⟩
  have ra3 := (ra.ext E2).ext E3
  have q4 : (slD a l u s3).post (PO1 X.K ι3 s3 H3 Q) (PX1 X.K W ι3 s3 H3) := Out.post_mono q3 (fun _ _ z => ((z.ext E1).ext E2).ext E3) fun _ _ z => ((z.ext E1).ext E2).ext E3
  unfold slD at q4
  split at q4
  · rename_i xs e1
    obtain ⟨b, us, rfl, h1, h2⟩ := viewL_at R3 e1 ra3
    exact .inl ⟨b, us, rfl, .of h1, fun p hp hf => q4.newLst R3 (h2.cut l u) hp hf⟩
  · split at q4
    · rename_i xs e1
      obtain ⟨b, us, rfl, h1, h2⟩ := tOf_at e1 ra3
      refine .inr (.inl ⟨b, us, rfl, h1.sq, fun hw _ => ?_, fun _ p o hp ho hf => q4.newTup R3 (h2.cut l u) hp ho hf⟩)
      rw [h2.length] at hw
      rw [cut_whole hw.1 hw.2] at q4
      rw [tOf_eq e1] at ra3
      exact q4.same R3 ra3
    · split at q4
      · rename_i z e1
        split at q4
        · rename_i hz
          exact .inr (.inr ⟨z, sOf_at e1 ra3, lim_ok hz, fun _ => q4.same R3 (.str _)⟩)
        · exact q4.elim
      · exact q4.elim
def mfRev (m : ME) : MF := fun env st => (m env st).bind fun a s1 => match viewL s1 a with
  | some xs => .ok xs.reverse s1
  | none => .stuck
theorem xf_rev {k : Nat} {p1 p2 p3 : Pos} (he : PE X e (TEo X.K W m)) : PE X (.Subscript e (.Slice none none (some (.UnaryOp .USub (.Constant (.int 1) k p1) p2)) p3) pos) (TFo X.K W (mfRev m)) := by
  refine pf_wrap (pe_revL he) fun σ H Q q => ?_
  obtain ⟨ι, env, st, R, EV, p⟩ := q
  refine ⟨ι, env, st, R, EV, Out.post_mono (Out.post_bind p) (fun a s1 q ι1 H1 x R1 E1 ra => ?_) fun _ _ q => q⟩
  split at q
  · rename_i xs e1
    obtain ⟨b, us, rfl, h1, h2⟩ := viewL_at R1 e1 ra
    exact ⟨b, us, rfl, .of h1, (q.ext E1).new R1 h2.reverse⟩
  · exact q.elim
end
abbrev FM := D → List D → Sto → Out D
def isL (st : Sto) (d : D) : Bool := (viewL st d).isSome
def mM0 (f : FM) (mo : ME) : ME := fun env st => (mo env st).bind fun o s1 => if isL s1 o then f o [] s1 else .stuck
def mM (f : FM) (mo : ME) (ma : MA) : ME := fun env st => (mo env st).bind fun o s1 => if isL s1 o then (ma env s1).bind fun ds s2 => f o ds s2 else .stuck
def OpM (K : PySem.W.Frag) (W : XW) (r : V → List V → Hp → VK → Prop) (f : FM) : Prop := ∀ (ι : Gh) (st : Sto) (H : Hp) (x : V) (xs : List V) (o : D) (ds : List D) (Q : VK), SRel K ι st H → RD K ι st H x o → RDs K ι st H xs ds →
  (f o ds st).post (PO1 K ι st H Q) (PX1 K W ι st H) → r x xs H (fun v H' => HF H' → Q v H')
section
variable {X : Cx} {W : XW} {o e : Expr} {es : List Expr} {mo : ME} {ma : MA} {name : Str} {apos cpos : Pos} {id : String} {r : V → List V → Hp → VK → Prop} {f : FM}
theorem isL_ty {K : PySem.W.Frag} {ι : Gh} {st : Sto} {H : Hp} (R : SRel K ι st H) {d : D} {x : V} (h : isL st d = true) (r : RD K ι st H x d) : tyV K "list" x H := by
  obtain ⟨ds, e⟩ := Option.isSome_iff_exists.mp h
  obtain ⟨a, xs, rfl, h1, _⟩ := viewL_at R e r
  exact .inl ⟨rfl, xs, .of h1⟩
theorem x_m0 (pa : PlainAttrs "list") (slot : Slot "list" name id) (hty : typeOf (.builtin id) = pure (.type "method_descriptor")) (hm : MtR X id r) (hf : OpM X.K W r f) (ho : PE X o (TEo X.K W mo))
    (hbase : attributeBase o name X.env (eval o X.env) = eval o X.env := by rfl) (hline : (apos.endLine == cpos.line) = true := by rfl) : PE X (.Call (.Attribute o name apos) [] [] cpos) (TEo X.K W (mM0 f mo)) :=
  pe_wrap (pe_bm0 pa slot hty hm ho hbase hline) fun σ H Q q => by
    obtain ⟨ι, env, st, R, EV, p⟩ := q
    refine ⟨ι, env, st, R, EV, Out.post_mono (Out.post_bind p) (fun a s1 q ι1 H1 x R1 E1 ra => ?_) fun _ _ q => q⟩
    split at q
    · rename_i h
      exact ⟨isL_ty R1 h ra, hf ι1 s1 H1 x [] a [] Q R1 ra .nil (Out.post_mono q (fun _ _ z => z.ext E1) fun _ _ z => z.ext E1)⟩
    · exact q.elim
theorem x_m (pa : PlainAttrs "list") (slot : Slot "list" name id) (hty : typeOf (.builtin id) = pure (.type "method_descriptor")) (hm : MtR X id r) (hf : OpM X.K W r f) (ho : PE X o (TEo X.K W mo)) (ha : PA X (e :: es) (TAo X.K W ma))
    (hbase : attributeBase o name X.env (eval o X.env) = eval o X.env := by rfl)
    (hfew : ((backTo cpos (starEach (e :: es) X.env)).all (fun x => !x.1) && (backToKw cpos (keywordEach [] X.env)).all (fun x => x.1.isSome)
      && decide ((e :: es).length + ([] : List Keyword).length + (if ([] : List Keyword).isEmpty then 0 else 1) < 30)) = true := by rfl)
    (hline : (apos.endLine == cpos.line) = true := by rfl) (hs : starEach (e :: es) X.env = (false, eval e X.env) :: starEach es X.env := by rfl) (hplain : (backTo cpos (starEach es X.env)).any (·.1) = false := by rfl) :
    PE X (.Call (.Attribute o name apos) (e :: es) [] cpos) (TEo X.K W (mM f mo ma)) :=
  pe_wrap (pe_bm pa slot hty hm ho ha hbase hfew hline hs hplain) fun σ H Q q => by
    obtain ⟨ι, env, st, R, EV, p⟩ := q
    refine ⟨ι, env, st, R, EV, Out.post_mono (Out.post_bind p) (fun a s1 q ι1 H1 x R1 E1 ra => ?_) fun _ _ q => q⟩
    split at q
    · rename_i h
      refine ⟨isL_ty R1 h ra, ι1, env, s1, R1, EV.ext E1, Out.post_mono (Out.post_bind q) (fun ds s2 q2 ι2 H2 xs R2 E2 rb => ?_) fun _ _ z => z.ext E1⟩
      exact hf ι2 s2 H2 x xs a ds Q R2 (ra.ext E2) rb (Out.post_mono q2 (fun _ _ z => (z.ext E1).ext E2) fun _ _ z => (z.ext E1).ext E2)
    · exact q.elim
end
def lAt (st : Sto) : D → Option (Nat × List PyData)
  | .ref n => match st[n]? with
    | some (.lst zs) => some (n, zs)
    | _ => none
  | _ => none
theorem lAt_at {K : PySem.W.Frag} {ι : Gh} {st : Sto} {H : Hp} (R : SRel K ι st H) {x : V} {d : D} {n : Nat} {ds : List PyData} (e : lAt st d = some (n, ds)) (r : RD K ι st H x d) :
    ∃ a xs, x = .ref a ∧ H a = some (.lst xs) ∧ RpA (Frz ι st) H xs ds ∧ st[n]? = some (.lst ds) ∧ ι.ad[n]? = some a := by
  cases d with
  | ref k =>
    obtain ⟨a, h1, h2⟩ := r
    cases q : st[k]? with
    | none => simp only [lAt, q] at e; cases e
    | some o =>
      cases o with
      | lst zs =>
        simp only [lAt, q, Option.some.injEq, Prod.mk.injEq] at e
        obtain ⟨rfl, rfl⟩ := e
        obtain ⟨xs, e1, r⟩ := R.obj k _ a q h1
        exact ⟨a, xs, h2, e1, r, q, h1⟩
      | _ => simp only [lAt, q] at e; cases e
  | _ => cases e
theorem PO1.wrote {K : PySem.W.Frag} {ι : Gh} {st : Sto} {H : Hp} {Q : VK} {d : D} {n : Nat} {ds es : List PyData} {a : Addr} {ys : List V} {v : V} (p : PO1 K ι st H Q d (st.set n (.lst es))) (R : SRel K ι st H) (h1 : st[n]? = some (.lst ds)) (h2 : ι.ad[n]? = some a)
    (r : RpA (Frz ι st) H ys es) (hv : ∀ ι' st' H', Ext ι st H ι' st' H' → RD K ι' st' H' v d) (hf : HF (upd H a (.lst ys))) : Q v (upd H a (.lst ys)) := by
  have E : Ext ι st H ι (st.set n (.lst es)) (upd H a (.lst ys)) := Ext.write R h1 h2 (fun z => nomatch z) (fun _ _ z => nomatch z)
  exact p ι _ v (R.write h1 h2 (fun z => nomatch z) (fun _ _ z => nomatch z) hf ⟨ys, upd_same, r.ext E⟩ rfl) E (hv _ _ _ E)
def fmAppend : FM := fun o ds st => match lAt st o, ds with
  | some (n, zs), [.v d] => if zs.length < lim then .ok (.v .none) (st.set n (.lst (zs ++ [d]))) else .stuck
  | _, _ => .stuck
theorem opM_append {K : PySem.W.Frag} {W : XW} : OpM K W rAppend fmAppend := by
  intro ι st H x xs o ds Q R ro rd p
  unfold fmAppend at p
  split at p
  · rename_i n zs d e
    split at p
    · rename_i hl
      obtain ⟨a, us, rfl, h1, h2, h3, h4⟩ := lAt_at R e ro
      obtain ⟨y, rfl, ry⟩ := rd.one
      refine ⟨a, us, y, rfl, rfl, h1, by rw [h2.length]; exact Nat.lt_of_lt_of_le hl (lim_ok (Nat.le_refl _)), fun hf => ?_⟩
      exact p.wrote R h3 h4 (h2.append (.cons ry .nil)) (fun _ _ _ _ => .non) hf
    · exact p.elim
  · exact p.elim
def fmPop : FM := fun o ds st => match lAt st o, ds with
  | some (n, zs), [] => match zs[zs.length - 1]? with
    | some d => .ok (.v d) (st.set n (.lst zs.dropLast))
    | none => .stuck
  | _, _ => .stuck
theorem opM_pop {K : PySem.W.Frag} {W : XW} : OpM K W rPop fmPop := by
  intro ι st H x xs o ds Q R ro rd p
  unfold fmPop at p
  split at p
  · rename_i n zs e
    split at p
    · rename_i d ed
      obtain ⟨a, us, rfl, h1, h2, h3, h4⟩ := lAt_at R e ro
      cases rd
      obtain ⟨y, h5, h6⟩ := h2.get ed
      refine ⟨a, us, y, rfl, rfl, h1, by rw [h2.length]; exact h5, fun hf => ?_⟩
      exact p.wrote R h3 h4 h2.dropLast (fun _ _ _ E => h6.ext E) hf
    · exact p.elim
  · exact p.elim
def fmPopAt : FM := fun o ds st => match lAt st o, ds with
  | some (n, zs), [.v (.int i)] => if -1000000 ≤ i ∧ i ≤ 1000000 then match seqIndex? i zs.length with
      | some k => match zs[k]? with
        | some d => .ok (.v d) (st.set n (.lst (zs.eraseIdx k)))
        | none => .stuck
      | none => .stuck
    else .stuck
  | _, _ => .stuck
theorem opM_popAt {K : PySem.W.Frag} {W : XW} : OpM K W rPopAt fmPopAt := by
  intro ι st H x xs o ds Q R ro rd p
  unfold fmPopAt at p
  split at p
  · rename_i n zs i e
    split at p
    · rename_i hb
      split at p
      · rename_i k ek
        split at p
        · rename_i d ed
          obtain ⟨a, us, rfl, h1, h2, h3, h4⟩ := lAt_at R e ro
          obtain ⟨y, rfl, ry⟩ := rd.one
          have ey := iOf_at (d := .v (.int i)) rfl ry
          subst ey
          obtain ⟨y, h5, h6⟩ := h2.get ed
          refine ⟨a, us, i, k, y, rfl, rfl, h1, by omega, by omega, by rw [h2.length]; exact ek, h5, fun hf => ?_⟩
          exact p.wrote R h3 h4 (h2.erase k) (fun _ _ _ E => h6.ext E) hf
        · exact p.elim
      · exact p.elim
    · exact p.elim
  · exact p.elim
def idxP (y : PyData) : List PyData → Option Nat
  | [] => none
  | z :: r => if PyData.eqv z y then some 0 else (idxP y r).map (· + 1)
def fmIndex : FM := fun o ds st => match viewS st o, ds with
  | some zs, [.v d] => if flatP d && zs.all flatP then match idxP d zs with
      | some k => .ok (.v (.int (k : Nat))) st
      | none => .stuck
    else .stuck
  | _, _ => .stuck
theorem idxP_at {F : Addr → Prop} {H : Hp} {y : V} {d : PyData} (ry : Rp F H y d) (hd : flatP d = true) : ∀ {xs : List V} {ds : List PyData} {k : Nat}, RpA F H xs ds → ds.all flatP = true → idxP d ds = some k →
    ∃ z, xs[k]? = some z ∧ eqV z y = true ∧ ∀ (m : Nat) (z' : V), m < k → xs[m]? = some z' → eqV z' y = false
  | _, _, _, .nil, _, h => by cases h
  | _, _, k, .cons (x := x) (d := d') r t, hf, h => by
    rw [List.all_cons, Bool.and_eq_true] at hf
    unfold idxP at h
    split at h
    · rename_i e
      cases h
      exact ⟨x, rfl, by rw [eqV_of r ry hf.1 hd]; exact e, fun m _ hm => absurd hm (Nat.not_lt_zero _)⟩
    · rename_i e
      obtain ⟨j, h1, rfl⟩ := Option.map_eq_some_iff.mp h
      obtain ⟨z, h2, h3, h4⟩ := idxP_at ry hd t hf.2 h1
      refine ⟨z, by simpa using h2, h3, fun m z' hm hz => ?_⟩
      cases m with
      | zero =>
        have : x = z' := by simpa using hz
        subst this
        rw [eqV_of r ry hf.1 hd]
        simpa using e
      | succ m => exact h4 m z' (by omega) (by simpa using hz)
theorem viewS_L {st : Sto} {o : D} {zs ws : List PyData} (e : viewS st o = some zs) (ew : viewL st o = some ws) : zs = ws := by
  have : viewS st o = viewL st o := by
    cases o with
    | v w =>
      cases w with
      | tuple _ => cases ew
      | _ => rfl
    | _ => rfl
  rw [this, ew] at e
  exact (Option.some.inj e).symm
theorem opM_index {K : PySem.W.Frag} {W : XW} : OpM K W (rIndex K) (fun o ds st => if isL st o then fmIndex o ds st else .stuck) := by
  intro ι st H x xs o ds Q R ro rd p
  replace p : (if isL st o then fmIndex o ds st else .stuck).post (PO1 K ι st H Q) (PX1 K W ι st H) := p
  split at p
  · rename_i hL
    unfold fmIndex at p
    split at p
    · rename_i zs d e
      split at p
      · rename_i hf
        rw [Bool.and_eq_true] at hf
        split at p
        · rename_i k ek
          obtain ⟨ws, ew⟩ := Option.isSome_iff_exists.mp hL
          obtain ⟨a, us, rfl, h1, h2⟩ := viewL_at R ew ro
          have eq := viewS_L e ew
          subst eq
          obtain ⟨y, rfl, ry⟩ := rd.one
          obtain ⟨z, h3, h4, h5⟩ := idxP_at ry hf.1 h2 hf.2 ek
          exact ⟨a, us, y, k, z, rfl, rfl, .of h1, flat_of ry hf.1, flatAll_of h2 hf.2, h3, h4, h5, fun _ => p.same R (.int _)⟩
        · exact p.elim
      · exact p.elim
    · exact p.elim
  · exact p.elim
def rIndexT (H0 : Hp → Prop) (K : PySem.W.Frag) : V → List V → Hp → VK → Prop := fun x xs H Q => ∃ (a : Addr) (ys : List V) (y : V) (j : Nat) (z : V), x = V.ref a ∧ xs = [y] ∧ SqT K H a ys ∧ flatV y = true ∧ ys.all flatV = true ∧ ys[j]? = some z ∧ eqV z y = true ∧
  (∀ (m : Nat) (z' : V), m < j → ys[m]? = some z' → eqV z' y = false) ∧ Q (.int (j : Nat)) H
theorem mt_indexT {X : Cx} : MtR X "tuple.index" (rIndexT (fun _ => True) X.K) := by
  intro pins s σ H x xs v us Q I rx rxs h
  obtain ⟨a, ys, y, j, z, rfl, rfl, hl, fy, fys, hz, hzj, hno, q⟩ := h
  cases rx
  obtain ⟨uy, rfl, ry⟩ := vals1 rxs
  obtain ⟨its, rv, pl, hlen⟩ := I.tuple hl
  obtain ⟨⟨cls, dd, data, sls⟩, ho, hc, n, hdt⟩ := pl
  simp only at hc hdt
  subst hc hdt
  have hvl := rv.length
  obtain ⟨hjd, _⟩ := List.getElem?_eq_some_iff.mp hz
  have hj : j < its.toArray.size := by
    rw [List.size_toArray]
    omega
  have at_ : ∀ (m : Nat) (hm : m < its.toArray.size) (w : V), ys[m]? = some w → eqU y its.toArray[m] = eqV w y := fun m hm w hw => by
    obtain ⟨u, h1, h2⟩ := rv.get hw
    have e : its.toArray[m] = u := by
      have h3 := (List.getElem?_eq_some_iff.mp h1).2
      simpa using h3
    rw [e]
    exact eqU_of h2 (flat_at fys hw)
  refine call_meets PySem.F.slot_tuple_index ⟨_, ho, rfl⟩ PySem.F.entry_tuple_index (PySem.F.args_tuple_index_2 _ _)
    (TI.tuple_indexAt a its.toArray n dd sls uy (eqU y) j hj ?_ ?_) ⟨ho, fun w hw => mem_eqAt ry fy rv fys w (by simpa using hw), ⟨.int (j : Nat), H, I.tok _, ⟨_, rfl⟩, q⟩⟩
  · rw [at_ j hj z hz]
    exact hzj
  · intro m hm hmj
    have hmd : m < ys.length := by
      rw [List.size_toArray] at hm
      omega
    rw [at_ m hm _ (List.getElem?_eq_getElem hmd)]
    exact hno m _ hmj (List.getElem?_eq_getElem hmd)
def isT (d : D) : Bool := (tOf d).isSome
def mMT (f : FM) (mo : ME) (ma : MA) : ME := fun env st => (mo env st).bind fun o s1 => if isT o then (ma env s1).bind fun ds s2 => f o ds s2 else .stuck
theorem opM_indexT {K : PySem.W.Frag} {W : XW} : OpM K W (rIndexT (fun _ => True) K) (fun o ds st => if isT o then fmIndex o ds st else .stuck) := by
  intro ι st H x xs o ds Q R ro rd p
  replace p : (if isT o then fmIndex o ds st else .stuck).post (PO1 K ι st H Q) (PX1 K W ι st H) := p
  split at p
  · rename_i hL
    unfold fmIndex at p
    split at p
    · rename_i zs d e
      split at p
      · rename_i hf
        rw [Bool.and_eq_true] at hf
        split at p
        · rename_i k ek
          obtain ⟨ws, ew⟩ := Option.isSome_iff_exists.mp hL
          obtain ⟨a, us, rfl, h1, h2⟩ := tOf_at ew ro
          have eq : zs = ws := by
            rw [tOf_eq ew] at e
            exact (Option.some.inj e).symm
          subst eq
          obtain ⟨y, rfl, ry⟩ := rd.one
          obtain ⟨z, h3, h4, h5⟩ := idxP_at ry hf.1 h2 hf.2 ek
          exact ⟨a, us, y, k, z, rfl, rfl, h1.sq, flat_of ry hf.1, flatAll_of h2 hf.2, h3, h4, h5, fun _ => p.same R (.int _)⟩
        · exact p.elim
      · exact p.elim
    · exact p.elim
  · exact p.elim
section
variable {X : Cx} {W : XW} {o e : Expr} {es : List Expr} {mo : ME} {ma : MA} {to : TE} {t : TA} {name : Str} {apos cpos : Pos} {id : String} {r : V → List V → Hp → VK → Prop} {f : FM}
theorem pe_bmT (pa : PlainAttrs "tuple") (slot : Slot "tuple" name id) (hty : typeOf (.builtin id) = pure (.type "method_descriptor")) (hm : MtR X id r) (ho : PE X o to) (ha : PA X (e :: es) t)
    (hbase : attributeBase o name X.env (eval o X.env) = eval o X.env)
    (hfew : ((backTo cpos (starEach (e :: es) X.env)).all (fun x => !x.1) && (backToKw cpos (keywordEach [] X.env)).all (fun x => x.1.isSome)
      && decide ((e :: es).length + ([] : List Keyword).length + (if ([] : List Keyword).isEmpty then 0 else 1) < 30)) = true)
    (hline : (apos.endLine == cpos.line) = true) (hs : starEach (e :: es) X.env = (false, eval e X.env) :: starEach es X.env) (hplain : (backTo cpos (starEach es X.env)).any (·.1) = false) :
    PE X (.Call (.Attribute o name apos) (e :: es) [] cpos) (fun σ H Q => to σ H fun x H1 => (∃ a xs, x = .ref a ∧ KTup H1 a xs) ∧ t σ H1 fun xs H2 => r x xs H2 Q) := by
  refine ⟨fun pins s σ H Q I h => ?_⟩
  refine wpAny_Call_method_late hbase hfew hline rfl (thn (ho.run pins s σ H _ I h) fun v s1 hv => ?_)
  obtain ⟨x, H1, I1, r1, ⟨a, xs, rfl, o1, ha1, hd1⟩, q1⟩ := hv
  cases r1
  obtain ⟨hob, hto⟩ := I1.hok a _ ha1
  obtain ⟨_, _, _, ob2, hob2, hcl, _⟩ := hto
  rw [hob] at hob2
  cases hob2
  refine ⟨"tuple", id, pa, slot, hty, ⟨o1, hob, hcl⟩, fun b hb => ?_, ?_⟩
  · cases hb
    exact ⟨o1, hob, hd1⟩
  · have hA := ha.run cpos pins s1 σ H1 _ I1 q1
    rw [hs] at hA ⊢
    refine Calls.callWith_builtin ?_ (Calls.evalArgs_plain ?_)
    · show (false || (backTo cpos (starEach es X.env)).any (·.1)) = false
      rw [hplain]
      rfl
    · exact thn hA fun us s2 ⟨vs, H2, I2, r2, q2⟩ => hm pins s2 σ H2 (.ref a) vs (.ref a) us Q I2 rfl r2 q2
theorem x_mT (pa : PlainAttrs "tuple") (slot : Slot "tuple" name id) (hty : typeOf (.builtin id) = pure (.type "method_descriptor")) (hm : MtR X id r) (hf : OpM X.K W r f) (ho : PE X o (TEo X.K W mo)) (ha : PA X (e :: es) (TAo X.K W ma))
    (hbase : attributeBase o name X.env (eval o X.env) = eval o X.env := by rfl)
    (hfew : ((backTo cpos (starEach (e :: es) X.env)).all (fun x => !x.1) && (backToKw cpos (keywordEach [] X.env)).all (fun x => x.1.isSome)
      && decide ((e :: es).length + ([] : List Keyword).length + (if ([] : List Keyword).isEmpty then 0 else 1) < 30)) = true := by rfl)
    (hline : (apos.endLine == cpos.line) = true := by rfl) (hs : starEach (e :: es) X.env = (false, eval e X.env) :: starEach es X.env := by rfl) (hplain : (backTo cpos (starEach es X.env)).any (·.1) = false := by rfl) :
    PE X (.Call (.Attribute o name apos) (e :: es) [] cpos) (TEo X.K W (mMT f mo ma)) :=
  pe_wrap (pe_bmT pa slot hty hm ho ha hbase hfew hline hs hplain) fun σ H Q q => by
    obtain ⟨ι, env, st, R, EV, p⟩ := q
    refine ⟨ι, env, st, R, EV, Out.post_mono (Out.post_bind p) (fun a s1 q ι1 H1 x R1 E1 ra => ?_) fun _ _ q => q⟩
    split at q
    · rename_i h
      obtain ⟨ws, ew⟩ := Option.isSome_iff_exists.mp h
      obtain ⟨b, us, rfl, h1, h2⟩ := tOf_at ew ra
      refine ⟨⟨b, us, rfl, h1⟩, ι1, env, s1, R1, EV.ext E1, Out.post_mono (Out.post_bind q) (fun ds s2 q2 ι2 H2 xs R2 E2 rb => ?_) fun _ _ z => z.ext E1⟩
      exact hf ι2 s2 H2 _ xs a ds Q R2 (ra.ext E2) rb (Out.post_mono q2 (fun _ _ z => (z.ext E1).ext E2) fun _ _ z => (z.ext E1).ext E2)
    · exact q.elim
theorem fmIndex_L {o : D} {ds : List D} {st : Sto} (h : isT o = false) : (if isL st o then fmIndex o ds st else .stuck) = fmIndex o ds st := by
  by_cases hl : isL st o = true
  · rw [if_pos hl]
  · rw [if_neg hl]
    have e : viewS st o = none := by
      have e1 : viewL st o = none := by
        cases q : viewL st o with
        | none => rfl
        | some z =>
          unfold isL at hl
          rw [q] at hl
          exact absurd rfl hl
      cases o with
      | v w =>
        cases w with
        | tuple _ => cases h
        | _ => exact e1
      | _ => exact e1
    unfold fmIndex
    rw [e]
def mIndex (mo : ME) (ma : MA) : ME := fun env st => (mo env st).bind fun o s1 => if isL s1 o || isT o then (ma env s1).bind fun ds s2 => fmIndex o ds s2 else .stuck
theorem x_index (ho : PE X o (TEo X.K W mo)) (ha : PA X (e :: es) (TAo X.K W ma))
    (hbase : attributeBase o "index" X.env (eval o X.env) = eval o X.env := by rfl)
    (hfew : ((backTo cpos (starEach (e :: es) X.env)).all (fun x => !x.1) && (backToKw cpos (keywordEach [] X.env)).all (fun x => x.1.isSome)
      && decide ((e :: es).length + ([] : List Keyword).length + (if ([] : List Keyword).isEmpty then 0 else 1) < 30)) = true := by rfl)
    (hline : (apos.endLine == cpos.line) = true := by rfl) (hs : starEach (e :: es) X.env = (false, eval e X.env) :: starEach es X.env := by rfl) (hplain : (backTo cpos (starEach es X.env)).any (·.1) = false := by rfl) :
    PE X (.Call (.Attribute o "index" apos) (e :: es) [] cpos) (TEo X.K W (mIndex mo ma)) := by
  have hL := x_m (X := X) (W := W) PySem.F.plainAttrs_list PySem.F.slot_list_index PySem.F.type_list_index mt_index opM_index ho ha hbase hfew hline hs hplain
  have hT := x_mT (X := X) (W := W) PySem.F.plainAttrs_tuple PySem.F.slot_tuple_index PySem.F.type_tuple_index mt_indexT opM_indexT ho ha hbase hfew hline hs hplain
  refine pe_wrap (pe_or hL hT) fun σ H Q q => ?_
  obtain ⟨ι, env, st, R, EV, p⟩ := q
  have lift : ∀ {m : ME}, (m env st).post (PO1 X.K ι st H Q) (PX1 X.K W ι st H) → TEo X.K W m σ H (fun v H' => HF H' → Q v H') := fun z =>
    ⟨ι, env, st, R, EV, Out.post_mono z (fun _ _ w ι' H' x R' E' r _ => w ι' H' x R' E' r) fun _ _ w => w⟩
  have p2 := Out.post_bind p
  cases e1 : mo env st with
  | stuck => rw [e1] at p2; exact p2.elim
  | exn x s1 =>
    refine .inl (lift ?_)
    show (mM _ mo ma env st).post _ _
    unfold mM
    unfold mIndex at p
    rw [e1] at p ⊢
    exact p
  | ok o1 s1 =>
    unfold mIndex at p
    rw [e1, bind_ok] at p
    split at p
    · rename_i hc
      by_cases hl : isT o1 = true
      · refine .inr (lift ?_)
        show (mMT _ mo ma env st).post _ _
        unfold mMT
        rw [e1, bind_ok, if_pos hl]
        simp only [hl, if_true]
        exact p
      · have hf : isT o1 = false := by simpa using hl
        refine .inl (lift ?_)
        show (mM _ mo ma env st).post _ _
        unfold mM
        have h2 : isL s1 o1 = true := by simpa [hf] using hc
        rw [e1, bind_ok, if_pos h2]
        simp only [fmIndex_L hf]
        exact p
    · exact p.elim
end
end Fw
namespace Fw
open PySem PySem.Spec PyProof.Rows L2
def mTB (m : ME) : MT := fun env st => (m env st).bind fun d s1 => match bOf d with
  | some k => .ok k s1
  | none => .stuck
theorem emp_of {F : Addr → Prop} {H : Hp} {xs : List V} {ds : List PyData} (r : RpA F H xs ds) : xs.isEmpty = ds.isEmpty := by cases r <;> rfl
theorem RK.emp {K : PySem.W.Frag} {ι : Gh} {st : Sto} {H : Hp} {kvs : List (PyData × D)} {xs : List (Key × V)} (r : RK K ι st H kvs xs) : xs.isEmpty = kvs.isEmpty := by cases r <;> rfl
theorem RK.len {K : PySem.W.Frag} {ι : Gh} {st : Sto} {H : Hp} {kvs : List (PyData × D)} {xs : List (Key × V)} (r : RK K ι st H kvs xs) : xs.length = kvs.length := (Paired.length r).symm
def kAt (st : Sto) (d : D) : Option (List (PyData × D)) := match d with
  | .ref n => match st[n]? with
    | some (.dct false kvs) => some kvs
    | _ => none
  | _ => none
theorem kAt_at {K : PySem.W.Frag} {ι : Gh} {st : Sto} {H : Hp} (R : SRel K ι st H) {x : V} {d : D} {kvs : List (PyData × D)} (e : kAt st d = some kvs) (r : RD K ι st H x d) :
    ∃ n a xs, d = .ref n ∧ x = .ref a ∧ st[n]? = some (.dct false kvs) ∧ ι.ad[n]? = some a ∧ H a = some (.dK xs) ∧ RK K ι st H kvs xs := by
  cases d with
  | ref k =>
    obtain ⟨a, h1, h2⟩ := r
    cases q : st[k]? with
    | none => simp only [kAt, q] at e; cases e
    | some o =>
      cases o with
      | dct t zs =>
        cases t with
        | false =>
          simp only [kAt, q, Option.some.injEq] at e
          subst e
          obtain ⟨xs, e1, r⟩ := R.obj k _ a q h1
          exact ⟨k, a, xs, rfl, h2, q, h1, e1, r⟩
        | true => simp only [kAt, q] at e; cases e
      | _ => simp only [kAt, q] at e; cases e
  | _ => cases e
def truS' (st : Sto) (d : D) : Option Bool := match viewS st d with
  | some xs => some (!xs.isEmpty)
  | none => match d with
    | .v .none => some false
    | .v (.bool b) => some b
    | .v (.int i) => some (i != 0)
    | .v (.str z) => if z.length ≤ lim then some ((z.length : Int) != 0) else none
    | d => (kAt st d).map fun kvs => !kvs.isEmpty
def mTru' (m : ME) : MT := fun env st => (m env st).bind fun d s1 => match truS' s1 d with
  | some k => .ok k s1
  | none => .stuck
theorem truS_at {K : PySem.W.Frag} {ι : Gh} {st : Sto} {H : Hp} (R : SRel K ι st H) {d : D} {x : V} {k : Bool} (e : truS' st d = some k) (r : RD K ι st H x d) : TruV K x H k := by
  unfold truS' at e
  split at e
  · rename_i xs e1
    obtain ⟨a, us, rfl, h1, h2⟩ := viewS_at R e1 r
    rw [← Option.some.inj e, ← emp_of h2]
    rcases h1 with h1 | h1
    · exact .inl ⟨us, .of h1, rfl⟩
    · exact .inr (.inl ⟨us, h1.sq, rfl⟩)
  · split at e
    · have r' : Rp (Frz ι st) H x .none := r
      cases r'
      exact (Option.some.inj e).symm
    · rename_i b _
      have r' : Rp (Frz ι st) H x (.bool b) := r
      cases r'
      exact (Option.some.inj e).symm
    · rename_i i _
      have r' : Rp (Frz ι st) H x (.int i) := r
      cases r'
      exact (Option.some.inj e).symm
    · rename_i z _
      have r' : Rp (Frz ι st) H x (.str z) := r
      cases r'
      split at e
      · rename_i hl
        exact ⟨lim_ok hl, (Option.some.inj e).symm⟩
      · cases e
    · obtain ⟨kvs, e1, rfl⟩ := Option.map_eq_some_iff.mp e
      obtain ⟨n, a, xs, _, rfl, _, _, h1, h2⟩ := kAt_at R e1 r
      exact .inr (.inr ⟨xs, h1, by rw [h2.emp]⟩)
section
variable {X : Cx} {W : XW} {a b c e : Expr} {es rest : List Expr} {m ma mb mc : ME} {pos : Pos}
theorem tt_tb {σ : L2.St} {H : Hp} {Q : Bool → Hp → Prop} (q : TTo X.K W (mTB m) σ H Q) : TEo X.K W m σ H (fun x H1 => ∃ c, x = .bl c ∧ Q c H1) := by
  obtain ⟨ι, env, st, R, EV, p⟩ := q
  refine ⟨ι, env, st, R, EV, Out.post_mono (Out.post_bind p) (fun d s1 q ι1 H1 x R1 E1 ra => ?_) fun _ _ q => q⟩
  split at q
  · rename_i k e
    exact ⟨k, bOf_at e ra, q ι1 H1 R1 E1⟩
  · exact q.elim
theorem x_c {op : CmpOp} (h : PC X op a b (TEo X.K W m)) (h1 : behindInMarks op b = false := by first | exact nobehind _ (by decide) (by decide) | rfl) : PE X (.Compare a [op] [b] pos) (TEo X.K W m) := pe_cmp h h1
theorem t_c {op : CmpOp} (h : PC X op a b (TEo X.K W m)) (h1 : behindInMarks op b = false := by first | exact nobehind _ (by decide) (by decide) | rfl) : PT X (.Compare a [op] [b] pos) (TTo X.K W (mTB m)) :=
  ⟨fun pins s σ H Q I q => (pt_cmp h h1).run pins s σ H Q I (tt_tb q)⟩
theorem t_v (h : PE X e (TEo X.K W m)) (he : ∀ whole, isTrue e X.env whole = (do let v ← whole; standAt e.pos; holding [v] (truthy v)) := by intro _; rfl) : PT X e (TTo X.K W (mTru' m)) :=
  pt_wrap (pt_truth h he) fun σ H Q q => by
    obtain ⟨ι, env, st, R, EV, p⟩ := q
    refine ⟨ι, env, st, R, EV, Out.post_mono (Out.post_bind p) (fun d s1 q ι1 H1 x R1 E1 ra => ?_) fun _ _ q => q⟩
    split at q
    · rename_i k e
      exact ⟨k, truS_at R1 e ra, fun _ => q ι1 H1 R1 E1⟩
    · exact q.elim
def mNotT (m : MT) : MT := fun env st => (m env st).bind fun k s1 => .ok (!k) s1
def mAndT (m n : MT) : MT := fun env st => (m env st).bind fun k s1 => if k then n env s1 else .ok false s1
def mOrT (m n : MT) : MT := fun env st => (m env st).bind fun k s1 => if k then .ok true s1 else n env s1
variable {t u : MT}
theorem t_not (h : PT X a (TTo X.K W t)) : PT X (.UnaryOp .Not a pos) (TTo X.K W (mNotT t)) := pt_wrap (pt_not h) fun σ H Q q => by
  obtain ⟨ι, env, st, R, EV, p⟩ := q
  exact ⟨ι, env, st, R, EV, Out.post_mono (Out.post_bind p) (fun k s1 q ι1 H1 R1 E1 _ => q ι1 H1 R1 E1) fun _ _ q => q⟩
theorem t_and1 (h : PT X a (TTo X.K W t)) : PW X (.BoolOp .And [a] pos) (TTo X.K W t) := pw_and1 h
theorem t_or1 (h : PT X a (TTo X.K W t)) : PW X (.BoolOp .Or [a] pos) (TTo X.K W t) := pw_or1 h
theorem t_and (h : PT X a (TTo X.K W t)) (h2 : PW X (.BoolOp .And (b :: rest) pos) (TTo X.K W u)) : PW X (.BoolOp .And (a :: b :: rest) pos) (TTo X.K W (mAndT t u)) :=
  pw_wrap (pw_and h h2) fun σ H Q q => by
    obtain ⟨ι, env, st, R, EV, p⟩ := q
    refine ⟨ι, env, st, R, EV, Out.post_mono (Out.post_bind p) (fun k s1 q ι1 H1 R1 E1 => ?_) fun _ _ q => q⟩
    cases k with
    | true =>
      rw [if_pos rfl]
      exact ⟨ι1, env, s1, R1, EV.ext E1, Out.post_mono q (fun _ _ z ι' H' R' E' _ => z.ext E1 ι' H' R' E') fun _ _ z => z.ext E1⟩
    | false =>
      rw [if_neg Bool.false_ne_true]
      exact fun _ => q ι1 H1 R1 E1
theorem t_or (h : PT X a (TTo X.K W t)) (h2 : PW X (.BoolOp .Or (b :: rest) pos) (TTo X.K W u)) : PW X (.BoolOp .Or (a :: b :: rest) pos) (TTo X.K W (mOrT t u)) :=
  pw_wrap (pw_or h h2) fun σ H Q q => by
    obtain ⟨ι, env, st, R, EV, p⟩ := q
    refine ⟨ι, env, st, R, EV, Out.post_mono (Out.post_bind p) (fun k s1 q ι1 H1 R1 E1 => ?_) fun _ _ q => q⟩
    cases k with
    | false =>
      rw [if_neg Bool.false_ne_true]
      exact ⟨ι1, env, s1, R1, EV.ext E1, Out.post_mono q (fun _ _ z ι' H' R' E' _ => z.ext E1 ι' H' R' E') fun _ _ z => z.ext E1⟩
    | true =>
      rw [if_pos rfl]
      exact fun _ => q ι1 H1 R1 E1
def mAndV (ma mb : ME) : ME := fun env st => (ma env st).bind fun d s1 => match truS' s1 d with
  | some true => mb env s1
  | some false => .ok d s1
  | none => .stuck
def mOrV (ma mb : ME) : ME := fun env st => (ma env st).bind fun d s1 => match truS' s1 d with
  | some false => mb env s1
  | some true => .ok d s1
  | none => .stuck
def mNotV (ma : ME) : ME := fun env st => (ma env st).bind fun d s1 => match truS' s1 d with
  | some k => .ok (.v (.bool (!k))) s1
  | none => .stuck
theorem x_one {op} (h : PE X a (TEo X.K W m)) : PE X (.BoolOp op [a] pos) (TEo X.K W m) := pe_one h
theorem x_and (ha : PE X a (TEo X.K W ma)) (hb : PE X (.BoolOp .And (b :: rest) pos) (TEo X.K W mb)) : PE X (.BoolOp .And (a :: b :: rest) pos) (TEo X.K W (mAndV ma mb)) :=
  pe_wrap (pe_andT ha hb) fun σ H Q q => by
    obtain ⟨ι, env, st, R, EV, p⟩ := q
    refine ⟨ι, env, st, R, EV, Out.post_mono (Out.post_bind p) (fun d s1 q ι1 H1 x R1 E1 ra => ?_) fun _ _ q => q⟩
    split at q
    · rename_i e
      refine ⟨true, truS_at R1 e ra, ?_⟩
      rw [if_pos rfl]
      exact ⟨ι1, env, s1, R1, EV.ext E1, Out.post_mono q (fun _ _ z ι' H' x' R' E' r' _ => z.ext E1 ι' H' x' R' E' r') fun _ _ z => z.ext E1⟩
    · rename_i e
      refine ⟨false, truS_at R1 e ra, ?_⟩
      rw [if_neg Bool.false_ne_true]
      exact fun _ => q ι1 H1 x R1 E1 ra
    · exact q.elim
theorem x_not (ha : PE X a (TEo X.K W ma)) : PE X (.UnaryOp .Not a pos) (TEo X.K W (mNotV ma)) :=
  pe_wrap (pe_notT ha) fun σ H Q q => by
    obtain ⟨ι, env, st, R, EV, p⟩ := q
    refine ⟨ι, env, st, R, EV, Out.post_mono (Out.post_bind p) (fun d s1 q ι1 H1 x R1 E1 ra => ?_) fun _ _ q => q⟩
    split at q
    · rename_i k e
      exact ⟨k, truS_at R1 e ra, fun _ => q ι1 H1 _ R1 E1 (.bl _)⟩
    · exact q.elim
def mIte (t : MT) (ma mb : ME) : ME := fun env st => (t env st).bind fun k s1 => if k then ma env s1 else mb env s1
end
end Fw
namespace Fw
open PySem PySem.Spec PyProof.Rows L2
inductive SO where
  | nx (env : Ev) (st : Sto)
  | rt (d : D) (st : Sto)
  | bk (env : Ev) (st : Sto)
  | ct (env : Ev) (st : Sto)
  | exn (e : Exn) (st : Sto)
  | stuck
abbrev MS := Ev → Sto → SO
def SO.post (K : PySem.W.Frag) (W : XW) (ι : Gh) (st : Sto) (H : Hp) (D : Ends) : SO → Prop
  | .nx env s1 => ∀ ι' H' σ', SRel K ι' s1 H' → Ext ι st H ι' s1 H' → EvR K ι' s1 H' σ' env → D.nx σ' H'
  | .rt d s1 => ∀ ι' H' x, SRel K ι' s1 H' → Ext ι st H ι' s1 H' → RD K ι' s1 H' x d → D.rt x H'
  | .bk env s1 => ∀ ι' H' σ', SRel K ι' s1 H' → Ext ι st H ι' s1 H' → EvR K ι' s1 H' σ' env → D.bk σ' H'
  | .ct env s1 => ∀ ι' H' σ', SRel K ι' s1 H' → Ext ι st H ι' s1 H' → EvR K ι' s1 H' σ' env → D.ct σ' H'
  | .exn e s1 => PX1 K W ι st H e s1
  | .stuck => False
def TSo (K : PySem.W.Frag) (W : XW) (m : MS) : TS := fun D σ H => ∃ ι env st, SRel K ι st H ∧ EvR K ι st H σ env ∧ (m env st).post K W ι st H D
def Out.thn {α : Type} (x : Out α) (f : α → Sto → SO) : SO := match x with
  | .ok a st => f a st
  | .exn e st => .exn e st
  | .stuck => .stuck
@[simp] theorem thn_ok {α : Type} (a : α) (st : Sto) (f : α → Sto → SO) : (Out.ok a st).thn f = f a st := rfl
def SO.seq (x : SO) (f : MS) : SO := match x with
  | .nx env st => f env st
  | o => o
section
variable {K : PySem.W.Frag} {W : XW} {ι ι' : Gh} {st st' : Sto} {H H' : Hp}
theorem SO.post_ext {D : Ends} (E : Ext ι st H ι' st' H') : ∀ {o : SO}, o.post K W ι st H D → o.post K W ι' st' H' D
  | .nx _ _, h => fun i1 h1 s1 R1 E1 r => h i1 h1 s1 R1 (E.trans E1) r
  | .rt _ _, h => fun i1 h1 s1 R1 E1 r => h i1 h1 s1 R1 (E.trans E1) r
  | .bk _ _, h => fun i1 h1 s1 R1 E1 r => h i1 h1 s1 R1 (E.trans E1) r
  | .ct _ _, h => fun i1 h1 s1 R1 E1 r => h i1 h1 s1 R1 (E.trans E1) r
  | .exn _ _, h => PX1.ext h E
  | .stuck, h => h
theorem SO.post_mono {D D' : Ends} (h1 : ∀ σ H, D.nx σ H → D'.nx σ H) (h2 : ∀ x H, D.rt x H → D'.rt x H) (h3 : ∀ σ H, D.bk σ H → D'.bk σ H) (h4 : ∀ σ H, D.ct σ H → D'.ct σ H) : ∀ {o : SO}, o.post K W ι st H D → o.post K W ι st H D'
  | .nx _ _, h => fun i1 g s1 R1 E1 r => h1 _ _ (h i1 g s1 R1 E1 r)
  | .rt _ _, h => fun i1 g s1 R1 E1 r => h2 _ _ (h i1 g s1 R1 E1 r)
  | .bk _ _, h => fun i1 g s1 R1 E1 r => h3 _ _ (h i1 g s1 R1 E1 r)
  | .ct _ _, h => fun i1 g s1 R1 E1 r => h4 _ _ (h i1 g s1 R1 E1 r)
  | .exn _ _, h => h
  | .stuck, h => h
theorem thn_post {α : Type} {x : Out α} {f : α → Sto → SO} {D : Ends} (h : (x.thn f).post K W ι st H D) : x.post (fun a s1 => (f a s1).post K W ι st H D) (PX1 K W ι st H) := by
  cases x <;> exact h
end
def hfE (D : Ends) : Ends := ⟨fun σ H => HF H → D.nx σ H, fun v H => HF H → D.rt v H, fun σ H => HF H → D.bk σ H, fun σ H => HF H → D.ct σ H⟩
theorem hf_SP {X : Cx} {pins : List (Addr × Obj)} {D : Ends} {f : Flow} {s' : Shared} (h : SP X pins (hfE D) f s') : SP X pins D f s' := by
  cases f with
  | next => obtain ⟨σ', H', I, q⟩ := h; exact ⟨σ', H', I, q (hf_of I)⟩
  | brk => obtain ⟨σ', H', I, q⟩ := h; exact ⟨σ', H', I, q (hf_of I)⟩
  | cont => obtain ⟨σ', H', I, q⟩ := h; exact ⟨σ', H', I, q (hf_of I)⟩
  | ret u => obtain ⟨v, σ', H', I, r, q⟩ := h; exact ⟨v, σ', H', I, r, q (hf_of I)⟩
theorem post_hf {K : PySem.W.Frag} {W : XW} {ι : Gh} {st : Sto} {H : Hp} {D : Ends} {o : SO} (h : o.post K W ι st H D) : o.post K W ι st H (hfE D) :=
  SO.post_mono (fun _ _ q _ => q) (fun _ _ q _ => q) (fun _ _ q _ => q) (fun _ _ q _ => q) h
section
variable {X : Cx} {W : XW} {s : Stmt} {ss rest : List Stmt} {e c : Expr} {m : ME} {t : MT} {a b : MS} {pos : Pos}
theorem ps_wrap {tt : TS} {m : MS} (h : PS X s tt) (hi : ∀ D σ H, TSo X.K W m D σ H → tt (hfE D) σ H) : PS X s (TSo X.K W m) :=
  ⟨fun pins s σ H D I q => thn (h.run pins s σ H _ I (hi D σ H q)) fun _ _ z => hf_SP z⟩
theorem pss_wrap {tt : TS} {m : MS} (h : PSs X ss tt) (hi : ∀ D σ H, TSo X.K W m D σ H → tt (hfE D) σ H) : PSs X ss (TSo X.K W m) :=
  ⟨fun pins s σ H D I q => thn (h.run pins s σ H _ I (hi D σ H q)) fun _ _ z => hf_SP z⟩
def sNil : MS := fun env st => .nx env st
def sSeq (a b : MS) : MS := fun env st => (a env st).seq b
theorem ss_nil : PSs X [] (TSo X.K W sNil) := pss_wrap pss_nil fun D σ H q => by
  obtain ⟨ι, env, st, R, EV, p⟩ := q
  exact fun _ => p ι H σ R Ext.refl EV
theorem ss_one (h : PS X s (TSo X.K W a)) : PSs X [s] (TSo X.K W a) := pss_one h
theorem ss_cons (h : PS X s (TSo X.K W a)) (h2 : PSs X rest (TSo X.K W b)) : PSs X (s :: rest) (TSo X.K W (sSeq a b)) := by
  refine ⟨fun pins sh σ H D I q => (pss_cons h h2).run pins sh σ H D I ?_⟩
  obtain ⟨ι, env, st, R, EV, p⟩ := q
  refine ⟨ι, env, st, R, EV, ?_⟩
  unfold sSeq at p
  cases e : a env st with
  | nx env1 s1 =>
    rw [e] at p
    exact fun ι1 H1 σ1 R1 E1 EV1 => ⟨ι1, env1, s1, R1, EV1, SO.post_ext E1 p⟩
  | rt d s1 => rw [e] at p; exact p
  | bk e1 s1 => rw [e] at p; exact p
  | ct e1 s1 => rw [e] at p; exact p
  | exn e1 s1 => rw [e] at p; exact p
  | stuck => rw [e] at p; exact p
def sRet (m : ME) : MS := fun env st => (m env st).thn fun d s1 => .rt d s1
def sRetN : MS := fun _ st => .rt (.v .none) st
def sExp (m : ME) : MS := fun env st => (m env st).thn fun _ s1 => .nx env s1
def sIf (t : MT) (a b : MS) : MS := fun env st => (t env st).thn fun k s1 => if k then a env s1 else b env s1
theorem s_ret (h : PE X e (TEo X.K W m)) : PS X (.Return (some e) pos) (TSo X.K W (sRet m)) := ps_wrap (ps_ret h) fun D σ H q => by
  obtain ⟨ι, env, st, R, EV, p⟩ := q
  exact ⟨ι, env, st, R, EV, Out.post_mono (thn_post p) (fun d s1 q ι1 H1 x R1 E1 ra _ => q ι1 H1 x R1 E1 ra) fun _ _ q => q⟩
theorem s_expr (h : PE X e (TEo X.K W m)) (hs : swapsWith e none pos.line X.env = pure false := by rfl) : PS X (.Expr e pos) (TSo X.K W (sExp m)) := ps_wrap (ps_expr h hs) fun D σ H q => by
  obtain ⟨ι, env, st, R, EV, p⟩ := q
  exact ⟨ι, env, st, R, EV, Out.post_mono (thn_post p) (fun d s1 q ι1 H1 x R1 E1 ra _ => q ι1 H1 σ R1 E1 (EV.ext E1)) fun _ _ q => q⟩
theorem s_if {p q : List Stmt} (hc : PT X c (TTo X.K W t)) (ha : PSs X p (TSo X.K W a)) (hb : PSs X q (TSo X.K W b)) : PS X (.If c p q pos) (TSo X.K W (sIf t a b)) := ps_wrap (ps_if hc ha hb) fun D σ H q => by
  obtain ⟨ι, env, st, R, EV, p⟩ := q
  refine ⟨ι, env, st, R, EV, Out.post_mono (thn_post p) (fun k s1 q ι1 H1 R1 E1 => ?_) fun _ _ q => q⟩
  cases k with
  | true => exact iteT ⟨ι1, env, s1, R1, EV.ext E1, post_hf (SO.post_ext E1 q)⟩
  | false => exact iteF ⟨ι1, env, s1, R1, EV.ext E1, post_hf (SO.post_ext E1 q)⟩
end
inductive Itm where
  | one (d : D)
  | many (ds : List D)
def RI (K : PySem.W.Frag) (ι : Gh) (st : Sto) (H : Hp) (x : V) : Itm → Prop
  | .one d => RD K ι st H x d
  | .many ds => ∃ a xs, x = .ref a ∧ Rd H a (.tup xs) ∧ Frz ι st a ∧ RDs K ι st H xs ds
theorem RI.ext {K : PySem.W.Frag} {ι ι' : Gh} {st st' : Sto} {H H' : Hp} (E : Ext ι st H ι' st' H') {x : V} : ∀ {d : Itm}, RI K ι st H x d → RI K ι' st' H' x d
  | .one _, h => RD.ext E h
  | .many _, ⟨a, xs, h1, h2, h3, h4⟩ => by
    rcases h2 with h2 | ⟨o, h2⟩
    · obtain ⟨f, k⟩ := E.keep _ _ h2 h3
      exact ⟨a, xs, h1, .inl k, f, RDs.ext E h4⟩
    · obtain ⟨f, k⟩ := E.keep _ _ h2 h3
      exact ⟨a, xs, h1, .inr ⟨o, k⟩, f, RDs.ext E h4⟩
abbrev MG := Itm → Ev → Sto → Out Ev
abbrev MGs := List D → Ev → Sto → Out Ev
def Wp (vs : Option (List Nat)) (σ σ' : L2.St) : Prop := match vs with
  | none => True
  | some vs => L2.wipe σ' vs = L2.wipe σ vs
theorem Wp.refl {vs : Option (List Nat)} {σ : L2.St} : Wp vs σ σ := by cases vs <;> trivial
theorem Wp.trans {vs : Option (List Nat)} {σ σ' σ2 : L2.St} (a : Wp vs σ σ') (b : Wp vs σ' σ2) : Wp vs σ σ2 := by
  cases vs with
  | none => trivial
  | some vs => exact Eq.trans b a
theorem wipe_set {i : Nat} {v : V} : ∀ {vs : List Nat} {σ : L2.St}, i ∈ vs → L2.wipe (σ.set i (some v)) vs = L2.wipe σ vs
  | j :: vs, σ, h => by
    unfold L2.wipe
    by_cases e : i ∈ vs
    · rw [wipe_set e]
    · have hj : i = j := by
        rcases List.mem_cons.mp h with h | h
        · exact h
        · exact absurd h e
      subst hj
      have key : ∀ (ws : List Nat), i ∉ ws → L2.wipe (σ.set i (some v)) ws = (L2.wipe σ ws).set i (some v) := by
        intro ws
        induction ws with
        | nil => intro _; rfl
        | cons k ws ih =>
          intro hk
          rw [List.mem_cons, not_or] at hk
          unfold L2.wipe
          rw [ih hk.2, List.set_comm _ _ hk.1]
      rw [key vs e, List.set_set]
theorem Wp.set {vs : Option (List Nat)} {i : Nat} (h : ∀ ws, vs = some ws → i ∈ ws) {σ : L2.St} {v : V} : Wp vs σ (σ.set i (some v)) := by
  cases vs with
  | none => trivial
  | some ws => exact wipe_set (h ws rfl)
def PG1 (K : PySem.W.Frag) (vs : Option (List Nat)) (σ : L2.St) (ι : Gh) (st : Sto) (H : Hp) (Q : L2.St → Hp → Prop) (env : Ev) (st' : Sto) : Prop := ∀ ι' H' σ', SRel K ι' st' H' → Ext ι st H ι' st' H' → EvR K ι' st' H' σ' env → Wp vs σ σ' → Q σ' H'
theorem PG1.ext {K : PySem.W.Frag} {vs : Option (List Nat)} {σ σ1 : L2.St} {ι ι' : Gh} {st st' s2 : Sto} {H H' : Hp} {Q : L2.St → Hp → Prop} {env : Ev} (h : PG1 K vs σ ι st H Q env s2) (e : Ext ι st H ι' st' H') (w : Wp vs σ σ1) : PG1 K vs σ1 ι' st' H' Q env s2 :=
  fun i g σ R E r z => h i g σ R (e.trans E) r (w.trans z)
def TGo (K : PySem.W.Frag) (W : XW) (m : MG) (vs : Option (List Nat) := none) : TG := fun x σ H Q => ∃ ι env st d, SRel K ι st H ∧ EvR K ι st H σ env ∧ RI K ι st H x d ∧ (m d env st).post (PG1 K vs σ ι st H Q) (PX1 K W ι st H)
def TGso (K : PySem.W.Frag) (W : XW) (m : MGs) (vs : Option (List Nat) := none) : TGs := fun xs σ H Q => ∃ ι env st ds, SRel K ι st H ∧ EvR K ι st H σ env ∧ RDs K ι st H xs ds ∧ (m ds env st).post (PG1 K vs σ ι st H Q) (PX1 K W ι st H)
def gNm (i : Nat) : MG := fun x env st => match x with
  | .one d => .ok (env.set i (some d)) st
  | .many _ => .stuck
def gNone : MGs := fun ds env st => match ds with
  | [] => .ok env st
  | _ => .stuck
def gMore (g : MG) (r : MGs) : MGs := fun ds env st => match ds with
  | d :: t => (g (.one d) env st).bind fun e1 s1 => r t e1 s1
  | _ => .stuck
def gTp (n : Nat) (gs : MGs) : MG := fun x env st => match x with
  | .many ds => if ds.length = n then gs ds env st else .stuck
  | .one d => match tOf d with
    | some zs => if zs.length = n then gs (zs.map .v) env st else .stuck
    | none => .stuck
section
variable {X : Cx} {W : XW} {tg e : Expr} {ts : List Expr} {g : MG} {gs : MGs} {pos : Pos} {vs : Option (List Nat)}
theorem pg_wrap {t : TG} (h : PG X tg t) (hi : ∀ x σ H Q, TGo X.K W g vs x σ H Q → t x σ H (fun σ' H' => HF H' → Q σ' H')) : PG X tg (TGo X.K W g vs) :=
  ⟨fun pins s σ H v u Q I r q => thn (h.run pins s σ H v u _ I r (hi v σ H Q q)) fun _ _ ⟨σ', H', I', q'⟩ => ⟨σ', H', I', q' (hf_of I')⟩⟩
theorem pgs_wrap {t : TGs} (h : PGs X ts t) (hi : ∀ x σ H Q, TGso X.K W gs vs x σ H Q → t x σ H (fun σ' H' => HF H' → Q σ' H')) : PGs X ts (TGso X.K W gs vs) :=
  ⟨fun pins s σ H v u Q I r q => thn (h.run pins s σ H v u _ I r (hi v σ H Q q)) fun _ _ ⟨σ', H', I', q'⟩ => ⟨σ', H', I', q' (hf_of I')⟩⟩
theorem g_name (i : Nat) {x : Str} (h : PG X (.Name x pos) (gName i)) (hv : ∀ ws, vs = some ws → i ∈ ws := by first | exact fun _ z => nomatch z | (intro ws z; cases z; decide)) : PG X (.Name x pos) (TGo X.K W (gNm i) vs) := pg_wrap h fun x σ H Q q => by
  obtain ⟨ι, env, st, d, R, EV, r, p⟩ := q
  cases d with
  | one d => exact fun _ => p ι H _ R Ext.refl (EV.set r i) (Wp.set hv)
  | many _ => exact p.elim
theorem gs_nil : PGs X [] (TGso X.K W gNone vs) := pgs_wrap pgs_nil fun xs σ H Q q => by
  obtain ⟨ι, env, st, ds, R, EV, r, p⟩ := q
  cases r with
  | nil => exact ⟨rfl, fun _ => p ι H σ R Ext.refl EV Wp.refl⟩
  | cons _ _ => exact p.elim
theorem gs_cons (h : PG X e (TGo X.K W g vs)) (h2 : PGs X ts (TGso X.K W gs vs)) (hs : (assignEach (e :: ts) X.env).map (·.2) = assign e X.env :: (assignEach ts X.env).map (·.2) := by rfl) : PGs X (e :: ts) (TGso X.K W (gMore g gs) vs) :=
  pgs_wrap (pgs_cons h h2 hs) fun xs σ H Q q => by
    obtain ⟨ι, env, st, ds, R, EV, r, p⟩ := q
    cases r with
    | nil => exact p.elim
    | cons h1 t =>
      rename_i _ d _ ds
      refine ⟨_, _, rfl, ι, env, st, .one d, R, EV, h1, Out.post_mono (Out.post_bind p) (fun e1 s1 q ι1 H1 σ1 R1 E1 EV1 w1 => ?_) fun _ _ q => q⟩
      exact ⟨ι1, e1, s1, ds, R1, EV1, RDs.ext E1 t, Out.post_mono q (fun _ _ z i g σ' R' E' r' w' _ => z.ext E1 w1 i g σ' R' E' r' w') fun _ _ z => z.ext E1⟩
theorem rds_vals {K : PySem.W.Frag} {ι : Gh} {st : Sto} {H : Hp} : ∀ {xs : List V} {zs : List PyData}, RpA (Frz ι st) H xs zs → RDs K ι st H xs (zs.map .v)
  | _, _, .nil => .nil
  | _, _, .cons h t => .cons h (rds_vals t)
theorem g_tup {k n : Nat} (hc : X.calm = true) (h : PGs X ts (TGso X.K W gs vs)) (hst : PG X (.Tuple ts k pos) (gTup X.K n (TGso X.K W gs vs))) : PG X (.Tuple ts k pos) (TGo X.K W (gTp n gs) vs) := pg_wrap hst fun x σ H Q q => by
  obtain ⟨ι, env, st, d, R, EV, r, p⟩ := q
  have up : ∀ {ds : List D} {xs : List V}, RDs X.K ι st H xs ds → (gs ds env st).post (PG1 X.K vs σ ι st H Q) (PX1 X.K W ι st H) → TGso X.K W gs vs xs σ H (fun σ' H' => HF H' → Q σ' H') := fun r q =>
    ⟨ι, env, st, _, R, EV, r, Out.post_mono q (fun _ _ z i g σ' R' E' r' w' _ => z i g σ' R' E' r' w') fun _ _ z => z⟩
  cases d with
  | many ds =>
    obtain ⟨a, xs, rfl, h1, h2, h3⟩ := r
    replace p : (if ds.length = n then gs ds env st else .stuck).post (PG1 X.K vs σ ι st H Q) (PX1 X.K W ι st H) := p
    split at p
    · rename_i hl
      exact ⟨a, xs, rfl, .inl h1, by rw [h3.length]; exact hl, up h3 p⟩
    · exact p.elim
  | one d =>
    unfold gTp at p
    simp only at p
    split at p
    · rename_i zs e
      split at p
      · rename_i hl
        obtain ⟨a, xs, rfl, h1, h2⟩ := tOf_at e r
        exact ⟨a, xs, rfl, h1.sq, by rw [h2.length]; exact hl, up (rds_vals h2) p⟩
      · exact p.elim
    · exact p.elim
end
theorem hf_upd {H : Hp} (h : HF H) {p : Addr} {u : HO} (hu : szOk u) : HF (upd H p u) := fun a v e => by
  by_cases ha : a = p
  · subst ha
    rw [upd_same] at e
    cases e
    exact hu
  · rw [upd_ne ha] at e
    exact h a v e
theorem hf_tup {H : Hp} (h : HF H) {p : Addr} {xs : List V} (hl : xs.length ≤ sizeLine) : HF (upd H p (.tup xs)) := hf_upd h hl
theorem hf_lst {H : Hp} (h : HF H) {p : Addr} {xs : List V} (hl : xs.length ≤ sizeLine) : HF (upd H p (.lst xs)) := hf_upd h hl
def sAsg (m : ME) (g : MG) : MS := fun env st => (m env st).thn fun d s1 => (g (.one d) env s1).thn fun e1 s2 => .nx e1 s2
def sAsgT (n : Nat) (m : MA) (gs : MGs) : MS := fun env st => (m env st).thn fun ds s1 => if ds.length = n ∧ n ≤ 1000 then (gs ds env s1).thn fun e1 s2 => .nx e1 s2 else .stuck
def sPar2 (i j : Nat) (m : MA) : MS := fun env st => (m env st).thn fun ds s1 => match ds with
  | [a, b] => .nx ((env.set i (some a)).set j (some b)) s1
  | _ => .stuck
def sPar3 (i j l : Nat) (m : MA) : MS := fun env st => (m env st).thn fun ds s1 => match ds with
  | [a, b, c] => .nx (((env.set i (some a)).set j (some b)).set l (some c)) s1
  | _ => .stuck
def putD (kvs : List (PyData × D)) (k : PyData) (d : D) : List (PyData × D) :=
  if (kvs.any fun p => keq false p.1 k) = true then kvs.map (fun p => if keq false p.1 k then (p.1, d) else p) else kvs ++ [(k, d)]
def setU (o i d : D) (st : Sto) : Out Unit := match lAt st o, i, d with
  | some (n, zs), .v (.int k), .v z => match ixN zs.length k with
    | some j => .ok () (st.set n (.lst (zs.set j z)))
    | none => .stuck
  | some _, _, _ => .stuck
  | none, .v kd, d => match o, kAt st o, key1 kd with
    | .ref n, some kvs, some _ => if kvs.length < lim ∧ d.low n = true then .ok () (st.set n (.dct false (putD kvs kd d))) else .stuck
    | _, _, _ => .stuck
  | none, _, _ => .stuck
def sSub (m mo mi : ME) : MS := fun env st => (m env st).thn fun d s1 => (mo env s1).thn fun o s2 => (mi env s2).thn fun i s3 => (setU o i d s3).thn fun _ s4 => .nx env s4
section
variable {K : PySem.W.Frag} {ι : Gh} {st : Sto} {H : Hp}
theorem keq_kD {kd : PyData} {k : Key} (hk : key1 kd = some k) (k' : Key) : keq false (kD k') kd = decide (k' = k) := by
  unfold keq
  rw [if_neg Bool.false_ne_true, key1_kD, hk]
  by_cases e : k' = k
  · subst e; simp
  · rw [decide_eq_false e, decide_eq_false fun z => e (Option.some.inj z)]
theorem RK.any {kd : PyData} {k : Key} (hk : key1 kd = some k) : ∀ {kvs : List (PyData × D)} {xs : List (Key × V)}, RK K ι st H kvs xs → (xs.any fun kv => decide (kv.1 = k)) = kvs.any fun p => keq false p.1 kd
  | _, _, .nil => rfl
  | _, _, .cons (a := p) (b := q) h t => by
    rw [List.any_cons, List.any_cons, RK.any hk t, h.1, keq_kD hk]
theorem RK.repl {kd : PyData} {k : Key} (hk : key1 kd = some k) {d : D} {y : V} (r : RD K ι st H y d) : ∀ {kvs : List (PyData × D)} {xs : List (Key × V)}, RK K ι st H kvs xs →
    RK K ι st H (kvs.map fun p => if keq false p.1 kd then (p.1, d) else p) (xs.map fun kv => if kv.1 = k then (kv.1, y) else kv)
  | _, _, .nil => .nil
  | _, _, .cons (a := p) (b := q) h t => by
    rw [List.map_cons, List.map_cons]
    refine .cons ?_ (RK.repl hk r t)
    rw [h.1, keq_kD hk]
    by_cases e : q.1 = k
    · rw [if_pos (decide_eq_true e), if_pos e]
      exact ⟨rfl, r⟩
    · rw [if_neg (by simpa using e), if_neg e]
      exact h
theorem RK.app : ∀ {kvs kvs2 : List (PyData × D)} {xs ys : List (Key × V)}, RK K ι st H kvs xs → RK K ι st H kvs2 ys → RK K ι st H (kvs ++ kvs2) (xs ++ ys)
  | _, _, _, _, .nil, s => s
  | _, _, _, _, .cons h t, s => .cons h (RK.app t s)
theorem RK.put {kd : PyData} {k : Key} (hk : key1 kd = some k) {d : D} {y : V} (r : RD K ι st H y d) {kvs : List (PyData × D)} {xs : List (Key × V)} (h : RK K ι st H kvs xs) : RK K ι st H (putD kvs kd d) (putK xs k y) := by
  unfold putD putK
  rw [RK.any hk h]
  split
  · exact RK.repl hk r h
  · exact h.app (.cons ⟨kD_of hk, r⟩ .nil)
theorem putD_low {n : Nat} {kvs : List (PyData × D)} {kd : PyData} {d : D} (h : (kvs.all fun p => p.2.low n) = true) (hd : d.low n = true) : ((putD kvs kd d).all fun p => p.2.low n) = true := by
  unfold putD
  split
  · rw [List.all_map]
    refine List.all_eq_true.mpr fun p hp => ?_
    show (if keq false p.1 kd = true then (p.1, d) else p).2.low n = true
    split
    · exact hd
    · exact List.all_eq_true.mp h p hp
  · rw [List.all_append, h]
    simp [hd]
end
section
variable {X : Cx} {W : XW} {tg e o i : Expr} {ts es : List Expr} {m mo mi : ME} {ma : MA} {g : MG} {gs : MGs} {pos pos' : Pos}
theorem s_asg (he : PE X e (TEo X.K W m)) (hg : PG X tg (TGo X.K W g)) (hs : swapsWithSole [tg] e pos.line X.env = pure false := by rfl) (hw : swappedStores [tg] e X.env = pure none := by rfl) (h1 : (assignEach [tg] X.env).map (·.2) = [assign tg X.env] := by rfl) : PS X (.Assign [tg] e pos) (TSo X.K W (sAsg m g)) :=
  ps_wrap (ps_asg he hg hs hw h1) fun D σ H q => by
    obtain ⟨ι, env, st, R, EV, p⟩ := q
    refine ⟨ι, env, st, R, EV, Out.post_mono (thn_post p) (fun d s1 q ι1 H1 x R1 E1 ra => ?_) fun _ _ q => q⟩
    exact ⟨ι1, env, s1, .one d, R1, EV.ext E1, ra, Out.post_mono (thn_post q) (fun e1 s2 q2 i2 h2 σ2 R2 E2 EV2 _ _ => q2 i2 h2 σ2 R2 (E1.trans E2) EV2) fun _ _ z => z.ext E1⟩
theorem s_asgT {n k k' : Nat} {p1 p2 : Pos} (ha : PA X es (TAo X.K W ma)) (hg : PG X (.Tuple ts k p1) (gTup X.K n (TGso X.K W gs))) (hs : swapsWithSole [.Tuple ts k p1] (.Tuple es k' p2) pos.line X.env = pure false := by rfl)
    (hw : swappedStores [.Tuple ts k p1] (.Tuple es k' p2) X.env = pure none := by rfl) : PS X (.Assign [.Tuple ts k p1] (.Tuple es k' p2) pos) (TSo X.K W (sAsgT n ma gs)) :=
  ps_wrap (ps_asg (pe_tup ha) hg hs hw) fun D σ H q => by
    obtain ⟨ι, env, st, R, EV, p⟩ := q
    refine ⟨ι, env, st, R, EV, Out.post_mono (thn_post p) (fun ds s1 q ι1 H1 xs R1 E1 ra => ?_) fun _ _ q => q⟩
    split at q
    · rename_i hl
      have hx : xs.length ≤ sizeLine := by rw [ra.length, hl.1]; exact lim1000 hl.2
      refine ⟨hx, fun a hn => ⟨a, xs, rfl, .of upd_same, by rw [ra.length]; exact hl.1, ?_⟩⟩
      have E2 : Ext ι1 s1 H1 ι1 s1 (upd H1 a (.tup xs)) := Ext.fresh R1 hn
      have E12 := E1.trans E2
      exact ⟨ι1, env, s1, ds, R1.fresh hn (hf_tup R1.hf hx), EV.ext E12, RDs.ext E2 ra, Out.post_mono (thn_post q) (fun e1 s2 q2 i2 h2 σ2 R2 E2 EV2 _ _ => q2 i2 h2 σ2 R2 (E12.trans E2) EV2) fun _ _ z => z.ext E12⟩
    · exact q.elim
theorem s_par2 {i j : Nat} (ha : PA X es (TAo X.K W ma)) {stm : Stmt} (h : PS X stm (tPar i j (TAo X.K W ma))) : PS X stm (TSo X.K W (sPar2 i j ma)) := ps_wrap h fun D σ H q => by
  obtain ⟨ι, env, st, R, EV, p⟩ := q
  refine ⟨ι, env, st, R, EV, Out.post_mono (thn_post p) (fun ds s1 q ι1 H1 xs R1 E1 ra => ?_) fun _ _ q => q⟩
  split at q
  · obtain ⟨x, y, rfl, r1, r2⟩ := ra.two
    exact ⟨x, y, rfl, fun _ => q ι1 H1 _ R1 E1 (((EV.ext E1).set r1 _).set r2 _)⟩
  · exact q.elim
theorem s_par3 {i j l : Nat} (ha : PA X es (TAo X.K W ma)) {stm : Stmt} (h : PS X stm (tPar3 i j l (TAo X.K W ma))) : PS X stm (TSo X.K W (sPar3 i j l ma)) := ps_wrap h fun D σ H q => by
  obtain ⟨ι, env, st, R, EV, p⟩ := q
  refine ⟨ι, env, st, R, EV, Out.post_mono (thn_post p) (fun ds s1 q ι1 H1 xs R1 E1 ra => ?_) fun _ _ q => q⟩
  split at q
  · cases ra with
    | cons r1 t =>
      obtain ⟨y, z, rfl, r2, r3⟩ := RDs.two t
      exact ⟨_, y, z, rfl, fun _ => q ι1 H1 _ R1 E1 ((((EV.ext E1).set r1 _).set r2 _).set r3 _)⟩
  · exact q.elim
theorem s_sub (gd : Gd X) (he : PE X e (TEo X.K W m)) (ho : PE X o (TEo X.K W mo)) (hi : PE X i (TEo X.K W mi)) (hsL : PG X (.Subscript o i pos') (gSub (TEo X.K W mo) (TEo X.K W mi) rSetL)) (hs1 : swapsWithSole [.Subscript o i pos'] e pos.line X.env = pure false := by rfl)
    (hw : swappedStores [.Subscript o i pos'] e X.env = pure none := by rfl) (hs : swapsWith e (some (.Subscript o i pos')) pos.line X.env = pure false := by rfl) : PS X (.Assign [.Subscript o i pos'] e pos) (TSo X.K W (sSub m mo mi)) := by
  have h1 := ps_asg (pos := pos) he hsL hs1 hw
  have h2 := ps_dput (pos := pos) (pos' := pos') (by have := gd.un; omega) ho hi he hs
  have h : PS X (.Assign [.Subscript o i pos'] e pos) (fun D σ H => tAsg (TEo X.K W m) (gSub (TEo X.K W mo) (TEo X.K W mi) rSetL) D σ H ∨ sDPut (TEo X.K W mo) (TEo X.K W mi) (TEo X.K W m) D σ H) :=
    ⟨fun pins s σ H D I q => q.elim (h1.run pins s σ H D I) (h2.run pins s σ H D I)⟩
  refine ps_wrap h fun D σ H q => ?_
  obtain ⟨ι, env, st, R, EV, p⟩ := q
  unfold sSub at p
  cases e1 : m env st with
  | stuck => rw [e1] at p; exact p.elim
  | exn x s1 => rw [e1] at p; exact .inl ⟨ι, env, st, R, EV, by rw [e1]; exact p⟩
  | ok d s1 =>
    rw [e1, thn_ok] at p
    cases e2 : mo env s1 with
    | stuck => rw [e2] at p; exact p.elim
    | exn x s2 =>
      rw [e2] at p
      refine .inl ⟨ι, env, st, R, EV, ?_⟩
      rw [e1]
      exact fun ι1 H1 x R1 E1 ra => ⟨ι1, env, s1, R1, EV.ext E1, by rw [e2]; exact PX1.ext p E1⟩
    | ok o1 s2 =>
      rw [e2, thn_ok] at p
      cases e3 : mi env s2 with
      | stuck => rw [e3] at p; exact p.elim
      | exn x s3 =>
        rw [e3] at p
        refine .inl ⟨ι, env, st, R, EV, ?_⟩
        rw [e1]
        refine fun ι1 H1 x R1 E1 ra => ⟨ι1, env, s1, R1, EV.ext E1, ?_⟩
        rw [e2]
        exact fun ι2 H2 y R2 E2 rb => ⟨ι2, env, s2, R2, (EV.ext E1).ext E2, by rw [e3]; exact PX1.ext (PX1.ext p E1) E2⟩
      | ok i1 s3 =>
        rw [e3, thn_ok] at p
        cases e4 : setU o1 i1 d s3 with
        | stuck => rw [e4] at p; exact p.elim
        | exn x s4 =>
          unfold setU at e4
          split at e4
          · split at e4 <;> cases e4
          · cases e4
          · split at e4
            · split at e4 <;> cases e4
            · cases e4
          · cases e4
        | ok _ s4 =>
          rw [e4, thn_ok] at p
          replace p : ∀ ι' H' σ', SRel X.K ι' s4 H' → Ext ι st H ι' s4 H' → EvR X.K ι' s4 H' σ' env → D.nx σ' H' := p
          unfold setU at e4
          split at e4
          · rename_i n zs k z hL
            split at e4
            · rename_i j hj
              cases e4
              refine .inl ⟨ι, env, st, R, EV, ?_⟩
              rw [e1]
              refine fun ι1 H1 x R1 E1 ra => ⟨ι1, env, s1, R1, EV.ext E1, ?_⟩
              rw [e2]
              refine fun ι2 H2 y R2 E2 rb => ⟨ι2, env, s2, R2, (EV.ext E1).ext E2, ?_⟩
              rw [e3]
              refine fun ι3 H3 w R3 E3 rc => ?_
              obtain ⟨a, us, rfl, h1, h2, h3, h4⟩ := lAt_at R3 hL (rb.ext E3)
              have ew := iOf_at (d := .v (.int k)) rfl rc
              subst ew
              refine ⟨a, us, k, j, rfl, rfl, h1, by rw [h2.length]; exact hj, fun hf => ?_⟩
              have E4 : Ext ι3 s3 H3 ι3 (s3.set n (.lst (zs.set j z))) (upd H3 a (.lst (us.set j x))) := Ext.write R3 h3 h4 (fun z => nomatch z) (fun _ _ z => nomatch z)
              have E := E1.trans (E2.trans (E3.trans E4))
              have rx : Rp (Frz ι3 s3) H3 x z := Rp.ext (E2.trans E3) ra
              exact p ι3 _ σ (R3.write h3 h4 (fun z => nomatch z) (fun _ _ z => nomatch z) hf ⟨_, upd_same, (h2.set rx j).ext E4⟩ rfl) E (EV.ext E)
            · cases e4
          · cases e4
          · rename_i d _ _ _ kd hL
            split at e4
            · rename_i n kvs k hk hK
              split at e4
              · rename_i hc
                cases e4
                refine .inr ⟨ι, env, st, R, EV, ?_⟩
                rw [e1]
                refine fun ι1 H1 x R1 E1 ra => ⟨ι1, env, s1, R1, EV.ext E1, ?_⟩
                rw [e2]
                refine fun ι2 H2 y R2 E2 rb => ⟨ι2, env, s2, R2, (EV.ext E1).ext E2, ?_⟩
                rw [e3]
                refine fun ι3 H3 w R3 E3 rc => ?_
                obtain ⟨n', a, us, en, rfl, h3, h4, h1, h2⟩ := kAt_at R3 hK (rb.ext E3)
                cases en
                have rc' : Rp (Frz ι3 s3) H3 w kd := rc
                rw [kD_of hk] at rc'
                have ew := kV_of rc'
                subst ew
                have hl : us.length < sizeLine := by rw [h2.len]; exact Nat.lt_of_lt_of_le hc.1 (lim_ok (Nat.le_refl _))
                refine ⟨a, _, rfl, DPut.k h1 hl, fun hf => ?_⟩
                have E4 : Ext ι3 s3 H3 ι3 (s3.set n (.dct false (putD kvs kd d))) (upd H3 a (.dK (putK us k x))) := Ext.write R3 h3 h4 (fun z => nomatch z) (fun _ _ z => nomatch z)
                have E := E1.trans (E2.trans (E3.trans E4))
                have rx : RD X.K ι3 s3 H3 x d := ra.ext (E2.trans E3)
                refine p ι3 _ σ (R3.write h3 h4 (fun z => nomatch z) (fun _ _ z => nomatch z) hf ⟨_, upd_same, RK.ext E4 (RK.put hk rx h2)⟩ (putD_low (R3.low n _ h3) hc.2)) E (EV.ext E)
              · cases e4
            · cases e4
          · cases e4
end
end Fw
namespace Fw
open PySem PySem.Spec PyProof.Rows L2
section
variable {K : PySem.W.Frag} {ι ι' : Gh} {st st' : Sto} {H H' : Hp}
structure Mv (ι : Gh) (st : Sto) (H : Hp) (ι' : Gh) (st' : Sto) (H' : Hp) : Prop where
  keep : ∀ q u, H q = some u → Frz ι st q → Frz ι' st' q ∧ H' q = some u
  pre : ∀ (n : Nat) (a : Addr), ι.ad[n]? = some a → ι'.ad[n]? = some a
  lk : ∀ {n : Nat} {t : Bool} {kvs : List (PyData × D)} {a : Addr}, st[n]? = some (.lck t kvs) → ι.ad[n]? = some a → st'[n]? = some (.lck t kvs) ∧ H' a = H a
theorem Mv.rp (m : Mv ι st H ι' st' H') {v : V} {d : PyData} (h : Rp (Frz ι st) H v d) : Rp (Frz ι' st') H' v d := Rp.mv (fun q u e f => let ⟨a, b⟩ := m.keep q u e f; ⟨a, .inl b⟩) h
theorem Mv.rpA (m : Mv ι st H ι' st' H') {v : List V} {d : List PyData} (h : RpA (Frz ι st) H v d) : RpA (Frz ι' st') H' v d := RpA.mv (fun q u e f => let ⟨a, b⟩ := m.keep q u e f; ⟨a, .inl b⟩) h
theorem Mv.rd (m : Mv ι st H ι' st' H') {x : V} : ∀ {d : D}, RD K ι st H x d → RD K ι' st' H' x d
  | .v d, h => m.rp h
  | .ref n, ⟨a, h1, h2⟩ => ⟨a, m.pre n a h1, h2⟩
  | .scr ns, ⟨a, h1, h2⟩ => ⟨a, h1, h2.imp id fun ⟨o, h, f⟩ => let ⟨a, b⟩ := m.keep _ _ h f; ⟨o, b, a⟩⟩
theorem Mv.ev (m : Mv ι st H ι' st' H') {σ : L2.St} {env : Ev} (h : EvR K ι st H σ env) : EvR K ι' st' H' σ env := ⟨h.1, fun i d q => let ⟨x, h1, h2⟩ := h.2 i d q; ⟨x, h1, m.rd h2⟩⟩
theorem Mv.rk (m : Mv ι st H ι' st' H') : ∀ {kvs : List (PyData × D)} {xs : List (Key × V)}, RK K ι st H kvs xs → RK K ι' st' H' kvs xs
  | _, _, .nil => .nil
  | _, _, .cons h r => .cons ⟨h.1, m.rd h.2⟩ (Mv.rk m r)
theorem Mv.rt (m : Mv ι st H ι' st' H') : ∀ {kvs : List (PyData × D)} {xs : List (List Key × V)}, RT K ι st H kvs xs → RT K ι' st' H' kvs xs
  | _, _, .nil => .nil
  | _, _, .cons h r => .cons ⟨h.1, m.rd h.2⟩ (Mv.rt m r)
theorem Mv.rtab (m : Mv ι st H ι' st' H') : ∀ {kvs : List (PyData × D)} {xs : List (NestedKey × Addr × V)}, RTab K ι st H kvs xs → RTab K ι' st' H' kvs xs
  | _, _, .nil => .nil
  | _, _, .cons h r => .cons ⟨h.1, m.rp h.2.1, m.rd h.2.2⟩ (Mv.rtab m r)
theorem Mv.rda (m : Mv ι st H ι' st' H') : ∀ {ds : List D} {xs : List V}, RDA K ι st H ds xs → RDA K ι' st' H' ds xs
  | _, _, .nil => .nil
  | _, _, .cons h r => .cons (m.rd h) (Mv.rda m r)
theorem Mv.ro (m : Mv ι st H ι' st' H') {a : Addr} (h : ∀ u, H a = some u → H' a = some u) : ∀ {o : O}, RO K ι st H a o → RO K ι' st' H' a o
  | .dead, _ => trivial
  | .lst _, ⟨xs, q, r⟩ => ⟨xs, h _ q, m.rpA r⟩
  | .dct false _, ⟨xs, q, r⟩ => ⟨xs, h _ q, m.rk r⟩
  | .dct true _, ⟨xs, q, r⟩ => ⟨xs, h _ q, m.rt r⟩
  | .lck false _, ⟨xs, o, q, r⟩ => ⟨xs, o, h _ q, m.rk r⟩
  | .lck true _, ⟨xs, o, q, r⟩ => ⟨xs, o, h _ q, m.rt r⟩
  | .tpl _, ⟨xs, o, q, r⟩ => ⟨xs, o, h _ q, m.rda r⟩
  | .tab _, ⟨xs, q, r⟩ => ⟨xs, h _ q, r.1, r.2.1, r.2.2.1, m.rtab r.2.2.2⟩
theorem Ext.mv (e : Ext ι st H ι' st' H') : Mv ι st H ι' st' H' := ⟨e.keep, e.pre, e.lk⟩
end
abbrev Wt := Option (Nat × List PyData)
def chk (w : Wt) (st : Sto) : Prop := match w with
  | none => True
  | some (n, zs) => st[n]? = some (.lst zs)
structure Wlk (K : PySem.W.Frag) (ds : List Itm) (w : Wt) (J : It) (ι : Gh) (st : Sto) (H : Hp) : Prop where
  go : ∀ (i : Nat) (d : Itm) ι' st' H', ds[i]? = some d → SRel K ι' st' H' → Mv ι st H ι' st' H' → chk w st' → J.go i H' ∧ ∀ x H2, J.yld i H' x H2 → SRel K ι' st' H2 ∧ Ext ι' st' H' ι' st' H2 ∧ RI K ι' st' H2 x d
  stop : ∀ ι' st' H', SRel K ι' st' H' → Mv ι st H ι' st' H' → chk w st' → J.stop ds.length H'
  len : ds.length ≤ sizeLine
abbrev MI := Ev → Sto → Out (List Itm × Wt)
def PI1 (K : PySem.W.Frag) (ι : Gh) (st : Sto) (H : Hp) (R : It → Hp → Prop) (r : List Itm × Wt) (st' : Sto) : Prop := ∀ ι' H' J, SRel K ι' st' H' → Ext ι st H ι' st' H' → Wlk K r.1 r.2 J ι' st' H' → R J H'
def TIo (K : PySem.W.Frag) (W : XW) (m : MI) : TI := fun σ H R => ∃ ι env st, SRel K ι st H ∧ EvR K ι st H σ env ∧ (m env st).post (PI1 K ι st H R) (PX1 K W ι st H)
section
variable {X : Cx} {W : XW} {tg it e : Expr} {m : ME}
theorem pi_wrap {t : TI} {m : MI} (h : PI X tg it t) (hi : ∀ σ H R, TIo X.K W m σ H R → t σ H (fun J H' => HF H' → R J H')) : PI X tg it (TIo X.K W m) :=
  ⟨fun pins s σ H R I q => thn (h.run pins s σ H _ I (hi σ H R q)) fun _ _ z => thn z fun _ _ ⟨a, fp, tn, J, H', e1, I', T, st0, hfp, q'⟩ => ⟨a, fp, tn, J, H', e1, I', T, st0, hfp, q' (hf_of I')⟩⟩
theorem pi_or {t u : TI} (h : PI X tg it t) (h' : PI X tg it u) : PI X tg it (fun σ H R => t σ H R ∨ u σ H R) :=
  ⟨fun pins s σ H R I q => q.elim (h.run pins s σ H R I) (h'.run pins s σ H R I)⟩
def seqI (st : Sto) (d : D) : Option (List PyData × Wt) := match lAt st d with
  | some (n, zs) => some (zs, some (n, zs))
  | none => (viewS st d).map fun zs => (zs, none)
theorem viewS_frz {K : PySem.W.Frag} {ι : Gh} {st : Sto} {H : Hp} {x : V} {d : D} {ds : List PyData} (hn : lAt st d = none) (e : viewS st d = some ds) (r : RD K ι st H x d) :
    ∃ a xs, x = .ref a ∧ ((H a = some (.lst xs) ∧ Frz ι st a) ∨ (∃ o, H a = some (.frz o (.tup xs)) ∧ Frz ι st a)) ∧ RpA (Frz ι st) H xs ds := by
  cases d with
  | v z =>
    cases z with
    | list zs =>
      have e' : zs = ds := Option.some.inj e
      subst e'
      have r' : Rp (Frz ι st) H x (.list zs) := r
      cases r' with
      | lst h f t => exact ⟨_, _, rfl, .inl ⟨h, f⟩, t⟩
    | tuple zs =>
      have e' : zs = ds := Option.some.inj e
      subst e'
      have r' : Rp (Frz ι st) H x (.tuple zs) := r
      cases r' with
      | tup h _ f t => exact ⟨_, _, rfl, .inr ⟨_, h, f⟩, t⟩
    | _ => cases e
  | scr ns => cases e
  | ref n =>
    simp only [viewS, viewL] at e
    cases q : st[n]? with
    | none => rw [q] at e; cases e
    | some o =>
      rw [q] at e
      cases o with
      | lst zs => simp only [lAt, q] at hn; cases hn
      | _ => cases e
theorem wlk_list {K : PySem.W.Frag} {ι : Gh} {st : Sto} {H : Hp} {a : Addr} {xs : List V} {ds : List PyData} {w : Wt} (hz : ds.length ≤ sizeLine) (r : RpA (Frz ι st) H xs ds) (hq : ∀ ι' st' H', SRel K ι' st' H' → Mv ι st H ι' st' H' → chk w st' → SqL K H' a xs) :
    Wlk K (ds.map fun d => .one (.v d)) w (Itl K a) ι st H := by
  refine ⟨fun i d ι' st' H' hi R E hc => ?_, fun ι' st' H' R E hc => ?_, by rw [List.length_map]; exact hz⟩
  · rw [List.getElem?_map] at hi
    obtain ⟨z, h1, rfl⟩ := Option.map_eq_some_iff.mp hi
    obtain ⟨x, h2, h3⟩ := r.get h1
    have q := hq ι' st' H' R E hc
    refine ⟨⟨xs, x, q, h2⟩, fun y H2 hy => ?_⟩
    obtain ⟨e1, e2⟩ := hy
    subst e1
    have e3 := e2 xs q
    rw [h2] at e3
    rw [← Option.some.inj e3]
    exact ⟨R, Ext.refl, E.rp h3⟩
  · rw [List.length_map, ← r.length]
    exact ⟨xs, hq ι' st' H' R E hc, Nat.le_refl _⟩
theorem wlk_tup {K : PySem.W.Frag} {ι : Gh} {st : Sto} {H : Hp} {a : Addr} {xs : List V} {ds : List PyData} {w : Wt} (hz : ds.length ≤ sizeLine) (r : RpA (Frz ι st) H xs ds) (hq : ∀ ι' st' H', SRel K ι' st' H' → Mv ι st H ι' st' H' → chk w st' → SqT K H' a xs) :
    Wlk K (ds.map fun d => .one (.v d)) w (Itt K a) ι st H := by
  refine ⟨fun i d ι' st' H' hi R E hc => ?_, fun ι' st' H' R E hc => ?_, by rw [List.length_map]; exact hz⟩
  · rw [List.getElem?_map] at hi
    obtain ⟨z, h1, rfl⟩ := Option.map_eq_some_iff.mp hi
    obtain ⟨x, h2, h3⟩ := r.get h1
    have q := hq ι' st' H' R E hc
    refine ⟨⟨xs, x, q, h2⟩, fun y H2 hy => ?_⟩
    obtain ⟨e1, e2⟩ := hy
    subst e1
    have e3 := e2 xs q
    rw [h2] at e3
    rw [← Option.some.inj e3]
    exact ⟨R, Ext.refl, E.rp h3⟩
  · rw [List.length_map, ← r.length]
    exact ⟨xs, hq ι' st' H' R E hc, Nat.le_refl _⟩
theorem stand_ref {K : PySem.W.Frag} {ι : Gh} {st : Sto} {H : Hp} {n : Nat} {a : Addr} {zs : List PyData} {xs : List V} (hi : ι.ad[n]? = some a) (r : RpA (Frz ι st) H xs zs) (h : H a = some (.lst xs)) :
    ∀ ι' st' H', SRel K ι' st' H' → Mv ι st H ι' st' H' → chk (some (n, zs)) st' → ∃ ys, H' a = some (.lst ys) ∧ RpA (Frz ι' st') H' ys zs := fun ι' st' H' R E hc => by
  obtain ⟨ys, h1, h2⟩ := R.obj n (.lst zs) a hc (E.pre n a hi)
  exact ⟨ys, h1, h2⟩
theorem wlk_ref {K : PySem.W.Frag} {ι : Gh} {st : Sto} {H : Hp} {n : Nat} {a : Addr} {zs : List PyData} {xs : List V} (hz : zs.length ≤ sizeLine) (hi : ι.ad[n]? = some a) (r : RpA (Frz ι st) H xs zs) (h : H a = some (.lst xs)) :
    Wlk K (zs.map fun d => .one (.v d)) (some (n, zs)) (Itl K a) ι st H := by
  refine ⟨fun i d ι' st' H' hi' R E hc => ?_, fun ι' st' H' R E hc => ?_, by rw [List.length_map]; exact hz⟩
  · rw [List.getElem?_map] at hi'
    obtain ⟨z, h1, rfl⟩ := Option.map_eq_some_iff.mp hi'
    obtain ⟨ys, h2, h3⟩ := stand_ref hi r h ι' st' H' R E hc
    obtain ⟨x, h4, h5⟩ := h3.get h1
    refine ⟨⟨ys, x, .of h2, h4⟩, fun y H2 hy => ?_⟩
    obtain ⟨e1, e2⟩ := hy
    subst e1
    have e3 := e2 ys (.of h2)
    rw [h4] at e3
    rw [← Option.some.inj e3]
    exact ⟨R, Ext.refl, h5⟩
  · rw [List.length_map]
    obtain ⟨ys, h2, h3⟩ := stand_ref hi r h ι' st' H' R E hc
    exact ⟨ys, .of h2, by rw [h3.length]; exact Nat.le_refl _⟩
def miSeq (m : ME) : MI := fun env st => (m env st).bind fun d s1 => match d with
  | .scr ns => .ok (ns.map fun n => .one (.v (.int n)), none) s1
  | d => match seqI s1 d with
    | some (zs, w) => .ok (zs.map fun z => .one (.v z), w) s1
    | none => .stuck
theorem i_seq (he : PE X e (TEo X.K W m)) : PI X tg e (TIo X.K W (miSeq m)) := pi_wrap (pi_or (pi_list he) (pi_tup he)) fun σ H Rr q => by
  obtain ⟨ι, env, st, R, EV, p⟩ := q
  unfold miSeq at p
  cases e1 : m env st with
  | stuck => rw [e1] at p; exact p.elim
  | exn x s1 => rw [e1] at p; exact .inl ⟨ι, env, st, R, EV, by rw [e1]; exact p⟩
  | ok d s1 =>
    rw [e1, bind_ok] at p
    split at p
    · rename_i ns
      refine .inl ⟨ι, env, st, R, EV, ?_⟩
      rw [e1]
      refine fun ι1 H1 x R1 E1 ra => ?_
      obtain ⟨a, rfl, h2⟩ := ra
      have hq : SqL X.K H1 a (ns.map V.int) := h2.elim .inr fun ⟨o, h, _⟩ => .inl (.inr ⟨o, h⟩)
      refine ⟨a, rfl, ⟨_, hq⟩, fun _ => p ι1 H1 _ R1 E1 ?_⟩
      have hz : (ns.map PyData.int).length ≤ sizeLine := by
        rw [List.length_map]
        rcases h2 with ⟨o, its, n, _, _, _, _, h5, h6⟩ | ⟨o, h, _⟩
        · have e6 := h6.length
          simp only [List.length_map, Array.length_toList] at e6
          omega
        · have q : (ns.map V.int).length ≤ sizeLine := R1.hf a _ h
          rw [List.length_map] at q
          exact q
      have hw := wlk_list (K := X.K) (a := a) (w := none) hz (rpA_ints (F := Frz ι1 s1) (H := H1) ns) fun ι' st' H' R' E' _ => by
        rcases h2 with h2 | ⟨o, h, f⟩
        · exact .inr h2
        · exact .inl (.inr ⟨o, (E'.keep _ _ h f).2⟩)
      rw [List.map_map] at hw
      exact hw
    · split at p
      · rename_i zs w e2
        unfold seqI at e2
        split at e2
        · rename_i n ws hL
          simp only [Option.some.injEq, Prod.mk.injEq] at e2
          obtain ⟨rfl, rfl⟩ := e2
          refine .inl ⟨ι, env, st, R, EV, ?_⟩
          rw [e1]
          refine fun ι1 H1 x R1 E1 ra => ?_
          obtain ⟨a, us, rfl, h1, h2, h3, h4⟩ := lAt_at R1 hL ra
          exact ⟨a, rfl, ⟨us, .of h1⟩, fun _ => p ι1 H1 _ R1 E1 (wlk_ref (by rw [← h2.length]; exact R1.hf a _ h1) h4 h2 h1)⟩
        · rename_i hL
          obtain ⟨ws, ev, e3⟩ := Option.map_eq_some_iff.mp e2
          simp only [Prod.mk.injEq] at e3
          obtain ⟨rfl, rfl⟩ := e3
          by_cases hT : isT d = true
          · refine .inr ⟨ι, env, st, R, EV, ?_⟩
            rw [e1]
            refine fun ι1 H1 x R1 E1 ra => ?_
            obtain ⟨vs, et⟩ := Option.isSome_iff_exists.mp hT
            have ed := tOf_eq et
            subst ed
            obtain ⟨a, us, rfl, h1 | ⟨o, h1, f⟩, h2⟩ := viewS_frz hL ev ra
            · have ra' : Rp (Frz ι1 s1) H1 (.ref a) (.tuple vs) := ra
              cases ra' with
              | tup h3 _ _ _ => rw [h1.1] at h3; cases h3
            · refine ⟨a, rfl, ⟨us, .inl (.inr ⟨o, h1⟩)⟩, fun _ => p ι1 H1 _ R1 E1 (wlk_tup (by rw [← h2.length]; exact R1.hf a _ h1) h2 fun ι' st' H' R' E' _ => ?_)⟩
              exact .inl (.inr ⟨o, (E'.keep _ _ h1 f).2⟩)
          · refine .inl ⟨ι, env, st, R, EV, ?_⟩
            rw [e1]
            refine fun ι1 H1 x R1 E1 ra => ?_
            obtain ⟨a, us, rfl, ⟨h1, f⟩ | ⟨o, h1, f⟩, h2⟩ := viewS_frz hL ev ra
            · refine ⟨a, rfl, ⟨us, .of h1⟩, fun _ => p ι1 H1 _ R1 E1 (wlk_list (by rw [← h2.length]; exact R1.hf a _ h1) h2 fun ι' st' H' R' E' _ => ?_)⟩
              exact .of (E'.keep _ _ h1 f).2
            · exfalso
              cases d with
              | v z =>
                cases z with
                | tuple _ => exact hT rfl
                | list _ =>
                  have ra' : Rp (Frz ι1 s1) H1 (.ref a) (.list _) := ra
                  cases ra' with
                  | lst h3 _ _ => rw [h1] at h3; cases h3
                | _ => cases ev
              | scr _ => cases ev
              | ref n =>
                simp only [viewS, viewL] at ev
                cases q : s1[n]? with
                | none => rw [q] at ev; cases ev
                | some o =>
                  rw [q] at ev
                  cases o with
                  | lst zs => simp only [lAt, q] at hL; cases hL
                  | _ => cases ev
      · exact p.elim
end
open Classical in
noncomputable def forL (w : Wt) (g : MG) (body : MS) : List Itm → MS
  | [] => fun env st => if chk w st then .nx env st else .stuck
  | d :: r => fun env st => if chk w st then (g d env st).thn fun e1 s1 => match body e1 s1 with
      | .nx e2 s2 => forL w g body r e2 s2
      | .ct e2 s2 => forL w g body r e2 s2
      | .bk e2 s2 => .nx e2 s2
      | .rt d s2 => .rt d s2
      | .exn e s2 => .exn e s2
      | .stuck => .stuck
    else .stuck
noncomputable def sFor (mi : MI) (g : MG) (body : MS) : MS := fun env st => (mi env st).thn fun r s1 => forL r.2 g body r.1 env s1
section
variable {X : Cx} {tg it c : Expr} {body : List Stmt} {mi : MI} {g : MG} {b : MS} {t : MT} {pos : Pos}
theorem s_for {W : XW} (gd : Gd X) (hp : PassesOwn (model X.prog X.w) X.A X.env X.xe) (hi : PI X tg it (TIo X.K W mi)) (hg : PG X tg (TGo X.K W g)) (hb : PSs X body (TSo X.K W b)) (hs : ∀ x, foldedSetIterable it X.env x = pure x := by intro _; rfl) :
    PS X (.For tg it body [] pos) (TSo X.K W (sFor mi g b)) := ps_wrap (ps_for hp gd.calm hi hg hb hs) fun D σ H q => by
  obtain ⟨ι, env, st, R, EV, p⟩ := q
  refine ⟨ι, env, st, R, EV, Out.post_mono (thn_post p) (fun r s1 q ι1 H1 J R1 E1 hW => ?_) fun _ _ q => q⟩
  obtain ⟨ds, w⟩ := r
  let Inv (i m : Nat) (σ : L2.St) (H : Hp) : Prop := m + i = ds.length ∧ ∃ ι' env' st', SRel X.K ι' st' H ∧ Ext ι1 s1 H1 ι' st' H ∧ EvR X.K ι' st' H σ env' ∧ (forL w g b (ds.drop i) env' st').post X.K W ι1 s1 H1 D
  refine ⟨Inv, ⟨ds.length, by show _ + 0 = _; omega, ι1, env, s1, R1, Ext.refl, EV.ext E1, ?_⟩, ?_⟩
  · exact SO.post_ext E1 q
  rintro i m σ2 H2 ⟨hm, ι2, env2, s2, R2, E2, EV2, p2⟩
  by_cases hi : i < ds.length
  · right
    have hd : ds.drop i = ds[i] :: ds.drop (i + 1) := List.drop_eq_getElem_cons hi
    rw [hd] at p2
    unfold forL at p2
    split at p2
    · rename_i hc
      obtain ⟨hgo, hy⟩ := hW.go i ds[i] ι2 s2 H2 (List.getElem?_eq_getElem hi) R2 E2.mv hc
      refine ⟨hgo, Inv (i + 1) (m - 1), fun σ' H' hN => ⟨m - 1, by omega, hN⟩, fun x H3 hyl => ?_⟩
      obtain ⟨R3, E3, ri⟩ := hy x H3 hyl
      refine ⟨ι2, env2, s2, ds[i], R3, EV2.ext E3, ri, Out.post_mono (thn_post p2) (fun e1 s4 q4 ι4 H4 σ4 R4 E4 EV4 _ => ?_) fun _ _ z => (PX1.ext z E2).ext E3⟩
      have E14 := E2.trans (E3.trans E4)
      refine ⟨ι4, e1, s4, R4, EV4, ?_⟩
      cases eb : b e1 s4 with
      | nx e5 s5 =>
        rw [eb] at q4
        exact fun ι5 H5 σ5 R5 E5 EV5 => ⟨by omega, ι5, e5, s5, R5, E14.trans E5, EV5, q4⟩
      | ct e5 s5 =>
        rw [eb] at q4
        exact fun ι5 H5 σ5 R5 E5 EV5 => ⟨by omega, ι5, e5, s5, R5, E14.trans E5, EV5, q4⟩
      | bk e5 s5 =>
        rw [eb] at q4
        exact fun ι5 H5 σ5 R5 E5 EV5 hf => q4 ι5 H5 σ5 R5 (E14.trans E5) EV5
      | rt d5 s5 =>
        rw [eb] at q4
        exact fun ι5 H5 x5 R5 E5 r5 hf => q4 ι5 H5 x5 R5 (E14.trans E5) r5
      | exn e5 s5 =>
        rw [eb] at q4
        exact PX1.ext q4 E14
      | stuck => rw [eb] at q4; exact q4.elim
    · exact p2.elim
  · left
    have hd : ds.drop i = [] := List.drop_eq_nil_of_le (by omega)
    rw [hd] at p2
    unfold forL at p2
    split at p2
    · rename_i hc
      have e : i = ds.length := by omega
      subst e
      exact ⟨hW.stop ι2 s2 H2 R2 E2.mv hc, fun _ => p2 ι2 H2 σ2 R2 E2 EV2⟩
    · exact p2.elim
def whileL (t : MT) (body : MS) : Nat → MS
  | 0 => fun _ _ => .stuck
  | n + 1 => fun env st => (t env st).thn fun k s1 => if k then (match body env s1 with
      | .nx e2 s2 => whileL t body n e2 s2
      | .ct e2 s2 => whileL t body n e2 s2
      | .bk e2 s2 => .nx e2 s2
      | .rt d s2 => .rt d s2
      | .exn e s2 => .exn e s2
      | .stuck => .stuck) else .nx env s1
theorem s_while {W : XW} (n : Nat) (hp : PassesOwn (model X.prog X.w) X.A X.env X.xe) (hc : PT X c (TTo X.K W t)) (hb : PSs X body (TSo X.K W b)) : PS X (.While c body [] pos) (TSo X.K W (whileL t b n)) := ps_wrap (ps_while hp hc hb) fun D σ H q => by
  obtain ⟨ι, env, st, R, EV, p⟩ := q
  let Inv (m : Nat) (σ1 : L2.St) (H1 : Hp) : Prop := ∃ ι' env' st', SRel X.K ι' st' H1 ∧ Ext ι st H ι' st' H1 ∧ EvR X.K ι' st' H1 σ1 env' ∧ (whileL t b m env' st').post X.K W ι st H D
  refine ⟨Inv, ⟨n, ι, env, st, R, Ext.refl, EV, p⟩, ?_⟩
  rintro m σ2 H2 ⟨ι2, env2, s2, R2, E2, EV2, p2⟩
  cases m with
  | zero => exact p2.elim
  | succ m =>
    unfold whileL at p2
    refine ⟨ι2, env2, s2, R2, EV2, Out.post_mono (thn_post p2) (fun k s3 q3 ι3 H3 R3 E3 => ?_) fun _ _ z => PX1.ext z E2⟩
    have E13 := E2.trans E3
    cases k with
    | false => exact iteF fun _ => q3 ι3 H3 σ2 R3 E13 (EV2.ext E3)
    | true =>
      refine iteT ⟨Inv m, fun σ' H' hN => ⟨m, Nat.lt_succ_self m, hN⟩, ?_⟩
      refine ⟨ι3, env2, s3, R3, EV2.ext E3, ?_⟩
      rw [if_pos rfl] at q3
      cases eb : b env2 s3 with
      | nx e5 s5 =>
        rw [eb] at q3
        exact fun ι5 H5 σ5 R5 E5 EV5 => ⟨ι5, e5, s5, R5, E13.trans E5, EV5, q3⟩
      | ct e5 s5 =>
        rw [eb] at q3
        exact fun ι5 H5 σ5 R5 E5 EV5 => ⟨ι5, e5, s5, R5, E13.trans E5, EV5, q3⟩
      | bk e5 s5 =>
        rw [eb] at q3
        exact fun ι5 H5 σ5 R5 E5 EV5 hf => q3 ι5 H5 σ5 R5 (E13.trans E5) EV5
      | rt d5 s5 =>
        rw [eb] at q3
        exact fun ι5 H5 x5 R5 E5 r5 hf => q3 ι5 H5 x5 R5 (E13.trans E5) r5
      | exn e5 s5 =>
        rw [eb] at q3
        exact PX1.ext q3 E13
      | stuck => rw [eb] at q3; exact q3.elim
end
def rngI (lo : Int) (n : Nat) : List Itm := (List.range n).map fun i => .one (.v (.int (lo + (i : Nat))))
theorem rngI_get {lo : Int} {n i : Nat} {d : Itm} (h : (rngI lo n)[i]? = some d) : i < n ∧ d = .one (.v (.int (lo + (i : Nat)))) := by
  unfold rngI at h
  rw [List.getElem?_map] at h
  obtain ⟨j, h1, rfl⟩ := Option.map_eq_some_iff.mp h
  obtain ⟨h2, h3⟩ := List.getElem?_eq_some_iff.mp h1
  rw [List.getElem_range] at h3
  subst h3
  rw [List.length_range] at h2
  exact ⟨h2, rfl⟩
theorem wlk_range {K : PySem.W.Frag} {ι : Gh} {st : Sto} {H : Hp} (lo : Int) (n : Nat) (hz : n ≤ sizeLine) : Wlk K (rngI lo n) none (Itr lo n) ι st H := by
  refine ⟨fun i d ι' st' H' hi R E _ => ?_, fun ι' st' H' R E _ => ?_, by unfold rngI; rw [List.length_map, List.length_range]; exact hz⟩
  · obtain ⟨h1, rfl⟩ := rngI_get hi
    refine ⟨h1, fun x H2 hy => ?_⟩
    obtain ⟨rfl, rfl⟩ := hy
    exact ⟨R, Ext.refl, .int _⟩
  · show n ≤ (rngI lo n).length
    unfold rngI
    rw [List.length_map, List.length_range]
    exact Nat.le_refl _
def miR1 (m : MA) : MI := fun env st => (m env st).bind fun ds s1 => match ds with
  | [d] => match iOf d with
    | some j => if -1000000 ≤ j ∧ j ≤ 1000000 then .ok (rngI 0 j.toNat, none) s1 else .stuck
    | none => .stuck
  | _ => .stuck
section
variable {X : Cx} {W : XW} {tg a b e : Expr} {m : MA} {p pos : Pos}
theorem i_range1 (hg : Gl X "range") (hm : X.mg "range" = none) (ha : PA X [a] (TAo X.K W m)) (hs : starEach [a] X.env = [(false, eval a X.env)] := by rfl) : PI X tg (.Call (.Name "range" p) [a] [] pos) (TIo X.K W (miR1 m)) :=
  pi_wrap (pi_range1 hg hm ha hs) fun σ H Rr q => by
    obtain ⟨ι, env, st, R, EV, p⟩ := q
    refine ⟨ι, env, st, R, EV, Out.post_mono (Out.post_bind p) (fun ds s1 q ι1 H1 xs R1 E1 ra => ?_) fun _ _ q => q⟩
    split at q
    · obtain ⟨x, rfl, r1⟩ := ra.one
      split at q
      · rename_i j e1
        split at q
        · rename_i hb
          have ex := iOf_at e1 r1
          subst ex
          exact ⟨j, rfl, by omega, by omega, fun _ => q ι1 H1 _ R1 E1 (wlk_range 0 j.toNat (Nat.le_trans (show j.toNat ≤ 1000000 by omega) (by decide)))⟩
        · exact q.elim
      · exact q.elim
    · exact q.elim
end
def enumI (zs : List PyData) : List Itm := zs.zipIdx.map fun p => .many [.v (.int (p.2 : Nat)), .v p.1]
theorem enumI_get {zs : List PyData} {i : Nat} {d : Itm} (h : (enumI zs)[i]? = some d) : ∃ z, zs[i]? = some z ∧ d = .many [.v (.int (i : Nat)), .v z] := by
  unfold enumI at h
  rw [List.getElem?_map] at h
  obtain ⟨⟨z, j⟩, h1, rfl⟩ := Option.map_eq_some_iff.mp h
  rw [List.getElem?_zipIdx] at h1
  obtain ⟨w, h2, h3⟩ := Option.map_eq_some_iff.mp h1
  simp only [Prod.mk.injEq] at h3
  obtain ⟨rfl, rfl⟩ := h3
  exact ⟨w, h2, by simp⟩
theorem ri_new {K : PySem.W.Frag} {ι : Gh} {st : Sto} {H : Hp} (R : SRel K ι st H) {T : Addr} (hT : H T = none) {xs : List V} {ds : List D} (hl : xs.length ≤ 3) (r : RDs K ι st H xs ds) :
    SRel K ι st (upd H T (.tup xs)) ∧ Ext ι st H ι st (upd H T (.tup xs)) ∧ RI K ι st (upd H T (.tup xs)) (.ref T) (.many ds) := by
  have E : Ext ι st H ι st (upd H T (.tup xs)) := Ext.fresh R hT
  exact ⟨R.fresh hT (hf_tup R.hf (lim1000 (by omega))), E, T, xs, rfl, .inl upd_same, R.frz_new hT, RDs.ext E r⟩
structure Stands (K : PySem.W.Frag) (zs : List PyData) (w : Wt) (sq : Hp → List V → Prop) (ι : Gh) (st : Sto) (H : Hp) : Prop where
  len : zs.length ≤ sizeLine
  at_ : ∀ ι' st' H', SRel K ι' st' H' → Mv ι st H ι' st' H' → chk w st' → ∃ ys, sq H' ys ∧ RpA (Frz ι' st') H' ys zs
theorem stands_frz {K : PySem.W.Frag} {ι : Gh} {st : Sto} {H : Hp} {a : Addr} {xs : List V} {zs : List PyData} {w : Wt} (h : H a = some (.lst xs)) (f : Frz ι st a) (r : RpA (Frz ι st) H xs zs) (hf : HF H) : Stands K zs w (fun H' ys => SqL K H' a ys) ι st H :=
  ⟨by rw [← r.length]; exact hf a _ h, fun ι' st' H' R E _ => ⟨xs, .of (E.keep _ _ h f).2, E.rpA r⟩⟩
theorem stands_tup {K : PySem.W.Frag} {ι : Gh} {st : Sto} {H : Hp} {a : Addr} {o : Obj} {xs : List V} {zs : List PyData} {w : Wt} (h : H a = some (.frz o (.tup xs))) (f : Frz ι st a) (r : RpA (Frz ι st) H xs zs) (hf : HF H) : Stands K zs w (fun H' ys => SqT K H' a ys) ι st H :=
  ⟨by rw [← r.length]; exact hf a _ h, fun ι' st' H' R E _ => ⟨xs, .inl (.inr ⟨o, (E.keep _ _ h f).2⟩), E.rpA r⟩⟩
theorem stands_ref {K : PySem.W.Frag} {ι : Gh} {st : Sto} {H : Hp} {n : Nat} {a : Addr} {xs : List V} {zs : List PyData} (hi : ι.ad[n]? = some a) (r : RpA (Frz ι st) H xs zs) (h : H a = some (.lst xs)) (hf : HF H) : Stands K zs (some (n, zs)) (fun H' ys => SqL K H' a ys) ι st H :=
  ⟨by rw [← r.length]; exact hf a _ h, fun ι' st' H' R E hc => let ⟨ys, h1, h2⟩ := stand_ref hi r h ι' st' H' R E hc; ⟨ys, .of h1, h2⟩⟩
end Fw
namespace Fw
open PySem PySem.Spec PyProof.Rows L2
theorem meets_enumT (t : Addr) (items : Array Value) : Meets (Builtin.«enumerate.__new__» ⟨[.type "enumerate", .ref t], []⟩) (fun _ R s => s.heap.IsTuple t items ∧
    R (.ok (.ret (.ref (s.heap.push { cls := .type "tuple_iterator", data := .fields #[.ref t, .int 0 0] }).objs.size)))
      { s with heap := (s.heap.push { cls := .type "tuple_iterator", data := .fields #[.ref t, .int 0 0] }).push { cls := .type "enumerate", data := .fields #[.none, .bool false, .ref s.heap.objs.size, rawInt 0, .none, .none] } }) :=
  .of_wp fun prog w A R s h => by
    obtain ⟨hp, g, d, tk, os⟩ := s
    obtain ⟨h1, h⟩ := h
    have hsub := sub_enumerate
    have q1 : ∀ {A' : Around} {E : Value → Shared → Prop} {Q : Value → Shared → Prop}, Q (.ref hp.objs.size) ⟨hp.push { cls := .type "tuple_iterator", data := .fields #[.ref t, .int 0 0] }, g, d, tk, os⟩ → wpAny (model prog w) A' (pyIter (.ref t)) Q E ⟨hp, g, d, tk, os⟩ :=
      fun q => (begins_tuple t items).iter prog w _ _ ⟨hp, g, d, tk, os⟩ _ h1 q
    wp_walk using q1
    refine wpAny_stack_any fun st => wpAny_pure ?_
    split
    · rename_i c _ _ _ _ _
      cases (c == Value.type "enumerate") <;>
        (wp_walk using q1
         exact ⟨_, rfl, h⟩)
    · wp_walk using q1
      exact ⟨_, rfl, h⟩
section
variable {prog : Program} {w : World} {A : Around} {E : Value → Shared → Prop} {s : Shared}
theorem call_enumT {t : Addr} {items : Array Value} {Q : Value → Shared → Prop} (ht : s.heap.IsTuple t items)
    (h : ∀ h', IsEnum h' (s.heap.objs.size + 1) s.heap.objs.size 0 .none → h'.IsTupleIter s.heap.objs.size t 0 →
      (∀ b o, s.heap.get? b = some o → h'.get? b = some o) → Q (.ref (s.heap.objs.size + 1)) { s with heap := h' }) :
    wpAny (model prog w) A (call (.type "enumerate") [.ref t]) Q E s := by
  refine callType_new F.called_enumerate (by decide) (F.typeCall_enumerate_1 _) (F.newCall_enumerate_1 _) (fun obj => F.args_object_init_2 obj _) F.entry_enumerate_new (meets_enumT t items) ⟨ht, ?_⟩
  have hz : (s.heap.push { cls := .type "tuple_iterator", data := .fields #[.ref t, .int 0 0] }).objs.size = s.heap.objs.size + 1 := Heap.size_push ..
  show _ ∧ _
  rw [hz]
  have he : IsEnum ((s.heap.push { cls := .type "tuple_iterator", data := .fields #[.ref t, .int 0 0] }).push { cls := .type "enumerate", data := .fields #[.none, .bool false, .ref s.heap.objs.size, rawInt 0, .none, .none] })
      (s.heap.objs.size + 1) s.heap.objs.size 0 .none := by
    have q := Heap.get?_push_size (s.heap.push { cls := .type "tuple_iterator", data := .fields #[.ref t, .int 0 0] }) (o := { cls := .type "enumerate", data := .fields #[.none, .bool false, .ref s.heap.objs.size, rawInt 0, .none, .none] }) rfl
    rw [hz] at q
    exact q
  exact ⟨⟨_, he, rfl⟩, h _ he ⟨_, Heap.get?_push_of_some _ (Heap.get?_push_size _ rfl), rfl, rfl⟩ fun b o x => Heap.get?_push_of_some _ (Heap.get?_push_of_some _ x)⟩
end
def IteT (K : PySem.W.Frag) (a : Addr) : It :=
  ⟨fun i H => ∃ (xs : List V) (x : V), SqT K H a xs ∧ xs[i]? = some x, fun i H v H' => ∃ T x, v = .ref T ∧ H T = none ∧ H' = upd H T (.tup [.int (i : Nat), x]) ∧ ∀ xs, SqT K H a xs → xs[i]? = some x, fun i H => ∃ xs : List V, SqT K H a xs ∧ xs.length = i⟩
theorem turn_enumT {P : Program} {w : World} {K : PySem.W.Frag} {elts : List Expr} {kk : Nat} {tpos : Pos} (a e it : Addr) :
    Turn P w K (.Tuple elts kk tpos) (IteT K a) [e, it] e (fun i h => (∃ old, IsEnum h e it ((i : Nat) : Int) old) ∧ h.IsTupleIter it a i ∧ e ≠ it) where
  mem := List.mem_cons_self
  obj := fun i h st b hb => by
    obtain ⟨⟨old, he⟩, ⟨o, ho, hc, hd⟩, _⟩ := st
    have hb' : b = e ∨ b = it := by simpa using hb
    rcases hb' with z | z <;> rw [z]
    · exact ⟨_, he, fun v q => nomatch q⟩
    · exact ⟨o, ho, fun v q => by rw [hd] at q; cases q⟩
  keep := fun i h h' st k => by
    obtain ⟨⟨old, he⟩, hi, hne⟩ := st
    exact ⟨⟨old, k e (by simp) _ he⟩, hi.at fun o q => k it (by simp) o q, hne⟩
  item := by
    intro X hP hw hK hc i pins s σ H E I hf st hg
    subst hP hw hK
    obtain ⟨⟨old, he⟩, hit, hne⟩ := st
    obtain ⟨xs, x, hq, hx⟩ := hg
    obtain ⟨its, rv, p, hz⟩ := I.tuple hq
    obtain ⟨u, hu, ru⟩ := rv.get hx
    have hel : e < s.heap.objs.size := Heap.lt_size he
    have hit0 := id hit
    obtain ⟨oi, hoi, hci, _⟩ := hit0
    obtain ⟨ot, hot, hct, nt, hdt⟩ := p
    have ht : s.heap.IsTuple a its.toArray := ⟨ot, hot, hct, nt, hdt⟩
    have hai : a ≠ it := fun z => by
      rw [z, hoi] at hot
      cases hot
      rw [hci] at hct
      exact absurd hct (by decide)
    have hae : a ≠ e := fun z => by
      rw [z] at hot
      have he' : s.heap.get? e = _ := he
      rw [he'] at hot
      have hcls := congrArg (fun o => (Option.map Obj.cls o)) hot
      rw [Option.map_some, Option.map_some, hct] at hcls
      exact absurd hcls (by intro z; injection z with z; injection z with z; exact absurd z (by decide))
    have Dr := Draws.tuple (prog := X.prog) (w := X.w) (A := X.A.in1) (I.ok.hd hc) it a hai its.toArray
    have hlt : i < its.toArray.size := by
      have := (List.getElem?_eq_some_iff.mp hu).1
      simpa using this
    refine wpAny_pyNext_enum_itemD Dr he ⟨hit, ht⟩ hlt hne (by simp [hne, Ne.symm hae]) fun u' h' tk hP ho hit' hT hsz hk => ?_
    have eu : u' = u := by
      have hP' : its.toArray[i]? = some u' := hP
      have : its[i]? = some u' := by simpa using hP'
      rw [hu] at this
      exact (Option.some.inj this).symm
    subst eu
    refine ⟨_, rfl, wpAny_letOwnedTupleGo_enum (s := { s with heap := h', toks := tk + 1 }) ho fun h2 he2 sb => ?_⟩
    have hT2 : h2.get? s.heap.objs.size = some { cls := .type "tuple", data := .seq #[.int i tk, u'] } := (sb.2 _ (Nat.ne_of_gt hel)).trans hT
    have new : ObjOk X.prog X.w (upd H s.heap.objs.size (.tup [.int (i : Nat), x])) h2 s.heap.objs.size (.tup [.int (i : Nat), x]) :=
      ⟨lim1000 (show 2 ≤ 1000 by decide), [.int i tk, u'], .cons ⟨_, rfl⟩ (.cons ru .nil), ⟨_, hT2, rfl, _, rfl⟩⟩
    have I1 : Inv X pins σ (upd H s.heap.objs.size (.tup [.int (i : Nat), x])) { s with heap := h2, toks := tk + 1 } :=
      I.turnedNew (ch := [e, it]) (fun b ob hb q => (sb.2 b fun z => hb (by simp [z])).trans (hk b ob (fun z => hb (by simp [z])) (fun z => hb (by simp [z])) q)) hf (Nat.le_refl _) new
    refine ⟨.ref s.heap.objs.size, _, I1, rfl, ⟨_, x, rfl, I.hok.fresh (Nat.le_refl _), rfl, fun ys hy => by rw [I.tuple_inj hy hq]; exact hx⟩, ⟨⟨u', ?_⟩, hit'.1.at fun o q => (sb.2 it (Ne.symm hne)).trans q, hne⟩, fun b hb => ?_⟩
    · have e1 : ((i + 1 : Nat) : Int) = (i : Int) + 1 := by omega
      rw [e1]
      exact he2
    · have hb' : b < s.heap.objs.size := by
        have q : b = e ∨ b = it := by simpa using hb
        rcases q with z | z <;> rw [z]
        · exact hel
        · exact Heap.lt_size hoi
      rw [upd_ne (Nat.ne_of_lt hb')]
      exact (hf b hb).1
  done := by
    intro X hP hw hK hc i pins s σ H E I hf st hg
    subst hP hw hK
    obtain ⟨⟨old, he⟩, hit, hne⟩ := st
    obtain ⟨xs, hq, hx⟩ := hg
    obtain ⟨its, rv, p, hz⟩ := I.tuple hq
    have hl := rv.length
    obtain ⟨f0, f1, f2, f3, f4, f5⟩ := hf it (by simp)
    have hit0 := id hit
    obtain ⟨oi, hoi, hci, hdi⟩ := hit0
    obtain ⟨ot, hot, hct, nt, hdt⟩ := p
    have ht : s.heap.IsTuple a its.toArray := ⟨ot, hot, hct, nt, hdt⟩
    have hai : a ≠ it := fun z => by
      rw [z, hoi] at hot
      cases hot
      rw [hci] at hct
      exact absurd hct (by decide)
    have Dr := Draws.tuple (prog := X.prog) (w := X.w) (A := X.A.in1) (I.ok.hd hc) it a hai its.toArray
    have ei : i = its.toArray.size := by
      rw [List.size_toArray]
      omega
    rw [ei] at hit
    exact wpAny_pyNext_enum_endD Dr he ⟨hit, ht⟩ fun h' eb => ⟨rfl, I.turned (t' := s.toks) (fun b o hb q => eb b o hb q) f0 f1 f3 f4 f5⟩
  self := fun A i s Q E st h => let ⟨⟨_, he⟩, _⟩ := st; wpAny_pyIter_enum he h
def iEnumA (K : PySem.W.Frag) (ta : TA) : TI := fun σ H R => ta σ H fun vs H1 => ∃ a xs, vs = [.ref a] ∧ ((SqL K H1 a xs ∧ R (Ite K a) H1) ∨ (SqT K H1 a xs ∧ R (IteT K a) H1))
theorem pi_enumA {X : Cx} {e : Expr} {ta : TA} {p pos tpos : Pos} {elts : List Expr} {kk : Nat} (hg : Gl X "enumerate") (hm : X.mg "enumerate" = none) (ha : PA X [e] ta) (hs : starEach [e] X.env = [(false, eval e X.env)] := by rfl) :
    PI X (.Tuple elts kk tpos) (.Call (.Name "enumerate" p) [e] [] pos) (iEnumA X.K ta) := by
  refine ⟨fun pins s σ H R I h => ?_⟩
  refine Call_ (ld_blt I hg hm boot_enumerate (PyProof.Rows.callWith_type1 (thn (ha.run pos pins s σ H _ I h) fun us s1 hh => ?_) hs rfl))
  obtain ⟨vs, H1, I1, r1, a, xs, ex, q⟩ := hh
  subst ex
  obtain ⟨u, rfl, ru⟩ := vals1 r1
  cases ru
  have fr : ∀ b ∈ [s1.heap.objs.size + 1, s1.heap.objs.size], FpOk X pins H1 b := fun b hb => by
    have q : b = s1.heap.objs.size + 1 ∨ b = s1.heap.objs.size := by simpa using hb
    have hle : s1.heap.objs.size ≤ b := by rcases q with z | z <;> rw [z] <;> first | exact Nat.le_add_right _ _ | exact Nat.le_refl _
    exact I1.fpOk hle (I1.hok.fresh hle)
  rcases q with ⟨hq, q⟩ | ⟨hq, q⟩
  · obtain ⟨its, rv, pl, hz⟩ := I1.list hq
    refine call_enumerate_list pl.isList fun h' he hit hsz hk => wpAny_pyIter_enum he ?_
    exact ⟨s1.heap.objs.size + 1, _, _, _, H1, rfl, I1.kept (t' := s1.toks) hk, turn_enum a (s1.heap.objs.size + 1) s1.heap.objs.size, ⟨⟨.none, he⟩, hit, Nat.succ_ne_self _⟩, fr, q⟩
  · obtain ⟨its, rv, ⟨ot, hot, hct, nt, hdt⟩, hz⟩ := I1.tuple hq
    refine call_enumT (items := its.toArray) ⟨ot, hot, hct, nt, hdt⟩ fun h' he hit hk => wpAny_pyIter_enum he ?_
    exact ⟨s1.heap.objs.size + 1, _, _, _, H1, rfl, I1.kept (t' := s1.toks) hk, turn_enumT a (s1.heap.objs.size + 1) s1.heap.objs.size, ⟨⟨.none, he⟩, hit, Nat.succ_ne_self _⟩, fr, q⟩
theorem RpA.at {K : PySem.W.Frag} {ι : Gh} {st : Sto} {H : Hp} {xs : List V} {zs : List PyData} (r : RpA (Frz ι st) H xs zs) {i : Nat} {z : PyData} (h : zs[i]? = some z) : ∃ x, xs[i]? = some x ∧ Rp (Frz ι st) H x z := r.get h
theorem wlk_enumL {K : PySem.W.Frag} {ι : Gh} {st : Sto} {H : Hp} {a : Addr} {zs : List PyData} {w : Wt} (S : Stands K zs w (fun H' ys => SqL K H' a ys) ι st H) : Wlk K (enumI zs) w (Ite K a) ι st H := by
  refine ⟨fun i d ι' st' H' hi R E hc => ?_, fun ι' st' H' R E hc => ?_, by unfold enumI; rw [List.length_map, List.length_zipIdx]; exact S.len⟩
  · obtain ⟨z, h1, rfl⟩ := enumI_get hi
    obtain ⟨ys, h2, h3⟩ := S.at_ ι' st' H' R E hc
    obtain ⟨x, h4, h5⟩ := h3.get h1
    refine ⟨⟨ys, x, h2, h4⟩, fun v H2 hy => ?_⟩
    obtain ⟨T, x', rfl, hT, rfl, hx⟩ := hy
    have e := hx ys h2
    rw [h4] at e
    cases e
    exact ri_new R hT (show 2 ≤ 3 by decide) (.cons (.int _) (.cons h5 .nil))
  · obtain ⟨ys, h2, h3⟩ := S.at_ ι' st' H' R E hc
    refine ⟨ys, h2, ?_⟩
    rw [h3.length]
    unfold enumI
    rw [List.length_map, List.length_zipIdx]
    exact Nat.le_refl _
theorem wlk_enumT {K : PySem.W.Frag} {ι : Gh} {st : Sto} {H : Hp} {a : Addr} {zs : List PyData} {w : Wt} (S : Stands K zs w (fun H' ys => SqT K H' a ys) ι st H) : Wlk K (enumI zs) w (IteT K a) ι st H := by
  refine ⟨fun i d ι' st' H' hi R E hc => ?_, fun ι' st' H' R E hc => ?_, by unfold enumI; rw [List.length_map, List.length_zipIdx]; exact S.len⟩
  · obtain ⟨z, h1, rfl⟩ := enumI_get hi
    obtain ⟨ys, h2, h3⟩ := S.at_ ι' st' H' R E hc
    obtain ⟨x, h4, h5⟩ := h3.get h1
    refine ⟨⟨ys, x, h2, h4⟩, fun v H2 hy => ?_⟩
    obtain ⟨T, x', rfl, hT, rfl, hx⟩ := hy
    have e := hx ys h2
    rw [h4] at e
    cases e
    exact ri_new R hT (show 2 ≤ 3 by decide) (.cons (.int _) (.cons h5 .nil))
  · obtain ⟨ys, h2, h3⟩ := S.at_ ι' st' H' R E hc
    refine ⟨ys, h2, ?_⟩
    rw [h3.length]
    unfold enumI
    rw [List.length_map, List.length_zipIdx]
theorem stands_of {K : PySem.W.Frag} {ι : Gh} {st : Sto} {H : Hp} (R : SRel K ι st H) {d : D} {zs : List PyData} {w : Wt} (e : seqI st d = some (zs, w)) {x : V} (r : RD K ι st H x d) :
    ∃ a, x = .ref a ∧ ((∃ xs, SqL K H a xs ∧ Stands K zs w (fun H' ys => SqL K H' a ys) ι st H) ∨ (∃ xs, SqT K H a xs ∧ Stands K zs w (fun H' ys => SqT K H' a ys) ι st H)) := by
  unfold seqI at e
  split at e
  · rename_i n ws hL
    simp only [Option.some.injEq, Prod.mk.injEq] at e
    obtain ⟨rfl, rfl⟩ := e
    obtain ⟨a, us, rfl, h1, h2, h3, h4⟩ := lAt_at R hL r
    exact ⟨a, rfl, .inl ⟨us, .of h1, stands_ref h4 h2 h1 R.hf⟩⟩
  · rename_i hL
    obtain ⟨ws, ev, e3⟩ := Option.map_eq_some_iff.mp e
    simp only [Prod.mk.injEq] at e3
    obtain ⟨rfl, rfl⟩ := e3
    obtain ⟨a, us, rfl, ⟨h1, f⟩ | ⟨o, h1, f⟩, h2⟩ := viewS_frz hL ev r
    · exact ⟨a, rfl, .inl ⟨us, .of h1, stands_frz h1 f h2 R.hf⟩⟩
    · exact ⟨a, rfl, .inr ⟨us, .inl (.inr ⟨o, h1⟩), stands_tup h1 f h2 R.hf⟩⟩
def miEnum (m : MA) : MI := fun env st => (m env st).bind fun ds s1 => match ds with
  | [d] => match seqI s1 d with
    | some (zs, w) => .ok (enumI zs, w) s1
    | none => .stuck
  | _ => .stuck
theorem i_enum {X : Cx} {W : XW} {e : Expr} {m : MA} {p pos tpos : Pos} {elts : List Expr} {kk : Nat} (hg : Gl X "enumerate") (hm : X.mg "enumerate" = none) (ha : PA X [e] (TAo X.K W m)) (hs : starEach [e] X.env = [(false, eval e X.env)] := by rfl) :
    PI X (.Tuple elts kk tpos) (.Call (.Name "enumerate" p) [e] [] pos) (TIo X.K W (miEnum m)) := pi_wrap (pi_enumA hg hm ha hs) fun σ H Rr q => by
  obtain ⟨ι, env, st, R, EV, p⟩ := q
  refine ⟨ι, env, st, R, EV, Out.post_mono (Out.post_bind p) (fun ds s1 q ι1 H1 xs R1 E1 ra => ?_) fun _ _ q => q⟩
  split at q
  · obtain ⟨x, rfl, r1⟩ := ra.one
    split at q
    · rename_i zs w e1
      obtain ⟨a, rfl, ⟨us, h1, S⟩ | ⟨us, h1, S⟩⟩ := stands_of R1 e1 r1
      · exact ⟨a, us, rfl, .inl ⟨h1, fun _ => q ι1 H1 _ R1 E1 (wlk_enumL S)⟩⟩
      · exact ⟨a, us, rfl, .inr ⟨h1, fun _ => q ι1 H1 _ R1 E1 (wlk_enumT S)⟩⟩
    · exact q.elim
  · exact q.elim
def zip2I (xs ys : List PyData) : List Itm := (xs.zip ys).map fun p => .many [.v p.1, .v p.2]
def miZip (m : MA) : MI := fun env st => (m env st).bind fun ds s1 => match ds with
  | [a, b] => match seqI s1 a, seqI s1 b with
    | some (xs, none), some (ys, none) => if isT a == isT b then .ok (zip2I xs ys, none) s1 else .stuck
    | _, _ => .stuck
  | _ => .stuck
theorem seqI_T {st : Sto} {d : D} {zs : List PyData} {K : PySem.W.Frag} {ι : Gh} {H : Hp} (R : SRel K ι st H) (e : seqI st d = some (zs, none)) {x : V} (r : RD K ι st H x d) :
    ∃ a xs, x = .ref a ∧ ((isT d = false ∧ H a = some (.lst xs) ∧ Frz ι st a) ∨ (isT d = true ∧ ∃ o, H a = some (.frz o (.tup xs)) ∧ Frz ι st a)) ∧ RpA (Frz ι st) H xs zs := by
  unfold seqI at e
  split at e
  · cases e
  · rename_i hL
    obtain ⟨ws, ev, e3⟩ := Option.map_eq_some_iff.mp e
    simp only [Prod.mk.injEq] at e3
    obtain ⟨rfl, _⟩ := e3
    obtain ⟨a, us, rfl, h, h2⟩ := viewS_frz hL ev r
    refine ⟨a, us, rfl, ?_, h2⟩
    cases hT : isT d with
    | true =>
      obtain ⟨vs, et⟩ := Option.isSome_iff_exists.mp hT
      rcases h with ⟨h1, f⟩ | ⟨o, h1, f⟩
      · rw [tOf_eq et] at r
        have r' : Rp (Frz ι st) H (.ref a) (.tuple vs) := r
        cases r' with
        | tup h3 _ _ _ => rw [h1] at h3; cases h3
      · exact .inr ⟨rfl, o, h1, f⟩
    | false =>
      rcases h with ⟨h1, f⟩ | ⟨o, h1, f⟩
      · exact .inl ⟨rfl, h1, f⟩
      · exfalso
        cases d with
        | v z =>
          cases z with
          | tuple _ => cases hT
          | list _ =>
            have r' : Rp (Frz ι st) H (.ref a) (.list _) := r
            cases r' with
            | lst h3 _ _ => rw [h1] at h3; cases h3
          | _ => cases ev
        | scr _ => cases ev
        | ref n =>
          simp only [viewS, viewL] at ev
          cases q : st[n]? with
          | none => rw [q] at ev; cases ev
          | some o2 =>
            rw [q] at ev
            cases o2 with
            | lst zs => simp only [lAt, q] at hL; cases hL
            | _ => cases ev
theorem zip2I_get {xs ys : List PyData} {i : Nat} {d : Itm} (h : (zip2I xs ys)[i]? = some d) : ∃ x y, xs[i]? = some x ∧ ys[i]? = some y ∧ d = .many [.v x, .v y] := by
  unfold zip2I at h
  rw [List.getElem?_map] at h
  obtain ⟨⟨x, y⟩, h1, rfl⟩ := Option.map_eq_some_iff.mp h
  obtain ⟨h2, h3⟩ := List.getElem?_zip_eq_some.mp h1
  exact ⟨x, y, h2, h3, rfl⟩
theorem zip2I_len {xs ys : List PyData} : (zip2I xs ys).length = min xs.length ys.length := by
  unfold zip2I
  rw [List.length_map, List.length_zip]
theorem i_zip {X : Cx} {W : XW} {e e2 : Expr} {m : MA} {p pos tpos : Pos} {elts : List Expr} {kk : Nat} (hg : Gl X "zip") (hm : X.mg "zip" = none) (ha : PA X [e, e2] (TAo X.K W m)) (hs : starEach [e, e2] X.env = (false, eval e X.env) :: starEach [e2] X.env := by rfl) (hpl : (backTo pos (starEach [e2] X.env)).any (·.1) = false := by rfl) :
    PI X (.Tuple elts kk tpos) (.Call (.Name "zip" p) [e, e2] [] pos) (TIo X.K W (miZip m)) := pi_wrap (RZ.pi_zipA hg hm ha hs hpl) fun σ H Rr q => by
  obtain ⟨ι, env, st, R, EV, p⟩ := q
  refine ⟨ι, env, st, R, EV, Out.post_mono (Out.post_bind p) (fun ds s1 q ι1 H1 xs R1 E1 ra => ?_) fun _ _ q => q⟩
  split at q
  · rename_i da db
    obtain ⟨x, y, rfl, r1, r2⟩ := ra.two
    split at q
    · rename_i us vs e1 e2
      split at q
      · rename_i hT
        obtain ⟨a, xs, rfl, h1, h2⟩ := seqI_T R1 e1 r1
        obtain ⟨b, ys, rfl, h3, h4⟩ := seqI_T R1 e2 r2
        have hT : isT da = isT db := by simpa using hT
        refine ⟨a, b, xs, ys, rfl, ?_⟩
        rcases h1 with ⟨t1, h1, f1⟩ | ⟨t1, o1, h1, f1⟩
        · rcases h3 with ⟨t3, h3, f3⟩ | ⟨t3, o3, h3, f3⟩
          · refine .inl ⟨.of h1, .of h3, fun _ => q ι1 H1 _ R1 E1 ⟨fun i d ι' st' H' hi R' E' _ => ?_, fun ι' st' H' R' E' _ => ?_, by rw [zip2I_len, ← h2.length]; exact Nat.le_trans (Nat.min_le_left _ _) (R1.hf a _ h1)⟩⟩
            · obtain ⟨zx, zy, g1, g2, rfl⟩ := zip2I_get hi
              obtain ⟨u, g3, g4⟩ := h2.get g1
              obtain ⟨v, g5, g6⟩ := h4.get g2
              have k1 : SqL X.K H' a xs := .of (E'.keep _ _ h1 f1).2
              have k2 : SqL X.K H' b ys := .of (E'.keep _ _ h3 f3).2
              refine ⟨⟨xs, ys, u, v, k1, k2, g3, g5⟩, fun w H2 hy => ?_⟩
              obtain ⟨T, u', v', rfl, hT', rfl, hx, hy'⟩ := hy
              have e3 := hx xs k1
              have e4 := hy' ys k2
              rw [g3] at e3
              rw [g5] at e4
              cases e3
              cases e4
              exact ri_new R' hT' (show 2 ≤ 3 by decide) (.cons (E'.rp g4) (.cons (E'.rp g6) .nil))
            · have k1 : SqL X.K H' a xs := .of (E'.keep _ _ h1 f1).2
              have k2 : SqL X.K H' b ys := .of (E'.keep _ _ h3 f3).2
              refine ⟨xs, ys, k1, k2, ?_⟩
              rw [h2.length, h4.length, zip2I_len]
              omega
          · rw [t1, t3] at hT; cases hT
        · rcases h3 with ⟨t3, h3, f3⟩ | ⟨t3, o3, h3, f3⟩
          · rw [t1, t3] at hT; cases hT
          · refine .inr ⟨.inl (.inr ⟨o1, h1⟩), .inl (.inr ⟨o3, h3⟩), fun _ => q ι1 H1 _ R1 E1 ⟨fun i d ι' st' H' hi R' E' _ => ?_, fun ι' st' H' R' E' _ => ?_, by rw [zip2I_len, ← h2.length]; exact Nat.le_trans (Nat.min_le_left _ _) (R1.hf a _ h1)⟩⟩
            · obtain ⟨zx, zy, g1, g2, rfl⟩ := zip2I_get hi
              obtain ⟨u, g3, g4⟩ := h2.get g1
              obtain ⟨v, g5, g6⟩ := h4.get g2
              have k1 : SqT X.K H' a xs := .inl (.inr ⟨o1, (E'.keep _ _ h1 f1).2⟩)
              have k2 : SqT X.K H' b ys := .inl (.inr ⟨o3, (E'.keep _ _ h3 f3).2⟩)
              refine ⟨⟨xs, ys, u, v, k1, k2, g3, g5⟩, fun w H2 hy => ?_⟩
              obtain ⟨T, u', v', rfl, hT', rfl, hx, hy'⟩ := hy
              have e3 := hx xs k1
              have e4 := hy' ys k2
              rw [g3] at e3
              rw [g5] at e4
              cases e3
              cases e4
              exact ri_new R' hT' (show 2 ≤ 3 by decide) (.cons (E'.rp g4) (.cons (E'.rp g6) .nil))
            · have k1 : SqT X.K H' a xs := .inl (.inr ⟨o1, (E'.keep _ _ h1 f1).2⟩)
              have k2 : SqT X.K H' b ys := .inl (.inr ⟨o3, (E'.keep _ _ h3 f3).2⟩)
              refine ⟨xs, ys, k1, k2, ?_⟩
              rw [h2.length, h4.length, zip2I_len]
              omega
      · exact q.elim
    · exact q.elim
  · exact q.elim
end Fw
namespace Fw
open PySem PySem.Spec PyProof.Rows L2
def Gh.hide (ι : Gh) (p : Addr) : Gh := ⟨ι.ad, p :: ι.hid⟩
def del (H : Hp) (p : Addr) : Hp := fun b => if b = p then none else H b
theorem del_ne {H : Hp} {p b : Addr} (h : b ≠ p) : del H p b = H b := by unfold del; rw [if_neg h]
theorem del_same {H : Hp} {p : Addr} : del H p p = none := by unfold del; rw [if_pos rfl]
theorem upd_del {H : Hp} {p : Addr} {u : HO} (h : H p = some u) : upd (del H p) p u = H := by
  funext b
  by_cases e : b = p
  · subst e; rw [upd_same, h]
  · rw [upd_ne e, del_ne e]
section
variable {K : PySem.W.Frag} {ι ι' : Gh} {st st' : Sto} {H H' : Hp} {p : Addr}
theorem frz_hide (f : Frz ι st q) (h : q ≠ p) : Frz (ι.hide p) st q := ⟨fun z => by
  rcases List.mem_cons.mp z with z | z
  · exact h z
  · exact f.1 z, f.2⟩
theorem frz_show (f : Frz (ι.hide p) st q) : Frz ι st q ∧ q ≠ p := ⟨⟨fun z => f.1 (List.mem_cons_of_mem _ z), f.2⟩, fun z => f.1 (by rw [z]; exact List.mem_cons_self)⟩
theorem mv_hide (R : SRel K ι st H) (hp : H p = none) {u : HO} : Mv ι st H (ι.hide p) st (upd H p u) :=
  ⟨fun q v e f => ⟨frz_hide f (ne_of_none e hp), by rw [upd_ne (ne_of_none e hp)]; exact e⟩, fun _ _ e => e, fun h hi => ⟨h, upd_ne (let ⟨_, e, _⟩ := R.live h hi (fun z => nomatch z); ne_of_none e hp)⟩⟩
theorem SRel.hide (R : SRel K ι st H) (hp : H p = none) {u : HO} (hd : HdO u) (hl : HF (upd H p u)) : SRel K (ι.hide p) st (upd H p u) := by
  have m := mv_hide (u := u) R hp
  refine ⟨R.len, fun n o a h hi => m.ro (fun v e => by rw [upd_ne (ne_of_none e hp)]; exact e) (R.obj n o a h hi), R.inj, R.low, fun a ha => ?_, hl⟩
  rcases List.mem_cons.mp ha with rfl | ha
  · exact ⟨⟨u, upd_same, hd⟩, (R.frz_new hp).2⟩
  · obtain ⟨⟨ys, e, d⟩, h2⟩ := R.hid a ha
    exact ⟨⟨ys, by rw [upd_ne (ne_of_none e hp)]; exact e, d⟩, h2⟩
theorem mv_show (R : SRel K (ι.hide p) st H) : Mv (ι.hide p) st H ι st (del H p) :=
  ⟨fun q v e f => let ⟨a, b⟩ := frz_show f; ⟨a, by rw [del_ne b]; exact e⟩, fun _ _ e => e, fun h hi => ⟨h, del_ne fun z => by subst z; exact nomatch (R.hid _ List.mem_cons_self).2 _ _ h hi⟩⟩
theorem SRel.unhide (R : SRel K (ι.hide p) st H) (hp : p ∉ ι.hid) : SRel K ι st (del H p) := by
  have m := mv_show R
  refine ⟨R.len, fun n o a h hi => ?_, R.inj, R.low, fun a ha => ?_, fun a u e => ?_⟩
  · by_cases hd : o = O.dead
    · subst hd; trivial
    · have na : a ≠ p := fun z => by subst z; exact hd ((R.hid a List.mem_cons_self).2 n o h hi)
      exact m.ro (fun v e => by rw [del_ne na]; exact e) (R.obj n o a h hi)
  · obtain ⟨⟨ys, e, d⟩, h2⟩ := R.hid a (List.mem_cons_of_mem _ ha)
    have na : a ≠ p := fun z => hp (by rw [← z]; exact ha)
    exact ⟨⟨ys, by rw [del_ne na]; exact e, d⟩, h2⟩
  · by_cases na : a = p
    · subst na
      rw [del_same] at e
      cases e
    · rw [del_ne na] at e
      exact R.hf a u e
theorem mv_hset {u : HO} (R : SRel K ι st H) (hp : p ∈ ι.hid) : Mv ι st H ι st (upd H p u) :=
  ⟨fun q v e f => ⟨f, by rw [upd_ne (fun z => f.1 (by rw [z]; exact hp))]; exact e⟩, fun _ _ e => e, fun h hi => ⟨h, upd_ne fun z => by subst z; exact nomatch (R.hid _ hp).2 _ _ h hi⟩⟩
theorem SRel.hset (R : SRel K ι st H) (hp : p ∈ ι.hid) {u : HO} (hd : HdO u) (hl : HF (upd H p u)) : SRel K ι st (upd H p u) := by
  have m := mv_hset (u := u) R hp
  refine ⟨R.len, fun n o a h hi => ?_, R.inj, R.low, fun a ha => ?_, hl⟩
  · by_cases hx : o = O.dead
    · subst hx; trivial
    · have na : a ≠ p := fun z => by subst z; exact hx ((R.hid a hp).2 n o h hi)
      exact m.ro (fun v e => by rw [upd_ne na]; exact e) (R.obj n o a h hi)
  · by_cases na : a = p
    · subst na
      exact ⟨⟨u, upd_same, hd⟩, (R.hid a hp).2⟩
    · obtain ⟨⟨ys, e, d⟩, h2⟩ := R.hid a ha
      exact ⟨⟨ys, by rw [upd_ne na]; exact e, d⟩, h2⟩
end
def Out.noX {α : Type} (x : Out α) : Out α := match x with
  | .exn _ _ => .stuck
  | o => o
@[simp] theorem noX_ok {α : Type} (a : α) (st : Sto) : (Out.ok a st).noX = .ok a st := rfl
theorem noX_post {α : Type} {x : Out α} {P : α → Sto → Prop} {E E' : Exn → Sto → Prop} (h : x.noX.post P E) : x.post P E' := by
  cases x with
  | ok a s => exact h
  | exn e s => exact h.elim
  | stuck => exact h.elim
open Classical in
noncomputable def lcL (w : Wt) (g : MG) (t : MT) (m : ME) (env0 : Ev) : List Itm → Sto → Out (List PyData)
  | [] => fun st => if chk w st then .ok [] st else .stuck
  | d :: r => fun st => if chk w st then (g d env0 st).noX.bind fun e1 s1 => (t e1 s1).noX.bind fun k s2 =>
      if k then (m e1 s2).noX.bind fun v s3 => match v with
        | .v z => (lcL w g t m env0 r s3).bind fun zs s4 => .ok (z :: zs) s4
        | _ => .stuck
      else lcL w g t m env0 r s2
    else .stuck
theorem noX_bind {α β : Type} {x : Out α} {f : α → Sto → Out β} (h : ∀ a s, (f a s).noX = f a s) : (x.noX.bind f).noX = x.noX.bind f := by
  cases x with
  | ok a s => exact h a s
  | exn e s => rfl
  | stuck => rfl
theorem lcL_noX (w : Wt) (g : MG) (t : MT) (m : ME) (env0 : Ev) : ∀ (ds : List Itm) (st : Sto), (lcL w g t m env0 ds st).noX = lcL w g t m env0 ds st
  | [], st => by
    unfold lcL
    split <;> rfl
  | d :: r, st => by
    unfold lcL
    split
    · refine noX_bind fun e1 s1 => noX_bind fun k s2 => ?_
      split
      · refine noX_bind fun v s3 => ?_
        split
        · rw [← lcL_noX w g t m env0 r s3]
          exact noX_bind fun _ _ => rfl
        · rfl
      · exact lcL_noX w g t m env0 r s2
    · rfl
def mYes : MT := fun _ st => .ok true st
noncomputable def mLc (mi : MI) (g : MG) (t : MT) (m : ME) (own : List Nat) : MF := fun env st => (mi env st).bind fun r s1 => lcL r.2 g t m (wipeE env own) r.1 s1
theorem Mv.trans {ι1 ι2 ι3 : Gh} {s1 s2 s3 : Sto} {H1 H2 H3 : Hp} (a : Mv ι1 s1 H1 ι2 s2 H2) (b : Mv ι2 s2 H2 ι3 s3 H3) : Mv ι1 s1 H1 ι3 s3 H3 :=
  ⟨fun q u e f => let ⟨f1, k1⟩ := a.keep q u e f; b.keep q u k1 f1, fun n x e => b.pre n x (a.pre n x e), fun h hi => let ⟨h1, e1⟩ := a.lk h hi; let ⟨h2, e2⟩ := b.lk h1 (a.pre _ _ hi); ⟨h2, e2.trans e1⟩⟩
theorem wipe_in {σ : L2.St} {i : Nat} : ∀ {vs : List Nat}, i ∈ vs → (L2.wipe σ vs)[i]? = σ[i]?.map fun _ => none
  | v :: vs, h => by
    show ((L2.wipe σ vs).set v none)[i]? = _
    by_cases e : v = i
    · subst e
      by_cases hl : v < σ.length
      · rw [List.getElem?_set_self (by rw [wipe_length]; exact hl), List.getElem?_eq_getElem hl]
        rfl
      · rw [List.getElem?_eq_none (by rw [List.length_set, wipe_length]; omega), List.getElem?_eq_none (by omega)]
        rfl
    · rw [List.getElem?_set_ne e]
      exact wipe_in ((List.mem_cons.mp h).resolve_left fun z => e z.symm)
theorem wipe_wipe (σ : L2.St) (vs : List Nat) : L2.wipe (L2.wipe σ vs) vs = L2.wipe σ vs := by
  refine List.ext_getElem? fun i => ?_
  by_cases h : i ∈ vs
  · rw [wipe_in h, wipe_in h]
    cases σ[i]? <;> rfl
  · rw [wipe_out h]
theorem lc_red {K : PySem.W.Frag} {W : XW} {mi : MI} {g : MG} {t : MT} {m : ME} {own : List Nat} {σ : L2.St} {H : Hp} {Q : VK} (q : TFo K W (mLc mi g t m own) σ H Q) :
    tLc (TIo K W mi) (TGo K WF g (some own)) (TTo K WF t) (TEo K WF m) own σ H (fun v H' => HF H' → Q v H') := by
  obtain ⟨ι, env, st, R, EV, p⟩ := q
  refine ⟨ι, env, st, R, EV, Out.post_mono (Out.post_bind p) (fun r s1 q ι1 H1 J R1 E1 hW L hL => ?_) fun _ _ q => q⟩
  obtain ⟨ds, w⟩ := r
  have EW := (EV.ext E1).wipe own
  -- what a turn finds: the list at L hidden, all else as it was
  let Inv (i k : Nat) (H : Hp) : Prop := k + i = ds.length ∧ ∃ (acc : List V) (zs : List PyData) (ι' : Gh) (st' : Sto), ι'.hid = ι1.hid ∧ H L = some (.lst acc) ∧ acc.length ≤ i ∧ SRel K (ι'.hide L) st' H ∧
    Mv ι1 s1 H1 (ι'.hide L) st' H ∧ (∀ a, a ∈ ι1.hid → H a = H1 a) ∧
    RpA (Frz (ι'.hide L) st') H acc zs ∧ (lcL w g t m (wipeE env own) (ds.drop i) st').post (fun ws s2 => PF1 K ι1 s1 H1 Q (zs ++ ws) s2) fun _ _ => False
  have nL : L ∉ ι1.hid := R1.hid_new hL
  refine ⟨Inv, ⟨ds.length, Nat.add_zero _, [], [], ι1, s1, rfl, upd_same, Nat.le_refl _, R1.hide hL trivial (hf_lst R1.hf (Nat.zero_le _)), mv_hide R1 hL, fun a ha => upd_ne fun z => nL (by rw [← z]; exact ha), .nil, ?_⟩, ?_⟩
  · have q' : (lcL w g t m (wipeE env own) ds s1).noX.post (PF1 K ι st H Q) (PX1 K W ι st H) := by rw [lcL_noX]; exact q
    have q2 : (lcL w g t m (wipeE env own) ds s1).post (PF1 K ι st H Q) fun _ _ => False := noX_post q'
    exact Out.post_mono q2 (fun zs s2 z => PF1.ext z E1) fun _ _ z => z
  rintro i k H2 ⟨hk, acc, zs, ι2, s2, eh, hA, hal, R2, mv, kz, rA, p2⟩
  by_cases hi : i < ds.length
  · right
    have hd : ds.drop i = ds[i] :: ds.drop (i + 1) := List.drop_eq_getElem_cons hi
    rw [hd] at p2
    unfold lcL at p2
    split at p2
    · rename_i hc
      obtain ⟨hgo, hy⟩ := hW.go i ds[i] (ι2.hide L) s2 H2 (List.getElem?_eq_getElem hi) R2 mv hc
      have hlen : acc.length < sizeLine := Nat.lt_of_le_of_lt hal (Nat.lt_of_lt_of_le hi hW.len)
      have fin : ∀ {ι6 : Gh} {s6 : Sto} {H6 : Hp}, SRel K ι6 s6 H6 → Ext (ι2.hide L) s2 H2 ι6 s6 H6 → ∃ ι' : Gh, ι6 = ι'.hide L ∧ ι'.hid = ι1.hid ∧ H6 L = some (.lst acc) ∧ ∀ a, a ∈ ι1.hid → H6 a = H1 a := by
        intro ι6 s6 H6 R6 E6
        refine ⟨⟨ι6.ad, ι1.hid⟩, ?_, rfl, ?_, fun a ha => ?_⟩
        · have e := E6.hid
          have e2 : (ι2.hide L).hid = L :: ι1.hid := by rw [← eh]; rfl
          rw [e2] at e
          cases ι6
          simp only at e
          rw [e]
          rfl
        · rw [E6.keepZ L List.mem_cons_self]; exact hA
        · rw [E6.keepZ a (List.mem_cons_of_mem _ (by rw [eh]; exact ha))]
          exact kz a ha
      refine ⟨hgo, Inv (i + 1) (k - 1), fun H' hN => ⟨k - 1, by omega, hN⟩, fun x H3 hyl => ?_⟩
      obtain ⟨R3, E3, ri⟩ := hy x H3 hyl
      refine ⟨ι2.hide L, wipeE env own, s2, ds[i], R3, (mv.ev EW).ext E3, ri, noX_post (Out.post_mono (Out.post_bind p2) (fun e1 s4 q4 => ?_) fun _ _ z => z)⟩
      refine fun ι4 H4 σ4 R4 E4 EV4 hw => ⟨(show L2.wipe σ4 own = _ from hw).trans (wipe_wipe σ own), ?_⟩
      have E34 := E3.trans E4
      refine ⟨ι4, e1, s4, R4, EV4, noX_post (Out.post_mono (Out.post_bind q4) (fun b s5 q5 ι5 H5 R5 E5 => ?_) fun _ _ z => z)⟩
      have E35 := E34.trans E5
      cases b with
      | false =>
        obtain ⟨ι', e6, e7, e8, e9⟩ := fin R5 E35
        subst e6
        refine iteF ⟨by omega, acc, zs, ι', s5, e7, e8, Nat.le_succ_of_le hal, R5, mv.trans E35.mv, e9, rA.ext E35, ?_⟩
        exact q5
      | true =>
        refine iteT ⟨ι5, e1, s5, R5, EV4.ext E5, noX_post (Out.post_mono (Out.post_bind q5) (fun v s6 q6 ι6 H6 y R6 E6 ry => ?_) fun _ _ z => z)⟩
        have E36 := E35.trans E6
        obtain ⟨ι', e6, e7, e8, e9⟩ := fin R6 E36
        subst e6
        split at q6
        · rename_i z
          have hm := mv_hset (u := .lst (acc ++ [y])) (ι := ι'.hide L) (st := s6) (H := H6) R6 List.mem_cons_self
          refine ⟨acc, e8, hlen, by omega, acc ++ [y], zs ++ [z], ι', s6, e7, upd_same, by rw [List.length_append]; exact Nat.succ_le_succ hal, R6.hset List.mem_cons_self trivial (hf_lst R6.hf (by rw [List.length_append]; exact hlen)), (mv.trans E36.mv).trans hm, fun a ha => ?_, hm.rpA ((rA.ext E36).append (.cons ry .nil)), ?_⟩
          · rw [upd_ne fun z => nL (by rw [← z]; exact ha)]
            exact e9 a ha
          · refine Out.post_mono (Out.post_bind q6) (fun ws s7 z7 => ?_) fun _ _ z => z
            show PF1 K ι1 s1 H1 Q (zs ++ [z] ++ ws) s7
            rw [List.append_assoc]
            exact z7
        · exact q6.elim
    · exact p2.elim
  · left
    have hd : ds.drop i = [] := List.drop_eq_nil_of_le (by omega)
    rw [hd] at p2
    unfold lcL at p2
    split at p2
    · rename_i hc
      have e : i = ds.length := by omega
      subst e
      refine ⟨hW.stop (ι2.hide L) s2 H2 R2 mv hc, fun hf => ?_⟩
      have p3 : PF1 K ι1 s1 H1 Q zs s2 := by
        have z : PF1 K ι1 s1 H1 Q (zs ++ []) s2 := p2
        rw [List.append_nil] at z
        exact z
      have sh := mv_show R2
      have E12 : Ext ι1 s1 H1 ι2 s2 (del H2 L) := by
        have m2 := mv.trans sh
        refine ⟨m2.keep, m2.pre, eh, fun a ha => ?_, m2.lk⟩
        rw [del_ne fun z => nL (by rw [← z]; exact ha)]
        exact kz a ha
      have z := p3 ι2 (del H2 L) acc L (R2.unhide (by rw [eh]; exact nL)) E12 (sh.rpA rA) del_same (by rw [upd_del hA]; exact R2.hf)
      rw [upd_del hA] at z
      exact z
    · exact p2.elim
end Fw
namespace Fw
open PySem PySem.Spec PyProof.Rows L2
theorem ts_nil {X : Cx} {W : XW} : PTs X [] (TTo X.K W mYes) := ⟨fun pins s σ H Q I q => by
  obtain ⟨ι, env, st, R, EV, p⟩ := q
  exact pts_nil.run pins s σ H Q I (p ι H R Ext.refl)⟩
theorem ts_one {X : Cx} {W : XW} {c : Expr} {t : MT} (h : PT X c (TTo X.K W t)) : PTs X [c] (TTo X.K W t) := pts_one h
theorem Gd.blk {X : Cx} (g : Gd X) {s : Shared} {H : Hp} {sc : Scope} {ce : Env} {fp : List Addr} : Gd (X.blk s H sc ce fp) := ⟨g.calm, g.gu, g.un⟩
section
variable {X : Cx} {W : XW} {elt tg iter : Expr} {ifs : List Expr} {scope : Scope} {own : List (Str × Nat)} {pos : Pos} {mi : MI} {g : MG} {t : MT} {m : ME}
theorem xf_lc (gd : Gd X) (hN : X.N.Nodup) (hi : PI X tg iter (TIo X.K W mi)) (ok : BlkOk X.N X.env.scope scope own)
    (hb : ∀ (s : Shared) (H : Hp) (C : Addr) (cl : List (Str × Addr)) (fp : List Addr), PG (X.blk s H scope (compEnvC scope cl C X.env) fp) tg (TGo X.K WF g (some (own.map (·.2)))) ∧ PTs (X.blk s H scope (compEnvC scope cl C X.env) fp) ifs (TTo X.K WF t) ∧ PE (X.blk s H scope (compEnvC scope cl C X.env) fp) elt (TEo X.K WF m))
    (hs : ∀ x, foldedSetIterable iter X.env x = pure x := by intro _; rfl) : PE X (.ListComp elt [⟨tg, iter, ifs, 0⟩] scope pos) (TFo X.K W (mLc mi g t m (own.map (·.2)))) :=
  pf_wrap (pe_lc gd.calm hN hi ok (fun s H C cl fp => (hb s H C cl fp).1) (fun s H C cl fp => (hb s H C cl fp).2.1) (fun s H C cl fp => (hb s H C cl fp).2.2) hs) fun σ H Q q => lc_red q
theorem asg_frz {K : PySem.W.Frag} {m : MF} {i : Nat} {D : Ends} {σ : L2.St} {H : Hp} (q : TSo K W (sAsg (mFrz m) (gNm i)) D σ H) : TFo K W m σ H fun v H' => D.nx (σ.set i (some v)) H' := by
  obtain ⟨ι, env, st, R, EV, p⟩ := q
  refine ⟨ι, env, st, R, EV, Out.post_mono (Out.post_bind (thn_post p)) (fun zs s1 q ι1 H1 xs a R1 E1 ra ha hf => ?_) fun _ _ q => q⟩
  have E2 := Ext.fresh R1 ha (u := .lst xs)
  exact q ι1 _ _ (R1.fresh ha hf) (E1.trans E2) (((EV.ext E1).ext E2).set (x := .ref a) (d := .v (.list zs)) (.lst upd_same (R1.frz_new ha) (ra.ext E2)) i)
theorem s_lcF {i : Nat} {y : Str} {py spos : Pos} (gd : Gd X) (hN : X.N.Nodup) (hy : X.N[i]? = some y) (hyl : X.env.scope.names.lookup y = some .local) (hsw : swapsWith (.ListComp elt [⟨tg, iter, ifs, 0⟩] scope pos) (some (.Name y py)) spos.line X.env = pure true)
    (hi : PI X tg iter (TIo X.K W mi)) (ok : BlkOk X.N X.env.scope scope own)
    (hb : ∀ (s : Shared) (H : Hp) (C : Addr) (cl : List (Str × Addr)) (fp : List Addr), PG (X.blk s H scope (compEnvC scope cl C X.env) fp) tg (TGo X.K WF g (some (own.map (·.2)))) ∧ PTs (X.blk s H scope (compEnvC scope cl C X.env) fp) ifs (TTo X.K WF t) ∧ PE (X.blk s H scope (compEnvC scope cl C X.env) fp) elt (TEo X.K WF m))
    (hs : ∀ x, foldedSetIterable iter X.env x = pure x := by intro _; rfl) : PS X (.Assign [.Name y py] (.ListComp elt [⟨tg, iter, ifs, 0⟩] scope pos) spos) (TSo X.K W (sAsg (mFrz (mLc mi g t m (own.map (·.2)))) (gNm i))) :=
  ps_wrap (ps_setLc gd.calm hN hy hyl hsw hi ok (fun s H C cl fp => (hb s H C cl fp).1) (fun s H C cl fp => (hb s H C cl fp).2.1) (fun s H C cl fp => (hb s H C cl fp).2.2) hs) fun D σ H q => lc_red (asg_frz q)
end
structure RmG (k : Nat) (A : Around) : Prop where
  rm : Room k A
  gu : A.guards = some []
theorem RmG.mono {j k : Nat} {A : Around} (r : RmG k A) (h : j ≤ k) : RmG j A := ⟨r.rm.mono h, r.gu⟩
theorem RmG.deeper {k : Nat} {A : Around} (r : RmG (k + 1) A) (env : Env) : RmG k (A.deeper env) := ⟨r.rm.deeper env, r.gu⟩
theorem RmG.gd {k : Nat} {X : Cx} (r : RmG k X.A) (h : X.calm = true) : Gd X := ⟨h, r.gu, by have := r.rm.un; omega⟩
structure FnG (P : Program) (w : World) (K : PySem.W.Frag) (mg : Str → Option Value) (base : Heap) (CX : CXT) (k : Nat) (f : Addr) (fd : FuncData) (ps : List Str) (sp : Sp) : Prop where
  len : ∀ vs H Q E, sp vs H Q E → vs.length = ps.length
  run : ∀ (A : Around) (outer : List Env) (s : Shared) (H : Hp) (args : Args) (us : List Value) (vs : List V) (Q : VK) (E : XK), RmG k A → Env0 P w K mg base A outer s H → BindsTo s fd args (ps.zip us) → Vals vs us → sp vs H Q E →
    codeAny (model P w) A (.call (.ref f) args) (CR CX outer P w H s Q E) s
section
variable {P : Program} {w : World} {K : PySem.W.Frag} {mg : Str → Option Value} {base : Heap} {CX : CXT} {k : Nat} {f : Addr} {fd : FuncData} {ps : List Str} {sp : Sp}
theorem FnG.mono {j : Nat} (F : FnG P w K mg base CX j f fd ps sp) (h : j ≤ k) : FnG P w K mg base CX k f fd ps sp := ⟨F.len, fun A outer s H args us vs Q E hr => F.run A outer s H args us vs Q E (hr.mono h)⟩
theorem fnG_of {x qual : Str} {params : Arguments} {body : List Stmt} {scope : Scope} {dvs : List V} {kws : List (Str × V)} {N : List Str} (F : FunD K x qual params body scope dvs kws f fd) (S : FnScope N ps scope)
    (len : ∀ vs H Q E, sp vs H Q E → vs.length = ps.length)
    (hbody : ∀ (cdv : Value) (A : Around) (outer : List Env) (s : Shared) (H : Hp) (vs : List V) (Q : VK) (E : XK), RmG k (A.deeper (envOfC qual scope s.heap.objs.size f cdv)) → sp vs H Q E →
      ∃ t, PSs (cxOf CX P w K mg base N qual scope f cdv A outer s H E) body t ∧ t { nx := fun _ H' => Q .non H', rt := Q } (start N vs) H) : FnG P w K mg base CX (k + 1) f fd ps sp := by
  obtain ⟨oc, od, dV, kV, doc, pm, an, cdv, ct, osl, rfl, lk, hcd, _, _⟩ := F.ex
  refine ⟨len, fun A outer s H args us vs Q E hr e0 hb r hsp => ?_⟩
  have KX : K.In s.heap := e0.mod.kin.keeps fun b o e => (e0.bs b o e).1
  have nl : s.heap.NoLimit := e0.mod.nolimit.keeps fun b o e => (e0.bs b o e).1
  have kinds : ∀ y ∈ ps.zip us, scope.names.lookup y.1 = some .local ∨ (scope.names.lookup y.1 = some .cell ∧ ((cellsFrom (s.heap.objs.size + 1) scope.names []).lookup y.1).isSome = true) := by
    rintro ⟨n, v⟩ hy
    exact (S.par n (List.of_mem_zip hy).1).imp id fun q => ⟨q, PySem.W.cellsFrom_some _ _ _ (.inl q)⟩
  refine codeAny_call_function hr.rm.depth (KX _ _ lk) rfl S.co S.gen rfl (PySem.W.codeRec_of KX hcd) (hb _ _ _ _ (wpAny_newFunctionEnv_cells S.kind kinds ?_))
  rintro env rfl s1 x
  refine ⟨nl.keeps x.toInCall.keep, codeAny_func ?_⟩
  obtain ⟨t, ht, hq⟩ := hbody cdv A outer s H vs Q E (hr.deeper _) hsp
  refine wpAny_mono (ht.run [] s1 (start N vs) H _ (inv_start S hr.rm.hd e0 (len _ _ _ _ hsp) r x) hq) (fun fl s' hs => ?_) fun _ _ z => z
  cases fl with
  | ret u =>
    obtain ⟨v, _, H', J, rv, q⟩ := hs
    exact ⟨v, H', J.os, J.bare, J.base, J.hok, rv, q⟩
  | next =>
    obtain ⟨_, H', J, q⟩ := hs
    exact ⟨V.non, H', J.os, J.bare, J.base, J.hok, (rfl : RelV .non Value.none), q⟩
  | brk =>
    obtain ⟨_, _, _, q⟩ := hs
    exact q.elim
  | cont =>
    obtain ⟨_, _, _, q⟩ := hs
    exact q.elim
abbrev FF := List D → Sto → Out D
def fin1 (n : Nat) : SO → Out D
  | .nx _ s => .ok (.v .none) (s.take n)
  | .rt d s => if d.low n then .ok d (s.take n) else .stuck
  | .exn e s => .exn e s
  | _ => .stuck
def fin2 : SO → Out D
  | .nx _ s => .ok (.v .none) s
  | .rt d s => .ok d s
  | .exn e s => .exn e s
  | _ => .stuck
def envE (nN : Nat) (ds : List D) : Ev := ds.map some ++ List.replicate (nN - ds.length) none
def fnT (nN : Nat) (m : MS) : FF := fun ds st => fin1 st.length (m (envE nN ds) st)
def fnK (nN : Nat) (m : MS) : FF := fun ds st => fin2 (m (envE nN ds) st)
def spG (K : PySem.W.Frag) (V : XK → XW) (n : Nat) (f : FF) : Sp := fun vs H Q E => ∃ ι st ds, SRel K ι st H ∧ RDs K ι st H vs ds ∧ ds.length = n ∧ (f ds st).post (PO1 K ι st H Q) (PX1 K (V E) ι st H)
theorem RDs.get {ι : Gh} {st : Sto} {H : Hp} : ∀ {xs : List V} {ds : List D} {i : Nat} {d : D}, RDs K ι st H xs ds → ds[i]? = some d → ∃ x, xs[i]? = some x ∧ RD K ι st H x d
  | _, _, _, _, .nil, e => by simp at e
  | _, _, 0, _, .cons r _, e => by simp at e; subst e; exact ⟨_, rfl, r⟩
  | _, _, i + 1, d, .cons _ r, e => by
    obtain ⟨x, h1, h2⟩ := RDs.get (i := i) (d := d) r (by simpa using e)
    exact ⟨x, by simpa using h1, h2⟩
theorem evR_start {ι : Gh} {st : Sto} {H : Hp} {N : List Str} : ∀ {vs : List V} {ds : List D}, RDs K ι st H vs ds → EvR K ι st H (L2.start N vs) (envE N.length ds) := by
  intro vs ds r
  have hl := RDs.length r
  refine ⟨by unfold L2.start envE; rw [List.length_append, List.length_append, List.length_map, List.length_map, List.length_replicate, List.length_replicate, hl], fun i d q => ?_⟩
  unfold envE at q
  by_cases h : i < ds.length
  · rw [List.getElem?_append_left (by rw [List.length_map]; exact h), List.getElem?_map, List.getElem?_eq_getElem h] at q
    cases q
    obtain ⟨x, h1, h2⟩ := RDs.get r (List.getElem?_eq_getElem h)
    refine ⟨x, ?_, h2⟩
    unfold L2.start
    rw [List.getElem?_append_left (by rw [List.length_map, hl]; exact h), List.getElem?_map, h1]
    rfl
  · rw [List.getElem?_append_right (by rw [List.length_map]; omega), List.getElem?_replicate] at q
    split at q <;> cases q
theorem RDs.append {ι : Gh} {st : Sto} {H : Hp} : ∀ {xs ys : List V} {ds es : List D}, RDs K ι st H xs ds → RDs K ι st H ys es → RDs K ι st H (xs ++ ys) (ds ++ es)
  | _, _, _, _, .nil, s => s
  | _, _, _, _, .cons r t, s => .cons r (RDs.append t s)
theorem ext_take {ι ι' : Gh} {st st' : Sto} {H H' : Hp} (R : SRel K ι st H) (E : Ext ι st H ι' st' H') : Ext ι st H (ι'.tk st.length) (st'.take st.length) H' := by
  refine ⟨fun q u e f => ?_, fun n a h => ?_, E.hid, E.keepZ, fun {n t kvs a} h hi => let ⟨h1, e1⟩ := E.lk h hi; ⟨by rw [List.getElem?_take, if_pos (List.getElem?_eq_some_iff.mp h).1]; exact h1, e1⟩⟩
  · obtain ⟨f1, k1⟩ := E.keep q u e f
    exact ⟨frz_take f1, k1⟩
  · have hn : n < st.length := by
      rw [← R.len]
      by_cases z : n < ι.ad.length
      · exact z
      · rw [List.getElem?_eq_none (by omega)] at h
        cases h
    show (ι'.ad.take st.length)[n]? = _
    rw [List.getElem?_take, if_pos hn]
    exact E.pre n a h
variable {x qual : Str} {params : Arguments} {body : List Stmt} {scope : Scope} {dvs : List V} {kws : List (Str × V)} {N : List Str} {V : XK → XW} {m : MS}
theorem spG_len {n : Nat} {f : FF} {vs : List L2.V} {H : Hp} {Q : VK} {E : XK} (h : spG K V n f vs H Q E) : vs.length = n := by
  obtain ⟨ι, st, ds, R, r, hl, _⟩ := h
  rw [RDs.length r, hl]
theorem fnG_T (F : FunD K x qual params body scope dvs kws f fd) (S : FnScope N ps scope)
    (hb : ∀ (cdv : Value) (A : Around) (outer : List Env) (s : Shared) (H : Hp) (E : XK), RmG k (A.deeper (envOfC qual scope s.heap.objs.size f cdv)) → PSs (cxOf CX P w K mg base N qual scope f cdv A outer s H E) body (TSo K (V E) m)) :
    FnG P w K mg base CX (k + 1) f fd ps (spG K V ps.length (fnT N.length m)) := by
  refine fnG_of F S (fun _ _ _ _ h => spG_len h) fun cdv A outer s H vs Q E hr hsp => ⟨TSo K (V E) m, hb cdv A outer s H E hr, ?_⟩
  obtain ⟨ι, st, ds, R, r, hl, p⟩ := hsp
  refine ⟨ι, envE N.length ds, st, R, evR_start r, ?_⟩
  unfold fnT at p
  cases e : m (envE N.length ds) st with
  | nx e1 s1 =>
    rw [e] at p
    exact fun ι1 H1 σ1 R1 E1 _ => p _ H1 .non (R1.take _) (ext_take R E1) .non
  | rt d s1 =>
    rw [e] at p
    have e2 : fin1 st.length (.rt d s1) = if d.low st.length then .ok d (s1.take st.length) else .stuck := rfl
    rw [e2] at p
    by_cases h : d.low st.length = true
    · rw [if_pos h] at p
      exact fun ι1 H1 x1 R1 E1 r1 => p _ H1 x1 (R1.take _) (ext_take R E1) (r1.take h)
    · rw [if_neg h] at p
      exact p.elim
  | bk e1 s1 => rw [e] at p; exact p.elim
  | ct e1 s1 => rw [e] at p; exact p.elim
  | exn x1 s1 => rw [e] at p; exact p
  | stuck => rw [e] at p; exact p.elim
theorem fnG_K (F : FunD K x qual params body scope dvs kws f fd) (S : FnScope N ps scope)
    (hb : ∀ (cdv : Value) (A : Around) (outer : List Env) (s : Shared) (H : Hp) (E : XK), RmG k (A.deeper (envOfC qual scope s.heap.objs.size f cdv)) → PSs (cxOf CX P w K mg base N qual scope f cdv A outer s H E) body (TSo K (V E) m)) :
    FnG P w K mg base CX (k + 1) f fd ps (spG K V ps.length (fnK N.length m)) := by
  refine fnG_of F S (fun _ _ _ _ h => spG_len h) fun cdv A outer s H vs Q E hr hsp => ⟨TSo K (V E) m, hb cdv A outer s H E hr, ?_⟩
  obtain ⟨ι, st, ds, R, r, hl, p⟩ := hsp
  refine ⟨ι, envE N.length ds, st, R, evR_start r, ?_⟩
  unfold fnK at p
  cases e : m (envE N.length ds) st with
  | nx e1 s1 =>
    rw [e] at p
    exact fun ι1 H1 σ1 R1 E1 _ => p _ H1 .non R1 E1 .non
  | rt d s1 => rw [e] at p; exact p
  | bk e1 s1 => rw [e] at p; exact p.elim
  | ct e1 s1 => rw [e] at p; exact p.elim
  | exn x1 s1 => rw [e] at p; exact p
  | stuck => rw [e] at p; exact p.elim
end
structure MLen (ma : MA) (n : Nat) : Prop where
  of : ∀ env st ds s1, ma env st = .ok ds s1 → ds.length = n
theorem MLen.n : MLen mNil 0 := ⟨fun env st ds s1 e => by cases e; rfl⟩
theorem MLen.c {m : ME} {ma : MA} {n : Nat} (h : MLen ma n) : MLen (mCons m ma) (n + 1) := ⟨fun env st ds s1 e => by
  unfold mCons at e
  cases e1 : m env st with
  | ok d s2 =>
    rw [e1, bind_ok] at e
    cases e2 : ma env s2 with
    | ok us s3 =>
      rw [e2, bind_ok] at e
      cases e
      rw [List.length_cons, h.of _ _ _ _ e2]
    | _ => rw [e2] at e; cases e
  | _ => rw [e1] at e; cases e⟩
def mCall (f : FF) (ma : MA) (xs : List D := []) : ME := fun env st => (ma env st).bind fun ds s1 => f (ds ++ xs) s1
section
variable {X : Cx} {CX : CXT} {k n : Nat} {f : Addr} {fd : FuncData} {ps : List Str} {dvs : List L2.V} {ds : List Value} {xs : List D} {E : XK} {x : Str} {p pos : Pos} {e : Expr} {es : List Expr} {V : XK → XW} {ff : FF} {ma : MA}
theorem run_fnG {sp : Sp} {pins : List (Addr × Obj)} {σ : L2.St} {H : Hp} {s : Shared} {Q : VK} {us : List Value} {vs : List L2.V} (F : FnG X.prog X.w X.K X.mg X.base CX k f fd ps sp) (hr : RmG k X.A) (hb : Binds X.K fd ps ds) (hd : Vals dvs ds) (hx : Passes CX X E)
    (I : Inv X pins σ H s) (r : Vals vs us) (h : sp (vs ++ dvs) H Q E) : wpAny (model X.prog X.w) X.A (call (.ref f) us) (EP X pins σ Q) X.xe s := by
  have r2 := r.append hd
  have hl : (us ++ ds).length = ps.length := by rw [← r2.length]; exact F.len _ _ _ _ h
  refine wpAny_call (codeAny_mono (F.run X.A X.stack s H ⟨us, []⟩ _ _ Q E hr I.env0 (hb s us I.kIn hl) r2 h) fun o s' hq => ?_)
  cases o with
  | error e => exact hx pins σ H s e s' I hq
  | ok fl =>
    cases fl with
    | ret u => exact I.after hq
    | next => exact hq.elim
    | brk => exact hq.elim
    | cont => exact hq.elim
theorem spG_call {K : PySem.W.Frag} {σ : L2.St} {H : Hp} {Q : VK} (hxs : ∀ ι st H, RDs K ι st H dvs xs) (q : TEo K (V E) (mCall ff ma xs) σ H Q) {j : Nat} (hn : MLen ma j) (hj : j + xs.length = n) :
    TAo K (V E) ma σ H fun vs H1 => spG K V n ff (vs ++ dvs) H1 Q E := by
  obtain ⟨ι, env, st, R, EV, p⟩ := q
  unfold mCall at p
  refine ⟨ι, env, st, R, EV, ?_⟩
  cases em : ma env st with
  | ok d s1 =>
    rw [em, bind_ok] at p
    exact fun ι1 H1 vs R1 E1 r1 => ⟨ι1, s1, d ++ xs, R1, RDs.append r1 (hxs _ _ _), by rw [List.length_append, hn.of env st d s1 em]; exact hj, Out.post_mono p (fun _ _ z => z.ext E1) fun _ _ z => z.ext E1⟩
  | exn e s1 => rw [em] at p; exact p
  | stuck => rw [em] at p; exact p.elim
theorem x_call (F : FnG X.prog X.w X.K X.mg X.base CX k f fd ps (spG X.K V n ff)) (hr : RmG k X.A) (hg : Gl X x) (hm : X.mg x = some (.ref f)) (hk : PySem.W.keepIn X.K (.ref f) = true) (hb : Binds X.K fd ps ds) (hd : Vals dvs ds) (hx : Passes CX X E)
    (hxs : ∀ ι st H, RDs X.K ι st H dvs xs) (ha : PA X (e :: es) (TAo X.K (V E) ma)) {j : Nat} (hn : MLen ma j) (hj : j + xs.length = n)
    (hdb : (x == ("__debug__" : Str)) = false := by decide) (he : starEach (e :: es) X.env = (false, eval e X.env) :: starEach es X.env := by rfl) (hpl : (backTo pos (starEach es X.env)).any (·.1) = false := by rfl) :
    PE X (.Call (.Name x p) (e :: es) [] pos) (TEo X.K (V E) (mCall ff ma xs)) := by
  refine ⟨fun pins s σ H Q I h => ?_⟩
  refine wpAny_Call_Name_kw (ld_glob I hg hm ?_ hdb)
  refine PySem.W.callWith_K (h₀ := X.base) I.ok.mod.kin hk (thn (ha.run pos pins s σ H _ I (spG_call hxs h hn hj)) fun us s1 ⟨vs, H1, I1, r, q⟩ => ⟨I1.kIn, ?_⟩) he hpl
  exact run_fnG F hr hb hd hx I1 r q
end
abbrev V0 : XK → XW := fun _ => WF
theorem law_callG {P : Program} {w : World} {K : PySem.W.Frag} {mg mb : Str → Option Value} {k : Nat} {fa a : Addr} {fd : FuncData} {x : Str} {ff : FF} {s₁ : Shared} {vs : List Value} {ns : List Int}
    (KX : K.In s₁.heap) (hns : s₁.heap.Ns mainGlobals mg) (hb : s₁.heap.Ns builtinsNs mb) (hbb : ∀ x : Str, x ≠ "__name__" → mb x = bootBuiltins x) (hlim : s₁.heap.NoLimit) (hg : s₁.gens = #[])
    (ha : s₁.heap.get? a = some { cls := .type "list", data := .seq vs.toArray }) (hi : IntsAre vs ns) (hl : ns.length ≤ sizeLine) (hr : RmG k callerA)
    (F : ∀ base : Heap, K.In base → base.Ns mainGlobals mg → FnG P w K mg base CX0 k fa fd [x] (spG K V0 1 ff)) (hbind : ∀ (s : Shared) (u : Value), BindsTo s fd ⟨[u], []⟩ [(x, u)])
    (hsp : ∃ st, ff [.scr ns] [] = .ok (.v (.bool true)) st) :
    codeAny (model P w) callerA (.call (.ref fa) ⟨[.ref a], []⟩) (fun r s' => r = .ok (.ret (.bool true)) ∧ OldK s₁.heap s'.heap ∧ s'.os = s₁.os ∧ AllBare s'.gens) s₁ := by
  have rv := vals_ints hi
  have lenV := hi.length
  -- from what is tracked: nothing, or the script alone, frozen
  have key : ∀ H : Hp, (∀ b, H b = none ∨ (b = a ∧ ∃ o xs, H b = some (.frz o (.lst xs)))) → (KL K a (ns.map V.int) ∨ ∃ o, H a = some (.frz o (.lst (ns.map V.int)))) → HOk P w H s₁.heap → (H a ≠ none → K.lookup a = none) →
      codeAny (model P w) callerA (.call (.ref fa) ⟨[.ref a], []⟩) (fun r s' => r = .ok (.ret (.bool true)) ∧ OldK s₁.heap s'.heap ∧ s'.os = s₁.os ∧ AllBare s'.gens) s₁ := by
    intro H hO hS hok hK
    have at_a : ∀ {b : Addr} {u : HO}, H b = some u → b = a := fun {b u} e => by
      rcases hO b with z | ⟨z, _⟩
      · rw [z] at e; cases e
      · exact z
    have inB : ∀ {b : Addr} {o : Obj}, s₁.heap.get? b = some o → H b = none → (hidT s₁.heap H).get? b = some o := fun e z => hidT_get e z
    have nsB : ∀ {b : Addr} {m : Str → Option Value}, s₁.heap.Ns b m → (hidT s₁.heap H).Ns b m := by
      rintro b m ⟨o, es, ep, e, d, r⟩
      refine ⟨o, es, ep, inB e ?_, d, r⟩
      cases q : H b with
      | none => rfl
      | some u =>
        have z := at_a q
        subst z
        rw [ha] at e
        cases e
        cases d
    have kB : K.In (hidT s₁.heap H) := fun b o e => inB (KX b o e) (by
      cases q : H b with
      | none => rfl
      | some u =>
        have z := at_a q
        subst z
        rw [hK (by rw [q]; exact Option.some_ne_none u)] at e
        cases e)
    have e0 : Env0 P w K mg (hidT s₁.heap H) callerA [] s₁ H := by
      refine ⟨rfl, ⟨kB, nsB hns, ⟨mb, nsB hb, hbb⟩, ?_⟩, fun b o e => of_hidT e, Nat.le_of_eq (hidT_size _ _), trivial, fun b z => ?_, hok, .of_eq hg⟩
      · obtain ⟨mc, h1, h2⟩ := hlim
        exact ⟨mc, nsB h1, h2⟩
      · cases z
    have R0 : SRel K ⟨[], []⟩ [] H := ⟨rfl, fun n o b h => by simp at h, fun m n b o u h => by simp at h, fun n o h => by simp at h, fun b h => by simp at h, fun b u e => sz_of (hok b u e)⟩
    have r0 : RD K ⟨[], []⟩ [] H (.ref a) (.scr ns) := ⟨a, rfl, hS.imp id fun ⟨o, z⟩ => ⟨o, z, by simp, fun n o h => by simp at h⟩⟩
    have sp : spG K V0 1 ff [.ref a] H (fun v _ => v = .bl true) E0 := by
      obtain ⟨st, e⟩ := hsp
      refine ⟨⟨[], []⟩, [], [.scr ns], R0, .cons r0 .nil, rfl, ?_⟩
      rw [e]
      intro ι1 H1 v R1 E1 rv
      have rv : Rp (Frz ι1 st) H1 v (.bool true) := rv
      cases rv
      rfl
    refine codeAny_mono ((F _ kB (nsB hns)).run callerA [] s₁ H ⟨[.ref a], []⟩ [.ref a] [.ref a] _ _ hr e0 (hbind s₁ (.ref a)) (.cons rfl .nil) sp) fun r s' h => ?_
    cases r with
    | error e => exact h.elim
    | ok fl =>
      cases fl with
      | next => exact h.elim
      | brk => exact h.elim
      | cont => exact h.elim
      | ret u =>
        obtain ⟨v, H', os, bare, un, hok', r', q⟩ := h
        have q' : v = .bl true := q
        subst q'
        obtain rfl : u = Value.bool true := r'
        refine ⟨rfl, OldK.of_keep fun b o e => ?_, os, bare⟩
        rcases hO b with z | ⟨_, ob, xs, z⟩
        · exact un.keep b o e z (by intro y; cases y) (by intro y; cases y)
        · have z2 := un.frzs b ob _ z
          have e1 := (hok b _ z).1
          rw [e] at e1
          cases e1
          exact (hok' b _ z2).1
  cases hk : K.lookup a with
  | some o =>
    have e := KX a o hk
    rw [ha] at e
    cases e
    exact key (fun _ => none) (fun _ => .inl rfl) (.inl ⟨_, vs.toArray, _, hk, rfl, rfl, rfl, by rw [List.size_toArray, lenV]; exact hl, by simpa using rv⟩) (fun b u z => nomatch z) (fun z => absurd rfl z)
  | none =>
    let ob : Obj := { cls := .type "list", data := .seq vs.toArray }
    have same : (fun b => if b = a then some (HO.frz ob (.lst (ns.map V.int))) else none) a = some (HO.frz ob (.lst (ns.map V.int))) := if_pos rfl
    refine key (fun b => if b = a then some (.frz ob (.lst (ns.map V.int))) else none) (fun b => ?_) (.inr ⟨ob, same⟩) (fun b u z => ?_) fun _ => hk
    · by_cases e : b = a
      · exact .inr ⟨e, ob, ns.map V.int, if_pos e⟩
      · exact .inl (if_neg e)
    · by_cases e : b = a
      · subst e
        cases same.symm.trans z
        exact ⟨ha, by rw [List.length_map]; exact hl, vs, _, rv, ha⟩
      · cases (if_neg e : (if b = a then some (HO.frz ob (.lst (ns.map V.int))) else none) = none).symm.trans z
end Fw
namespace Fw
open PySem PySem.Spec PyProof.Rows L2
theorem walkG {l : PySem.W.OpenLaw} {n k : Nat} {q : Program} {loose : List Str} {XP : (Str → Option Value) → Heap → Prop} {YP : World → Heap → Prop} {d : DefRec} {x : Str} {ff : FF}
    (hn : l.most = some n) (hn2 : n ≤ sizeLine) (hdf : d.params.defaults = []) (hr : RmG k callerA)
    (F : ∀ (w : World) (mg : Str → Option Value) (fa : Addr) (h : Heap), YP w h → h.Ns mainGlobals mg → mg d.name = some (.ref fa) →
      ∃ (K : PySem.W.Frag) (fd : FuncData), K.In h ∧ (∀ (s : Shared) (u : Value), BindsTo s fd ⟨[u], []⟩ [(x, u)]) ∧ ∀ base : Heap, K.In base → base.Ns mainGlobals mg → FnG l.prog w K mg base CX0 k fa fd [x] (spG K V0 1 ff))
    (law : ∀ ns : List Int, ns.length ≤ n → ∃ st, ff [.scr ns] [] = .ok (.v (.bool true)) st) :
    PySem.W.WalkO q loose XP YP l.row.toRowW d [] (fun f vs => PySem.call f vs) := by
  refine Att.attach_call hn hdf fun w _ s₁ mg mb fa _ _ _ _ a vs ns G Y _ _ _ hmg ha hi hlen hg => ?_
  obtain ⟨K, fd, KX, hb, hF⟩ := F w mg fa _ Y G.T.g hmg
  exact law_callG KX G.T.g G.T.b G.T.builtins G.T.nolimit hg ha hi (Nat.le_trans hlen hn2) hr hF hb (law ns hlen)
theorem rm0 {k : Nat} (h : k ≤ 60 := by decide) : RmG k callerA := by
  have z : RmG 60 callerA := ⟨⟨rfl, by decide, by decide⟩, rfl⟩
  exact z.mono h
end Fw
namespace Fw
open PySem PySem.Spec PyProof.Rows L2
def mPrs : List (ME × ME) → Ev → Sto → Out (List (D × D))
  | [], _, st => .ok [] st
  | (a, b) :: r, env, st => (a env st).bind fun x s1 => (b env s1).bind fun y s2 => (mPrs r env s2).bind fun ps s3 => .ok ((x, y) :: ps) s3
def keysOf : List (D × D) → Option (List (PyData × D))
  | [] => some []
  | (.v kd, y) :: r => match key1 kd, keysOf r with
    | some _, some kvs => some ((kd, y) :: kvs)
    | _, _ => none
  | _ => none
def putAll (kvs more : List (PyData × D)) : List (PyData × D) := more.foldl (fun acc p => putD acc p.1 p.2) kvs
def mDisp (prs : List (ME × ME)) : ME := fun env st => (mPrs prs env st).noX.bind fun ps s1 => match keysOf ps with
  | some kvs => if kvs.length ≤ 15 ∧ (kvs.all fun p => p.2.low s1.length) = true then .ok (.ref s1.length) (s1 ++ [.dct false (putAll [] kvs)]) else .stuck
  | none => .stuck
def mDnew (t : Bool) : ME := fun _ st => .ok (.ref st.length) (st ++ [.dct t []])
section
variable {K : PySem.W.Frag} {W : XW} {ι : Gh} {st : Sto} {H : Hp}
theorem psh_at (R : SRel K ι st H) {p : Addr} : (ι.psh p).ad[st.length]? = some p := by
  show (ι.ad ++ [p])[st.length]? = _
  rw [← R.len, List.getElem?_append_right (Nat.le_refl _), Nat.sub_self]
  rfl
theorem hf_dK {p : Addr} {xs : List (Key × L2.V)} (h : HF H) (hl : xs.length ≤ sizeLine) : HF (upd H p (.dK xs)) := fun a u e => by
  by_cases z : a = p
  · subst z
    rw [upd_same] at e
    cases e
    exact hl
  · rw [upd_ne z] at e
    exact h a u e
def PV (K : PySem.W.Frag) (ι : Gh) (st : Sto) (H : Hp) : List (L2.V × L2.V) → List (D × D) → Prop := Paired fun x p => RD K ι st H x.1 p.1 ∧ RD K ι st H x.2 p.2
def PQ1 (K : PySem.W.Frag) (ι : Gh) (st : Sto) (H : Hp) (Q : List (L2.V × L2.V) → Hp → Prop) (ps : List (D × D)) (st' : Sto) : Prop := ∀ ι' H' xs, SRel K ι' st' H' → Ext ι st H ι' st' H' → PV K ι' st' H' xs ps → Q xs H'
theorem prs_red : ∀ (prs : List (ME × ME)) {ι : Gh} {env : Ev} {st : Sto} {σ : L2.St} {H : Hp} {Q : List (L2.V × L2.V) → Hp → Prop}, SRel K ι st H → EvR K ι st H σ env → (mPrs prs env st).post (PQ1 K ι st H Q) (fun _ _ => False) →
    tPairs (prs.map fun p => (TEo K W p.1, TEo K W p.2)) σ H Q
  | [], ι, env, st, σ, H, Q, R, EV, p => p ι H [] R Ext.refl .nil
  | (a, b) :: r, ι, env, st, σ, H, Q, R, EV, p => by
    refine ⟨ι, env, st, R, EV, Out.post_mono (Out.post_bind p) (fun x s1 q ι1 H1 u R1 E1 ra => ?_) fun _ _ q => q.elim⟩
    refine ⟨ι1, env, s1, R1, EV.ext E1, Out.post_mono (Out.post_bind q) (fun y s2 q2 ι2 H2 w R2 E2 rb => ?_) fun _ _ q => q.elim⟩
    refine prs_red r R2 ((EV.ext E1).ext E2) (Out.post_mono (Out.post_bind q2) (fun ps s3 q3 ι3 H3 xs R3 E3 rp => ?_) fun _ _ q => q)
    exact q3 ι3 H3 ((u, w) :: xs) R3 ((E1.trans E2).trans E3) (.cons ⟨(ra.ext E2).ext E3, rb.ext E3⟩ rp)
theorem keysOf_at : ∀ {ps : List (D × D)} {kvs : List (PyData × D)} {xs : List (L2.V × L2.V)}, keysOf ps = some kvs → PV K ι st H xs ps → ∃ us : List (Key × L2.V), xs = us.map (fun kv => (kV kv.1, kv.2)) ∧ RK K ι st H kvs us ∧ ∀ p ∈ kvs, ∃ k, key1 p.1 = some k
  | [], kvs, _, e, .nil => by cases e; exact ⟨[], rfl, .nil, fun p hp => nomatch hp⟩
  | (.v kd, y) :: r, kvs, _, e, .cons (a := x) h t => by
    unfold keysOf at e
    split at e
    · rename_i k l h1 h2
      cases e
      obtain ⟨us, rfl, h3, h4⟩ := keysOf_at h2 t
      have rc : Rp (Frz ι st) H x.1 kd := h.1
      have hk := kD_of h1
      rw [hk] at rc
      have ew := kV_of rc
      refine ⟨(k, x.2) :: us, ?_, .cons ⟨hk, h.2⟩ h3, fun p hp => ?_⟩
      · rw [List.map_cons, ← ew]
      · rcases List.mem_cons.mp hp with rfl | hp
        · exact ⟨k, h1⟩
        · exact h4 p hp
    · cases e
theorem rk_putAll : ∀ {kvs acc : List (PyData × D)} {us bs : List (Key × L2.V)}, RK K ι st H kvs us → (∀ p ∈ kvs, ∃ k, key1 p.1 = some k) → RK K ι st H acc bs → RK K ι st H (putAll acc kvs) (mergeK bs us)
  | _, _, _, _, .nil, _, r => r
  | _, acc, _, bs, .cons (a := p) (b := q) h t, hk, r => by
    obtain ⟨k, e⟩ := hk p List.mem_cons_self
    have e2 : k = q.1 := by
      have z := e
      rw [h.1, key1_kD] at z
      exact (Option.some.inj z).symm
    subst e2
    have z := rk_putAll t (fun z hz => hk z (List.mem_cons_of_mem _ hz)) (RK.put e h.2 r)
    exact z
theorem putAll_low {n : Nat} : ∀ {kvs acc : List (PyData × D)}, (kvs.all fun p => p.2.low n) = true → (acc.all fun p => p.2.low n) = true → ((putAll acc kvs).all fun p => p.2.low n) = true
  | [], _, _, h => h
  | p :: r, acc, h1, h2 => by
    rw [List.all_cons, Bool.and_eq_true] at h1
    exact putAll_low (kvs := r) h1.2 (putD_low h2 h1.1)
theorem upd_del2 {p : Addr} {u : HO} : upd (del H p) p u = upd H p u := by
  funext b
  by_cases e : b = p
  · subst e; rw [upd_same, upd_same]
  · rw [upd_ne e, del_ne e, upd_ne e]
theorem ext_show {ι1 : Gh} {s1 : Sto} {H1 : Hp} {p : Addr} {u : HO} (R : SRel K ι st H) (hp : H p = none) (R1 : SRel K ι1 s1 H1) (E : Ext (ι.hide p) st (upd H p u) ι1 s1 H1) : ∃ ι2 : Gh, ι1 = ι2.hide p ∧ ι2.hid = ι.hid ∧ SRel K ι2 s1 (del H1 p) ∧ Ext ι st H ι2 s1 (del H1 p) := by
  have e : ι1 = Gh.hide ⟨ι1.ad, ι.hid⟩ p := by
    have e := E.hid
    cases ι1
    simp only at e
    rw [e]
    rfl
  have np : p ∉ ι.hid := R.hid_new hp
  rw [e] at R1 E
  refine ⟨⟨ι1.ad, ι.hid⟩, e, rfl, R1.unhide np, ?_⟩
  have m := ((mv_hide R hp (u := u)).trans E.mv).trans (mv_show R1)
  refine ⟨m.keep, m.pre, rfl, fun a ha => ?_, m.lk⟩
  have na : a ≠ p := fun z => np (by rw [← z]; exact ha)
  rw [del_ne na, E.keepZ a (List.mem_cons_of_mem _ ha), upd_ne na]
theorem disp_red {prs : List (ME × ME)} {σ : L2.St} {Q : VK} (q : TEo K W (mDisp prs) σ H Q) : tDisp (prs.map fun p => (TEo K W p.1, TEo K W p.2)) σ H (fun v H' => HF H' → Q v H') := by
  obtain ⟨ι, env, st, R, EV, p⟩ := q
  intro a ha
  have R1 := R.hide (u := .dK []) ha trivial (hf_dK R.hf (Nat.zero_le _))
  refine prs_red prs R1 ((mv_hide R ha).ev EV) (noX_post (Out.post_mono (Out.post_bind p) (fun ps s1 q ι1 H1 xs R2 E2 rp => ?_) fun _ _ z => z))
  split at q
  · rename_i kvs hk
    split at q
    · rename_i hc
      obtain ⟨us, e1, h2, h3⟩ := keysOf_at hk rp
      have lu : us.length ≤ 15 := by rw [h2.len]; exact hc.1
      have hA : H1 a = some (.dK []) := by rw [E2.keepZ a List.mem_cons_self, upd_same]
      refine ⟨hA, us, e1, lu, fun hf => ?_⟩
      obtain ⟨ι2, eι, eh, R3, E3⟩ := ext_show R ha R2 E2
      have m : Mv ι1 s1 H1 ι2 s1 (del H1 a) := by rw [eι]; rw [eι] at R2; exact mv_show R2
      rw [← upd_del2] at hf ⊢
      have E4 : Ext ι2 s1 (del H1 a) (ι2.psh a) (s1 ++ [.dct false (putAll [] kvs)]) (upd (del H1 a) a (.dK (mergeK [] us))) := Ext.push R3 del_same
      refine q (ι2.psh a) _ _ (R3.push del_same hf ⟨_, upd_same, RK.ext E4 (rk_putAll (m.rk h2) h3 .nil)⟩ (putAll_low hc.2 rfl)) (E3.trans E4) ⟨a, psh_at R3, rfl⟩
    · exact q.elim
  · exact q.elim
end
section
variable {X : Cx} {W : XW} {pos : Pos}
theorem ps_nil0 : PPs X pos [] [] (([] : List (ME × ME)).map fun p => (TEo X.K W p.1, TEo X.K W p.2)) := pps_nil
theorem ps_cons0 {k v : Expr} {ks : List (Option Expr)} {vs : List Expr} {a b : ME} {prs : List (ME × ME)} (hk : PE X k (TEo X.K W a)) (hv : PE X v (TEo X.K W b)) (hr : PPs X pos ks vs (prs.map fun p => (TEo X.K W p.1, TEo X.K W p.2))) :
    PPs X pos (some k :: ks) (v :: vs) (((a, b) :: prs).map fun p => (TEo X.K W p.1, TEo X.K W p.2)) := pps_cons hk hv hr
theorem x_disp {keys : List (Option Expr)} {values : List Expr} {prs : List (ME × ME)} (h : PPs X pos keys values (prs.map fun p => (TEo X.K W p.1, TEo X.K W p.2))) (hall : keys.all (·.isSome) = true := by rfl) (hl : keys.length = values.length := by rfl) (h0 : keys ≠ [] := by exact fun z => nomatch z)
    (h15 : keys.length ≤ 15 := by decide) : PE X (.Dict keys values pos) (TEo X.K W (mDisp prs)) := pe_wrap (pe_disp h hall hl h0 h15) fun _ _ _ q => disp_red q
theorem x_dnew (t : Bool) : PE X (.Dict [] [] pos) (TEo X.K W (mDnew t)) := by
  cases t with
  | false =>
    exact pe_wrap pe_dnewK fun σ H Q q => by
      obtain ⟨ι, env, st, R, EV, p⟩ := q
      intro a ha hf
      exact p _ _ _ (R.push ha hf ⟨_, upd_same, .nil⟩ rfl) (Ext.push R ha) ⟨a, psh_at R, rfl⟩
  | true =>
    exact pe_wrap pe_dnewT fun σ H Q q => by
      obtain ⟨ι, env, st, R, EV, p⟩ := q
      intro a ha hf
      exact p _ _ _ (R.push ha hf ⟨_, upd_same, .nil⟩ rfl) (Ext.push R ha) ⟨a, psh_at R, rfl⟩
end
end Fw
namespace Fw
open PySem PySem.Spec PyProof.Rows L2
theorem bt_len : bootBuiltins "len" = some (.builtin "len") := by decide +kernel
theorem bt_abs : bootBuiltins "abs" = some (.builtin "abs") := by decide +kernel
theorem bt_min : bootBuiltins "min" = some (.builtin "min") := by decide +kernel
theorem bt_max : bootBuiltins "max" = some (.builtin "max") := by decide +kernel
theorem bt_repr : bootBuiltins "repr" = some (.builtin "repr") := by decide +kernel
theorem bt_sorted : bootBuiltins "sorted" = some (.builtin "sorted") := by decide +kernel
theorem bt_int : bootBuiltins "int" = some (.type "int") := by decide +kernel
theorem bt_tuple : bootBuiltins "tuple" = some (.type "tuple") := by decide +kernel
theorem bt_list : bootBuiltins "list" = some (.type "list") := by decide +kernel
structure Cal (P : Program) (w : World) (K : PySem.W.Frag) (mg : Str → Option Value) (base : Heap) (k : Nat) (x : Str) (n : Nat) (xs : List D) (ff : FF) : Prop where
  ex : ∃ (f : Addr) (fd : FuncData) (ps : List Str) (dvs : List L2.V) (ds : List Value), FnG P w K mg base CX0 k f fd ps (spG K V0 n ff) ∧ mg x = some (.ref f) ∧ PySem.W.keepIn K (.ref f) = true ∧ Binds K fd ps ds ∧ Vals dvs ds ∧ ∀ ι st H, RDs K ι st H dvs xs
section
variable {P : Program} {w : World} {K : PySem.W.Frag} {mg : Str → Option Value} {base : Heap} {k : Nat} {x qual : Str} {n nN : Nat} {xs : List D} {ff : FF}
theorem Cal.mono {j : Nat} (c : Cal P w K mg base k x n xs ff) (h : k ≤ j) : Cal P w K mg base j x n xs ff := by
  obtain ⟨f, fd, ps, dvs, ds, F, r⟩ := c.ex
  exact ⟨f, fd, ps, dvs, ds, F.mono h, r⟩
theorem Cal.mk0 {f : Addr} {fd : FuncData} {params : Arguments} {body : List Stmt} {scope : Scope} {ps : List Str} (F : FunD K x qual params body scope [] [] f fd) (m : mg x = some (.ref f)) (G : FnG P w K mg base CX0 k f fd ps (spG K V0 n ff))
    (h : ∀ (kV doc pm : Value) (an : Option Addr) (cdv ct : Value) (us : List Value), us.length = ps.length → bindArgs (PySem.W.fnOf x qual params body scope .none kV doc pm an cdv ct) ⟨us, []⟩ = pure (ps.zip us)) : Cal P w K mg base k x n [] ff :=
  ⟨f, fd, ps, [], [], G, m, F.kp, F.bindsN h, .nil, fun _ _ _ => .nil⟩
end
section
variable {X : Cx} {k n j : Nat} {x : Str} {xs : List D} {ff : FF} {p pos : Pos} {e : Expr} {es : List Expr} {ma : MA}
theorem x_cal (c : Cal X.prog X.w X.K X.mg X.base k x n xs ff) (hr : RmG j X.A) (hk : k ≤ j) (hg : Gl X x) (ha : PA X (e :: es) (TAo X.K WF ma)) {i : Nat} (hn : MLen ma i) (hj : i + xs.length = n)
    (hdb : (x == ("__debug__" : Str)) = false := by decide) (he : starEach (e :: es) X.env = (false, eval e X.env) :: starEach es X.env := by rfl) (hpl : (backTo pos (starEach es X.env)).any (·.1) = false := by rfl) :
    PE X (.Call (.Name x p) (e :: es) [] pos) (TEo X.K WF (mCall ff ma xs)) := by
  obtain ⟨f, fd, ps, dvs, ds, F, hm, kp, hb, hd, hxs⟩ := c.ex
  exact x_call (V := V0) (E := E0) F (hr.mono hk) hg hm kp hb hd pass0 hxs ha hn hj hdb he hpl
theorem g_tp {ts : List Expr} {kk m : Nat} {tpos : Pos} {gs : MGs} {W : XW} {vs : Option (List Nat)} (gd : Gd X) (h : PGs X ts (TGso X.K W gs vs)) (hn : (assignEach ts X.env).length = m := by rfl) (hst : (assignEach ts X.env).findIdx? (·.1) = none := by rfl) :
    PG X (.Tuple ts kk tpos) (TGo X.K W (gTp m gs) vs) := g_tup gd.calm h (pg_tup gd.calm h hn hst)
theorem gn (i : Nat) {vs : Option (List Nat)} {W : XW} {y : Str} (hN : X.N.Nodup) (hi : X.N[i]? = some y := by rfl) (hx : Loc X.env.scope y := by first | exact .inl rfl | exact .inr rfl) (hf : X.fn y = true ∨ X.env.scope.names.lookup y = some .local := by first | exact .inl rfl | exact .inr rfl)
    (hv : ∀ ws, vs = some ws → i ∈ ws := by (intro ws z; cases z <;> decide)) : PG X (.Name y pos) (TGo X.K W (gNm i) vs) := g_name i (pg_name (i := i) hN hi hx hf) hv
theorem xv (i : Nat) {W : XW} {y : Str} (hN : X.N[i]? = some y := by rfl) (hv : Vis X.env.scope y := by first | exact Or.inl rfl | exact Or.inr (Or.inl rfl) | exact Or.inr (Or.inr rfl)) (hd : (y == ("__debug__" : Str)) = false := by decide)
    (hcd : (y == ("__classdict__" : Str)) = false := by decide) : PE X (.Name y pos) (TEo X.K W (mVar i)) := x_var i (pe_var hN hv hd hcd)
theorem s_p2 {i j : Nat} {W : XW} {y z : Str} {a b : Expr} {px py pt : Pos} {kt k2 : Nat} {pt2 : Pos} (gd : Gd X) (hN : X.N.Nodup) (ha : PA X [a, b] (TAo X.K W ma)) (hi : X.N[i]? = some y := by rfl) (hj : X.N[j]? = some z := by rfl) (hij : i ≠ j := by decide)
    (hy : X.env.scope.names.lookup y = some .local := by rfl) (hz : X.env.scope.names.lookup z = some .local := by rfl) (hw : swappedStores [.Tuple [.Name y px, .Name z py] kt pt] (.Tuple [a, b] k2 pt2) X.env = pure (some [y, z]) := by rfl)
    (hs : swapsWithSole [.Tuple [.Name y px, .Name z py] kt pt] (.Tuple [a, b] k2 pt2) pos.line X.env = pure false := by rfl) :
    PS X (.Assign [.Tuple [.Name y px, .Name z py] kt pt] (.Tuple [a, b] k2 pt2) pos) (TSo X.K W (sPar2 i j ma)) := s_par2 ha (ps_par gd.calm hN hi hj hij hy hz ha hw hs)
theorem s_p3 {i j l : Nat} {W : XW} {y z u : Str} {a b c : Expr} {px py pz pt : Pos} {kt k2 : Nat} {pt2 : Pos} (gd : Gd X) (hN : X.N.Nodup) (ha : PA X [a, b, c] (TAo X.K W ma)) (hi : X.N[i]? = some y := by rfl) (hj : X.N[j]? = some z := by rfl) (hl : X.N[l]? = some u := by rfl) (hij : i ≠ j := by decide) (hil : i ≠ l := by decide) (hjl : j ≠ l := by decide)
    (hy : X.env.scope.names.lookup y = some .local := by rfl) (hz : X.env.scope.names.lookup z = some .local := by rfl) (hu : X.env.scope.names.lookup u = some .local := by rfl) (hw : swappedStores [.Tuple [.Name y px, .Name z py, .Name u pz] kt pt] (.Tuple [a, b, c] k2 pt2) X.env = pure (some [y, z, u]) := by rfl)
    (hs : swapsWithSole [.Tuple [.Name y px, .Name z py, .Name u pz] kt pt] (.Tuple [a, b, c] k2 pt2) pos.line X.env = pure false := by rfl) :
    PS X (.Assign [.Tuple [.Name y px, .Name z py, .Name u pz] kt pt] (.Tuple [a, b, c] k2 pt2) pos) (TSo X.K W (sPar3 i j l ma)) := s_par3 ha (ps_par3 gd.calm hN hi hj hl hij hil hjl hy hz hu ha hw hs)
theorem s_pT {W : XW} {m kk k2 : Nat} {p1 p2 : Pos} {ts es : List Expr} {gs : MGs} (gd : Gd X) (ha : PA X es (TAo X.K W ma)) (h : PGs X ts (TGso X.K W gs none)) (hn : (assignEach ts X.env).length = m := by rfl) (hst : (assignEach ts X.env).findIdx? (·.1) = none := by rfl)
    (hs : swapsWithSole [.Tuple ts kk p1] (.Tuple es k2 p2) pos.line X.env = pure false := by rfl) (hw : swappedStores [.Tuple ts kk p1] (.Tuple es k2 p2) X.env = pure none := by rfl) : PS X (.Assign [.Tuple ts kk p1] (.Tuple es k2 p2) pos) (TSo X.K W (sAsgT m ma gs)) :=
  s_asgT ha (pg_tup gd.calm h hn hst) hs hw
end
def rgD (a b : Int) : List PyData := (List.range (b - a).toNat).map fun i => .int (a + (i : Nat))
def rgOk (a b : Int) : Bool := decide (-1000000 ≤ a ∧ a ≤ 1000000 ∧ -1000000 ≤ b ∧ b ≤ 1000000)
theorem rgOk_ok {a b : Int} (h : rgOk a b = true) : RgOk a b := by
  have h := of_decide_eq_true h
  exact ⟨by omega, by omega, by omega, by omega, by omega⟩
theorem rpA_rg {F : Addr → Prop} {H : Hp} (a b : Int) : RpA F H (rgV a b) (rgD a b) := by
  unfold rgV rgD
  have key : ∀ l : List Nat, RpA F H (l.map fun i => V.int (a + (i : Nat))) (l.map fun i => PyData.int (a + (i : Nat))) := fun l => by
    induction l with
    | nil => exact .nil
    | cons i r ih => exact .cons (.int _) ih
  exact key _
def mRg1 (m : ME) : Ev → Sto → Out (List PyData) := fun env st => (m env st).bind fun d s1 => match iOf d with
  | some n => if rgOk 0 n then .ok (rgD 0 n) s1 else .stuck
  | none => .stuck
section
variable {X : Cx} {W : XW} {a b : Expr} {m ma mb : ME} {p q pos pos2 : Pos}
theorem xf_listRg1 (gd : Gd X) (hg : Gl X "list") (hm : X.mg "list" = none) (hg2 : Gl X "range") (hm2 : X.mg "range" = none) (ha : PE X a (TEo X.K W m)) (na : starEach [a] X.env = (false, eval a X.env) :: starEach [] X.env := by rfl)
    (na2 : starEach [Expr.Call (.Name "range" q) [a] [] pos2] X.env = (false, eval (.Call (.Name "range" q) [a] [] pos2) X.env) :: starEach [] X.env := by rfl) :
    PE X (.Call (.Name "list" p) [.Call (.Name "range" q) [a] [] pos2] [] pos) (TFo X.K W (mRg1 m)) :=
  pf_wrap (pe_listRg gd.calm hg hm (prg_1 hg2 hm2 ha na) na2) fun σ H Q q => by
    obtain ⟨ι, env, st, R, EV, p⟩ := q
    refine ⟨ι, env, st, R, EV, Out.post_mono (Out.post_bind p) (fun d s1 q ι1 H1 x R1 E1 ra => ?_) fun _ _ q => q⟩
    split at q
    · rename_i n e1
      split at q
      · rename_i h
        exact ⟨n, iOf_at e1 ra, rgOk_ok h, (q.ext E1).new R1 (rpA_rg 0 n)⟩
      · exact q.elim
    · exact q.elim
end
theorem s_subP {X : Cx} {W : XW} {e o i : Expr} {m mo mi : ME} {pos pos' : Pos} (gd : Gd X) (he : PE X e (TEo X.K W m)) (ho : PE X o (TEo X.K W mo)) (hi : PE X i (TEo X.K W mi))
    (ha : ∀ v, assign (.Subscript o i pos') X.env v = (do
      let ov ← holding [v] (eval o X.env)
      let iv ← holding [v, ov] (eval i X.env)
      standAt pos'
      holding [v, ov, iv] (setItem ov iv v)
      release [v, ov, iv] []) := by intro _; rfl)
    (hs1 : swapsWithSole [.Subscript o i pos'] e pos.line X.env = pure false := by rfl) (hw : swappedStores [.Subscript o i pos'] e X.env = pure none := by rfl) (hs : swapsWith e (some (.Subscript o i pos')) pos.line X.env = pure false := by rfl) :
    PS X (.Assign [.Subscript o i pos'] e pos) (TSo X.K W (sSub m mo mi)) := s_sub gd he ho hi (pg_sub ho hi set_list ha) hs1 hw hs
theorem own_pass {CX : CXT} {P : Program} {w : World} {K : PySem.W.Frag} {mg : Str → Option Value} {base : Heap} {N : List Str} {qual : Str} {scope : Scope} {f : Addr} {cd : Value} {A : Around} {outer : List Env} {s : Shared} {H : Hp} {E : XK} :
    PassesOwn (model P w) (cxOf CX P w K mg base N qual scope f cd A outer s H E).A (cxOf CX P w K mg base N qual scope f cd A outer s H E).env (cxOf CX P w K mg base N qual scope f cd A outer s H E).xe :=
  passes_of (X := cxOf CX P w K mg base N qual scope f cd A outer s H E) (K := fun e s'' => CX outer H s E e s'') (E₁ := fun e' s'' => CX outer H s E e' s'') rfl
end Fw
namespace Fw
open PySem PySem.Spec PyProof.Rows L2
def tyD (st : Sto) : D → Option String
  | .v .none => some "NoneType"
  | .v (.bool _) => some "bool"
  | .v (.int _) => some "int"
  | .v (.str _) => some "str"
  | .v (.list _) => some "list"
  | .v (.tuple _) => some "tuple"
  | .v (.dict kvs) => if isTK kvs then none else some "dict"
  | .scr _ => some "list"
  | .ref n => match st[n]? with
    | some (.lst _) => some "list"
    | some (.dct _ _) => some "dict"
    | _ => none
theorem tyD_at {K : PySem.W.Frag} {ι : Gh} {st : Sto} {H : Hp} (R : SRel K ι st H) {x : V} {T : String} : ∀ {d : D}, tyD st d = some T → RD K ι st H x d → TyX K H x (.type T)
  | .v z, e, r => by
    have r' : Rp (Frz ι st) H x z := r
    cases r' with
    | non => cases e; exact .base .non
    | bl b => cases e; exact .base (.bl b)
    | int i => cases e; exact .base (.int i)
    | str z => cases e; exact .base (.str z)
    | lst h _ _ => cases e; exact .base (.lst h)
    | tup h _ _ _ => cases e; exact .fTuple h
    | @dcK a xs ds h _ rk =>
      have e2 : T = "dict" := by
        replace e : (if isTK ds then none else some "dict") = some T := e
        split at e
        · cases e
        · exact (Option.some.inj e).symm
      subst e2
      rcases h with h | ⟨o, h⟩
      · exact .base (.dK h)
      · exact .fDict h
    | @dcT a xs ds h _ rk hne =>
      cases rk with
      | nil => exact absurd rfl hne
      | cons _ _ => cases e
  | .scr ns, e, r => by
    cases e
    obtain ⟨a, rfl, h⟩ := r
    rcases h with ⟨o, its, n, h1, h2, _⟩ | ⟨o, h, _⟩
    · exact .kList h1 h2
    · exact .base (.frz h)
  | .ref n, e, r => by
    obtain ⟨a, h1, rfl⟩ := r
    cases q : st[n]? with
    | none => simp only [tyD, q] at e; cases e
    | some o =>
      have ro := R.obj n o a q h1
      cases o with
      | lst zs =>
        simp only [tyD, q] at e
        cases e
        obtain ⟨xs, h, _⟩ := ro
        exact .base (.lst h)
      | dct t kvs =>
        simp only [tyD, q] at e
        cases e
        cases t with
        | false => obtain ⟨xs, h, _⟩ := ro; exact .base (.dK h)
        | true => obtain ⟨xs, h, _⟩ := ro; exact .base (.dT h)
      | _ => simp only [tyD, q] at e; cases e
def isT1 (t T : String) : Option Bool := match T with
  | "int" => some (t == "int" || t == "bool")
  | "bool" => some (t == "bool")
  | "str" => some (t == "str")
  | "list" => some (t == "list")
  | "tuple" => some (t == "tuple")
  | "dict" => some (t == "dict")
  | _ => none
theorem isT1_kit {K : PySem.W.Frag} {t T : String} {b : Bool} (ht : t ∈ ["NoneType", "bool", "int", "str", "list", "tuple", "dict"]) (h : isT1 t T = some b) : PySem.W.kitOne K (.type t) (.type T) = some b := by
  have key : ∀ T ∈ ["int", "bool", "str", "list", "tuple", "dict"], ∀ t ∈ ["NoneType", "bool", "int", "str", "list", "tuple", "dict"], kitB t T = isT1 t T := by decide +kernel
  refine kit_ty ?_
  rw [key T ?_ t ht]
  · exact h
  · unfold isT1 at h
    split at h
    · decide
    · decide
    · decide
    · decide
    · decide
    · decide
    · cases h
theorem tyD_mem {st : Sto} {d : D} {t : String} (h : tyD st d = some t) : t ∈ ["NoneType", "bool", "int", "str", "list", "tuple", "dict"] := by
  unfold tyD at h
  split at h <;> first | (cases h; decide) | skip
  · split at h
    · cases h
    · cases h; decide
  · split at h <;> first | (cases h; decide) | cases h
def isiD (T : String) : F1 := fun d st => match tyD st d with
  | some t => match isT1 t T with
    | some b => .ok (.v (.bool b)) st
    | none => .stuck
  | none => .stuck
theorem bt_isi : bootBuiltins "isinstance" = some (.builtin "isinstance") := by decide +kernel
theorem bt_dict : bootBuiltins "dict" = some (.type "dict") := by decide +kernel
theorem x_isi {X : Cx} {W : XW} {e : Expr} {m : ME} {p q pos : Pos} {x : Str} (T : String) (hg : Gl X "isinstance") (hm : X.mg "isinstance" = none) (hg2 : Gl X x) (hm2 : X.mg x = none) (hv : bootBuiltins x = some (.type T)) (he : PE X e (TEo X.K W m)) (hn : x ≠ "__name__" := by decide) (hdb : (x == ("__debug__" : Str)) = false := by decide)
    (hs : starEach [e, .Name x q] X.env = (false, eval e X.env) :: starEach [.Name x q] X.env := by rfl) (hs2 : starEach [.Name x q] X.env = (false, eval (.Name x q) X.env) :: starEach [] X.env := by rfl) (hpl : (backTo pos (starEach [.Name x q] X.env)).any (·.1) = false := by rfl) :
    PE X (.Call (.Name "isinstance" p) [e, .Name x q] [] pos) (TEo X.K W (mUn (isiD T) m)) :=
  pe_wrap (pe_callB call_isi hg hm bt_isi (pa_cons he (pa_cons (pe_bltn (v := .ty T) hg2 hm2 hv rfl hn hdb) pa_nil hs2) hs) (by decide) (by decide) hs hpl) fun σ H Q q => by
    obtain ⟨ι, env, st, R, EV, p⟩ := q
    refine ⟨ι, env, st, R, EV, Out.post_mono (Out.post_bind p) (fun d s1 q ι1 H1 x R1 E1 ra => ?_) fun _ _ q => q⟩
    unfold isiD at q
    split at q
    · rename_i t et
      split at q
      · rename_i b eb
        exact ⟨x, .ty T, .type t, .type T, b, rfl, .ty T, tyD_at R1 et ra, isT1_kit (tyD_mem et) eb, fun _ => (q.ext E1).same R1 (.bl b)⟩
      · exact q.elim
    · exact q.elim
end Fw
namespace Fw
open PySem PySem.Spec PyProof.Rows L2
def lexLe : List Int → List Int → Bool
  | [], _ => true
  | _ :: _, [] => false
  | a :: r, b :: q => if a < b then true else if a = b then lexLe r q else false
def insR (a : List Int) : List (List Int) → List (List Int)
  | [] => [a]
  | b :: r => if lexLe a b then a :: b :: r else b :: insR a r
def sortR : List (List Int) → List (List Int)
  | [] => []
  | a :: r => insR a (sortR r)
abbrev TB : Int := 1000000
def rowsOf : List PyData → Option (List (List Int))
  | [] => some []
  | .tuple xs :: r => match intsOf xs, rowsOf r with
    | some ns, some rs => some (ns :: rs)
    | _, _ => none
  | _ :: _ => none
def rowB (d : Nat) (r : List Int) : Bool := decide (r.length = d) && r.all fun m => decide (0 ≤ m ∧ m < TB)
theorem RpA.perm {F : Addr → Prop} {H : Hp} {ys xs : List L2.V} (p : ys.Perm xs) : ∀ {zs : List PyData}, RpA F H xs zs → ∃ zs', RpA F H ys zs' ∧ zs'.Perm zs := by
  induction p with
  | nil => intro zs r; exact ⟨zs, r, .refl _⟩
  | cons x _ ih =>
    intro zs r
    cases r with
    | cons h t =>
      obtain ⟨qs, r2, p2⟩ := ih t
      exact ⟨_ :: qs, .cons h r2, p2.cons _⟩
  | swap x y l =>
    intro zs r
    cases r with
    | cons h t =>
      cases t with
      | cons h2 t2 => exact ⟨_, .cons h2 (.cons h t2), .swap _ _ _⟩
  | trans _ _ h1 h2 =>
    intro zs r
    obtain ⟨q1, r1, p1⟩ := h2 r
    obtain ⟨q2, r2, p2⟩ := h1 r1
    exact ⟨q2, r2, p2.trans p1⟩
theorem perm_unmap {α β : Type} {f : α → β} {ys zs : List β} (p : ys.Perm zs) : ∀ {l : List α}, zs = l.map f → ∃ l' : List α, ys = l'.map f ∧ l'.Perm l := by
  induction p with
  | nil =>
    intro l e
    refine ⟨[], rfl, ?_⟩
    rw [List.map_eq_nil_iff.mp e.symm]
  | cons x _ ih =>
    intro l e
    obtain ⟨a, r, rfl, e1, e2⟩ := List.map_eq_cons_iff.mp e.symm
    obtain ⟨l', h1, h2⟩ := ih e2.symm
    exact ⟨a :: l', by rw [List.map_cons, ← h1, e1], h2.cons a⟩
  | swap x y t =>
    intro l e
    obtain ⟨a, r, rfl, e1, e2⟩ := List.map_eq_cons_iff.mp e.symm
    obtain ⟨b, u, rfl, e3, e4⟩ := List.map_eq_cons_iff.mp e2
    exact ⟨b :: a :: u, by rw [List.map_cons, List.map_cons, e1, e3, e4], .swap a b u⟩
  | trans _ _ h1 h2 =>
    intro l e
    obtain ⟨l1, e1, p1⟩ := h2 e
    obtain ⟨l2, e2, p2⟩ := h1 e1
    exact ⟨l2, e2, p2.trans p1⟩
def gSort : GA := fun ds st => match ds with
  | [x] => match viewL st x with
    | some zs => match intsOf zs with
      | some ns => .ok ((sortI ns).map .int) st
      | none => match rowsOf zs with
        | some rs => if zs.length < 64 ∧ 1 ≤ (rs.headD []).length ∧ (rs.all (rowB (rs.headD []).length)) = true then .ok ((sortR rs).map fun r => .tuple (r.map .int)) st else .stuck
        | none => .stuck
    | none => .stuck
  | _ => .stuck
end Fw
namespace Fw
open PySem PySem.Spec PyProof.Rows L2
mutual
/-- no list within, dicts with keys of whole numbers and texts alone -/
def noL : PyData → Bool
  | .none | .bool _ | .int _ | .str _ => true
  | .list _ => false
  | .tuple xs => noLA xs
  | .dict kvs => noLK kvs
def noLA : List PyData → Bool
  | [] => true
  | x :: r => noL x && noLA r
def noLK : List (PyData × PyData) → Bool
  | [] => true
  | (k, v) :: r => (key1 k).isSome && noL v && noLK r
end
section
variable {X : Cx} {pins : List (Addr × Obj)} {σ : L2.St} {H : Hp} {s : Shared} {F : Addr → Prop}
theorem key_reads {h : Heap} {k : Key} {v : Value} (e : keyIs k v = true) : Reads h v (kD k) [] := by
  rcases keyIs_shape e with ⟨i, t, rfl, rfl⟩ | ⟨x, t, rfl, rfl⟩
  · exact .int i t
  · exact .str x t
mutual
theorem rp_reads (I : Inv X pins σ H s) : ∀ (d : PyData) (v : L2.V) (u : Value), Rp F H v d → noL d = true → RelV v u → ∃ as, Reads s.heap u d as ∧ sysModules ∉ as
  | .none, _, _, h, _, r => by
    cases h
    cases r
    exact ⟨_, .none, by simp⟩
  | .bool b, _, _, h, _, r => by
    cases h
    cases r
    exact ⟨_, .bool b, by simp⟩
  | .int i, _, _, h, _, r => by
    cases h
    obtain ⟨t, rfl⟩ := r
    exact ⟨_, .int i t, by simp⟩
  | .str x, _, _, h, _, r => by
    cases h
    obtain ⟨t, rfl⟩ := r
    exact ⟨_, .str x t, by simp⟩
  | .list _, _, _, _, n, _ => by
    rw [noL] at n
    cases n
  | .tuple ds, _, _, h, n, r => by
    cases h with
    | tup e z f t =>
      cases r
      rw [noL] at n
      obtain ⟨its, rv, ⟨o, ho, hc, k, hd⟩, _⟩ := I.tuple (KTup.sq ⟨_, e, z⟩)
      obtain ⟨as, hr, hn⟩ := rp_readsA I ds _ its t n rv
      exact ⟨as, .tuple ho hc hd hr, hn⟩
  | .dict kvs, _, _, h, n, r => by
    rw [noL] at n
    cases h with
    | dcK e f t =>
      cases r
      obtain ⟨_, hne, vs, kv, o, es, ep, ho, ⟨hc, _, _⟩, hd, _, hp, _⟩ := dk_rd I.hok e
      obtain ⟨as, bs, h1, h2, n1, n2⟩ := rp_readsK I kvs _ vs es.toList t n kv hp
      refine ⟨_, .dict ho hc hd h1 h2, ?_⟩
      simp only [List.mem_cons, List.mem_append, not_or]
      exact ⟨⟨fun z => by rw [z] at hne; simp at hne, n1⟩, n2⟩
    | dcT e f t z =>
      cases t with
      | nil => exact absurd rfl z
      | cons _ _ => rw [noLK] at n; simp [key1] at n
theorem rp_readsA (I : Inv X pins σ H s) : ∀ (ds : List PyData) (vs : List L2.V) (us : List Value), RpA F H vs ds → noLA ds = true → Vals vs us → ∃ as, ReadsAll s.heap us ds as ∧ sysModules ∉ as
  | [], _, _, h, _, r => by
    cases h
    cases r
    exact ⟨_, .nil, by simp⟩
  | d :: ds, _, _, h, n, r => by
    rw [noLA, Bool.and_eq_true] at n
    cases h with
    | cons h1 h2 =>
      cases r with
      | cons r1 r2 =>
        obtain ⟨as, q1, n1⟩ := rp_reads I d _ _ h1 n.1 r1
        obtain ⟨bs, q2, n2⟩ := rp_readsA I ds _ _ h2 n.2 r2
        exact ⟨_, .cons q1 q2, by simp only [List.mem_append, not_or]; exact ⟨n1, n2⟩⟩
theorem rp_readsK (I : Inv X pins σ H s) : ∀ (kvs : List (PyData × PyData)) (xs : List (Key × L2.V)) (vs : List (Key × Value)) (es : List DictEntry), RpK F H xs kvs → noLK kvs = true → KV xs vs → Pairs (mixKind X.prog X.w) es vs →
    ∃ as bs, ReadsAll s.heap (es.map (·.key)) (kvs.map (·.1)) as ∧ ReadsAll s.heap (es.map (·.val)) (kvs.map (·.2)) bs ∧ sysModules ∉ as ∧ sysModules ∉ bs
  | [], xs, vs, es, h, _, k, q => by
    cases h
    cases k
    cases q
    exact ⟨_, _, .nil, .nil, by simp, by simp⟩
  | (kk, d) :: kvs, xs, vs, es, h, n, k, q => by
    rw [noLK, Bool.and_eq_true, Bool.and_eq_true] at n
    cases h with
    | cons h1 h2 =>
      cases k with
      | cons k1 k2 =>
        cases q with
        | cons q1 q2 q3 =>
          obtain ⟨e1, e2⟩ := k1
          obtain ⟨as, r1, n1⟩ := rp_reads I d _ _ h1 n.1.2 e2
          obtain ⟨bs, cs, r2, r3, n2, n3⟩ := rp_readsK I kvs _ _ _ h2 n.2 k2 q3
          refine ⟨[] ++ bs, as ++ cs, .cons ?_ r2, .cons ?_ r3, by simpa using n2, by simp only [List.mem_append, not_or]; exact ⟨n1, n3⟩⟩
          · have e1 : _ = _ := e1
            rw [show kD _ = kD _ from congrArg kD e1]
            exact key_reads q1
          · show Reads s.heap (DictEntry.val _) d as
            rw [q2]
            exact r1
end
end
def rReprK (F : Addr → Prop) : List L2.V → Hp → VK → Prop := fun xs H Q => ∃ x z, xs = [x] ∧ Rp F H x z ∧ noL z = true ∧ z.showable = true ∧ z.depth ≤ 60 ∧ z.shown.length ≤ sizeLine ∧ Q (.str z.shown) H
theorem call_reprK {X : Cx} (g : Gd X) : CallR X (.builtin "repr") (fun xs H Q => ∃ F, rReprK F xs H Q) := by
  rintro pins s σ H xs us Q I r ⟨F, x, z, rfl, hd, hl, h1, h3, h4, q⟩
  obtain ⟨u, rfl, ru⟩ := vals1 r
  obtain ⟨as, rd, hn⟩ := rp_reads I z x u hd hl ru
  cases rd with
  | none => exact PySem.P.repr_of_none ⟨.str _, H, I.tok _, ⟨_, rfl⟩, by simpa only [PyData.shown] using q⟩
  | bool b => exact PySem.P.repr_of_bool ⟨.str _, H, I.tok _, ⟨_, rfl⟩, by simpa only [PyData.shown] using q⟩
  | int i t => exact PySem.P.repr_of_int (by simpa [PyData.showable] using h1) ⟨.str _, H, I.tok _, ⟨_, rfl⟩, by simpa only [PyData.shown] using q⟩
  | str y t => exact PySem.P.repr_of_str ⟨.str _, H, I.tok _, ⟨_, rfl⟩, by simpa only [PyData.shown] using q⟩ (by simpa only [PyData.shown] using h4)
  | list e1 e2 e3 e4 => exact repr_of_reads' (Reads.list e1 e2 e3 e4) h1 (fun _ => hn) g.gu (by have := g.un; omega) (fun _ _ e => e) (fun h' u tk hk => ⟨.str _, H, I.kept hk, ⟨_, rfl⟩, q⟩) h4
  | tuple e1 e2 e3 e4 => exact repr_of_reads' (Reads.tuple e1 e2 e3 e4) h1 (fun _ => hn) g.gu (by have := g.un; omega) (fun _ _ e => e) (fun h' u tk hk => ⟨.str _, H, I.kept hk, ⟨_, rfl⟩, q⟩) h4
  | dict e1 e2 e3 e4 e5 => exact repr_of_reads' (Reads.dict e1 e2 e3 e4 e5) h1 (fun _ => hn) g.gu (by have := g.un; omega) (fun _ _ e => e) (fun h' u tk hk => ⟨.str _, H, I.kept hk, ⟨_, rfl⟩, q⟩) h4
def fReprK : FA := fun ds st => match ds with
  | [.v z] => if noL z && z.showable && decide (z.depth ≤ 60) && decide (z.shown.length ≤ lim) then .ok (.v (.str z.shown)) st else fRepr ds st
  | ds => fRepr ds st
theorem opA_reprK {K : PySem.W.Frag} {W : XW} : OpA K W (fun xs H Q => rRepr K xs H Q ∨ ∃ F, rReprK F xs H Q) fReprK := by
  intro ι st H xs ds Q R r p
  unfold fReprK at p
  split at p
  · rename_i z
    split at p
    · rename_i h
      simp only [Bool.and_eq_true, decide_eq_true_eq] at h
      obtain ⟨x, rfl, r1⟩ := r.one
      exact .inr ⟨Frz ι st, x, z, rfl, r1, h.1.1.1, h.1.1.2, h.1.2, lim_ok h.2, fun _ => p.same R (.str _)⟩
    · exact .inl (opA_repr (W := W) ι st H xs _ Q R r p)
  · exact .inl (opA_repr (W := W) ι st H xs _ Q R r p)
end Fw
namespace Fw
open PySem PySem.Spec PyProof.Rows L2
def Out.Ok {α : Type} (x : Out α) (P : α → Sto → Prop) : Prop := match x with
  | .ok a s => P a s
  | _ => False
theorem Out.Ok.eq {α : Type} {x : Out α} {P : α → Sto → Prop} (h : x.Ok P) : ∃ a s, x = .ok a s ∧ P a s := by
  cases x with
  | ok a s => exact ⟨a, s, rfl, h⟩
  | _ => exact h.elim
theorem Out.Ok.mono {α : Type} {x : Out α} {P Q : α → Sto → Prop} (h : x.Ok P) (i : ∀ a s, P a s → Q a s) : x.Ok Q := by
  cases x with
  | ok a s => exact i a s h
  | _ => exact h
section
variable {α β : Type} {st : Sto} {env : Ev}
@[simp] theorem bOf_bool {b : Bool} : bOf (.v (.bool b)) = some b := rfl
@[simp] theorem low_v {n : Nat} {d : PyData} : (D.v d).low n = true := rfl
@[simp] theorem ok_ok {a : α} {P : α → Sto → Prop} : (Out.ok a st).Ok P ↔ P a st := Iff.rfl
@[simp] theorem ok_stuck {P : α → Sto → Prop} : (Out.stuck : Out α).Ok P ↔ False := Iff.rfl
theorem ok_bind {x : Out α} {f : α → Sto → Out β} {P : β → Sto → Prop} : (x.bind f).Ok P ↔ x.Ok fun a s => (f a s).Ok P := by cases x <;> exact Iff.rfl
@[simp] theorem ok_noX {x : Out α} {P : α → Sto → Prop} : x.noX.Ok P ↔ x.Ok P := by cases x <;> exact Iff.rfl
@[simp] theorem ok_var {i : Nat} {P : D → Sto → Prop} : (mVar i env st).Ok P ↔ ∃ d, env[i]? = some (some d) ∧ P d st := by
  unfold mVar
  constructor
  · intro h
    split at h
    · rename_i d e
      exact ⟨d, e, h⟩
    · exact h.elim
  · rintro ⟨d, e, h⟩
    rw [e]
    exact h
@[simp] theorem ok_C {d : PyData} {P : D → Sto → Prop} : (mC d env st).Ok P ↔ P (.v d) st := Iff.rfl
@[simp] theorem ok_un {f : F1} {a : ME} {P : D → Sto → Prop} : (mUn f a env st).Ok P ↔ (a env st).Ok fun x s => (f x s).Ok P := ok_bind
@[simp] theorem ok_bin {f : F2} {a b : ME} {P : D → Sto → Prop} : (mBin f a b env st).Ok P ↔ (a env st).Ok fun x s => (b env s).Ok fun y s2 => (f x y s2).Ok P := by
  unfold mBin
  simp only [ok_bind]
@[simp] theorem ok_arg {f : FA} {m : MA} {P : D → Sto → Prop} : (mArg f m env st).Ok P ↔ (m env st).Ok fun ds s => (f ds s).Ok P := ok_bind
@[simp] theorem ok_nil {P : List D → Sto → Prop} : (mNil env st).Ok P ↔ P [] st := Iff.rfl
@[simp] theorem ok_cons {a : ME} {m : MA} {P : List D → Sto → Prop} : (mCons a m env st).Ok P ↔ (a env st).Ok fun x s => (m env s).Ok fun ds s2 => P (x :: ds) s2 := by
  unfold mCons
  simp only [ok_bind, ok_ok]
@[simp] theorem ok_call {f : FF} {m : MA} {xs : List D} {P : D → Sto → Prop} : (mCall f m xs env st).Ok P ↔ (m env st).Ok fun ds s => (f (ds ++ xs) s).Ok P := ok_bind
@[simp] theorem ok_TB {m : ME} {P : Bool → Sto → Prop} : (mTB m env st).Ok P ↔ (m env st).Ok fun d s => ∃ k, bOf d = some k ∧ P k s := by
  unfold mTB
  rw [ok_bind]
  constructor
  · intro h
    refine h.mono fun d s q => ?_
    split at q
    · rename_i k e
      exact ⟨k, e, q⟩
    · exact q.elim
  · intro h
    refine h.mono fun d s ⟨k, e, q⟩ => ?_
    rw [e]
    exact q
@[simp] theorem ok_Tru {m : ME} {P : Bool → Sto → Prop} : (mTru' m env st).Ok P ↔ (m env st).Ok fun d s => ∃ k, truS' s d = some k ∧ P k s := by
  unfold mTru'
  rw [ok_bind]
  constructor
  · intro h
    refine h.mono fun d s q => ?_
    split at q
    · rename_i k e
      exact ⟨k, e, q⟩
    · exact q.elim
  · intro h
    refine h.mono fun d s ⟨k, e, q⟩ => ?_
    rw [e]
    exact q
@[simp] theorem ok_notT {t : MT} {P : Bool → Sto → Prop} : (mNotT t env st).Ok P ↔ (t env st).Ok fun k s => P (!k) s := by
  unfold mNotT
  simp only [ok_bind, ok_ok]
theorem ok_ite {c : Bool} {x y : Out α} {P : α → Sto → Prop} : (if c = true then x else y).Ok P ↔ (c = true → x.Ok P) ∧ (c = false → y.Ok P) := by
  cases c <;> simp
@[simp] theorem ok_andT {t u : MT} {P : Bool → Sto → Prop} : (mAndT t u env st).Ok P ↔ (t env st).Ok fun k s => (k = true → (u env s).Ok P) ∧ (k = false → P false s) := by
  unfold mAndT
  simp only [ok_bind, ok_ite, ok_ok]
@[simp] theorem ok_orT {t u : MT} {P : Bool → Sto → Prop} : (mOrT t u env st).Ok P ↔ (t env st).Ok fun k s => (k = true → P true s) ∧ (k = false → (u env s).Ok P) := by
  unfold mOrT
  simp only [ok_bind, ok_ite, ok_ok]
@[simp] theorem ok_andV {a b : ME} {P : D → Sto → Prop} : (mAndV a b env st).Ok P ↔ (a env st).Ok fun d s => ∃ k, truS' s d = some k ∧ (k = true → (b env s).Ok P) ∧ (k = false → P d s) := by
  unfold mAndV
  rw [ok_bind]
  constructor
  · intro h
    refine h.mono fun d s q => ?_
    cases e : truS' s d with
    | none => rw [e] at q; exact q.elim
    | some k =>
      rw [e] at q
      cases k with
      | true => exact ⟨true, rfl, fun _ => q, fun z => nomatch z⟩
      | false => exact ⟨false, rfl, (fun z => nomatch z), fun _ => q⟩
  · intro h
    refine h.mono fun d s ⟨k, e, q1, q2⟩ => ?_
    rw [e]
    cases k with
    | true => exact q1 rfl
    | false => exact q2 rfl
@[simp] theorem ok_orV {a b : ME} {P : D → Sto → Prop} : (mOrV a b env st).Ok P ↔ (a env st).Ok fun d s => ∃ k, truS' s d = some k ∧ (k = true → P d s) ∧ (k = false → (b env s).Ok P) := by
  unfold mOrV
  rw [ok_bind]
  constructor
  · intro h
    refine h.mono fun d s q => ?_
    cases e : truS' s d with
    | none => rw [e] at q; exact q.elim
    | some k =>
      rw [e] at q
      cases k with
      | true => exact ⟨true, rfl, fun _ => q, fun z => nomatch z⟩
      | false => exact ⟨false, rfl, (fun z => nomatch z), fun _ => q⟩
  · intro h
    refine h.mono fun d s ⟨k, e, q1, q2⟩ => ?_
    rw [e]
    cases k with
    | true => exact q1 rfl
    | false => exact q2 rfl
@[simp] theorem ok_notV {a : ME} {P : D → Sto → Prop} : (mNotV a env st).Ok P ↔ (a env st).Ok fun d s => ∃ k, truS' s d = some k ∧ P (.v (.bool (!k))) s := by
  unfold mNotV
  rw [ok_bind]
  constructor
  · intro h
    refine h.mono fun d s q => ?_
    split at q
    · rename_i k e
      exact ⟨k, e, q⟩
    · exact q.elim
  · intro h
    refine h.mono fun d s ⟨k, e, q⟩ => ?_
    rw [e]
    exact q
@[simp] theorem ok_iteE {t : MT} {a b : ME} {P : D → Sto → Prop} : (mIte t a b env st).Ok P ↔ (t env st).Ok fun k s => (k = true → (a env s).Ok P) ∧ (k = false → (b env s).Ok P) := by
  unfold mIte
  simp only [ok_bind, ok_ite]
@[simp] theorem ok_frz {m : MF} {P : D → Sto → Prop} : (mFrz m env st).Ok P ↔ (m env st).Ok fun zs s => P (.v (.list zs)) s := by
  unfold mFrz
  simp only [ok_bind, ok_ok]
@[simp] theorem ok_new {m : MF} {P : D → Sto → Prop} : (mNew m env st).Ok P ↔ (m env st).Ok fun zs s => P (.ref s.length) (s ++ [.lst zs]) := by
  unfold mNew
  simp only [ok_bind, ok_ok]
@[simp] theorem ok_mfArg {f : GA} {m : MA} {P : List PyData → Sto → Prop} : (mfArg f m env st).Ok P ↔ (m env st).Ok fun ds s => (f ds s).Ok P := ok_bind
@[simp] theorem ok_mfBin {f : D → D → Sto → Out (List PyData)} {a b : ME} {P : List PyData → Sto → Prop} : (mfBin f a b env st).Ok P ↔ (a env st).Ok fun x s => (b env s).Ok fun y s2 => (f x y s2).Ok P := by
  unfold mfBin
  simp only [ok_bind]
@[simp] theorem ok_lc {mi : MI} {g : MG} {t : MT} {m : ME} {own : List Nat} {P : List PyData → Sto → Prop} : (mLc mi g t m own env st).Ok P ↔ (mi env st).Ok fun r s => (lcL r.2 g t m (wipeE env own) r.1 s).Ok P := ok_bind
@[simp] theorem ok_M {f : FM} {o : ME} {m : MA} {P : D → Sto → Prop} : (mM f o m env st).Ok P ↔ (o env st).Ok fun x s => isL s x = true ∧ (m env s).Ok fun ds s2 => (f x ds s2).Ok P := by
  unfold mM
  rw [ok_bind]
  constructor
  · intro h
    refine h.mono fun d s q => ?_
    split at q
    · rename_i e
      exact ⟨e, ok_bind.mp q⟩
    · exact q.elim
  · intro h
    refine h.mono fun d s ⟨e, q⟩ => ?_
    rw [if_pos e]
    exact ok_bind.mpr q
@[simp] theorem ok_M0 {f : FM} {o : ME} {P : D → Sto → Prop} : (mM0 f o env st).Ok P ↔ (o env st).Ok fun x s => isL s x = true ∧ (f x [] s).Ok P := by
  unfold mM0
  rw [ok_bind]
  constructor
  · intro h
    refine h.mono fun d s q => ?_
    split at q
    · rename_i e
      exact ⟨e, q⟩
    · exact q.elim
  · intro h
    refine h.mono fun d s ⟨e, q⟩ => ?_
    rw [if_pos e]
    exact q
@[simp] theorem ok_moNone {P : Option Int → Sto → Prop} : (moNone env st).Ok P ↔ P none st := Iff.rfl
@[simp] theorem ok_moSome {m : ME} {P : Option Int → Sto → Prop} : (moSome m env st).Ok P ↔ (m env st).Ok fun d s => ∃ i, iOf d = some i ∧ P (some i) s := by
  unfold moSome
  rw [ok_bind]
  constructor
  · intro h
    refine h.mono fun d s q => ?_
    split at q
    · rename_i k e
      exact ⟨k, e, q⟩
    · exact q.elim
  · intro h
    refine h.mono fun d s ⟨k, e, q⟩ => ?_
    rw [e]
    exact q
@[simp] theorem ok_Sl {m : ME} {lo hi : MO} {P : D → Sto → Prop} : (mSl m lo hi env st).Ok P ↔ (m env st).Ok fun a s => (lo env s).Ok fun l s2 => (hi env s2).Ok fun h s3 => (slD a l h s3).Ok P := by
  unfold mSl
  simp only [ok_bind]
end
theorem lcL_inv {w : Wt} {g : MG} {t : MT} {m : ME} {env0 : Ev} {P : List PyData → Sto → Prop} (I : Nat → List PyData → Sto → Prop) : ∀ (ds : List Itm) (st : Sto) (n : Nat) (acc : List PyData),
    (∀ i d acc s, ds[i]? = some d → I (n + i) acc s → chk w s ∧ (g d env0 s).Ok fun e1 s1 => (t e1 s1).Ok fun k s2 => (k = true → (m e1 s2).Ok fun v s3 => ∃ z, v = .v z ∧ I (n + i + 1) (acc ++ [z]) s3) ∧ (k = false → I (n + i + 1) acc s2)) →
    (∀ acc s, I (n + ds.length) acc s → chk w s ∧ P acc s) → I n acc st → (lcL w g t m env0 ds st).Ok fun zs s => P (acc ++ zs) s
  | [], st, n, acc, _, hE, h => by
    obtain ⟨hc, q⟩ := hE acc st h
    unfold lcL
    rw [if_pos hc]
    show P (acc ++ []) st
    rw [List.append_nil]
    exact q
  | d :: r, st, n, acc, hS, hE, h => by
    obtain ⟨hc, q⟩ := hS 0 d acc st rfl h
    unfold lcL
    rw [if_pos hc]
    rw [ok_bind, ok_noX]
    refine q.mono fun e1 s1 q => ?_
    rw [ok_bind, ok_noX]
    refine q.mono fun k s2 q => ?_
    have rest : ∀ acc' s', I (n + 0 + 1) acc' s' → (lcL w g t m env0 r s').Ok fun zs s => P (acc' ++ zs) s := fun acc' s' h' =>
      lcL_inv I r s' (n + 1) acc' (fun i d acc s hd hi => by
        have z := hS (i + 1) d acc s hd (by rw [show n + (i + 1) = n + 1 + i by omega]; exact hi)
        rw [show n + (i + 1) = n + 1 + i by omega] at z
        exact z) (fun acc s hi => hE acc s (by rw [List.length_cons, show n + (r.length + 1) = n + 1 + r.length by omega]; exact hi)) h'
    cases k with
    | true =>
      rw [if_pos rfl, ok_bind, ok_noX]
      refine (q.1 rfl).mono fun v s3 ⟨z, e, hi⟩ => ?_
      subst e
      show (Out.bind _ _).Ok _
      rw [ok_bind]
      refine (rest _ _ hi).mono fun zs s q => ?_
      show P (acc ++ z :: zs) s
      rw [List.append_assoc] at q
      exact q
    | false =>
      rw [if_neg Bool.false_ne_true]
      exact rest _ _ (q.2 rfl)
theorem lcL_map {g : MG} {t : MT} {m : ME} {env0 : Ev} {st : Sto} (F : Itm → Option PyData) : ∀ (ds : List Itm),
    (∀ d ∈ ds, (g d env0 st).Ok fun e1 s1 => s1 = st ∧ (t e1 st).Ok fun k s2 => s2 = st ∧ (k = true → (m e1 st).Ok fun v s3 => s3 = st ∧ ∃ z, v = .v z ∧ F d = some z) ∧ (k = false → F d = none)) →
    lcL none g t m env0 ds st = .ok (ds.filterMap F) st
  | [], _ => by
    unfold lcL
    rw [if_pos (show chk none st from trivial)]
    rfl
  | d :: r, h => by
    have ih := lcL_map F r fun d hd => h d (List.mem_cons_of_mem _ hd)
    obtain ⟨e1, s1, eg, rfl, q⟩ := (h d List.mem_cons_self).eq
    obtain ⟨k, s2, et, rfl, q1, q2⟩ := q.eq
    unfold lcL
    rw [if_pos (show chk none s2 from trivial), eg, noX_ok, bind_ok, et, noX_ok, bind_ok]
    cases k with
    | true =>
      obtain ⟨v, s3, em, rfl, z, rfl, ez⟩ := (q1 rfl).eq
      rw [if_pos rfl, em, noX_ok, bind_ok]
      show (lcL none g t m env0 r s3).bind _ = _
      rw [ih, bind_ok, List.filterMap_cons, ez]
    | false =>
      rw [if_neg Bool.false_ne_true, ih, List.filterMap_cons, q2 rfl]
def P1i (ds : List D) (f : Int → Prop) : Prop := match ds with
  | [.v (.int j)] => f j
  | _ => False
def P2 (ds : List D) (f : D → D → Prop) : Prop := match ds with
  | [a, b] => f a b
  | _ => False
def P3' (ds : List D) (f : D → D → D → Prop) : Prop := match ds with
  | [a, b, c] => f a b c
  | _ => False
@[simp] theorem p1i_int {j : Int} {f : Int → Prop} : P1i [.v (.int j)] f ↔ f j := Iff.rfl
@[simp] theorem p2_two {a b : D} {f : D → D → Prop} : P2 [a, b] f ↔ f a b := Iff.rfl
@[simp] theorem p3_three {a b c : D} {f : D → D → D → Prop} : P3' [a, b, c] f ↔ f a b c := Iff.rfl
def SO.Ok (x : SO) (N : Ev → Sto → Prop) (T : D → Sto → Prop) : Prop := match x with
  | .nx e s => N e s
  | .rt d s => T d s
  | _ => False
theorem SO.Ok.mono {x : SO} {N N' : Ev → Sto → Prop} {T T' : D → Sto → Prop} (h : x.Ok N T) (hN : ∀ e s, N e s → N' e s) (hT : ∀ d s, T d s → T' d s) : x.Ok N' T' := by
  cases x with
  | nx e s => exact hN e s h
  | rt d s => exact hT d s h
  | _ => exact h
theorem so_to {x : SO} {N : Ev → Sto → Prop} {T : D → Sto → Prop} (M : Ev → Sto → Prop) (h : x.Ok M T) (k : ∀ e s, M e s → N e s) : x.Ok N T := h.mono k fun _ _ z => z
section
variable {N : Ev → Sto → Prop} {T : D → Sto → Prop} {env : Ev} {st : Sto}
theorem so_thn {α : Type} {x : Out α} {f : α → Sto → SO} : (x.thn f).Ok N T ↔ x.Ok fun a s => (f a s).Ok N T := by cases x <;> exact Iff.rfl
@[simp] theorem so_nx {e : Ev} {s : Sto} : (SO.nx e s).Ok N T ↔ N e s := Iff.rfl
@[simp] theorem so_rt {d : D} {s : Sto} : (SO.rt d s).Ok N T ↔ T d s := Iff.rfl
@[simp] theorem so_seq {a b : MS} : (sSeq a b env st).Ok N T ↔ (a env st).Ok (fun e s => (b e s).Ok N T) T := by
  unfold sSeq
  cases a env st <;> exact Iff.rfl
@[simp] theorem so_nil : (sNil env st).Ok N T ↔ N env st := Iff.rfl
@[simp] theorem so_ret {m : ME} : (sRet m env st).Ok N T ↔ (m env st).Ok T := by
  unfold sRet
  rw [so_thn]
  exact Iff.rfl
@[simp] theorem so_retN : (sRetN env st).Ok N T ↔ T (.v .none) st := Iff.rfl
@[simp] theorem so_exp {m : ME} : (sExp m env st).Ok N T ↔ (m env st).Ok fun _ s => N env s := by
  unfold sExp
  rw [so_thn]
  exact Iff.rfl
theorem so_ite {c : Bool} {x y : SO} : (if c = true then x else y).Ok N T ↔ (c = true → x.Ok N T) ∧ (c = false → y.Ok N T) := by cases c <;> simp
@[simp] theorem so_if {t : MT} {a b : MS} : (sIf t a b env st).Ok N T ↔ (t env st).Ok fun k s => (k = true → (a env s).Ok N T) ∧ (k = false → (b env s).Ok N T) := by
  unfold sIf
  simp only [so_thn, so_ite]
@[simp] theorem so_asg {m : ME} {i : Nat} : (sAsg m (gNm i) env st).Ok N T ↔ (m env st).Ok fun d s => N (env.set i (some d)) s := by
  unfold sAsg
  simp only [so_thn]
  exact Iff.rfl
@[simp] theorem so_asgG {m : ME} {n : Nat} {gs : MGs} : (sAsg m (gTp n gs) env st).Ok N T ↔ (m env st).Ok fun d s => (gTp n gs (.one d) env s).Ok fun e1 s1 => N e1 s1 := by
  unfold sAsg
  simp only [so_thn]
  exact Iff.rfl
@[simp] theorem so_par2 {i j : Nat} {m : MA} : (sPar2 i j m env st).Ok N T ↔ (m env st).Ok fun ds s => P2 ds fun a b => N ((env.set i (some a)).set j (some b)) s := by
  unfold sPar2
  rw [so_thn]
  constructor
  · intro h
    refine h.mono fun ds s q => ?_
    split at q
    · exact q
    · exact q.elim
  · intro h
    refine h.mono fun ds s q => ?_
    unfold P2 at q
    split at q
    · exact q
    · exact q.elim
@[simp] theorem so_par3 {i j l : Nat} {m : MA} : (sPar3 i j l m env st).Ok N T ↔ (m env st).Ok fun ds s => P3' ds fun a b c => N (((env.set i (some a)).set j (some b)).set l (some c)) s := by
  unfold sPar3
  rw [so_thn]
  constructor
  · intro h
    refine h.mono fun ds s q => ?_
    split at q
    · exact q
    · exact q.elim
  · intro h
    refine h.mono fun ds s q => ?_
    unfold P3' at q
    split at q
    · exact q
    · exact q.elim
@[simp] theorem so_asgT {n : Nat} {m : MA} {gs : MGs} : (sAsgT n m gs env st).Ok N T ↔ (m env st).Ok fun ds s => (ds.length = n ∧ n ≤ 1000) ∧ (gs ds env s).Ok fun e1 s1 => N e1 s1 := by
  unfold sAsgT
  rw [so_thn]
  constructor
  · intro h
    refine h.mono fun ds s q => ?_
    split at q
    · rename_i e
      exact ⟨e, so_thn.mp q⟩
    · exact q.elim
  · intro h
    refine h.mono fun ds s ⟨e, q⟩ => ?_
    rw [if_pos e]
    exact so_thn.mpr q
@[simp] theorem so_sub {m o i : ME} : (sSub m o i env st).Ok N T ↔ (m env st).Ok fun d s1 => (o env s1).Ok fun x s2 => (i env s2).Ok fun y s3 => (setU x y d s3).Ok fun _ s4 => N env s4 := by
  unfold sSub
  simp only [so_thn]
  exact Iff.rfl
@[simp] theorem so_for {mi : MI} {g : MG} {b : MS} : (sFor mi g b env st).Ok N T ↔ (mi env st).Ok fun r s => (forL r.2 g b r.1 env s).Ok N T := by
  unfold sFor
  rw [so_thn]
end
theorem forL_inv {w : Wt} {g : MG} {b : MS} {N : Ev → Sto → Prop} {T : D → Sto → Prop} (I : Nat → Ev → Sto → Prop) : ∀ (ds : List Itm) (env : Ev) (st : Sto) (n : Nat),
    (∀ i d e s, ds[i]? = some d → I (n + i) e s → chk w s ∧ (g d e s).Ok fun e1 s1 => (b e1 s1).Ok (fun e2 s2 => I (n + i + 1) e2 s2) T) → (∀ e s, I (n + ds.length) e s → chk w s ∧ N e s) → I n env st → (forL w g b ds env st).Ok N T
  | [], env, st, n, _, hE, h => by
    obtain ⟨hc, q⟩ := hE env st h
    unfold forL
    rw [if_pos hc]
    exact q
  | d :: r, env, st, n, hS, hE, h => by
    obtain ⟨hc, q⟩ := hS 0 d env st rfl h
    unfold forL
    rw [if_pos hc, so_thn]
    refine q.mono fun e1 s1 q => ?_
    cases eb : b e1 s1 with
    | nx e2 s2 =>
      rw [eb] at q
      refine forL_inv I r e2 s2 (n + 1) (fun i d e s hd hi => ?_) (fun e s hi => hE e s (by rw [List.length_cons, show n + (r.length + 1) = n + 1 + r.length by omega]; exact hi)) q
      have z := hS (i + 1) d e s hd (by rw [show n + (i + 1) = n + 1 + i by omega]; exact hi)
      rw [show n + (i + 1) = n + 1 + i by omega] at z
      exact z
    | rt d2 s2 => rw [eb] at q; exact q
    | _ => rw [eb] at q; exact q.elim
theorem whileL_inv {t : MT} {b : MS} {N : Ev → Sto → Prop} {T : D → Sto → Prop} (I : Nat → Ev → Sto → Prop)
    (hS : ∀ k e s, I k e s → (t e s).Ok fun c s1 => (c = true → (b e s1).Ok (fun e2 s2 => ∃ j, j < k ∧ I j e2 s2) T) ∧ (c = false → N e s1)) : ∀ (n k : Nat) (env : Ev) (st : Sto), k < n → I k env st → (whileL t b n env st).Ok N T
  | 0, k, env, st, hk, _ => absurd hk (Nat.not_lt_zero _)
  | n + 1, k, env, st, hk, h => by
    unfold whileL
    rw [so_thn]
    refine (hS k env st h).mono fun c s1 q => ?_
    cases c with
    | false => exact q.2 rfl
    | true =>
      rw [if_pos rfl]
      have q := q.1 rfl
      cases eb : b env s1 with
      | nx e2 s2 =>
        rw [eb] at q
        obtain ⟨j, hj, hi⟩ := q
        exact whileL_inv I hS n j e2 s2 (by omega) hi
      | rt d2 s2 => rw [eb] at q; exact q
      | _ => rw [eb] at q; exact q.elim
theorem fnT_ok {nN : Nat} {m : MS} {ds : List D} {st : Sto} {P : D → Sto → Prop} (h : (m (envE nN ds) st).Ok (fun _ s => P (.v .none) (s.take st.length)) (fun d s => d.low st.length = true ∧ P d (s.take st.length))) : (fnT nN m ds st).Ok P := by
  unfold fnT
  cases e : m (envE nN ds) st with
  | nx e1 s => rw [e] at h; exact h
  | rt d s =>
    rw [e] at h
    show (if d.low st.length then Out.ok d (s.take st.length) else .stuck).Ok P
    rw [if_pos h.1]
    exact h.2
  | _ => rw [e] at h; exact h.elim
theorem fnK_ok {nN : Nat} {m : MS} {ds : List D} {st : Sto} {P : D → Sto → Prop} (h : (m (envE nN ds) st).Ok (fun _ s => P (.v .none) s) (fun d s => P d s)) : (fnK nN m ds st).Ok P := by
  unfold fnK
  cases e : m (envE nN ds) st with
  | nx e1 s => rw [e] at h; exact h
  | rt d s => rw [e] at h; exact h
  | _ => rw [e] at h; exact h.elim
theorem Out.Ok.is {α : Type} {x : Out α} {a : α} {s : Sto} (h : x.Ok fun b t => b = a ∧ t = s) : x = .ok a s := by
  obtain ⟨b, t, e, rfl, rfl⟩ := h.eq
  exact e
section
variable {i j : Int} {a b : Bool} {st : Sto} {xs ys : List PyData} {d : PyData} {x y : Str}
theorem iOf_eq {a : D} {k : Int} (h : iOf a = some k) : a = .v (.int k) := by
  cases a with
  | v z =>
    cases z with
    | int j => cases h; rfl
    | _ => cases h
  | _ => cases h
@[simp] theorem iOf_int : iOf (.v (.int i)) = some i := rfl
@[simp] theorem addD_int : addD (.v (.int i)) (.v (.int j)) st = .ok (.v (.int (i + j))) st := rfl
@[simp] theorem subD_int : subD (.v (.int i)) (.v (.int j)) st = .ok (.v (.int (i - j))) st := rfl
@[simp] theorem negD_int : negD (.v (.int i)) st = .ok (.v (.int (-i))) st := rfl
@[simp] theorem ltD_int : ltD (.v (.int i)) (.v (.int j)) st = .ok (.v (.bool (decide (i < j)))) st := rfl
@[simp] theorem leD_int : leD (.v (.int i)) (.v (.int j)) st = .ok (.v (.bool (decide (i ≤ j)))) st := rfl
@[simp] theorem gtD_int : gtD (.v (.int i)) (.v (.int j)) st = .ok (.v (.bool (decide (i > j)))) st := rfl
@[simp] theorem geD_int : geD (.v (.int i)) (.v (.int j)) st = .ok (.v (.bool (decide (i ≥ j)))) st := rfl
theorem mulD_int (h : cMul i j = true) : mulD (.v (.int i)) (.v (.int j)) st = .ok (.v (.int (i * j))) st := by
  show (if cMul i j then _ else _) = _
  rw [if_pos h]
theorem mulD_r (h : -(2 ^ 64) < j ∧ j < 2 ^ 64) : mulD (.v (.int i)) (.v (.int j)) st = .ok (.v (.int (i * j))) st := mulD_int (by
  unfold cMul
  simp only [Bool.or_eq_true, Bool.and_eq_true, decide_eq_true_eq]
  exact .inr h)
theorem mulD_l (h : -(2 ^ 64) < i ∧ i < 2 ^ 64) : mulD (.v (.int i)) (.v (.int j)) st = .ok (.v (.int (i * j))) st := mulD_int (by
  unfold cMul
  simp only [Bool.or_eq_true, Bool.and_eq_true, decide_eq_true_eq]
  exact .inl h)
theorem fdivD_int (h : 0 < j) (h2 : j < 1073741824) : fdivD (.v (.int i)) (.v (.int j)) st = .ok (.v (.int (i / j))) st := by
  show (if cDiv i j then _ else _) = _
  have e : cDiv i j = true := by
    unfold cDiv
    simp only [Bool.and_eq_true, decide_eq_true_eq]
    exact ⟨by omega, by omega⟩
  rw [if_pos e]
  show Out.ok (D.v (.int (i.fdiv j))) st = _
  rw [Int.fdiv_eq_ediv_of_nonneg _ (by omega)]
theorem modD_int (h : 0 < j) : modD (.v (.int i)) (.v (.int j)) st = .ok (.v (.int (i % j))) st := by
  show (if decide (j ≠ 0) then _ else _) = _
  rw [if_pos (decide_eq_true (by omega))]
  show Out.ok (D.v (.int (i.fmod j))) st = _
  rw [Int.fmod_eq_emod_of_nonneg _ (by omega)]
@[simp] theorem isD_bool : isD (.v (.bool a)) (.v (.bool b)) st = .ok (.v (.bool (decide (a = b)))) st := rfl
@[simp] theorem isNotD_bool : isNotD (.v (.bool a)) (.v (.bool b)) st = .ok (.v (.bool (!decide (a = b)))) st := rfl
@[simp] theorem tru_bool : truS' st (.v (.bool b)) = some b := rfl
@[simp] theorem fInt_int : fInt [.v (.int i)] st = .ok (.v (.int i)) st := rfl
theorem fAbs_int : fAbs [.v (.int i)] st = .ok (.v (.int i.natAbs)) st := by
  show Out.ok (D.v (.int (if i < 0 then -i else i))) st = _
  congr 3
  split <;> omega
@[simp] theorem len_tup : fLen [.v (.tuple xs)] st = .ok (.v (.int xs.length)) st := rfl
theorem len_of {a : D} (h : viewS st a = some xs) : fLen [a] st = .ok (.v (.int xs.length)) st := by
  show (match viewS st a with
    | some xs => _
    | none => _) = _
  rw [h]
theorem list_of {a : D} (h : viewS st a = some xs) : gList [a] st = .ok xs st := by
  show (match viewS st a with
    | some xs => _
    | none => _) = _
  rw [h]
@[simp] theorem viewS_list : viewS st (.v (.list xs)) = some xs := rfl
@[simp] theorem tup_list : fTuple [.v (.list xs)] st = .ok (.v (.tuple xs)) st := rfl
theorem viewS_ref {n : Nat} (h : st[n]? = some (.lst xs)) : viewS st (.ref n) = some xs := by
  show (match st[n]? with
    | some (.lst xs) => some xs
    | _ => none) = _
  rw [h]
theorem isL_ref {n : Nat} (h : st[n]? = some (.lst xs)) : isL st (.ref n) = true := by
  show (match st[n]? with
    | some (.lst xs) => some xs
    | _ => none).isSome = _
  rw [h]
  rfl
theorem lAt_ref {n : Nat} (h : st[n]? = some (.lst xs)) : lAt st (.ref n) = some (n, xs) := by
  show (match st[n]? with
    | some (.lst zs) => some (n, zs)
    | _ => none) = _
  rw [h]
theorem tup_of {n : Nat} (h : st[n]? = some (.lst xs)) : fTuple [.ref n] st = .ok (.v (.tuple xs)) st := by
  show (match viewL st (.ref n) with
    | some xs => _
    | none => _) = _
  have e : viewL st (.ref n) = some xs := viewS_ref h
  rw [e]
theorem seqIndex_nat {n k : Nat} (h : k < n) : seqIndex? (k : Int) n = some k := by
  unfold seqIndex?
  have h1 : ¬ (k : Int) < 0 := by omega
  simp only [if_neg h1]
  rw [if_pos (by simp; omega)]
  simp
theorem atI_nat {α : Type} {xs : List α} {k : Nat} : atI xs (k : Int) = xs[k]? := by
  unfold atI ixN
  rw [if_pos (by omega)]
  by_cases h : k < xs.length
  · rw [if_pos (by omega)]
    simp
  · rw [if_neg (by omega), List.getElem?_eq_none (by omega)]
    rfl
theorem pop_at {n k : Nat} (h : st[n]? = some (.lst xs)) (hk : k < xs.length) (hl : xs.length ≤ 1000000) : fmPopAt (.ref n) [.v (.int k)] st = .ok (.v xs[k]) (st.set n (.lst (xs.eraseIdx k))) := by
  unfold fmPopAt
  rw [lAt_ref h]
  show (if -1000000 ≤ (k : Int) ∧ (k : Int) ≤ 1000000 then _ else _) = _
  rw [if_pos (by omega), seqIndex_nat hk]
  show (match xs[k]? with
    | some d => _
    | none => _) = _
  rw [List.getElem?_eq_getElem hk]
theorem append_at {n : Nat} (h : st[n]? = some (.lst xs)) (hl : xs.length < 1000000) : fmAppend (.ref n) [.v d] st = .ok (.v .none) (st.set n (.lst (xs ++ [d]))) := by
  unfold fmAppend
  rw [lAt_ref h]
  show (if xs.length < lim then _ else _) = _
  rw [if_pos (show xs.length < lim from hl)]
theorem sub_of {a : D} {k : Nat} (hv : viewK st a = none) (h : viewS st a = some xs) (hk : xs[k]? = some d) : subsD a (.v (.int k)) st = .ok (.v d) st := by
  unfold subsD
  rw [hv]
  show ixD a _ st = _
  unfold ixD
  rw [h]
  show (match atI xs (k : Int) with
    | some d => _
    | none => _) = _
  rw [atI_nat, hk]
theorem sub_list {k : Nat} (hk : xs[k]? = some d) : subsD (.v (.list xs)) (.v (.int k)) st = .ok (.v d) st := sub_of rfl rfl hk
theorem sub_tup {k : Nat} (hk : xs[k]? = some d) : subsD (.v (.tuple xs)) (.v (.int k)) st = .ok (.v d) st := sub_of rfl rfl hk
theorem set_ref {n k : Nat} (h : st[n]? = some (.lst xs)) (hk : k < xs.length) : setU (.ref n) (.v (.int k)) (.v d) st = .ok () (st.set n (.lst (xs.set k d))) := by
  unfold setU
  rw [lAt_ref h]
  show (match ixN xs.length (k : Int) with
    | some j => _
    | none => _) = _
  have e : ixN xs.length (k : Int) = some k := by
    unfold ixN
    rw [if_pos (by omega), if_pos (by omega)]
    simp
  rw [e]
end
section
variable {m : MA} {me : ME} {env : Ev} {st : Sto} {P : List Itm × Wt → Sto → Prop} {xs ys : List PyData}
theorem ok_R1 : (miR1 m env st).Ok P ↔ (m env st).Ok fun ds s => P1i ds fun j => (-1000000 ≤ j ∧ j ≤ 1000000) ∧ P (rngI 0 j.toNat, none) s := by
  unfold miR1
  rw [ok_bind]
  constructor
  · intro h
    refine h.mono fun ds s q => ?_
    split at q
    · split at q
      · rename_i j e
        split at q
        · rename_i hb
          have ed := (iOf_eq e)
          subst ed
          exact ⟨hb, q⟩
        · exact q.elim
      · exact q.elim
    · exact q.elim
  · intro h
    refine h.mono fun ds s q => ?_
    unfold P1i at q
    split at q
    · rename_i j
      show (if -1000000 ≤ j ∧ j ≤ 1000000 then Out.ok (rngI 0 j.toNat, none) s else .stuck).Ok P
      rw [if_pos q.1]
      exact q.2
    · exact q.elim
def seqW (d : D) (s1 : Sto) : Out (List Itm × Wt) := match d with
  | .scr ns => .ok (ns.map fun n => .one (.v (.int n)), none) s1
  | d => match seqI s1 d with
    | some (zs, w) => .ok (zs.map fun z => .one (.v z), w) s1
    | none => .stuck
theorem ok_seq : (miSeq me env st).Ok P ↔ (me env st).Ok fun d s => (seqW d s).Ok P := ok_bind
@[simp] theorem seqW_list : seqW (.v (.list xs)) st = .ok (xs.map fun z => .one (.v z), none) st := rfl
@[simp] theorem seqW_tup : seqW (.v (.tuple xs)) st = .ok (xs.map fun z => .one (.v z), none) st := rfl
@[simp] theorem seqW_scr {ns : List Int} : seqW (.scr ns) st = .ok (ns.map fun n => .one (.v (.int n)), none) st := rfl
@[simp] theorem ok_gMore {g : MG} {r : MGs} {d : D} {t : List D} {P : Ev → Sto → Prop} : (gMore g r (d :: t) env st).Ok P ↔ (g (.one d) env st).Ok fun e1 s1 => (r t e1 s1).Ok P := ok_bind
@[simp] theorem ok_gNone {P : Ev → Sto → Prop} : (gNone [] env st).Ok P ↔ P env st := Iff.rfl
@[simp] theorem ok_gNm {i : Nat} {d : D} {P : Ev → Sto → Prop} : (gNm i (.one d) env st).Ok P ↔ P (env.set i (some d)) st := Iff.rfl
end
end Fw
namespace Fw
open PySem PySem.Spec PyProof.Rows L2
structure Src where
  stk : List Int
  left : Int
  mixed : Int
  turn : Int
def Src.o (s : Src) : O := .dct false [(.str "cells", .ref 0), (.str "left", .v (.int s.left)), (.str "mixed", .v (.int s.mixed)), (.str "turn", .v (.int s.turn))]
def Src.sto (s : Src) (rest : Sto) : Sto := .lst (s.stk.reverse.map .int) :: s.o :: rest
section
variable {s : Src} {rest : Sto} {x : Int}
@[simp] theorem src_cells : subsD (.ref 1) (.v (.str "cells")) (s.sto rest) = .ok (.ref 0) (s.sto rest) := by rfl
@[simp] theorem src_left : subsD (.ref 1) (.v (.str "left")) (s.sto rest) = .ok (.v (.int s.left)) (s.sto rest) := by rfl
@[simp] theorem src_mixed : subsD (.ref 1) (.v (.str "mixed")) (s.sto rest) = .ok (.v (.int s.mixed)) (s.sto rest) := by rfl
@[simp] theorem src_turn : subsD (.ref 1) (.v (.str "turn")) (s.sto rest) = .ok (.v (.int s.turn)) (s.sto rest) := by rfl
@[simp] theorem set_left : setU (.ref 1) (.v (.str "left")) (.v (.int x)) (s.sto rest) = .ok () (({ s with left := x } : Src).sto rest) := by rfl
@[simp] theorem set_turn : setU (.ref 1) (.v (.str "turn")) (.v (.int x)) (s.sto rest) = .ok () (({ s with turn := x } : Src).sto rest) := by rfl
@[simp] theorem src_len : fLen [.ref 0] (s.sto rest) = .ok (.v (.int s.stk.length)) (s.sto rest) := by
  show Out.ok (D.v (.int ((s.stk.reverse.map PyData.int).length))) (s.sto rest) = _
  rw [List.length_map, List.length_reverse]
@[simp] theorem src_isL : isL (s.sto rest) (.ref 0) = true := rfl
theorem src_pop {c : Int} {r : List Int} (h : s.stk = c :: r) : fmPop (.ref 0) [] (s.sto rest) = .ok (.v (.int c)) (({ s with stk := r } : Src).sto rest) := by
  obtain ⟨k, l, m, t⟩ := s
  simp only at h
  subst h
  show fmPop (.ref 0) [] (.lst ((c :: r).reverse.map .int) :: _ :: rest) = _
  unfold fmPop
  show (match ((c :: r).reverse.map PyData.int)[((c :: r).reverse.map PyData.int).length - 1]? with
    | some d => _
    | none => _) = _
  rw [show ((c :: r).reverse.map PyData.int) = r.reverse.map PyData.int ++ [.int c] by simp]
  rw [List.length_append, List.length_singleton, Nat.add_sub_cancel, List.getElem?_append_right (Nat.le_refl _), Nat.sub_self]
  show Out.ok _ _ = _
  simp only [List.dropLast_concat]
  rfl
end
def Src.ok (s : Src) : Prop := s.stk.length < 1000000
def Pick (f : FF) : Prop := ∀ (s : Src) (rest : Sto) (m : Int), m < 1073741824 → s.ok → (f [.ref 1, .v (.int m)] (s.sto rest)).Ok fun d st => ∃ (r : Int) (s' : Src), d = .v (.int r) ∧ st = s'.sto rest ∧ s'.ok ∧ 0 ≤ r ∧ (1 ≤ m → r < m) ∧ (m ≤ 0 → r = 0)
theorem take_sto {s : Src} {s0 : Src} {rest : Sto} : (s.sto rest).take (s0.sto rest).length = s.sto rest := List.take_length (l := s.sto rest)
end Fw
namespace Fw.LA
open PySem PySem.Spec PyProof.Rows L2 Fw
noncomputable def law_pick_T1 : MT := (mAndT (mTB (mBin ltD (mBin subsD (mVar 0) (mC (.str "left"))) (mC (.int 2)))) (mTB (mBin gtD (mArg fLen (mCons (mVar 2) mNil)) (mC (.int 0)))))
noncomputable def law_pick_B1 : MS := (sSub (mM0 fmPop (mVar 2)) (mVar 0) (mC (.str "left")))
noncomputable def S_law_pick_10 : MS := (sRet (mBin modD (mArg fInt (mCons (mBin fdivD (mVar 5) (mC (.int 16))) mNil)) (mVar 1)))
noncomputable def S_law_pick_9 : MS := (sSeq (sAsg (mBin modD (mArg fInt (mCons (mBin addD (mBin mulD (mVar 5) (mVar 5)) (mBin mulD (mVar 4) (mC (.int 17)))) mNil)) (mC (.int 2147483647))) (gNm 5)) S_law_pick_10)
noncomputable def S_law_pick_8 : MS := (sSeq (sAsg (mBin modD (mArg fInt (mCons (mBin addD (mBin subsD (mVar 0) (mC (.str "mixed"))) (mBin mulD (mVar 4) (mC (.int 104729)))) mNil)) (mC (.int 998244353))) (gNm 5)) S_law_pick_9)
noncomputable def S_law_pick_7 : MS := (sSeq (sAsg (mBin subsD (mVar 0) (mC (.str "turn"))) (gNm 4)) S_law_pick_8)
noncomputable def S_law_pick_6 : MS := (sSeq (sSub (mBin addD (mBin subsD (mVar 0) (mC (.str "turn"))) (mC (.int 1))) (mVar 0) (mC (.str "turn"))) S_law_pick_7)
noncomputable def S_law_pick_5 : MS := (sSeq (sIf (mTB (mBin gtD (mVar 3) (mC (.int 1)))) (sSeq (sSub (mBin fdivD (mVar 3) (mVar 1)) (mVar 0) (mC (.str "left"))) (sRet (mBin modD (mArg fInt (mCons (mVar 3) mNil)) (mVar 1)))) sNil) S_law_pick_6)
noncomputable def S_law_pick_4 : MS := (sSeq (sAsg (mBin subsD (mVar 0) (mC (.str "left"))) (gNm 3)) S_law_pick_5)
noncomputable def S_law_pick_3 : MS := (sSeq (whileL law_pick_T1 law_pick_B1 1000000) S_law_pick_4)
noncomputable def S_law_pick_2 : MS := (sSeq (sAsg (mBin subsD (mVar 0) (mC (.str "cells"))) (gNm 2)) S_law_pick_3)
noncomputable def S_law_pick : MS := (sSeq (sIf (mTB (mBin ltD (mVar 1) (mC (.int 2)))) (sRet (mC (.int 0))) sNil) S_law_pick_2)
noncomputable def f_law_pick : FF := fnT 6 S_law_pick
noncomputable def law_open_cells_E1 : MI := (miSeq (mVar 0))
noncomputable def law_open_cells_G1 : MG := (gNm 2)
noncomputable def law_open_cells_B1 : MS := (sAsg (mBin modD (mArg fInt (mCons (mBin addD (mBin addD (mBin mulD (mVar 1) (mC (.int 69069))) (mBin mulD (mVar 2) (mC (.int 31)))) (mC (.int 5))) mNil)) (mC (.int 2147483629))) (gNm 1))
noncomputable def law_open_cells_E2 : MI := (miSeq (mVar 0))
noncomputable def law_open_cells_G2 : MG := (gNm 2)
noncomputable def law_open_cells_T1 : MT := mYes
noncomputable def law_open_cells_M1 : ME := (mArg fAbs (mCons (mVar 2) mNil))
noncomputable def S_law_open_cells_4 : MS := (sRet (mDisp [((mC (.str "cells")), (mNew (mfRev (mVar 3)))), ((mC (.str "left")), (mC (.int 1))), ((mC (.str "mixed")), (mVar 1)), ((mC (.str "turn")), (mC (.int 0)))]))
noncomputable def S_law_open_cells_3 : MS := (sSeq (sAsg (mFrz (mLc law_open_cells_E2 law_open_cells_G2 law_open_cells_T1 law_open_cells_M1 [2])) (gNm 3)) S_law_open_cells_4)
noncomputable def S_law_open_cells_2 : MS := (sSeq (sFor law_open_cells_E1 law_open_cells_G1 law_open_cells_B1) S_law_open_cells_3)
noncomputable def S_law_open_cells : MS := (sSeq (sAsg (mC (.int 11)) (gNm 1)) S_law_open_cells_2)
noncomputable def f_law_open_cells : FF := fnK 4 S_law_open_cells
noncomputable def law_any_order_E1 : MI := (miR1 (mCons (mArg fLen (mCons (mVar 2) mNil)) mNil))
noncomputable def law_any_order_G1 : MG := (gNm 3)
noncomputable def law_any_order_T1 : MT := mYes
noncomputable def law_any_order_M1 : ME := (mM fmPopAt (mVar 2) (mCons (mCall f_law_pick (mCons (mVar 0) (mCons (mArg fLen (mCons (mVar 2) mNil)) mNil)) []) mNil))
noncomputable def S_law_any_order_2 : MS := (sRet (mFrz (mLc law_any_order_E1 law_any_order_G1 law_any_order_T1 law_any_order_M1 [3])))
noncomputable def S_law_any_order : MS := (sSeq (sAsg (mNew (mfArg gList (mCons (mVar 1) mNil))) (gNm 2)) S_law_any_order_2)
noncomputable def f_law_any_order : FF := fnT 4 S_law_any_order
end Fw.LA
namespace Fw.LB
open PySem PySem.Spec PyProof.Rows L2 Fw
noncomputable def law_pick_T1 : MT := (mAndT (mTB (mBin gtD (mVar 1) (mC (.int 1)))) (mAndT (mTB (mBin ltD (mBin subsD (mVar 0) (mC (.str "left"))) (mC (.int 2)))) (mTB (mBin gtD (mArg fLen (mCons (mBin subsD (mVar 0) (mC (.str "cells"))) mNil)) (mC (.int 0))))))
noncomputable def law_pick_B1 : MS := (sSub (mM0 fmPop (mBin subsD (mVar 0) (mC (.str "cells")))) (mVar 0) (mC (.str "left")))
noncomputable def S_law_pick_8 : MS := (sRet (mBin modD (mArg fInt (mCons (mBin fdivD (mVar 3) (mC (.int 16))) mNil)) (mVar 1)))
noncomputable def S_law_pick_7 : MS := (sSeq (sSub (mVar 3) (mVar 0) (mC (.str "mixed"))) S_law_pick_8)
noncomputable def S_law_pick_6 : MS := (sSeq (sAsg (mBin modD (mArg fInt (mCons (mBin addD (mBin mulD (mVar 3) (mVar 3)) (mBin mulD (mBin subsD (mVar 0) (mC (.str "turn"))) (mC (.int 17)))) mNil)) (mC (.int 2147483647))) (gNm 3)) S_law_pick_7)
noncomputable def S_law_pick_5 : MS := (sSeq (sAsg (mBin modD (mArg fInt (mCons (mBin addD (mBin subsD (mVar 0) (mC (.str "mixed"))) (mBin mulD (mBin subsD (mVar 0) (mC (.str "turn"))) (mC (.int 104729)))) mNil)) (mC (.int 998244353))) (gNm 3)) S_law_pick_6)
noncomputable def S_law_pick_4 : MS := (sSeq (sSub (mBin addD (mBin subsD (mVar 0) (mC (.str "turn"))) (mC (.int 1))) (mVar 0) (mC (.str "turn"))) S_law_pick_5)
noncomputable def S_law_pick_3 : MS := (sSeq (sIf (mOrT (mTB (mBin ltD (mVar 1) (mC (.int 2)))) (mTB (mBin gtD (mVar 2) (mC (.int 1))))) (sSeq (sSub (mBin fdivD (mVar 2) (mArg (f2I intMax) (mCons (mC (.int 1)) (mCons (mVar 1) mNil)))) (mVar 0) (mC (.str "left"))) (sRet (mBin modD (mArg fInt (mCons (mVar 2) mNil)) (mArg (f2I intMax) (mCons (mC (.int 1)) (mCons (mVar 1) mNil)))))) sNil) S_law_pick_4)
noncomputable def S_law_pick_2 : MS := (sSeq (sAsg (mBin subsD (mVar 0) (mC (.str "left"))) (gNm 2)) S_law_pick_3)
noncomputable def S_law_pick : MS := (sSeq (whileL law_pick_T1 law_pick_B1 1000000) S_law_pick_2)
noncomputable def f_law_pick : FF := fnT 4 S_law_pick
end Fw.LB
namespace Fw.LC
open PySem PySem.Spec PyProof.Rows L2 Fw
noncomputable abbrev f_law_pick : FF := Fw.LA.f_law_pick
noncomputable abbrev f_law_any_order : FF := Fw.LA.f_law_any_order
noncomputable def S_law_want : MS := (sRet (mAndV (mBin inU (mVar 2) (mBin subsD (mBin subsD (mVar 0) (mC (.int 1))) (mVar 1))) (mBin inU (mVar 1) (mBin subsD (mBin subsD (mVar 0) (mC (.int 1))) (mVar 2)))))
noncomputable def f_law_want : FF := fnT 3 S_law_want
noncomputable def law_partner_E1 : MI := (miSeq (mVar 0))
noncomputable def law_partner_G1 : MG := (gNm 3)
noncomputable def law_partner_T1 : MT := (mTB (mBin inU (mVar 1) (mVar 3)))
noncomputable def law_partner_M1 : ME := (mBin subD (mBin addD (mBin subsD (mVar 3) (mC (.int 0))) (mBin subsD (mVar 3) (mC (.int 1)))) (mVar 1))
noncomputable def S_law_partner_2 : MS := (sRet (mIte (mTB (mBin neD (mVar 2) (mFrz (mfArg gDisp mNil)))) (mBin subsD (mVar 2) (mC (.int 0))) (mC .none)))
noncomputable def S_law_partner : MS := (sSeq (sAsg (mFrz (mLc law_partner_E1 law_partner_G1 law_partner_T1 law_partner_M1 [3])) (gNm 2)) S_law_partner_2)
noncomputable def f_law_partner : FF := fnT 4 S_law_partner
end Fw.LC
namespace Fw
open PySem PySem.Spec PyProof.Rows L2
theorem sq_small {a : Int} (h : 0 ≤ a) (h2 : a < 998244353) : -(2 ^ 64) < a ∧ a < 2 ^ 64 := ⟨by omega, by omega⟩
theorem pickA_ok : Pick LA.f_law_pick := by
  intro s rest m hm hs
  refine fnT_ok ?_
  unfold LA.S_law_pick
  simp only [envE, so_seq, so_if, so_ret, so_retN, so_exp, so_nil, so_nx, so_rt, so_asg, so_asgG, so_par2, so_par3, ok_gNm, ok_gMore, ok_gNone, so_asgT, so_sub, so_for, ok_TB, ok_Tru, ok_notT, ok_andT, ok_orT, ok_andV, ok_orV, ok_notV, ok_iteE, ok_frz, ok_new, ok_mfArg, ok_mfBin, ok_lc, ok_M, ok_M0, ok_moNone, ok_moSome, ok_Sl,
  ok_bin, ok_un, ok_arg, ok_cons, ok_nil, ok_call, ok_var, ok_C, ok_ok, ok_stuck, ok_noX, bOf_bool, low_v, iOf_int, addD_int, subD_int, negD_int, ltD_int, leD_int, gtD_int, geD_int, fInt_int, isD_bool, isNotD_bool, tru_bool, List.map_cons, List.map_nil, List.length_cons, List.length_nil, List.replicate_succ, List.replicate_zero, List.cons_append, List.nil_append,
  List.append_nil, List.getElem?_cons_zero, List.getElem?_cons_succ, List.set_cons_zero, List.set_cons_succ, Option.some.injEq, exists_eq_left', exists_eq_left, true_and, and_true, true_implies, false_implies, implies_true, Bool.false_eq_true, reduceCtorEq, false_and, and_false, D.v.injEq, PyData.int.injEq, D.ref.injEq, p1i_int, p2_two, p3_three, decide_true, Bool.not_true, Bool.not_false, decide_eq_true_eq, decide_eq_false_iff_not]
  refine ⟨fun h => ⟨0, s, rfl, take_sto, hs, Int.le_refl _, fun z => by omega, fun _ => rfl⟩, fun h => ?_⟩
  unfold LA.S_law_pick_2 LA.S_law_pick_3
  simp only [envE, so_seq, so_if, so_ret, so_retN, so_exp, so_nil, so_nx, so_rt, so_asg, so_asgG, so_par2, so_par3, ok_gNm, ok_gMore, ok_gNone, so_asgT, so_sub, so_for, ok_TB, ok_Tru, ok_notT, ok_andT, ok_orT, ok_andV, ok_orV, ok_notV, ok_iteE, ok_frz, ok_new, ok_mfArg, ok_mfBin, ok_lc, ok_M, ok_M0, ok_moNone, ok_moSome, ok_Sl,
  ok_bin, ok_un, ok_arg, ok_cons, ok_nil, ok_call, ok_var, ok_C, ok_ok, ok_stuck, ok_noX, bOf_bool, low_v, iOf_int, addD_int, subD_int, negD_int, ltD_int, leD_int, gtD_int, geD_int, fInt_int, isD_bool, isNotD_bool, tru_bool, List.map_cons, List.map_nil, List.length_cons, List.length_nil, List.replicate_succ, List.replicate_zero, List.cons_append, List.nil_append,
  List.append_nil, List.getElem?_cons_zero, List.getElem?_cons_succ, List.set_cons_zero, List.set_cons_succ, Option.some.injEq, exists_eq_left', exists_eq_left, true_and, and_true, true_implies, false_implies, implies_true, Bool.false_eq_true, reduceCtorEq, false_and, and_false, D.v.injEq, PyData.int.injEq, D.ref.injEq, p1i_int, p2_two, p3_three, decide_true, Bool.not_true, Bool.not_false, decide_eq_true_eq, decide_eq_false_iff_not, src_cells]
  refine so_to (fun e st => ∃ s' : Src, e = [some (D.ref 1), some (D.v (PyData.int m)), some (D.ref 0), none, none, none] ∧ st = s'.sto rest ∧ s'.ok) ?_ ?_
  · refine whileL_inv (fun k e st => ∃ s' : Src, e = [some (D.ref 1), some (D.v (PyData.int m)), some (D.ref 0), none, none, none] ∧ st = s'.sto rest ∧ s'.ok ∧ s'.stk.length = k) ?_ 1000000 s.stk.length _ _ hs ⟨s, rfl, rfl, hs, rfl⟩
    rintro k e st ⟨s', rfl, rfl, ok, hk⟩
    unfold LA.law_pick_T1 LA.law_pick_B1
    simp only [envE, so_seq, so_if, so_ret, so_retN, so_exp, so_nil, so_nx, so_rt, so_asg, so_asgG, so_par2, so_par3, ok_gNm, ok_gMore, ok_gNone, so_asgT, so_sub, so_for, ok_TB, ok_Tru, ok_notT, ok_andT, ok_orT, ok_andV, ok_orV, ok_notV, ok_iteE, ok_frz, ok_new, ok_mfArg, ok_mfBin, ok_lc, ok_M, ok_M0, ok_moNone, ok_moSome, ok_Sl,
  ok_bin, ok_un, ok_arg, ok_cons, ok_nil, ok_call, ok_var, ok_C, ok_ok, ok_stuck, ok_noX, bOf_bool, low_v, iOf_int, addD_int, subD_int, negD_int, ltD_int, leD_int, gtD_int, geD_int, fInt_int, isD_bool, isNotD_bool, tru_bool, List.map_cons, List.map_nil, List.length_cons, List.length_nil, List.replicate_succ, List.replicate_zero, List.cons_append, List.nil_append,
  List.append_nil, List.getElem?_cons_zero, List.getElem?_cons_succ, List.set_cons_zero, List.set_cons_succ, Option.some.injEq, exists_eq_left', exists_eq_left, true_and, and_true, true_implies, false_implies, implies_true, Bool.false_eq_true, reduceCtorEq, false_and, and_false, D.v.injEq, PyData.int.injEq, D.ref.injEq, p1i_int, p2_two, p3_three, decide_true, Bool.not_true, Bool.not_false, decide_eq_true_eq, decide_eq_false_iff_not, src_left, src_len, src_isL]
    refine ⟨fun h => ⟨fun h2 => ?_, fun h2 => ⟨s', rfl, ok⟩⟩, fun h => ⟨s', rfl, ok⟩⟩
    obtain ⟨c, r, e⟩ : ∃ c r, s'.stk = c :: r := by
      cases es : s'.stk with
      | nil => rw [es] at h2; simp at h2
      | cons c r => exact ⟨c, r, rfl⟩
    have hr : s'.stk.length = r.length + 1 := by rw [e]; rfl
    simp only [src_pop e, envE, so_seq, so_if, so_ret, so_retN, so_exp, so_nil, so_nx, so_rt, so_asg, so_asgG, so_par2, so_par3, ok_gNm, ok_gMore, ok_gNone, so_asgT, so_sub, so_for, ok_TB, ok_Tru, ok_notT, ok_andT, ok_orT, ok_andV, ok_orV, ok_notV, ok_iteE, ok_frz, ok_new, ok_mfArg, ok_mfBin, ok_lc, ok_M, ok_M0, ok_moNone, ok_moSome, ok_Sl,
  ok_bin, ok_un, ok_arg, ok_cons, ok_nil, ok_call, ok_var, ok_C, ok_ok, ok_stuck, ok_noX, bOf_bool, low_v, iOf_int, addD_int, subD_int, negD_int, ltD_int, leD_int, gtD_int, geD_int, fInt_int, isD_bool, isNotD_bool, tru_bool, List.map_cons, List.map_nil, List.length_cons, List.length_nil, List.replicate_succ, List.replicate_zero, List.cons_append, List.nil_append,
  List.append_nil, List.getElem?_cons_zero, List.getElem?_cons_succ, List.set_cons_zero, List.set_cons_succ, Option.some.injEq, exists_eq_left', exists_eq_left, true_and, and_true, true_implies, false_implies, implies_true, Bool.false_eq_true, reduceCtorEq, false_and, and_false, D.v.injEq, PyData.int.injEq, D.ref.injEq, p1i_int, p2_two, p3_three, decide_true, Bool.not_true, Bool.not_false, decide_eq_true_eq, decide_eq_false_iff_not, set_left]
    have ok' : s'.stk.length < 1000000 := ok
    exact ⟨r.length, by omega, _, rfl, show r.length < 1000000 by omega, rfl⟩
  · rintro e st ⟨s1, rfl, rfl, ok⟩
    unfold LA.S_law_pick_4 LA.S_law_pick_5
    simp only [envE, so_seq, so_if, so_ret, so_retN, so_exp, so_nil, so_nx, so_rt, so_asg, so_asgG, so_par2, so_par3, ok_gNm, ok_gMore, ok_gNone, so_asgT, so_sub, so_for, ok_TB, ok_Tru, ok_notT, ok_andT, ok_orT, ok_andV, ok_orV, ok_notV, ok_iteE, ok_frz, ok_new, ok_mfArg, ok_mfBin, ok_lc, ok_M, ok_M0, ok_moNone, ok_moSome, ok_Sl,
  ok_bin, ok_un, ok_arg, ok_cons, ok_nil, ok_call, ok_var, ok_C, ok_ok, ok_stuck, ok_noX, bOf_bool, low_v, iOf_int, addD_int, subD_int, negD_int, ltD_int, leD_int, gtD_int, geD_int, fInt_int, isD_bool, isNotD_bool, tru_bool, List.map_cons, List.map_nil, List.length_cons, List.length_nil, List.replicate_succ, List.replicate_zero, List.cons_append, List.nil_append,
  List.append_nil, List.getElem?_cons_zero, List.getElem?_cons_succ, List.set_cons_zero, List.set_cons_succ, Option.some.injEq, exists_eq_left', exists_eq_left, true_and, and_true, true_implies, false_implies, implies_true, Bool.false_eq_true, reduceCtorEq, false_and, and_false, D.v.injEq, PyData.int.injEq, D.ref.injEq, p1i_int, p2_two, p3_three, decide_true, Bool.not_true, Bool.not_false, decide_eq_true_eq, decide_eq_false_iff_not, src_left, set_left, fdivD_int (show (0 : Int) < m by omega) hm, modD_int (show (0 : Int) < m by omega)]
    refine ⟨fun h => ⟨_, _, rfl, take_sto, ok, Int.emod_nonneg _ (by omega), fun _ => Int.emod_lt_of_pos _ (by omega), fun z => by omega⟩, fun h => ?_⟩
    unfold LA.S_law_pick_6 LA.S_law_pick_7 LA.S_law_pick_8 LA.S_law_pick_9 LA.S_law_pick_10
    simp only [envE, so_seq, so_if, so_ret, so_retN, so_exp, so_nil, so_nx, so_rt, so_asg, so_asgG, so_par2, so_par3, ok_gNm, ok_gMore, ok_gNone, so_asgT, so_sub, so_for, ok_TB, ok_Tru, ok_notT, ok_andT, ok_orT, ok_andV, ok_orV, ok_notV, ok_iteE, ok_frz, ok_new, ok_mfArg, ok_mfBin, ok_lc, ok_M, ok_M0, ok_moNone, ok_moSome, ok_Sl,
  ok_bin, ok_un, ok_arg, ok_cons, ok_nil, ok_call, ok_var, ok_C, ok_ok, ok_stuck, ok_noX, bOf_bool, low_v, iOf_int, addD_int, subD_int, negD_int, ltD_int, leD_int, gtD_int, geD_int, fInt_int, isD_bool, isNotD_bool, tru_bool, List.map_cons, List.map_nil, List.length_cons, List.length_nil, List.replicate_succ, List.replicate_zero, List.cons_append, List.nil_append,
  List.append_nil, List.getElem?_cons_zero, List.getElem?_cons_succ, List.set_cons_zero, List.set_cons_succ, Option.some.injEq, exists_eq_left', exists_eq_left, true_and, and_true, true_implies, false_implies, implies_true, Bool.false_eq_true, reduceCtorEq, false_and, and_false, D.v.injEq, PyData.int.injEq, D.ref.injEq, p1i_int, p2_two, p3_three, decide_true, Bool.not_true, Bool.not_false, decide_eq_true_eq, decide_eq_false_iff_not, src_turn, set_turn, src_mixed, mulD_r (show -(2 ^ 64) < (104729 : Int) ∧ (104729 : Int) < 2 ^ 64 by decide), mulD_r (show -(2 ^ 64) < (17 : Int) ∧ (17 : Int) < 2 ^ 64 by decide), modD_int (show (0 : Int) < 998244353 by decide), modD_int (show (0 : Int) < 2147483647 by decide), modD_int (show (0 : Int) < m by omega),
      fdivD_int (show (0 : Int) < 16 by decide) (by decide)]
    rw [mulD_l (sq_small (Int.emod_nonneg _ (by decide)) (Int.emod_lt_of_pos _ (by decide)))]
    simp only [envE, so_seq, so_if, so_ret, so_retN, so_exp, so_nil, so_nx, so_rt, so_asg, so_asgG, so_par2, so_par3, ok_gNm, ok_gMore, ok_gNone, so_asgT, so_sub, so_for, ok_TB, ok_Tru, ok_notT, ok_andT, ok_orT, ok_andV, ok_orV, ok_notV, ok_iteE, ok_frz, ok_new, ok_mfArg, ok_mfBin, ok_lc, ok_M, ok_M0, ok_moNone, ok_moSome, ok_Sl,
  ok_bin, ok_un, ok_arg, ok_cons, ok_nil, ok_call, ok_var, ok_C, ok_ok, ok_stuck, ok_noX, bOf_bool, low_v, iOf_int, addD_int, subD_int, negD_int, ltD_int, leD_int, gtD_int, geD_int, fInt_int, isD_bool, isNotD_bool, tru_bool, List.map_cons, List.map_nil, List.length_cons, List.length_nil, List.replicate_succ, List.replicate_zero, List.cons_append, List.nil_append,
  List.append_nil, List.getElem?_cons_zero, List.getElem?_cons_succ, List.set_cons_zero, List.set_cons_succ, Option.some.injEq, exists_eq_left', exists_eq_left, true_and, and_true, true_implies, false_implies, implies_true, Bool.false_eq_true, reduceCtorEq, false_and, and_false, D.v.injEq, PyData.int.injEq, D.ref.injEq, p1i_int, p2_two, p3_three, decide_true, Bool.not_true, Bool.not_false, decide_eq_true_eq, decide_eq_false_iff_not, modD_int (show (0 : Int) < 2147483647 by decide), modD_int (show (0 : Int) < m by omega), fdivD_int (show (0 : Int) < 16 by decide) (by decide)]
    exact ⟨_, _, rfl, take_sto, ok, Int.emod_nonneg _ (by omega), fun _ => Int.emod_lt_of_pos _ (by omega), fun z => by omega⟩
theorem sto_app {s : Src} {rest : Sto} {o : O} : s.sto rest ++ [o] = s.sto (rest ++ [o]) := rfl
theorem sto_at {s : Src} {rest more : Sto} {o : O} : (s.sto (rest ++ o :: more))[rest.length + 2]? = some o := by
  show (rest ++ o :: more)[rest.length]? = _
  rw [List.getElem?_append_right (Nat.le_refl _), Nat.sub_self]
  rfl
theorem sto_set {s : Src} {rest : Sto} {o u : O} : (s.sto (rest ++ [o])).set (rest.length + 2) u = s.sto (rest ++ [u]) := by
  show _ :: _ :: (rest ++ [o]).set rest.length u = _
  rw [List.set_append_right _ _ (Nat.le_refl _), Nat.sub_self]
  rfl
theorem sto_len {s : Src} {rest : Sto} : (s.sto rest).length = rest.length + 2 := rfl
theorem sto_take {s : Src} {rest more : Sto} : (s.sto (rest ++ more)).take (rest.length + 2) = s.sto rest := by
  show _ :: _ :: (rest ++ more).take rest.length = _
  rw [List.take_left]
  rfl
theorem perm_out {α : Type} : ∀ (l : List α) (k : Nat) (h : k < l.length), (l[k] :: l.eraseIdx k).Perm l
  | [], k, h => absurd h (Nat.not_lt_zero _)
  | a :: l, 0, h => .refl _
  | a :: l, k + 1, h => (List.Perm.swap a _ _).trans ((perm_out l k (Nat.lt_of_succ_lt_succ h)).cons a)
def Shuf (f : FF) : Prop := ∀ (s : Src) (rest : Sto) (d : D) (xs : List PyData), s.ok → viewS (s.sto rest) d = some xs → xs.length ≤ 1000000 → (f [.ref 1, d] (s.sto rest)).Ok fun r st => ∃ (ys : List PyData) (s' : Src), r = .v (.list ys) ∧ st = s'.sto rest ∧ s'.ok ∧ ys.Perm xs
theorem shuf_ok {pick : FF} (hp : Pick pick) : Shuf (fnT 4 (sSeq (sAsg (mNew (mfArg gList (mCons (mVar 1) mNil))) (gNm 2)) (sRet (mFrz (mLc (miR1 (mCons (mArg fLen (mCons (mVar 2) mNil)) mNil)) (gNm 3) mYes
    (mM fmPopAt (mVar 2) (mCons (mCall pick (mCons (mVar 0) (mCons (mArg fLen (mCons (mVar 2) mNil)) mNil)) []) mNil)) [3]))))) := by
  intro s rest d xs hs hv hl
  refine fnT_ok ?_
  simp only [envE, so_seq, so_if, so_ret, so_retN, so_exp, so_nil, so_nx, so_rt, so_asg, so_asgG, so_par2, so_par3, ok_gNm, ok_gMore, ok_gNone, so_asgT, so_sub, so_for, ok_TB, ok_Tru, ok_notT, ok_andT, ok_orT, ok_andV, ok_orV, ok_notV, ok_iteE, ok_frz, ok_new, ok_mfArg, ok_mfBin, ok_lc, ok_M, ok_M0, ok_moNone, ok_moSome, ok_Sl,
  ok_bin, ok_un, ok_arg, ok_cons, ok_nil, ok_call, ok_var, ok_C, ok_ok, ok_stuck, ok_noX, bOf_bool, low_v, iOf_int, addD_int, subD_int, negD_int, ltD_int, leD_int, gtD_int, geD_int, fInt_int, isD_bool, isNotD_bool, tru_bool, List.map_cons, List.map_nil, List.length_cons, List.length_nil, List.replicate_succ, List.replicate_zero, List.cons_append, List.nil_append,
  List.append_nil, List.getElem?_cons_zero, List.getElem?_cons_succ, List.set_cons_zero, List.set_cons_succ, Option.some.injEq, exists_eq_left', exists_eq_left, true_and, and_true, true_implies, false_implies, implies_true, Bool.false_eq_true, reduceCtorEq, false_and, and_false, D.v.injEq, PyData.int.injEq, D.ref.injEq, p1i_int, p2_two, p3_three, decide_true, Bool.not_true, Bool.not_false, decide_eq_true_eq, decide_eq_false_iff_not, list_of hv, ok_R1, sto_len, sto_app]
  rw [len_of (xs := xs) (viewS_ref sto_at)]
  simp only [envE, so_seq, so_if, so_ret, so_retN, so_exp, so_nil, so_nx, so_rt, so_asg, so_asgG, so_par2, so_par3, ok_gNm, ok_gMore, ok_gNone, so_asgT, so_sub, so_for, ok_TB, ok_Tru, ok_notT, ok_andT, ok_orT, ok_andV, ok_orV, ok_notV, ok_iteE, ok_frz, ok_new, ok_mfArg, ok_mfBin, ok_lc, ok_M, ok_M0, ok_moNone, ok_moSome, ok_Sl,
  ok_bin, ok_un, ok_arg, ok_cons, ok_nil, ok_call, ok_var, ok_C, ok_ok, ok_stuck, ok_noX, bOf_bool, low_v, iOf_int, addD_int, subD_int, negD_int, ltD_int, leD_int, gtD_int, geD_int, fInt_int, isD_bool, isNotD_bool, tru_bool, List.map_cons, List.map_nil, List.length_cons, List.length_nil, List.replicate_succ, List.replicate_zero, List.cons_append, List.nil_append,
  List.append_nil, List.getElem?_cons_zero, List.getElem?_cons_succ, List.set_cons_zero, List.set_cons_succ, Option.some.injEq, exists_eq_left', exists_eq_left, true_and, and_true, true_implies, false_implies, implies_true, Bool.false_eq_true, reduceCtorEq, false_and, and_false, D.v.injEq, PyData.int.injEq, D.ref.injEq, p1i_int, p2_two, p3_three, decide_true, Bool.not_true, Bool.not_false, decide_eq_true_eq, decide_eq_false_iff_not]
  refine ⟨by omega, ?_⟩
  have e0 : wipeE [some (D.ref 1), some d, some (D.ref (rest.length + 2)), none] [3] = [some (D.ref 1), some d, some (D.ref (rest.length + 2)), none] := rfl
  rw [e0]
  refine (lcL_inv (P := fun zs st => ∃ (ys : List PyData) (s' : Src), PyData.list zs = PyData.list ys ∧ List.take (rest.length + 2) st = s'.sto rest ∧ s'.ok ∧ ys.Perm xs) (n := 0) (acc := []) (fun i acc st => ∃ (s' : Src) (zs : List PyData), st = s'.sto (rest ++ [.lst zs]) ∧ s'.ok ∧ zs.length + i = xs.length ∧ (acc ++ zs).Perm xs) (rngI 0 (xs.length : Int).toNat) _ ?_ ?_ ⟨s, xs, rfl, hs, by omega, .refl _⟩).mono fun zs st q => q
  · rintro i d1 acc st hd ⟨s1, zs, rfl, ok, hz, hp1⟩
    obtain ⟨hi, rfl⟩ := rngI_get hd
    rw [Nat.zero_add] at hz
    refine ⟨trivial, ?_⟩
    rw [ok_gNm]
    simp only [List.set_cons_succ, List.set_cons_zero]
    show (Out.ok true _).Ok _
    rw [ok_ok]
    refine ⟨fun _ => ?_, fun z => nomatch z⟩
    simp only [envE, so_seq, so_if, so_ret, so_retN, so_exp, so_nil, so_nx, so_rt, so_asg, so_asgG, so_par2, so_par3, ok_gNm, ok_gMore, ok_gNone, so_asgT, so_sub, so_for, ok_TB, ok_Tru, ok_notT, ok_andT, ok_orT, ok_andV, ok_orV, ok_notV, ok_iteE, ok_frz, ok_new, ok_mfArg, ok_mfBin, ok_lc, ok_M, ok_M0, ok_moNone, ok_moSome, ok_Sl,
  ok_bin, ok_un, ok_arg, ok_cons, ok_nil, ok_call, ok_var, ok_C, ok_ok, ok_stuck, ok_noX, bOf_bool, low_v, iOf_int, addD_int, subD_int, negD_int, ltD_int, leD_int, gtD_int, geD_int, fInt_int, isD_bool, isNotD_bool, tru_bool, List.map_cons, List.map_nil, List.length_cons, List.length_nil, List.replicate_succ, List.replicate_zero, List.cons_append, List.nil_append,
  List.append_nil, List.getElem?_cons_zero, List.getElem?_cons_succ, List.set_cons_zero, List.set_cons_succ, Option.some.injEq, exists_eq_left', exists_eq_left, true_and, and_true, true_implies, false_implies, implies_true, Bool.false_eq_true, reduceCtorEq, false_and, and_false, D.v.injEq, PyData.int.injEq, D.ref.injEq, p1i_int, p2_two, p3_three, decide_true, Bool.not_true, Bool.not_false, decide_eq_true_eq, decide_eq_false_iff_not, isL_ref sto_at]
    rw [len_of (xs := zs) (viewS_ref sto_at)]
    simp only [envE, so_seq, so_if, so_ret, so_retN, so_exp, so_nil, so_nx, so_rt, so_asg, so_asgG, so_par2, so_par3, ok_gNm, ok_gMore, ok_gNone, so_asgT, so_sub, so_for, ok_TB, ok_Tru, ok_notT, ok_andT, ok_orT, ok_andV, ok_orV, ok_notV, ok_iteE, ok_frz, ok_new, ok_mfArg, ok_mfBin, ok_lc, ok_M, ok_M0, ok_moNone, ok_moSome, ok_Sl,
  ok_bin, ok_un, ok_arg, ok_cons, ok_nil, ok_call, ok_var, ok_C, ok_ok, ok_stuck, ok_noX, bOf_bool, low_v, iOf_int, addD_int, subD_int, negD_int, ltD_int, leD_int, gtD_int, geD_int, fInt_int, isD_bool, isNotD_bool, tru_bool, List.map_cons, List.map_nil, List.length_cons, List.length_nil, List.replicate_succ, List.replicate_zero, List.cons_append, List.nil_append,
  List.append_nil, List.getElem?_cons_zero, List.getElem?_cons_succ, List.set_cons_zero, List.set_cons_succ, Option.some.injEq, exists_eq_left', exists_eq_left, true_and, and_true, true_implies, false_implies, implies_true, Bool.false_eq_true, reduceCtorEq, false_and, and_false, D.v.injEq, PyData.int.injEq, D.ref.injEq, p1i_int, p2_two, p3_three, decide_true, Bool.not_true, Bool.not_false, decide_eq_true_eq, decide_eq_false_iff_not]
    refine (hp s1 (rest ++ [.lst zs]) zs.length (by omega) ok).mono ?_
    rintro r st ⟨r, s2, rfl, rfl, ok2, h0, h1, _⟩
    have hr := h1 (by omega)
    obtain ⟨k, rfl⟩ : ∃ k : Nat, r = k := ⟨r.toNat, by omega⟩
    have hk : k < zs.length := by omega
    rw [pop_at sto_at hk (by omega), ok_ok, sto_set]
    refine ⟨_, rfl, s2, _, rfl, ok2, by rw [List.length_eraseIdx_of_lt hk]; omega, ?_⟩
    refine List.Perm.trans ?_ hp1
    rw [List.append_assoc]
    refine List.Perm.append_left _ ?_
    exact perm_out zs k hk
  · rintro acc st ⟨s1, zs, rfl, ok, hz, hp1⟩
    refine ⟨trivial, ?_⟩
    have e : zs = [] := List.eq_nil_of_length_eq_zero (by
      have e2 : (rngI 0 (xs.length : Int).toNat).length = xs.length := by unfold rngI; rw [List.length_map, List.length_range]; omega
      omega)
    subst e
    rw [List.append_nil] at hp1
    exact ⟨acc, s1, rfl, sto_take, ok, hp1⟩
theorem shufA : Shuf LA.f_law_any_order := shuf_ok pickA_ok
def Opens (f : FF) : Prop := ∀ ns : List Int, ns.length < 1000000 → (f [.scr ns] []).Ok fun r st => ∃ s : Src, r = .ref 1 ∧ st = s.sto [] ∧ s.ok
theorem abs_map {env0 : Ev} {st : Sto} {i : Nat} (h : i < env0.length) (ns : List Int) : lcL none (gNm i) mYes (mArg fAbs (mCons (mVar i) mNil)) env0 (ns.map fun n => .one (.v (.int n))) st = .ok (ns.map fun n => PyData.int n.natAbs) st := by
  rw [lcL_map (fun d => match d with | .one (.v (.int n)) => some (.int n.natAbs) | _ => none)]
  · congr 1
    rw [List.filterMap_map]
    induction ns with
    | nil => rfl
    | cons n r ih => rw [List.filterMap_cons, List.map_cons, ih]; rfl
  · intro d hd
    obtain ⟨n, _, rfl⟩ := List.mem_map.mp hd
    rw [ok_gNm]
    refine ⟨rfl, ?_⟩
    show (Out.ok true st).Ok _
    rw [ok_ok]
    refine ⟨rfl, fun _ => ?_, fun z => nomatch z⟩
    simp only [ok_arg, ok_cons, ok_var, ok_nil, List.getElem?_set_self h, Option.some.injEq, exists_eq_left', fAbs_int, ok_ok]
    exact ⟨trivial, _, rfl, rfl⟩
theorem mix_for {k : Nat} {j : Nat} {env0 : Ev} (hj : j ≠ 1) (h1 : 1 < env0.length) (hj2 : j < env0.length) (ns : List Int) {st : Sto} {N : Ev → Sto → Prop} {T : D → Sto → Prop} {x : Int} (e1 : env0[1]? = some (some (.v (.int x))))
    (h : ∀ (e : Ev) (y : Int), e.length = env0.length → (∀ i, i ≠ 1 → i ≠ j → e[i]? = env0[i]?) → e[1]? = some (some (.v (.int y))) → N e st) :
    (forL none (gNm j) (sAsg (mBin modD (mArg fInt (mCons (mBin addD (mBin addD (mBin mulD (mVar 1) (mC (.int 69069))) (mBin mulD (mVar j) (mC (.int 31)))) (mC (.int 5))) mNil)) (mC (.int 2147483629))) (gNm 1)) (ns.map fun n => .one (.v (.int n))) env0 st).Ok N T := by
  refine forL_inv (fun _ e s => s = st ∧ e.length = env0.length ∧ (∀ i, i ≠ 1 → i ≠ j → e[i]? = env0[i]?) ∧ ∃ y : Int, e[1]? = some (some (.v (.int y)))) _ _ _ 0 ?_ ?_ ⟨rfl, rfl, fun _ _ _ => rfl, x, e1⟩
  · rintro i d e s hd ⟨rfl, hl, ho, y, ey⟩
    rw [List.getElem?_map] at hd
    obtain ⟨n, _, rfl⟩ := Option.map_eq_some_iff.mp hd
    refine ⟨trivial, ?_⟩
    have e2 : (e.set j (some (D.v (.int n))))[1]? = some (some (.v (.int y))) := by rw [List.getElem?_set_ne hj]; exact ey
    have e3 : (e.set j (some (D.v (.int n))))[j]? = some (some (.v (.int n))) := List.getElem?_set_self (by omega)
    rw [ok_gNm]
    simp only [so_asg, ok_bin, ok_arg, ok_cons, ok_var, ok_C, ok_nil, e2, e3, Option.some.injEq, exists_eq_left', mulD_r (show -(2 ^ 64) < (69069 : Int) ∧ (69069 : Int) < 2 ^ 64 by decide), mulD_r (show -(2 ^ 64) < (31 : Int) ∧ (31 : Int) < 2 ^ 64 by decide), ok_ok, addD_int, fInt_int, modD_int (show (0 : Int) < 2147483629 by decide)]
    refine ⟨trivial, by rw [List.length_set, List.length_set]; exact hl, fun i h1 h2 => ?_, _, List.getElem?_set_self (by rw [List.length_set]; omega)⟩
    rw [List.getElem?_set_ne (Ne.symm h1), List.getElem?_set_ne (Ne.symm h2)]
    exact ho i h1 h2
  · rintro e s ⟨rfl, hl, ho, y, ey⟩
    exact ⟨trivial, h e y hl ho ey⟩
theorem ok_rev {m : ME} {env : Ev} {st : Sto} {P : List PyData → Sto → Prop} : (mfRev m env st).Ok P ↔ (m env st).Ok fun a s => ∃ xs, viewL s a = some xs ∧ P xs.reverse s := by
  unfold mfRev
  rw [ok_bind]
  constructor
  · intro h
    refine h.mono fun d s q => ?_
    split at q
    · rename_i xs e
      exact ⟨xs, e, q⟩
    · exact q.elim
  · intro h
    refine h.mono fun d s ⟨xs, e, q⟩ => ?_
    rw [e]
    exact q
theorem ok_prs0 {env : Ev} {st : Sto} {P : List (D × D) → Sto → Prop} : (mPrs [] env st).Ok P ↔ P [] st := Iff.rfl
theorem ok_prs1 {a b : ME} {r : List (ME × ME)} {env : Ev} {st : Sto} {P : List (D × D) → Sto → Prop} : (mPrs ((a, b) :: r) env st).Ok P ↔ (a env st).Ok fun x s1 => (b env s1).Ok fun y s2 => (mPrs r env s2).Ok fun ps s3 => P ((x, y) :: ps) s3 := by
  show ((a env st).bind _).Ok P ↔ _
  simp only [ok_bind, ok_ok]
theorem ok_disp {prs : List (ME × ME)} {env : Ev} {st : Sto} {P : D → Sto → Prop} : (mDisp prs env st).Ok P ↔ (mPrs prs env st).Ok fun ps s => ∃ kvs, keysOf ps = some kvs ∧ (kvs.length ≤ 15 ∧ (kvs.all fun p => p.2.low s.length) = true) ∧ P (.ref s.length) (s ++ [.dct false (putAll [] kvs)]) := by
  unfold mDisp
  rw [ok_bind, ok_noX]
  constructor
  · intro h
    refine h.mono fun d s q => ?_
    split at q
    · rename_i xs e
      split at q
      · rename_i hc
        exact ⟨xs, e, hc, q⟩
      · exact q.elim
    · exact q.elim
  · intro h
    refine h.mono fun d s ⟨xs, e, hc, q⟩ => ?_
    rw [e]
    show (if _ then _ else _ : Out D).Ok P
    rw [if_pos hc]
    exact q
theorem keysC {x y z : D} {w : D} : keysOf [(.v (.str "cells"), x), (.v (.str "left"), y), (.v (.str "mixed"), z), (.v (.str "turn"), w)] = some [(.str "cells", x), (.str "left", y), (.str "mixed", z), (.str "turn", w)] := rfl
theorem putC {x y z : D} {w : D} : putAll [] [(.str "cells", x), (.str "left", y), (.str "mixed", z), (.str "turn", w)] = [(.str "cells", x), (.str "left", y), (.str "mixed", z), (.str "turn", w)] := by rfl
theorem opens_disp {ns : List Int} {y : Int} {P : D → Sto → Prop} {st : Sto} (hs : st = [.lst ((ns.map fun n => PyData.int n.natAbs).reverse)]) (hl : ns.length < 1000000) (h : ∀ s : Src, s.ok → P (.ref 1) (s.sto [])) :
    ∃ kvs, keysOf [(.v (.str "cells"), .ref 0), (.v (.str "left"), .v (.int 1)), (.v (.str "mixed"), .v (.int y)), (.v (.str "turn"), .v (.int 0))] = some kvs ∧ (kvs.length ≤ 15 ∧ (kvs.all fun p => p.2.low st.length) = true) ∧ P (.ref st.length) (st ++ [.dct false (putAll [] kvs)]) := by
  subst hs
  refine ⟨_, keysC, ⟨by simp, by rfl⟩, ?_⟩
  rw [putC]
  have z := h ⟨ns.map fun n => (n.natAbs : Int), 1, y, 0⟩ (by show (ns.map _).length < 1000000; rw [List.length_map]; exact hl)
  have e : (Src.mk (ns.map fun n => (n.natAbs : Int)) 1 y 0).sto [] = [.lst ((ns.map fun n => PyData.int n.natAbs).reverse)] ++ [.dct false [(.str "cells", .ref 0), (.str "left", .v (.int 1)), (.str "mixed", .v (.int y)), (.str "turn", .v (.int 0))]] := by
    show ([O.lst (((ns.map fun n => (n.natAbs : Int)).reverse).map PyData.int), _] : Sto) = _
    rw [← List.map_reverse, List.map_map, ← List.map_reverse]
    rfl
  rw [e] at z
  exact z
theorem opensA : Opens LA.f_law_open_cells := by
  intro ns hl
  refine fnK_ok ?_
  unfold LA.S_law_open_cells LA.S_law_open_cells_2 LA.law_open_cells_E1
  simp only [envE, so_seq, so_if, so_ret, so_retN, so_exp, so_nil, so_nx, so_rt, so_asg, so_asgG, so_par2, so_par3, ok_gNm, ok_gMore, ok_gNone, so_asgT, so_sub, so_for, ok_TB, ok_Tru, ok_notT, ok_andT, ok_orT, ok_andV, ok_orV, ok_notV, ok_iteE, ok_frz, ok_new, ok_mfArg, ok_mfBin, ok_lc, ok_M, ok_M0, ok_moNone, ok_moSome, ok_Sl,
  ok_bin, ok_un, ok_arg, ok_cons, ok_nil, ok_call, ok_var, ok_C, ok_ok, ok_stuck, ok_noX, bOf_bool, low_v, iOf_int, addD_int, subD_int, negD_int, ltD_int, leD_int, gtD_int, geD_int, fInt_int, isD_bool, isNotD_bool, tru_bool, List.map_cons, List.map_nil, List.length_cons, List.length_nil, List.replicate_succ, List.replicate_zero, List.cons_append, List.nil_append,
  List.append_nil, List.getElem?_cons_zero, List.getElem?_cons_succ, List.set_cons_zero, List.set_cons_succ, Option.some.injEq, exists_eq_left', exists_eq_left, true_and, and_true, true_implies, false_implies, implies_true, Bool.false_eq_true, reduceCtorEq, false_and, and_false, D.v.injEq, PyData.int.injEq, D.ref.injEq, p1i_int, p2_two, p3_three, decide_true, Bool.not_true, Bool.not_false, decide_eq_true_eq, decide_eq_false_iff_not, ok_seq, seqW_scr]
  refine mix_for (k := 0) (j := 2) (x := 11) (by decide) (by simp) (by simp) ns rfl fun e y hl2 ho ey => ?_
  unfold LA.S_law_open_cells_3 LA.law_open_cells_E2
  have e0 : e[0]? = some (some (.scr ns)) := ho 0 (by decide) (by decide)
  have hl3 : e.length = 4 := hl2
  simp only [envE, so_seq, so_if, so_ret, so_retN, so_exp, so_nil, so_nx, so_rt, so_asg, so_asgG, so_par2, so_par3, ok_gNm, ok_gMore, ok_gNone, so_asgT, so_sub, so_for, ok_TB, ok_Tru, ok_notT, ok_andT, ok_orT, ok_andV, ok_orV, ok_notV, ok_iteE, ok_frz, ok_new, ok_mfArg, ok_mfBin, ok_lc, ok_M, ok_M0, ok_moNone, ok_moSome, ok_Sl,
  ok_bin, ok_un, ok_arg, ok_cons, ok_nil, ok_call, ok_var, ok_C, ok_ok, ok_stuck, ok_noX, bOf_bool, low_v, iOf_int, addD_int, subD_int, negD_int, ltD_int, leD_int, gtD_int, geD_int, fInt_int, isD_bool, isNotD_bool, tru_bool, List.map_cons, List.map_nil, List.length_cons, List.length_nil, List.replicate_succ, List.replicate_zero, List.cons_append, List.nil_append,
  List.append_nil, List.getElem?_cons_zero, List.getElem?_cons_succ, List.set_cons_zero, List.set_cons_succ, Option.some.injEq, exists_eq_left', exists_eq_left, true_and, and_true, true_implies, false_implies, implies_true, Bool.false_eq_true, reduceCtorEq, false_and, and_false, D.v.injEq, PyData.int.injEq, D.ref.injEq, p1i_int, p2_two, p3_three, decide_true, Bool.not_true, Bool.not_false, decide_eq_true_eq, decide_eq_false_iff_not, ok_seq, seqW_scr, e0]
  have hw : 2 < (wipeE e [2]).length := by show 2 < (e.set 2 none).length; rw [List.length_set]; omega
  unfold LA.law_open_cells_G2 LA.law_open_cells_T1 LA.law_open_cells_M1
  rw [abs_map hw, ok_ok]
  unfold LA.S_law_open_cells_4
  have e3 : ∀ d : D, (e.set 3 (some d))[3]? = some (some d) := fun d => List.getElem?_set_self (by omega)
  have e1 : ∀ d : D, (e.set 3 (some d))[1]? = some (some (.v (.int y))) := fun d => by rw [List.getElem?_set_ne (by decide)]; exact ey
  simp only [so_ret, ok_disp, ok_prs1, ok_prs0, ok_C, ok_new, ok_rev, ok_var, e3, e1, Option.some.injEq, exists_eq_left']
  refine ⟨_, rfl, ?_⟩
  exact opens_disp (y := y) (P := fun d st => ∃ s : Src, d = .ref 1 ∧ st = s.sto [] ∧ s.ok) (st := [O.lst ((ns.map fun n => PyData.int n.natAbs).reverse)]) rfl hl fun s hs => ⟨s, rfl, rfl, hs⟩
end Fw
namespace Fw
open PySem PySem.Spec PyProof.Rows L2
structure Rep (d : PyData) (w k : Nat) : Prop where
  sh : d.showable = true
  nd : d.hasDict = false
  ls : d.leavesShort 13 = true
  can : d.canLay0 = true
  bulk : d.bulk ≤ w
  dep : d.depth ≤ k
section
variable {d e : PyData} {w k w' k' : Nat} {xs ys : List PyData} {st : Sto}
theorem Rep.mono (r : Rep d w k) (h1 : w ≤ w') (h2 : k ≤ k') : Rep d w' k' := ⟨r.sh, r.nd, r.ls, r.can, Nat.le_trans r.bulk h1, Nat.le_trans r.dep h2⟩
theorem rep_int {i : Int} (h : i.natAbs < 10 ^ 12) : Rep (.int i) w k := by
  refine ⟨?_, rfl, ?_, rfl, by simp [PyData.bulk], by simp [PyData.depth]⟩
  · simp only [PyData.showable, decide_eq_true_eq]
    by_cases h0 : i.natAbs = 0
    · rw [h0]; decide
    · have := (Nat.log2_lt h0 (k := 40)).mpr (Nat.lt_trans h (by decide))
      omega
  · simp only [PyData.leavesShort, decide_eq_true_eq]
    exact PyData.shown_int_le h
theorem rep_all (h : ∀ x ∈ xs, Rep x w k) : PyData.showableAll xs = true ∧ PyData.hasDictAll xs = false ∧ PyData.leavesShortAll 13 xs = true ∧ PyData.canLayAll0 xs = true ∧ PyData.bulkAll xs ≤ xs.length * (w + 1) ∧ PyData.depthAll xs ≤ k := by
  induction xs with
  | nil => exact ⟨rfl, rfl, rfl, rfl, by simp [PyData.bulkAll], by simp [PyData.depthAll]⟩
  | cons x r ih =>
    obtain ⟨a, b, c, e, f, g⟩ := ih fun y hy => h y (List.mem_cons_of_mem _ hy)
    have hx := h x List.mem_cons_self
    refine ⟨by rw [PyData.showableAll, hx.sh, a]; rfl, by rw [PyData.hasDictAll, hx.nd, b]; rfl, by rw [PyData.leavesShortAll, hx.ls, c]; rfl, by rw [PyData.canLayAll0, hx.can, e]; rfl, ?_, ?_⟩
    · rw [PyData.bulkAll, List.length_cons, Nat.add_mul, Nat.one_mul]
      have := hx.bulk
      omega
    · rw [PyData.depthAll]
      exact Nat.max_le.mpr ⟨hx.dep, g⟩
theorem rep_list (h : ∀ x ∈ xs, Rep x w k) (hl : xs.length ≤ w') : Rep (.list xs) (w' * (w + 1)) (k + 1) := by
  obtain ⟨a, b, c, e, f, g⟩ := rep_all h
  exact ⟨by rw [PyData.showable]; exact a, by rw [PyData.hasDict]; exact b, by rw [PyData.leavesShort]; exact c, by rw [PyData.canLay0]; exact e, by rw [PyData.bulk]; exact Nat.le_trans f (Nat.mul_le_mul_right _ hl), by rw [PyData.depth]; exact Nat.succ_le_succ g⟩
theorem rep_tup (h : ∀ x ∈ xs, Rep x w k) (hl : xs.length ≤ w') : Rep (.tuple xs) (w' * (w + 1)) (k + 1) := by
  obtain ⟨a, b, c, e, f, g⟩ := rep_all h
  exact ⟨by rw [PyData.showable]; exact a, by rw [PyData.hasDict]; exact b, by rw [PyData.leavesShort]; exact c, by rw [PyData.canLay0]; exact e, by rw [PyData.bulk]; exact Nat.le_trans f (Nat.mul_le_mul_right _ hl), by rw [PyData.depth]; exact Nat.succ_le_succ g⟩
theorem rep_ints {is : List Int} (h : ∀ i ∈ is, i.natAbs < 10 ^ 12) (hl : is.length ≤ w') : Rep (.tuple (is.map .int)) w' 1 := by
  have z := rep_tup (xs := is.map .int) (w := 0) (k := 0) (w' := w') (fun x hx => by
    obtain ⟨i, hi, rfl⟩ := List.mem_map.mp hx
    exact rep_int (h i hi)) (by rw [List.length_map]; exact hl)
  rw [Nat.zero_add, Nat.mul_one] at z
  exact z
theorem rep_intsL {is : List Int} (h : ∀ i ∈ is, i.natAbs < 10 ^ 12) (hl : is.length ≤ w') : Rep (.list (is.map .int)) w' 1 := by
  have z := rep_list (xs := is.map .int) (w := 0) (k := 0) (w' := w') (fun x hx => by
    obtain ⟨i, hi, rfl⟩ := List.mem_map.mp hx
    exact rep_int (h i hi)) (by rw [List.length_map]; exact hl)
  rw [Nat.zero_add, Nat.mul_one] at z
  exact z
theorem repr_of0 (r : Rep d w k) (h1 : w ≤ 60000 := by decide) (h2 : k ≤ 60 := by decide) : fRepr [.v d] st = .ok (.v (.str d.shown)) st := by
  have hl := PyData.shown_le_bulk 13 (by decide) d r.ls
  have hb := r.bulk
  show (if _ then _ else _ : Out D) = _
  rw [if_pos]
  simp only [Bool.and_eq_true, Bool.not_eq_true', decide_eq_true_eq]
  refine ⟨⟨⟨r.sh, r.nd⟩, Nat.le_trans r.dep h2⟩, ?_⟩
  show _ ≤ 1000000
  omega
theorem repr_of (r : Rep d w k) (h1 : w ≤ 60000 := by decide) (h2 : k ≤ 60 := by decide) : fReprK [.v d] st = .ok (.v (.str d.shown)) st := by
  show (if noL d && d.showable && decide (d.depth ≤ 60) && decide (d.shown.length ≤ lim) then Out.ok (D.v (.str d.shown)) st else fRepr [.v d] st) = _
  split
  · rfl
  · exact repr_of0 r h1 h2
theorem shaped_of (r : Rep d w k) (h2 : k ≤ 60 := by decide) : SeqAt.shaped d = true := by
  unfold SeqAt.shaped
  rw [r.can, Bool.true_and]
  exact decide_eq_true (Nat.le_trans r.dep (by omega))
theorem eqS_str {x y : Str} : eqS st (.v (.str x)) (.v (.str y)) = some (decide (x = y)) := rfl
@[simp] theorem neD_str {x y : Str} : neD (.v (.str x)) (.v (.str y)) st = .ok (.v (.bool (!decide (x = y)))) st := rfl
theorem eqT_of (hd : SeqAt.shaped d = true) (he : SeqAt.shaped e = true) : eqT st (.v d) (.v e) = some (PyData.eqv d e) := by
  show (if SeqAt.shaped d && SeqAt.shaped e then some (PyData.eqv d e) else none) = _
  rw [hd, he]
  rfl
theorem shaped_int {i : Int} : SeqAt.shaped (.int i) = true := by
  unfold SeqAt.shaped
  simp [PyData.canLay0, PyData.depth]
theorem eqS_int {i j : Int} : eqS st (.v (.int i)) (.v (.int j)) = some (decide (i = j)) := by
  refine (eqT_of (st := st) shaped_int shaped_int).trans ?_
  simp only [PyData.eqv]
  exact congrArg some (Bool.eq_iff_iff.mpr (by simp))
@[simp] theorem eqD_int {i j : Int} : eqD (.v (.int i)) (.v (.int j)) st = .ok (.v (.bool (decide (i = j)))) st := by
  unfold eqD
  rw [eqS_int]
@[simp] theorem neD_int {i j : Int} : neD (.v (.int i)) (.v (.int j)) st = .ok (.v (.bool (!decide (i = j)))) st := by
  unfold neD
  rw [eqS_int]
theorem eqS_same (r : Rep d w k) (h2 : k ≤ 60 := by decide) : eqS st (.v d) (.v d) = some true := by
  have hs := shaped_of r h2
  have he : PyData.eqv d d = true := SeqAt.eqv_refl d r.can
  cases d with
  | str x => rw [eqS_str, decide_eq_true rfl]
  | _ => exact (eqT_of (st := st) hs hs).trans (by rw [he])
theorem ne_same (r : Rep d w k) (h2 : k ≤ 60 := by decide) : neD (.v d) (.v d) st = .ok (.v (.bool false)) st := by
  unfold neD
  rw [eqS_same r h2]
  rfl
end
end Fw
namespace Fw
open PySem PySem.Spec PyProof.Rows L2
section
variable {st : Sto} {xs ys : List PyData} {a b c e : PyData} {is js : List Int}
@[simp] theorem disp0 : gDisp [] st = .ok [] st := rfl
@[simp] theorem disp1 : gDisp [.v a] st = .ok [a] st := rfl
@[simp] theorem tup2 : fTup [.v a, .v b] st = .ok (.v (.tuple [a, b])) st := rfl
theorem cut_take {α : Type} (l : List α) (k : Nat) : cutP l none (some (k : Int)) = l.take k := by
  unfold cutP
  rw [HT.sIx_none, HT.sIx_nat, List.drop_zero, Nat.sub_zero]
  rcases Nat.le_total k l.length with h | h
  · rw [Nat.min_eq_left h]
  · rw [Nat.min_eq_right h, List.take_length, List.take_of_length_le h]
theorem cut_drop {α : Type} (l : List α) (k : Nat) : cutP l (some (k : Int)) none = l.drop k := by
  unfold cutP
  rw [HT.sIx_none, HT.sIx_nat]
  rcases Nat.le_total k l.length with h | h
  · rw [Nat.min_eq_left h, List.take_of_length_le (by rw [List.length_drop]; omega)]
  · rw [Nat.min_eq_right h, Nat.sub_self, List.drop_eq_nil_of_le h]
    rfl
theorem slice_list {lo hi : Option Int} : slD (.v (.list xs)) lo hi st = .ok (.v (.list (cutP xs lo hi))) st := rfl
theorem slice_tup {lo hi : Option Int} : slD (.v (.tuple xs)) lo hi st = .ok (.v (.tuple (cutP xs lo hi))) st := rfl
end
section
variable {m : MA} {env : Ev} {st : Sto} {P : List Itm × Wt → Sto → Prop} {xs ys : List PyData} {is js : List Int}
def zipW (ds : List D) (s1 : Sto) : Out (List Itm × Wt) := match ds with
  | [a, b] => match seqI s1 a, seqI s1 b with
    | some (xs, none), some (ys, none) => if isT a == isT b then .ok (zip2I xs ys, none) s1 else .stuck
    | _, _ => .stuck
  | _ => .stuck
theorem ok_zip : (miZip m env st).Ok P ↔ (m env st).Ok fun ds s => (zipW ds s).Ok P := ok_bind
theorem zip_list : zipW [.v (.list xs), .v (.list ys)] st = .ok (zip2I xs ys, none) st := rfl
def enumW (ds : List D) (s1 : Sto) : Out (List Itm × Wt) := match ds with
  | [d] => match seqI s1 d with
    | some (zs, w) => .ok (enumI zs, w) s1
    | none => .stuck
  | _ => .stuck
theorem ok_enum : (miEnum m env st).Ok P ↔ (m env st).Ok fun ds s => (enumW ds s).Ok P := ok_bind
theorem enum_tup : enumW [.v (.tuple xs)] st = .ok (enumI xs, none) st := rfl
theorem ok_gTp2 {i j : Nat} {x y : D} {Q : Ev → Sto → Prop} : (gTp 2 (gMore (gNm i) (gMore (gNm j) gNone)) (.many [x, y]) env st).Ok Q ↔ Q ((env.set i (some x)).set j (some y)) st := Iff.rfl
theorem ok_yes {Q : Bool → Sto → Prop} : (mYes env st).Ok Q ↔ Q true st := Iff.rfl
theorem ok_Rg1 {me : ME} {Q : List PyData → Sto → Prop} : (mRg1 me env st).Ok Q ↔ (me env st).Ok fun d s => ∃ n, iOf d = some n ∧ rgOk 0 n = true ∧ Q (rgD 0 n) s := by
  unfold mRg1
  rw [ok_bind]
  constructor
  · intro h
    refine h.mono fun d s q => ?_
    split at q
    · rename_i n e
      split at q
      · rename_i hc
        exact ⟨n, e, hc, q⟩
      · exact q.elim
    · exact q.elim
  · intro h
    refine h.mono fun d s ⟨n, e, hc, q⟩ => ?_
    rw [e]
    show (if rgOk 0 n then Out.ok (rgD 0 n) s else .stuck).Ok Q
    rw [if_pos hc]
    exact q
end
theorem lcL_mapA {α : Type} {g : MG} {t : MT} {m : ME} {env0 : Ev} {st : Sto} (f : α → Itm) (F : α → Option PyData) : ∀ (l : List α),
    (∀ a ∈ l, (g (f a) env0 st).Ok fun e1 s1 => s1 = st ∧ (t e1 st).Ok fun k s2 => s2 = st ∧ (k = true → (m e1 st).Ok fun v s3 => s3 = st ∧ ∃ z, v = .v z ∧ F a = some z) ∧ (k = false → F a = none)) →
    lcL none g t m env0 (l.map f) st = .ok (l.filterMap F) st
  | [], _ => by
    unfold List.map lcL
    rw [if_pos (show chk none st from trivial)]
    rfl
  | a :: r, h => by
    have ih := lcL_mapA f F r fun d hd => h d (List.mem_cons_of_mem _ hd)
    obtain ⟨e1, s1, eg, rfl, q⟩ := (h a List.mem_cons_self).eq
    obtain ⟨k, s2, et, rfl, q1, q2⟩ := q.eq
    rw [List.map_cons]
    unfold lcL
    rw [if_pos (show chk none s2 from trivial), eg, noX_ok, bind_ok, et, noX_ok, bind_ok]
    cases k with
    | true =>
      obtain ⟨v, s3, em, rfl, z, rfl, ez⟩ := (q1 rfl).eq
      rw [if_pos rfl, em, noX_ok, bind_ok]
      show (lcL none g t m env0 (r.map f) s3).bind _ = _
      rw [ih, bind_ok, List.filterMap_cons, ez]
    | false =>
      rw [if_neg Bool.false_ne_true, ih, List.filterMap_cons, q2 rfl]
theorem lcL_all {α : Type} {g : MG} {m : ME} {env0 : Ev} {st : Sto} (f : α → Itm) (F : α → PyData) (l : List α)
    (h : ∀ a ∈ l, (g (f a) env0 st).Ok fun e1 s1 => s1 = st ∧ (m e1 st).Ok fun v s3 => s3 = st ∧ v = .v (F a)) : lcL none g mYes m env0 (l.map f) st = .ok (l.map F) st := by
  rw [lcL_mapA f (fun a => some (F a)) l fun a ha => ?_]
  · rw [List.filterMap_eq_map']
  · refine (h a ha).mono fun e1 s1 ⟨e, q⟩ => ⟨e, ?_⟩
    rw [ok_yes]
    exact ⟨rfl, fun _ => q.mono fun v s3 ⟨e3, ev⟩ => ⟨e3, _, ev, rfl⟩, fun z => nomatch z⟩
end Fw
namespace Fw
open PySem PySem.Spec PyProof.Rows L2
abbrev nI (k : Nat) : PyData := .int (k : Int)
abbrev tNs (l : List Nat) : PyData := .tuple (l.map nI)
abbrev lNs (l : List Nat) : PyData := .list (l.map nI)
section
variable {st : Sto} {l row : List Nat} {k b : Nat} {e0 : Ev} {P : D → Sto → Prop}
theorem flat_nats (l : List Nat) : (l.map nI).all flatP = true := by
  rw [List.all_map]
  exact List.all_eq_true.mpr fun _ _ => rfl
theorem eqv_nat {a b : Nat} : PyData.eqv (nI a) (nI b) = decide (a = b) := by
  simp only [PyData.eqv]
  exact Bool.eq_iff_iff.mpr (by simp only [beq_iff_eq, decide_eq_true_eq]; omega)
theorem any_nat (l : List Nat) (b : Nat) : ((l.map nI).any fun y => PyData.eqv y (nI b)) = decide (b ∈ l) := by
  rw [List.any_map]
  induction l with
  | nil => rfl
  | cons a r ih =>
    rw [List.any_cons, ih]
    show (PyData.eqv (nI a) (nI b) || _) = _
    rw [eqv_nat]
    by_cases h : a = b
    · subst h; simp
    · have : ¬ b = a := fun z => h z.symm
      simp [h, this]
theorem inS_list : inS st (.v (nI b)) (.v (lNs l)) = some (decide (b ∈ l)) := by
  show (if flatP (nI b) && (l.map nI).all flatP then some ((l.map nI).any fun y => PyData.eqv y (nI b)) else _) = _
  rw [flat_nats, any_nat]
  rfl
theorem idxP_nat : ∀ {l : List Nat} {b : Nat}, b ∈ l → idxP (nI b) (l.map nI) = some (l.idxOf b)
  | [], _, h => nomatch h
  | a :: r, b, h => by
    rw [List.map_cons]
    unfold idxP
    rw [eqv_nat]
    by_cases e : a = b
    · subst e
      simp
    · have hb : b ∈ r := (List.mem_cons.mp h).resolve_left fun z => e z.symm
      rw [if_neg (by simpa using e), idxP_nat hb, List.idxOf_cons]
      have e2 : (a == b) = false := by simpa using e
      rw [e2]
      rfl
theorem index_tN (h : b ∈ l) : fmIndex (.v (tNs l)) [.v (nI b)] st = .ok (.v (nI (l.idxOf b))) st := by
  show (if flatP (nI b) && (l.map nI).all flatP then _ else _ : Out D) = _
  have e : (flatP (nI b) && (l.map nI).all flatP) = true := by rw [flat_nats]; rfl
  rw [if_pos e, idxP_nat h]
theorem rep_tNs {w : Nat} (h : ∀ k ∈ l, k < 10 ^ 12) (hl : l.length ≤ w) : Rep (tNs l) w 1 := by
  have e : tNs l = .tuple ((l.map fun k : Nat => (k : Int)).map .int) := by
    rw [List.map_map]
    rfl
  rw [e]
  refine rep_ints (fun x hx => ?_) (by rw [List.length_map]; exact hl)
  obtain ⟨k, hk, rfl⟩ := List.mem_map.mp hx
  exact h k hk
end
theorem shaped_nil {t : List PyData → PyData} (h : t = .list ∨ t = .tuple) : SeqAt.shaped (t []) = true := by
  rcases h with rfl | rfl <;> (unfold SeqAt.shaped; simp [PyData.canLay0, PyData.canLayAll0, PyData.depth, PyData.depthAll])
theorem shaped_nats (l : List Nat) : SeqAt.shaped (lNs l) = true := by
  have key : ∀ l : List Nat, PyData.canLayAll0 (l.map nI) = true ∧ PyData.depthAll (l.map nI) = 0 := fun l => by
    induction l with
    | nil => exact ⟨rfl, rfl⟩
    | cons a r ih =>
      rw [List.map_cons, PyData.canLayAll0, PyData.depthAll, ih.1, ih.2]
      simp [PyData.canLay0, PyData.depth]
  unfold SeqAt.shaped
  rw [PyData.canLay0, PyData.depth, (key l).1, (key l).2]
  rfl
theorem ne_nilL {xs : List PyData} {st : Sto} (h : SeqAt.shaped (.list xs) = true) : neD (.v (.list xs)) (.v (.list [])) st = .ok (.v (.bool (!xs.isEmpty))) st := by
  unfold neD
  have e : eqS st (.v (.list xs)) (.v (.list [])) = some xs.isEmpty := by
    refine (eqT_of (st := st) h (shaped_nil (t := .list) (.inl rfl))).trans ?_
    rw [PyData.eqv]
    cases xs <;> simp [PyData.eqvAll]
  rw [e]
theorem eq_nilL {xs : List PyData} {st : Sto} (h : SeqAt.shaped (.list xs) = true) : eqD (.v (.list xs)) (.v (.list [])) st = .ok (.v (.bool xs.isEmpty)) st := by
  unfold eqD
  have e : eqS st (.v (.list xs)) (.v (.list [])) = some xs.isEmpty := by
    refine (eqT_of (st := st) h (shaped_nil (t := .list) (.inl rfl))).trans ?_
    rw [PyData.eqv]
    cases xs <;> simp [PyData.eqvAll]
  rw [e]
theorem ok_Index {mo : ME} {ma : MA} {env : Ev} {st : Sto} {P : D → Sto → Prop} : (mIndex mo ma env st).Ok P ↔ (mo env st).Ok fun o s => (isL s o || isT o) = true ∧ (ma env s).Ok fun ds s2 => (fmIndex o ds s2).Ok P := by
  unfold mIndex
  rw [ok_bind]
  constructor
  · intro h
    refine h.mono fun d s q => ?_
    split at q
    · rename_i e
      exact ⟨e, ok_bind.mp q⟩
    · exact q.elim
  · intro h
    refine h.mono fun d s ⟨e, q⟩ => ?_
    rw [if_pos e]
    exact ok_bind.mpr q
@[simp] theorem isT_tup {xs : List PyData} : isT (.v (.tuple xs)) = true := rfl
def ups (a n : Nat) : List Nat := (List.range (n - a)).map (a + ·)
theorem cat_list {xs ys : List PyData} {st : Sto} (h : xs.length + ys.length ≤ 1000000) : gCat (.v (.list xs)) (.v (.list ys)) st = .ok (xs ++ ys) st := by
  show (if xs.length + ys.length ≤ lim then _ else _) = _
  rw [if_pos (show xs.length + ys.length ≤ lim from h)]
end Fw
namespace Fw
open PySem PySem.Spec PyProof.Rows L2
section
variable {prog : Program} {w : World} {A : Around} {E : Value → Shared → Prop} {s : Shared}
end
section
variable {X : Cx} {W : XW} {e : Expr} {m : ME} {k : Nat} {p1 p2 p3 pos : Pos}
end
section
variable {st : Sto} {rest : Sto} {xs : List PyData} {z : PyData}
theorem atI_last {α : Type} {xs : List α} {z : α} : atI (xs ++ [z]) (-1) = some z := by
  unfold atI ixN
  rw [List.length_append, List.length_singleton, if_neg (by decide), if_pos (by omega)]
  show (xs ++ [z])[(-1 + ((xs.length + 1 : Nat) : Int)).toNat]? = some z
  rw [show (-1 + ((xs.length + 1 : Nat) : Int)).toNat = xs.length by omega]
  simp
theorem sub_last {a : D} (hv : viewK st a = none) (h : viewS st a = some (xs ++ [z])) : subsD a (.v (.int (-1))) st = .ok (.v z) st := by
  unfold subsD
  rw [hv]
  show ixD a _ st = _
  unfold ixD
  rw [h]
  show (match atI (xs ++ [z]) (-1) with
    | some d => _
    | none => _) = _
  rw [atI_last]
theorem ne_nilT (h : SeqAt.shaped (.tuple xs) = true) : neD (.v (.tuple xs)) (.v (.tuple [])) st = .ok (.v (.bool (!xs.isEmpty))) st := by
  unfold neD
  have e : eqS st (.v (.tuple xs)) (.v (.tuple [])) = some xs.isEmpty := by
    refine (eqT_of (st := st) h (shaped_nil (t := .tuple) (.inr rfl))).trans ?_
    rw [PyData.eqv]
    cases xs <;> simp [PyData.eqvAll]
  rw [e]
def insN (a : Nat) : List Nat → List Nat
  | [] => [a]
  | b :: r => if a ≤ b then a :: b :: r else b :: insN a r
def sortN : List Nat → List Nat
  | [] => []
  | a :: r => insN a (sortN r)
theorem insN_perm (a : Nat) : ∀ l, (insN a l).Perm (a :: l)
  | [] => .refl _
  | b :: r => by
    unfold insN
    split
    · exact .refl _
    · exact ((insN_perm a r).cons b).trans (.swap a b r)
theorem sortN_perm : ∀ l, (sortN l).Perm l
  | [] => .refl _
  | a :: r => (insN_perm a (sortN r)).trans ((sortN_perm r).cons a)
theorem insN_sorted (a : Nat) : ∀ l : List Nat, l.Pairwise (· ≤ ·) → (insN a l).Pairwise (· ≤ ·)
  | [], _ => by unfold insN; exact List.pairwise_singleton _ _
  | b :: r, h => by
    unfold insN
    obtain ⟨h1, h2⟩ := List.pairwise_cons.mp h
    split
    · rename_i hab
      refine List.pairwise_cons.mpr ⟨fun x hx => ?_, h⟩
      rcases List.mem_cons.mp hx with rfl | hx
      · exact hab
      · exact Nat.le_trans hab (h1 x hx)
    · refine List.pairwise_cons.mpr ⟨fun x hx => ?_, insN_sorted a r h2⟩
      rcases List.mem_cons.mp ((insN_perm a r).mem_iff.mp hx) with rfl | hx
      · omega
      · exact h1 x hx
theorem sortN_sorted : ∀ l, (sortN l).Pairwise (· ≤ ·)
  | [] => .nil
  | a :: r => insN_sorted a _ (sortN_sorted r)
def tyB : PyData → Bool
  | .dict kvs => !isTK kvs
  | _ => true
def isTp : PyData → Bool
  | .tuple _ => true
  | _ => false
theorem ty_dict {kvs : List (PyData × PyData)} (h : tyB (.dict kvs) = true) : tyD st (.v (.dict kvs)) = some "dict" := by
  show (if isTK kvs = true then none else some "dict") = _
  rw [if_neg]
  intro z
  exact absurd h (by show ¬ (!isTK kvs) = true; rw [z]; decide)
theorem isi_by {d : PyData} {T t : String} {b : Bool} (h1 : tyD st (.v d) = some t) (h2 : isT1 t T = some b) : isiD T (.v d) st = .ok (.v (.bool b)) st := by
  show (match tyD st (.v d) with
    | some t => match isT1 t T with
      | some b => Out.ok (D.v (.bool b)) st
      | none => .stuck
    | none => .stuck) = _
  rw [h1]
  show (match isT1 t T with
      | some b => Out.ok (D.v (.bool b)) st
      | none => .stuck) = _
  rw [h2]
theorem isi_tup {d : PyData} (h : tyB d = true) : isiD "tuple" (.v d) st = .ok (.v (.bool (isTp d))) st := by
  cases d with
  | dict kvs => exact isi_by (ty_dict h) rfl
  | _ => exact isi_by rfl rfl
end
end Fw
namespace Fw
open PySem PySem.Spec PyProof.Rows L2
section
variable {K : PySem.W.Frag} {ι ι' : Gh} {st st' : Sto} {H H' : Hp}
structure Mk (ι : Gh) (st : Sto) (H : Hp) (ι' : Gh) (st' : Sto) (H' : Hp) : Prop where
  keep : ∀ q u, H q = some u → Frz ι st q → Frz ι' st' q ∧ H' q = some u
  pre : ∀ (n : Nat) (a : Addr), ι.ad[n]? = some a → ι'.ad[n]? = some a
theorem Mk.rp (m : Mk ι st H ι' st' H') {v : V} {d : PyData} (h : Rp (Frz ι st) H v d) : Rp (Frz ι' st') H' v d := Rp.mv (fun q u e f => let ⟨a, b⟩ := m.keep q u e f; ⟨a, .inl b⟩) h
theorem Mk.rpA (m : Mk ι st H ι' st' H') {v : List V} {d : List PyData} (h : RpA (Frz ι st) H v d) : RpA (Frz ι' st') H' v d := RpA.mv (fun q u e f => let ⟨a, b⟩ := m.keep q u e f; ⟨a, .inl b⟩) h
theorem Mk.rd (m : Mk ι st H ι' st' H') {x : V} : ∀ {d : D}, RD K ι st H x d → RD K ι' st' H' x d
  | .v d, h => m.rp h
  | .ref n, ⟨a, h1, h2⟩ => ⟨a, m.pre n a h1, h2⟩
  | .scr ns, ⟨a, h1, h2⟩ => ⟨a, h1, h2.imp id fun ⟨o, h, f⟩ => let ⟨a, b⟩ := m.keep _ _ h f; ⟨o, b, a⟩⟩
theorem Mk.rk (m : Mk ι st H ι' st' H') : ∀ {kvs : List (PyData × D)} {xs : List (Key × V)}, RK K ι st H kvs xs → RK K ι' st' H' kvs xs
  | _, _, .nil => .nil
  | _, _, .cons h r => .cons ⟨h.1, m.rd h.2⟩ (Mk.rk m r)
theorem Mk.rt (m : Mk ι st H ι' st' H') : ∀ {kvs : List (PyData × D)} {xs : List (List Key × V)}, RT K ι st H kvs xs → RT K ι' st' H' kvs xs
  | _, _, .nil => .nil
  | _, _, .cons h r => .cons ⟨h.1, m.rd h.2⟩ (Mk.rt m r)
theorem Mk.rtab (m : Mk ι st H ι' st' H') : ∀ {kvs : List (PyData × D)} {xs : List (NestedKey × Addr × V)}, RTab K ι st H kvs xs → RTab K ι' st' H' kvs xs
  | _, _, .nil => .nil
  | _, _, .cons h r => .cons ⟨h.1, m.rp h.2.1, m.rd h.2.2⟩ (Mk.rtab m r)
theorem Mk.rda (m : Mk ι st H ι' st' H') : ∀ {ds : List D} {xs : List V}, RDA K ι st H ds xs → RDA K ι' st' H' ds xs
  | _, _, .nil => .nil
  | _, _, .cons h r => .cons (m.rd h) (Mk.rda m r)
theorem Mk.ro (m : Mk ι st H ι' st' H') {a : Addr} (h : ∀ u, H a = some u → H' a = some u) : ∀ {o : O}, RO K ι st H a o → RO K ι' st' H' a o
  | .dead, _ => trivial
  | .lst _, ⟨xs, q, r⟩ => ⟨xs, h _ q, m.rpA r⟩
  | .dct false _, ⟨xs, q, r⟩ => ⟨xs, h _ q, m.rk r⟩
  | .dct true _, ⟨xs, q, r⟩ => ⟨xs, h _ q, m.rt r⟩
  | .lck false _, ⟨xs, o, q, r⟩ => ⟨xs, o, h _ q, m.rk r⟩
  | .lck true _, ⟨xs, o, q, r⟩ => ⟨xs, o, h _ q, m.rt r⟩
  | .tpl _, ⟨xs, o, q, r⟩ => ⟨xs, o, h _ q, m.rda r⟩
  | .tab _, ⟨xs, q, r⟩ => ⟨xs, h _ q, r.1, r.2.1, r.2.2.1, m.rtab r.2.2.2⟩
end
def mLock (i : Nat) (m : ME) : ME := fun env st => match env[i]? with
  | some (some (.ref n)) => match st[n]? with
    | some (.dct false kvs) => (m env (st.set n (.lck false kvs))).bind fun d s1 => .ok d (s1.set n (.dct false kvs))
    | _ => .stuck
  | _ => .stuck
def itemsI (kvs : List (PyData × D)) : List Itm := kvs.map fun p => .many [.v p.1, p.2]
def miItems (m : ME) : MI := fun env st => (m env st).bind fun d s1 => match d with
  | .ref n => match s1[n]? with
    | some (.lck false kvs) => .ok (itemsI kvs, none) s1
    | _ => .stuck
  | _ => .stuck
def pairsP : List PyData → Option (List (PyData × D))
  | [] => some []
  | .tuple [k, v] :: r => match key1 k, pairsP r with
    | some _, some l => some ((k, .v v) :: l)
    | _, _ => none
  | _ => none
def fDictP : FA := fun ds st => match ds with
  | [d] => match viewL st d with
    | some zs => match pairsP zs with
      | some kvs => .ok (.ref st.length) (st ++ [.dct false (putAll [] kvs)])
      | none => .stuck
    | none => .stuck
  | _ => .stuck
section
variable {K : PySem.W.Frag} {ι : Gh} {st : Sto} {H : Hp}
theorem pairsP_at : ∀ {zs : List PyData} {kvs : List (PyData × D)} {us : List V}, pairsP zs = some kvs → RpA (Frz ι st) H us zs →
    ∃ (ps : List Addr) (xs : List (Key × V)), us = ps.map V.ref ∧ Paired (fun p kv => SqT K H p [kV kv.1, kv.2]) ps xs ∧ RK K ι st H kvs xs ∧ (∀ p ∈ kvs, ∃ k, key1 p.1 = some k) ∧ (kvs.all fun p => p.2.low st.length) = true
  | [], kvs, _, e, .nil => by cases e; exact ⟨[], [], rfl, .nil, .nil, (fun p hp => nomatch hp), rfl⟩
  | z :: r, kvs, _, e, .cons (x := x) (xs := us) h t => by
    unfold pairsP at e
    split at e
    · rename_i h1
      cases h1
    · rename_i k v r' h1
      cases h1
      split at e
      · rename_i kk l h2 h3
        cases e
        obtain ⟨ps, xs, rfl, h4, h5, h6, h7⟩ := pairsP_at h3 t
        cases h with
        | tup hH hd f ra =>
          rename_i a ys o
          cases ra with
          | cons r1 r2 =>
            cases r2 with
            | cons r3 r4 =>
              cases r4
              have hk := kD_of h2
              rw [hk] at r1
              have ew := kV_of r1
              subst ew
              refine ⟨a :: ps, (kk, _) :: xs, rfl, .cons (.inl (.inr ⟨o, hH⟩)) h4, .cons ⟨hk, r3⟩ h5, fun p hp => ?_, ?_⟩
              · rcases List.mem_cons.mp hp with rfl | hp
                · exact ⟨kk, h2⟩
                · exact h6 p hp
              · rw [List.all_cons, h7]; rfl
      · cases e
    · cases e
theorem opA_dictP {W : XW} : OpA K W (fun xs H Q => ∃ (a : Addr) (ps : List Addr) (kvs : List (Key × V)), xs = [.ref a] ∧ SqL K H a (ps.map V.ref) ∧ Paired (fun p kv => SqT K H p [kV kv.1, kv.2]) ps kvs ∧
    ∀ p, H p = none → Q (.ref p) (upd H p (.dK (mergeK [] kvs)))) fDictP := by
  intro ι st H xs ds Q R r p
  unfold fDictP at p
  split at p
  · obtain ⟨x, rfl, r1⟩ := r.one
    split at p
    · rename_i zs e
      split at p
      · rename_i kvs e2
        obtain ⟨q, us, rfl, h1, h2⟩ := viewL_at R e r1
        obtain ⟨ps, ys, rfl, h3, h4, h5, h6⟩ := pairsP_at (K := K) e2 h2
        refine ⟨q, ps, ys, rfl, .of h1, h3, fun b hb hf => ?_⟩
        have E : Ext ι st H (ι.psh b) (st ++ [.dct false (putAll [] kvs)]) (upd H b (.dK (mergeK [] ys))) := Ext.push R hb
        exact p (ι.psh b) _ _ (R.push hb hf ⟨_, upd_same, RK.ext E (rk_putAll h4 h5 .nil)⟩ (putAll_low h6 rfl)) E ⟨b, psh_at R, rfl⟩
      · exact p.elim
    · exact p.elim
  · exact p.elim
end
section
variable {prog : Program} {w : World} {A : Around} {E : Value → Shared → Prop} {s : Shared}
theorem gather_tup {l : Addr} {us : List Value} {Q : List Value → Shared → Prop} (ht : IsTup s.heap l us.toArray) (hz : us.length ≤ sizeLine)
    (h : Q us { s with heap := (s.heap.push (seqObj "list" #[] 0)).update s.heap.objs.size (Obj.mapSeq (· ++ us.toArray)) }) : wpAny (model prog w) A (collect (.ref l)) Q E s := by
  obtain ⟨ob, g1, g2, k, g3⟩ := id ht
  have g1' : (s.heap.push (seqObj "list" #[] 0)).get? l = some ob := Heap.get?_push_of_some _ g1
  unfold collect
  refine wpAny_bind (wpAny_runValue (codeAny_builtin entry_proto_collect' ?_))
  show wpAny _ _ (do again (.builtin "list.__iadd__" ⟨[← newList [], .ref l], []⟩)) _ _ s
  refine wpAny_bind ?_
  refine wpAny_newList ?_
  refine wpAny_pure ⟨Code.quiet_builtin _ (by decide +kernel), ?_⟩
  refine codeAny_builtin entry_list_iadd' ?_
  show wpAny _ _ (Builtin.List.listExtendWith (.ref s.heap.objs.size) (.ref l) (.ref s.heap.objs.size)) _ _ { s with heap := s.heap.push (seqObj "list" #[] 0) }
  unfold Builtin.List.listExtendWith
  refine wpAny_bind (wpAny_typeOf (T := "tuple") ⟨ob, g1', g2⟩ ?_)
  rw [if_pos (by rw [show (Value.type "tuple" == Value.type "tuple") = true from rfl, Bool.or_true])]
  refine wpAny_bind (listItems_at g1' g3 ?_)
  refine wpAny_bind ?_
  refine listItems_at (xs := #[]) (n := 0) (Heap.get?_push_size _ rfl) rfl ?_
  rw [if_neg (by simp)]
  refine wpAny_bind ?_
  refine listUpdate_at (xs := #[]) (n := 0) (Heap.get?_push_size _ rfl) rfl ?_ (Nat.zero_le _) (by show (#[] ++ us.toArray).size ≤ sizeLine + 1; simp only [Array.size_append, List.size_toArray, List.length_nil]; omega)
  refine wpAny_pure ?_
  refine wpAny_bind (m := load s.heap.objs.size) ?_
  refine wpAny_load (get?_update_seq (Heap.get?_push_size _ rfl) _) ?_
  show wpAny _ _ (pure ((#[] : Array Value) ++ us.toArray).toList) Q E _
  have e : ((#[] : Array Value) ++ us.toArray).toList = us := by simp
  rw [e]
  exact wpAny_pure h
end
end Fw
namespace Fw.LD
open PySem PySem.Spec PyProof.Rows L2 Fw
noncomputable abbrev f_law_partner : FF := Fw.LC.f_law_partner
noncomputable abbrev f_law_want : FF := Fw.LC.f_law_want
end Fw.LD
set_option maxHeartbeats 400000
namespace PySem.SeqAt
open AutoSeq1 (wpAny_loadPart')
open MeetsSeq
end PySem.SeqAt
namespace Fw
open PySem PySem.Spec PyProof.Rows L2
section
variable {X : Cx} {W : XW} {a b : Expr} {ma mb : ME}
end
end Fw
namespace Fw
open PySem PySem.Spec PyProof.Rows L2
section
variable {K : PySem.W.Frag} {ι ι' : Gh} {st st' : Sto} {H H' : Hp}
end
section
variable {X : Cx} {W : XW} {o i e : Expr} {mo mi me : ME} {pos tpos : Pos} {vs : Option (List Nat)}
end
def PD1 (K : PySem.W.Frag) (ι : Gh) (st : Sto) (H : Hp) (Q : VK) (kvs : List (PyData × D)) (st' : Sto) : Prop :=
  ∀ ι' H' xs p, SRel K ι' st' H' → Ext ι st H ι' st' H' → RK K ι' st' H' kvs xs → H' p = none → HF (upd H' p (.dK xs)) → Q (.ref p) (upd H' p (.dK xs))
theorem PD1.ext {K : PySem.W.Frag} {ι ι' : Gh} {st st' s2 : Sto} {H H' : Hp} {Q : VK} {kvs : List (PyData × D)} (h : PD1 K ι st H Q kvs s2) (e : Ext ι st H ι' st' H') : PD1 K ι' st' H' Q kvs s2 :=
  fun ι2 H2 xs p R E r => h ι2 H2 xs p R (e.trans E) r
section
variable {X : Cx} {W : XW} {kx vx tg iter : Expr} {ifs : List Expr} {scope : Scope} {own : List (Str × Nat)} {pos : Pos} {mi : MI} {g : MG} {t : MT} {mk mv : ME}
end
section
variable {st : Sto} {env : Ev} {N : Ev → Sto → Prop} {T : D → Sto → Prop}
end
end Fw
namespace Fw
open PySem PySem.Spec PyProof.Rows L2
section
variable {K : PySem.W.Frag} {ι ι1 : Gh} {st s1 : Sto} {H H1 : Hp}
theorem Mk.ev {ι' : Gh} {st' : Sto} {H' : Hp} (m : Mk ι st H ι' st' H') {σ : L2.St} {env : Ev} (h : EvR K ι st H σ env) : EvR K ι' st' H' σ env :=
  ⟨h.1, fun i d q => let ⟨x, h1, h2⟩ := h.2 i d q; ⟨x, h1, m.rd h2⟩⟩
end
end Fw
namespace Fw.LE
open PySem PySem.Spec PyProof.Rows L2 Fw
noncomputable abbrev f_law_pick : FF := Fw.LA.f_law_pick
noncomputable abbrev f_law_any_order : FF := Fw.LA.f_law_any_order
noncomputable def S_law_rather_2 : MS := (sRet (mBin ltD (mIndex (mVar 4) (mCons (mVar 2) mNil)) (mIndex (mVar 4) (mCons (mVar 3) mNil))))
noncomputable def S_law_rather : MS := (sSeq (sAsg (mFrz (mfBin gCat (mFrz (mfArg gList (mCons (mBin subsD (mBin subsD (mVar 0) (mC (.int 1))) (mVar 1)) mNil))) (mFrz (mfArg gDisp (mCons (mC .none) mNil))))) (gNm 4)) S_law_rather_2)
noncomputable def f_law_rather : FF := fnT 5 S_law_rather
end Fw.LE
namespace Fw
open PySem PySem.Spec PyProof.Rows L2
theorem RDs.app {K : PySem.W.Frag} {ι : Gh} {st : Sto} {H : Hp} : ∀ {xs ys : List V} {ds es : List D}, RDs K ι st H xs ds → RDs K ι st H ys es → RDs K ι st H (xs ++ ys) (ds ++ es)
  | _, _, _, _, .nil, s => s
  | _, _, _, _, .cons h r, s => .cons h (RDs.app r s)
end Fw
namespace L2
open PySem PySem.Spec PyProof.Rows
section
variable {X : Cx} {e : Expr} {te : TE} {p apos cpos pos : Pos}
end
end L2
namespace Fw
open PySem PySem.Spec PyProof.Rows L2
end Fw
namespace Fw
open PySem PySem.Spec PyProof.Rows L2
section
variable {X : Cx} {W : XW} {elt tg iter tg1 iter1 : Expr} {ifs ifs1 : List Expr} {scope : Scope} {own own1 : List (Str × Nat)} {pos : Pos} {mi mi1 : MI} {g g1 : MG} {t t1 : MT} {m : ME}
end
def isK (st : Sto) (d : D) : Bool := (viewK st d).isSome
theorem pe_tupRgN {X : Cx} {e : Expr} {te : L2.St → Hp → (Int → Int → Hp → Prop) → Prop} {p pos : Pos} (hc : X.calm = true) (hg : Gl X "tuple") (hm : X.mg "tuple" = none) (he : PRg X e te) (na : starEach [e] X.env = (false, eval e X.env) :: starEach [] X.env := by rfl) :
    PE X (.Call (.Name "tuple" p) [e] [] pos) (fun σ H Q => te σ H fun a b H1 => RgOk a b ∧ NewT H1 (rgV a b) Q) := by
  refine ⟨fun pins s σ H Q I h => ?_⟩
  refine Call_ (ld_blt I hg hm boot_tuple (PyProof.Rows.callWith_type1 (args_cons (thn (he pins s σ H _ I h) fun x s1 ⟨r, a, b, t, u, v, H1, ex, hr, I1, ok, q⟩ => args_nil ?_) na) na))
  subst ex
  obtain ⟨b1, b2, b3, b4, b5⟩ := ok
  refine call_tuple_range (n := (b - a).toNat) (I1.ok.hd hc) hr (small_one b1 b2 b3 b4) (rangeSize_nat a b) b5 fun h' tk acc hk hi => ?_
  have I2 : Inv X pins σ H1 { s1 with heap := h', toks := tk } := I1.kept hk
  refine q.laid (t' := tk) I2 (vals_rg hi) ?_
  rw [rgV_length, sizeLine_eq]; omega
end Fw
namespace L2
open PySem PySem.Spec PyProof.Rows
section
variable {X : Cx}
end
end L2
namespace Fw
open PySem PySem.Spec PyProof.Rows L2
section
variable {K : PySem.W.Frag} {ι : Gh} {st : Sto} {H : Hp}
end
def mTupRg1 (m : ME) : ME := fun env st => (mRg1 m env st).bind fun zs s => .ok (.v (.tuple zs)) s
section
variable {X : Cx} {W : XW} {a b : Expr} {m ma mb : ME} {p q pos pos2 : Pos}
theorem x_tupRg1 (gd : Gd X) (hg : Gl X "tuple") (hm : X.mg "tuple" = none) (hg2 : Gl X "range") (hm2 : X.mg "range" = none) (ha : PE X a (TEo X.K W m)) (na : starEach [a] X.env = (false, eval a X.env) :: starEach [] X.env := by rfl)
    (na2 : starEach [Expr.Call (.Name "range" q) [a] [] pos2] X.env = (false, eval (.Call (.Name "range" q) [a] [] pos2) X.env) :: starEach [] X.env := by rfl) :
    PE X (.Call (.Name "tuple" p) [.Call (.Name "range" q) [a] [] pos2] [] pos) (TEo X.K W (mTupRg1 m)) :=
  pe_wrap (pe_tupRgN gd.calm hg hm (prg_1 hg2 hm2 ha na) na2) fun σ H Q q => by
    obtain ⟨ι, env, st, R, EV, p⟩ := q
    refine ⟨ι, env, st, R, EV, Out.post_mono (Out.post_bind (Out.post_bind p)) (fun d s1 q ι1 H1 x R1 E1 ra => ?_) fun _ _ q => q⟩
    split at q
    · rename_i n e1
      split at q
      · rename_i h
        exact ⟨n, iOf_at e1 ra, rgOk_ok h, fun c o hc ho hf => (PO1.ext q E1).newTup R1 (rpA_rg 0 n) hc ho hf⟩
      · exact q.elim
    · exact q.elim
end
end Fw
namespace Fw.LF
open PySem PySem.Spec PyProof.Rows L2 Fw
noncomputable abbrev f_law_pick : FF := Fw.LA.f_law_pick
noncomputable abbrev f_law_rather : FF := Fw.LE.f_law_rather
end Fw.LF
namespace Fw
open PySem PySem.Spec PyProof.Rows L2
end Fw
namespace RZ
open PySem PySem.Spec PyProof.Rows L2
end RZ
namespace Fw
open PySem PySem.Spec PyProof.Rows L2
end Fw
namespace Fw
open PySem PySem.Spec PyProof.Rows L2
end Fw
namespace L2
open PySem PySem.Spec PyProof.Rows
section
variable {X : Cx} {pins : List (Addr × Obj)} {σ : St} {H : Hp} {s : Shared} {a b : Addr} {kvs more : List (Key × V)} {A : Around} {E : Value → Shared → Prop}
end
end L2
namespace Fw
open PySem PySem.Spec PyProof.Rows L2
end Fw
namespace RZ
open PySem PySem.Spec PyProof.Rows L2
end RZ
namespace Fw
open PySem PySem.Spec PyProof.Rows L2
end Fw
namespace Fw
open PySem PySem.Spec PyProof.Rows L2
theorem fnG_stuck {P : Program} {w : World} {K : PySem.W.Frag} {mg : Str → Option Value} {base : Heap} {CX : CXT} {k : Nat} {f : Addr} {fd : FuncData} {ps : List Str} {V : XK → XW} : FnG P w K mg base CX k f fd ps (spG K V ps.length fun _ _ => .stuck) :=
  ⟨fun _ _ _ _ h => spG_len h, fun A outer s H args us vs Q E hr he hb hv h => by
    obtain ⟨ι, st, ds, R, r, hl, p⟩ := h
    exact p.elim⟩
theorem fnG_rec {P : Program} {w : World} {K : PySem.W.Frag} {mg : Str → Option Value} {base : Heap} {CX : CXT} {k : Nat} {f : Addr} {fd : FuncData} {ps : List Str} {V : XK → XW} (r : Nat → FF) (h0 : r 0 = fun _ _ => .stuck)
    (h : ∀ n, FnG P w K mg base CX (k + n) f fd ps (spG K V ps.length (r n)) → FnG P w K mg base CX (k + n + 1) f fd ps (spG K V ps.length (r (n + 1)))) : ∀ n, FnG P w K mg base CX (k + n) f fd ps (spG K V ps.length (r n))
  | 0 => by rw [h0]; exact fnG_stuck
  | n + 1 => h n (fnG_rec r h0 h n)
end Fw
namespace Fw
open PySem PySem.Spec PyProof.Rows L2
open PySem.W (AllAlike Sortable dataLe dataLt alike alikeAll sortVals dataKind sortingHeap EachIs)
section
variable {prog : Program} {w : World} {A : Around} {E : Value → Shared → Prop} {s : Shared} {M : Model}
theorem mapM_fun {α β : Type} {f : α → Sem β} (g : α → β) : ∀ (l : List α) {Q : List β → Shared → Prop}, (∀ v ∈ l, ∀ Q' : β → Shared → Prop, Q' (g v) s → wpAny M A (f v) Q' E s) → Q (l.map g) s → wpAny M A (l.mapM f) Q E s
  | [], _, _, h => by rw [List.mapM_nil]; exact wpAny_pure h
  | x :: l, Q, hf, h => by
    rw [List.mapM_cons]
    exact wpAny_bind (hf x (.head _) _ (wpAny_bind (mapM_fun g l (Q := fun bs s' => wpAny M A (pure (g x :: bs)) Q E s') (fun v hv => hf v (.tail _ hv)) (wpAny_pure h))))
def fstV (h : Heap) (v : Value) : Option Value := match v with
  | .ref a => match h.get? a with
    | some o => match o.data with
      | .seq xs _ => xs[0]?
      | _ => none
    | none => none
  | _ => none
theorem tups_kind {vs : List Value} {ds : List PyData} {Q : SortKind → Shared → Prop} (e : EachIs (fun v d => ∃ as, Reads s.heap v d as) vs ds) (ht : ∀ d ∈ ds, ∃ xs, d = .tuple xs) (hne : .tuple [] ∈ ds) (h : Q (if ((vs.map (fstV s.heap)).toArray[0]?.bind id).isSome = true then general' else oneType') s) :
    wpAny M A (keyKind' vs.toArray) Q E s := by
  have look : ∀ v ∈ vs, ∃ a o xs n, v = .ref a ∧ s.heap.get? a = some o ∧ o.cls = .type "tuple" ∧ o.data = .seq xs n := fun v hv => by
    obtain ⟨d, hd, as, r⟩ := e.left v hv
    obtain ⟨xs, rfl⟩ := ht d hd
    cases r with
    | tuple h1 h2 h3 h4 => exact ⟨_, _, _, _, rfl, h1, h2, h3⟩
  have ty : ∀ v ∈ vs, PySem.W.Looks M s.heap (typeOf v) (Value.type "tuple") := fun v hv => by
    obtain ⟨d, hd, as, r⟩ := e.left v hv
    obtain ⟨xs, rfl⟩ := ht d hd
    exact PySem.W.looks_reads r
  have emp : ∃ v ∈ vs, fstV s.heap v = none := by
    have : ∀ {vs : List Value} {ds : List PyData}, EachIs (fun v d => ∃ as, Reads s.heap v d as) vs ds → .tuple [] ∈ ds → ∃ v ∈ vs, ∃ as, Reads s.heap v (.tuple []) as := fun {vs ds} e => by
      induction e with
      | nil => intro h; cases h
      | cons r t ih =>
        intro h
        rcases List.mem_cons.mp h with q | q
        · exact ⟨_, List.mem_cons_self, by rw [q]; exact r⟩
        · obtain ⟨v, hv, q⟩ := ih q
          exact ⟨v, List.mem_cons_of_mem _ hv, q⟩
    obtain ⟨v, hv, as, r⟩ := this e hne
    refine ⟨v, hv, ?_⟩
    cases r with
    | @tuple a o xs n _ _ h1 h2 h3 h4 =>
      have : xs.toList = [] := by
        cases q : xs.toList with
        | nil => rfl
        | cons x r => rw [q] at h4; cases h4
      have hx : xs = #[] := Array.toList_inj.mp (by rw [this])
      show (match s.heap.get? a with
        | some o => match o.data with
          | .seq xs _ => xs[0]?
          | _ => none
        | none => none) = none
      rw [h1]
      show (match o.data with
        | .seq xs _ => xs[0]?
        | _ => none) = none
      rw [h3, hx]
      rfl
  rw [kat_kind_eq, List.mapM_toArray, map_eq_pure_bind]
  refine wpAny_bind (wpAny_bind (mapM_fun (fstV s.heap) vs (fun v hv Q' hq => ?_) (wpAny_pure ?_)))
  · obtain ⟨a, o, xs, n, rfl, h1, h2, h3⟩ := look v hv
    rw [PySem.W.kas_first_eq]
    refine wpAny_bind ((ty _ hv).here ?_)
    rw [if_neg (by simp)]
    refine wpAny_bind (listItems_at h1 h3 ?_)
    refine wpAny_pure ?_
    have e0 : fstV s.heap (.ref a) = xs[0]? := by
      show (match s.heap.get? a with
        | some o => match o.data with
          | .seq xs _ => xs[0]?
          | _ => none
        | none => none) = _
      rw [h1]
      show (match o.data with
        | .seq xs _ => xs[0]?
        | _ => none) = _
      rw [h3]
    rw [e0] at hq
    exact hq
  · have hall : ((vs.map (fstV s.heap)).toArray.all fun x => x.isSome) = false := by
      obtain ⟨v, hv, hn⟩ := emp
      rw [List.all_toArray, List.all_eq_false]
      exact ⟨_, List.mem_map.mpr ⟨v, hv, hn⟩, by simp⟩
    rw [hall, if_neg Bool.false_ne_true]
    by_cases hg : ((vs.map (fstV s.heap)).toArray[0]?.bind id).isSome = true
    · rw [if_pos hg] at h ⊢
      exact wpAny_pure h
    · rw [if_neg hg] at h ⊢
      rw [oneTypeOnly'_eq, List.mapM_toArray, map_eq_pure_bind]
      refine wpAny_bind (wpAny_bind (wpAny_bind (PySem.W.kas_mapM (r := Value.type "tuple") _ (fun v hv Q' hq => (ty v hv).here hq) (wpAny_pure ?_))))
      obtain ⟨v, hv, _⟩ := emp
      cases vs with
      | nil => cases hv
      | cons v1 rest =>
        have hall2 : ((List.map (fun _ => Value.type "tuple") (v1 :: rest)).toArray.all fun x => x == Value.type "tuple") = true := by
          simp only [List.all_toArray, List.all_map, List.all_eq_true]
          intro _ _
          exact beq_self_eq_true _
        have h0 : (List.map (fun _ => Value.type "tuple") (v1 :: rest)).toArray[0]? = some (Value.type "tuple") := by simp
        rw [h0]
        simp only [hall2, if_true]
        exact wpAny_pure (wpAny_pure h)
theorem oneLt_tups {f : Bool} {xs ys : List PyData} {a b : Value} {as bs : List Addr} {Q : Bool → Shared → Prop} (ra : Reads s.heap a (.tuple xs) as) (rb : Reads s.heap b (.tuple ys) bs) (h : alike (.tuple xs) (.tuple ys) = true)
    (hu : A.units + min (PyData.tuple xs).depth (PyData.tuple ys).depth < cLine) (hq : Q (dataLt (.tuple xs) (.tuple ys)) s) : wpAny (model prog w) A (oneLt' f a b) Q E s := by
  cases f with
  | false =>
    rw [oneLt'_eq]
    simp only [Bool.false_eq_true, if_false]
    exact wpAny_bind (PySem.W.rcLt_alike _ _ A s a b as bs ra rb h nofun hu prog w E _ (wpAny_truthy_bool hq))
  | true =>
    have hal : alikeAll xs ys = true := by simpa [alike] using h
    cases ra with
    | @tuple l o vs n _ as1 h1 h2 h3 h4 =>
      cases rb with
      | @tuple l' o' vs' n' _ bs1 k1 k2 k3 k4 =>
        have n1 : vs.size = xs.length := by simpa using PySem.SeqAt.ReadsAll.length _ _ _ h4
        have n2 : vs'.size = ys.length := by simpa using PySem.SeqAt.ReadsAll.length _ _ _ k4
        rw [PySem.W.dataLt_tuple, ← PySem.W.firstLt_toks xs ys hal, ← n1, ← n2] at hq
        rw [oneLt'_eq]
        simp only [if_true]
        refine wpAny_bind (wpAny_cRoomFor (PySem.SeqAt.room_here hu) ?_)
        have hl : s.heap.IsTuple l vs := ⟨_, h1, h2, _, h3⟩
        have hb : s.heap.IsTuple l' vs' := ⟨_, k1, k2, _, k3⟩
        have he : ∀ j (j1 : j < vs.size) (j2 : j < vs'.size), PySem.SeqAt.EqAt A.in1 s vs[j] vs'[j] (PySem.SeqAt.pairEq xs ys j) := fun j j1 j2 => by
          have := PySem.W.eqAt_alikeAll xs ys A.in1 s vs.toList vs'.toList _ _ h4 k4 hal (PySem.SeqAt.room_in hu) j (by simpa using j1) (by simpa using j2)
          simpa using this
        have hr : ∀ j (j1 : j < vs.size) (j2 : j < vs'.size), PySem.SeqAt.pairEq xs ys j = false → PySem.SeqAt.RcLt A.in1 s vs[j] vs'[j] ((fun j => dataLt (xs.getD j .none) (ys.getD j .none)) j) := fun j j1 j2 hj => by
          have := PySem.W.rcLt_alikeAll xs ys A.in1 s vs.toList vs'.toList _ _ h4 k4 hal (PySem.SeqAt.room_in hu) j (by simpa using j1) (by simpa using j2) hj
          simpa using this
        obtain ⟨⟨cls, dd, data, sl⟩, ho, hc, m, hd⟩ := id hl
        obtain ⟨⟨cls2, dd2, data2, sl2⟩, ho2, hc2, m2, hd2⟩ := id hb
        simp only at hc hd hc2 hd2
        subst hc hd hc2 hd2
        refine wpAny_bind (wpAny_callSpecialIfBound?_slot (T := "tuple") ⟨_, ho, rfl⟩ F.slot_tuple_lt (call_meets F.slot_tuple_lt ⟨_, ho, rfl⟩ F.entry_tuple_lt (F.args_tuple_lt_2 _ _) (PySem.SeqAt.tuple_ltAt l l' vs vs' m m2 dd dd2 sl sl2 (PySem.SeqAt.pairEq xs ys) (fun j => dataLt (xs.getD j .none) (ys.getD j .none))) ⟨ho, ho2, he, hr, ?_⟩))
        exact wpAny_truthy_bool hq
theorem sortsAt_tups {vs : List Value} {ds : List PyData} (e : EachIs (fun v d => ∃ as, Reads s.heap v d as) vs ds) (hal : AllAlike ds) (ht : ∀ d ∈ ds, ∃ xs, d = .tuple xs) (hne : .tuple [] ∈ ds) (hu : ∀ d, d ∈ ds → A.units + d.depth < cLine) : PySem.W.SortsAt prog w A s (dataKind s.heap ds) vs := by
  refine ⟨fun v hv => ?_, ?_⟩
  · obtain ⟨d, hd, as, r⟩ := e.left v hv
    exact ⟨_, PySem.W.dataKind_some hal hd r⟩
  · have both : ∀ kd, (kd = general' ∨ kd = oneType') → H.LtAt prog w A s (dataKind s.heap ds) kd := fun kd hkd E x y a b Q ha hb hq => by
      obtain ⟨d, as, hd, ra, rfl⟩ := PySem.W.dataKind_inv ha
      obtain ⟨d', as', hd', rb, rfl⟩ := PySem.W.dataKind_inv hb
      obtain ⟨xs, rfl⟩ := ht d hd
      obtain ⟨ys, rfl⟩ := ht d' hd'
      have room : A.units + min (PyData.tuple xs).depth (PyData.tuple ys).depth < cLine := Nat.lt_of_le_of_lt (Nat.add_le_add_left (Nat.min_le_left _ _) _) (hu _ hd)
      rcases hkd with rfl | rfl
      · rw [show keyLt' general' x y = oneLt' false x y from rfl]
        exact oneLt_tups ra rb (hal _ hd _ hd') room hq
      · rw [keyLt'_oneType]
        exact oneLt_tups ra rb (hal _ hd _ hd') room hq
    refine ⟨if ((vs.map (fstV s.heap)).toArray[0]?.bind id).isSome = true then general' else oneType', both _ ?_, fun _ E Q q => tups_kind e ht hne q⟩
    split
    · exact .inl rfl
    · exact .inr rfl
end
def Sort2 (ds : List PyData) : Prop := Sortable ds ∨ ∀ d ∈ ds, ∃ xs, d = .tuple xs
theorem sortsAt2 {prog : Program} {w : World} {A : Around} {s : Shared} {vs : List Value} {ds : List PyData} (e : EachIs (fun v d => ∃ as, Reads s.heap v d as) vs ds) (hal : AllAlike ds) (hk : Sort2 ds) (hu : ∀ d, d ∈ ds → A.units + d.depth < cLine) : PySem.W.SortsAt prog w A s (dataKind s.heap ds) vs := by
  rcases hk with hk | hk
  · exact PySem.W.SortsAt.data e hal hk hu
  · by_cases hne : PyData.tuple [] ∈ ds
    · exact sortsAt_tups e hal hk hne hu
    · refine PySem.W.SortsAt.data e hal (.inl fun d hd => ?_) hu
      obtain ⟨xs, rfl⟩ := hk d hd
      cases xs with
      | nil => exact absurd hd hne
      | cons x r => exact ⟨x, r, rfl⟩
section
variable {prog : Program} {w : World} {A : Around} {E : Value → Shared → Prop} {s : Shared}
theorem sorted_col {x : Value} {us : List Value} {β : Type} {bs : List β} {enc : β → PyData} {R : Value → β → Prop} {Q : Value → Shared → Prop}
    (col : ∀ (R : List Value → Shared → Prop) (E' : Value → Shared → Prop), (∀ h' tk, (∀ b o, s.heap.get? b = some o → h'.get? b = some o) → R us { s with heap := h', toks := tk }) → wpAny (model prog w) A.in1 (collect x) R E' s)
    (e : EachIs R us bs) (er : EachIs (fun v b => ∃ as, Reads s.heap v (enc b) as) us bs) (hal : AllAlike (bs.map enc)) (hk : Sort2 (bs.map enc)) (hL : bs.length ≤ sizeLine) (hu : ∀ b, b ∈ bs → A.units + 2 + (enc b).depth < cLine)
    (h : ∀ (out : List Value) (h1 h2 : Heap) (tk c : Nat), (∀ b o, s.heap.get? b = some o → h1.get? b = some o) → (∀ b o, h1.get? b = some o → h2.get? b = some o) → h2.get? h1.objs.size = some (seqObj "list" (List.toArray out) c) → EachIs R out (bs.mergeSort (dataLe false enc)) → Q (.ref h1.objs.size) { s with heap := h2, toks := tk }) :
    wpAny (model prog w) A (call (.builtin "sorted") [x]) Q E s := by
  have hl : us.length = bs.length := e.length
  refine Calls.call_function_entry kind_sorted plain_sorted entry_sorted (args_sorted1 _) ?_
  unfold Builtin.«sorted»
  refine wpAny_bind (m := checkCount "sorted" 1 1 _) (wpAny_pure ?_)
  refine wpAny_bind (col _ _ fun h1 tk hk1 => ?_)
  refine wpAny_bind (wpAny_newList ?_ (by rw [hl]; exact hL))
  have hoL : (h1.push (seqObj "list" us.toArray 0)).get? h1.objs.size = some (seqObj "list" us.toArray 0) := Heap.get?_push_size _ rfl
  have k1 : ∀ b o, h1.get? b = some o → (h1.push (seqObj "list" us.toArray 0)).get? b = some o := fun b o q => Heap.get?_push_of_some _ q
  have ne : ∀ b o, h1.get? b = some o → b ≠ h1.objs.size := fun b o q => Nat.ne_of_lt (Heap.lt_size q)
  have k2 : ∀ b o, h1.get? b = some o → (sortingHeap (h1.push (seqObj "list" us.toArray 0)) h1.objs.size us).get? b = some o := fun b o q => PySem.W.sortingHeap_old (ne b o q) (k1 b o q)
  have er' : EachIs (fun v b => ∃ as, Reads (sortingHeap (h1.push (seqObj "list" us.toArray 0)) h1.objs.size us) v (enc b) as) us bs := er.mono fun _ _ ⟨as, r⟩ => ⟨as, PyProof.Rows.Reads.keeps (fun b o q => k2 b o (hk1 b o q)) r⟩
  show wpAny _ _ _ _ _ { s with heap := h1.push (seqObj "list" us.toArray 0), toks := tk }
  refine wpAny_bind (wpAny_holding (wpAny_call_entry slot_list_sort ⟨_, hoL, rfl⟩ entry_list_sort ?_ (args_list_sort _)))
  refine PySem.W.list_sort_vals (κ := dataKind (sortingHeap (h1.push (seqObj "list" us.toArray 0)) h1.objs.size us) (bs.map enc)) hoL (sortsAt2 (s := { s with heap := sortingHeap (h1.push (seqObj "list" us.toArray 0)) h1.objs.size us, toks := tk }) (PySem.W.each_map (R := fun v d => ∃ as, Reads (sortingHeap (h1.push (seqObj "list" us.toArray 0)) h1.objs.size us) v d as) enc er') hal hk (PySem.W.bound_map (A := A.in1.in1) hu)) (by rw [hl]; exact hL) ⟨.none, rfl, ?_⟩
  refine wpAny_pure ⟨_, rfl, ?_⟩
  obtain ⟨c, hc⟩ := PyProof.Rows.sortedHeap_at (vs := us) (out := (sortVals (dataKind (sortingHeap (h1.push (seqObj "list" us.toArray 0)) h1.objs.size us) (bs.map enc)) false us us).toArray) hoL
  refine h _ h1 _ tk c hk1 (fun b o q => ?_) hc (PySem.W.sortVals_data false e er' hal)
  rw [PyProof.Rows.sortedHeap_old (ne b o q) (Heap.lt_size (k1 b o q))]
  exact k1 b o q
theorem collect_tup {l : Addr} {us : List Value} (ht : IsTup s.heap l us.toArray) (hz : us.length ≤ sizeLine) (R : List Value → Shared → Prop) (E' : Value → Shared → Prop)
    (h : ∀ h' tk, (∀ b o, s.heap.get? b = some o → h'.get? b = some o) → R us { s with heap := h', toks := tk }) : wpAny (model prog w) A (collect (.ref l)) R E' s :=
  gather_tup ht hz (h _ s.toks fun b o q => by
    have hlt : b < s.heap.objs.size := Heap.lt_size q
    rw [Heap.get?_update_ne _ _ _ _ (Nat.ne_of_lt hlt), Heap.get?_push_ne _ _ _ (Nat.ne_of_lt hlt)]
    exact q)
theorem collect_lst {l : Addr} {us : List Value} (ht : s.heap.IsList l us.toArray) (hz : us.length ≤ sizeLine) (R : List Value → Shared → Prop) (E' : Value → Shared → Prop)
    (h : ∀ h' tk, (∀ b o, s.heap.get? b = some o → h'.get? b = some o) → R us { s with heap := h', toks := tk }) : wpAny (model prog w) A (collect (.ref l)) R E' s :=
  collect_list ht (h _ s.toks fun b o q => by
    have hlt : b < s.heap.objs.size := Heap.lt_size q
    rw [Heap.get?_update_ne _ _ _ _ (Nat.ne_of_lt hlt), Heap.get?_push_ne _ _ _ (Nat.ne_of_lt hlt)]
    exact q) hz
end
def rSortG (K : PySem.W.Frag) : List V → Hp → VK → Prop := fun vs H Q => ∃ (a : Addr) (xs : List V) (zs : List PyData), vs = [V.ref a] ∧ (SqL K H a xs ∨ SqT K H a xs) ∧ DpAll K H xs zs ∧ AllAlike zs ∧ Sort2 zs ∧ (∀ d ∈ zs, d.depth ≤ 50) ∧
  ∀ (ps : List (V × PyData)) (p : Addr), ps.Perm (xs.zip zs) → ps.map (·.2) = zs.mergeSort (dataLe false id) → H p = none → Q (.ref p) (upd H p (.lst (ps.map (·.1))))
theorem dpAll_len {K : PySem.W.Frag} {H : Hp} : ∀ {xs : List V} {zs : List PyData}, DpAll K H xs zs → xs.length = zs.length
  | _, _, .nil => rfl
  | _, _, .cons _ r => by rw [List.length_cons, List.length_cons, dpAll_len r]
section
variable {X : Cx} {pins : List (Addr × Obj)} {σ : L2.St} {H : Hp} {s : Shared}
theorem each_vals : ∀ {xs : List V} {zs : List PyData} {us : List Value}, Vals xs us → DpAll X.K H xs zs → EachIs (fun v (b : V × PyData) => RelV b.1 v) us (xs.zip zs)
  | _, _, _, .nil, .nil => .nil
  | _, _, _, .cons h r, .cons h2 r2 => .cons h (each_vals r r2)
theorem each_reads (I : Inv X pins σ H s) : ∀ {xs : List V} {zs : List PyData} {us : List Value}, Vals xs us → DpAll X.K H xs zs → EachIs (fun v (b : V × PyData) => ∃ as, Reads s.heap v b.2 as) us (xs.zip zs)
  | _, _, _, .nil, .nil => .nil
  | _, _, _, .cons h r, .cons h2 r2 => .cons (Dp.reads I _ _ _ h2 h) (each_reads I r r2)
theorem vals_each : ∀ {us : List Value} {ps : List (V × PyData)}, EachIs (fun v (b : V × PyData) => RelV b.1 v) us ps → Vals (ps.map (·.1)) us
  | _, _, .nil => .nil
  | _, _, .cons h r => .cons h (vals_each r)
theorem cr_sortG (g : Gd X) : CallR X (.builtin "sorted") (rSortG X.K) := by
  rintro pins s σ H vs us Q I r ⟨a, xs, zs, rfl, hs, hd, hal, hk, hdep, q⟩
  rw [Vals.ref1 r]
  have hlz := dpAll_len hd
  have key : ∀ its : List Value, Vals xs its → xs.length ≤ sizeLine → (∀ (R : List Value → Shared → Prop) (E' : Value → Shared → Prop), (∀ h' tk, (∀ b o, s.heap.get? b = some o → h'.get? b = some o) → R its { s with heap := h', toks := tk }) → wpAny (model X.prog X.w) X.A.in1 (collect (.ref a)) R E' s) →
      wpAny (model X.prog X.w) X.A (call (.builtin "sorted") [.ref a]) (EP X pins σ Q) X.xe s := by
    intro its rv hz col
    have e2 : (xs.zip zs).map (fun b : V × PyData => b.2) = zs := by
      rw [List.map_snd_zip]
      exact Nat.le_of_eq hlz.symm
    refine sorted_col (enc := fun b : V × PyData => b.2) col (each_vals rv hd) (each_reads I rv hd) (by rw [e2]; exact hal) (by rw [e2]; exact hk) (by rw [List.length_zip]; omega) (fun b hb => ?_) fun out h1 h2 tk c k1 k2 hc eo => ?_
    · have := hdep b.2 (by rw [← e2]; exact List.mem_map.mpr ⟨b, hb, rfl⟩)
      have := g.un
      omega
    · have I1 : Inv X pins σ H { s with heap := h1, toks := tk } := I.kept k1
      have hp := List.mergeSort_perm (xs.zip zs) (dataLe false fun b : V × PyData => b.2)
      have hlen : (((xs.zip zs).mergeSort (dataLe false fun b : V × PyData => b.2)).map (·.1)).length ≤ sizeLine := by
        rw [List.length_map, hp.length_eq, List.length_zip]
        omega
      refine ⟨.ref _, _, I1.laid (t' := tk) (o := .lst (((xs.zip zs).mergeSort (dataLe false fun b : V × PyData => b.2)).map (·.1))) k2 (Nat.le_refl _) ⟨hlen, out, c, vals_each eo, hc⟩, rfl, q _ _ hp ?_ (I1.hok.fresh (Nat.le_refl _))⟩
      rw [List.map_mergeSort (r := dataLe false fun b : V × PyData => b.2) (s := dataLe false id) (f := fun b : V × PyData => b.2) fun _ _ _ _ => rfl, e2]
  rcases hs with hs | hs
  · obtain ⟨its, rv, hl, hz⟩ := I.list hs
    exact key its rv hz fun R E' h => collect_lst hl.isList (by rw [← rv.length]; exact hz) R E' h
  · obtain ⟨its, rv, hl, hz⟩ := I.tuple hs
    exact key its rv hz fun R E' h => collect_tup hl (by rw [← rv.length]; exact hz) R E' h
end
def alikeB (zs : List PyData) : Bool := zs.all fun d => zs.all fun e => alike d e
def sortB (zs : List PyData) : Bool := (zs.all fun d => match d with
  | .tuple _ => true
  | _ => false) || zs.all fun d => match d with
  | .tuple _ => false
  | .none => false
  | _ => true
theorem alikeB_ok {zs : List PyData} (h : alikeB zs = true) : AllAlike zs := fun d hd e he => List.all_eq_true.mp (List.all_eq_true.mp h d hd) e he
theorem sortB_ok {zs : List PyData} (h : sortB zs = true) : Sort2 zs := by
  unfold sortB at h
  rcases (Bool.or_eq_true _ _).mp h with h | h
  · refine .inr fun d hd => ?_
    have := List.all_eq_true.mp h d hd
    split at this
    · exact ⟨_, rfl⟩
    · cases this
  · refine .inl (.inr fun d hd => ?_)
    have := List.all_eq_true.mp h d hd
    split at this
    · cases this
    · cases this
    · rename_i h1 h2
      exact ⟨h2, h1⟩
def sorB (zs : List PyData) : Bool := alikeB zs && sortB zs && (zs.all fun d => decide (d.depth ≤ 50)) && !PyData.hasDictAll zs
def gSortG : GA := fun ds st => match ds with
  | [x] => match viewS st x with
    | some zs => if sorB zs then .ok (zs.mergeSort (dataLe false id)) st else .stuck
    | none => .stuck
  | _ => .stuck
theorem rpA_of_perm {F : Addr → Prop} {H : Hp} : ∀ {xs : List V} {zs : List PyData}, RpA F H xs zs → ∀ b ∈ xs.zip zs, Rp F H b.1 b.2
  | _, _, .nil, b, hb => by cases hb
  | _, _, .cons h r, b, hb => by
    rw [List.zip_cons_cons] at hb
    rcases List.mem_cons.mp hb with rfl | hb
    · exact h
    · exact rpA_of_perm r b hb
theorem rpA_all {F : Addr → Prop} {H : Hp} : ∀ {ps : List (V × PyData)}, (∀ b ∈ ps, Rp F H b.1 b.2) → RpA F H (ps.map (·.1)) (ps.map (·.2))
  | [], _ => .nil
  | b :: r, h => .cons (h b List.mem_cons_self) (rpA_all fun c hc => h c (List.mem_cons_of_mem _ hc))
theorem opF_sortG {K : PySem.W.Frag} {W : XW} : OpFA K W (rSortG K) gSortG := by
  intro ι st H xs ds Q R r p
  unfold gSortG at p
  split at p
  · rename_i x
    obtain ⟨y, rfl, r1⟩ := r.one
    split at p
    · rename_i zs e
      split at p
      · rename_i hc
        unfold sorB at hc
        simp only [Bool.and_eq_true, Bool.not_eq_true'] at hc
        obtain ⟨⟨⟨h1, h2⟩, h3⟩, h4⟩ := hc
        obtain ⟨q, us, rfl, hq, hr⟩ := viewS_atF R e r1
        refine ⟨q, us, zs, rfl, ?_, hr.dp h4, alikeB_ok h1, sortB_ok h2, fun d hd => of_decide_eq_true (List.all_eq_true.mp h3 d hd), fun ps b hp hs hb hf => ?_⟩
        · rcases hq with hq | ⟨⟨o, hq, _⟩, _⟩
          · exact .inl (.of hq)
          · exact .inr (.inl (.inr ⟨o, hq⟩))
        · have := rpA_all (fun c hc => rpA_of_perm hr c (hp.mem_iff.mp hc))
          rw [hs] at this
          exact p.new R this b hb hf
      · exact p.elim
    · exact p.elim
  · exact p.elim
theorem xf_sortG {X : Cx} {W : XW} {e : Expr} {es : List Expr} {m : MA} {p pos : Pos} {x : Str} (gd : Gd X) (hg : Gl X x) (hm : X.mg x = none) (hv : bootBuiltins x = some (.builtin "sorted")) (ha : PA X (e :: es) (TAo X.K W m)) (hn : x ≠ "__name__" := by decide) (hdb : (x == ("__debug__" : Str)) = false := by decide)
    (he : starEach (e :: es) X.env = (false, eval e X.env) :: starEach es X.env := by rfl) (hpl : (backTo pos (starEach es X.env)).any (·.1) = false := by rfl) :
    PE X (.Call (.Name x p) (e :: es) [] pos) (TFo X.K W (mfArg gSortG m)) := pf_wrap (pe_callB (cr_sortG gd) hg hm hv ha hn hdb he hpl) fun σ H Q q => tf_arg opF_sortG q
end Fw
namespace Fw
open PySem PySem.Spec PyProof.Rows L2
def OffSys (h0 : Heap) (as : List Addr) : Prop := (∃ o, h0.get? sysModules = some o ∧ o.cls = .type "dict") → sysModules ∉ as
section
variable {prog : Program} {w : World} {h0 : Heap}
theorem OffSys.sub {as bs : List Addr} (h : OffSys h0 as) (s : ∀ b ∈ bs, b ∈ as) : OffSys h0 bs := fun q m => h q (s _ m)
variable {A : Around} {E : Value → Shared → Prop} {s : Shared} {Q : Value → Shared → Prop} {a : Addr} {d : PyData} {as : List Addr}
end
mutual
/-- dicts with keys of whole numbers and texts alone -/
def kOk : PyData → Bool
  | .none | .bool _ | .int _ | .str _ => true
  | .list xs => kOkA xs
  | .tuple xs => kOkA xs
  | .dict kvs => kOkK kvs
def kOkA : List PyData → Bool
  | [] => true
  | x :: r => kOk x && kOkA r
def kOkK : List (PyData × PyData) → Bool
  | [] => true
  | (k, v) :: r => (key1 k).isSome && kOk v && kOkK r
end
section
variable {X : Cx} {pins : List (Addr × Obj)} {σ : L2.St} {H : Hp} {s : Shared} {F : Addr → Prop}
end
def fReprM : FA := fun ds st => match ds with
  | [.v z] => if kOk z && z.showable && decide (z.depth ≤ 60) && decide (z.shown.length ≤ lim) then .ok (.v (.str z.shown)) st else fReprK ds st
  | ds => fReprK ds st
end Fw
namespace Fw
open PySem PySem.Spec PyProof.Rows L2
section
variable {X : Cx} {pins : List (Addr × Obj)} {σ : L2.St} {H : Hp} {s : Shared} {x y : V} {v u : Value} {k : Bool} {Q : VK}
end
section
variable {X : Cx} {W : XW} {a b : Expr} {ma mb : ME}
end
section
variable {xs ys : List PyData} {st : Sto}
end
end Fw
namespace Fw
open PySem PySem.Spec PyProof.Rows L2
def fmRemove : FM := fun o ds st => match lAt st o, ds with
  | some (n, zs), [.v (.int k)] => match intsOf zs with
    | some ns => if k ∈ ns then .ok (.v .none) (st.set n (.lst ((ns.eraseIdx (ns.idxOf k)).map .int))) else .stuck
    | none => .stuck
  | _, _ => .stuck
theorem rp_ints {F : Addr → Prop} {H : Hp} : ∀ ns : List Int, RpA F H (ns.map V.int) (ns.map PyData.int)
  | [] => .nil
  | n :: r => .cons (.int n) (rp_ints r)
theorem opM_remove {K : PySem.W.Frag} {W : XW} : OpM K W rRemI fmRemove := by
  intro ι st H x xs o ds Q R ro rd p
  unfold fmRemove at p
  split at p
  · rename_i n zs k e
    split at p
    · rename_i ns en
      split at p
      · rename_i hk
        obtain ⟨a, us, rfl, h1, h2, h3, h4⟩ := lAt_at R e ro
        obtain ⟨y, rfl, ry⟩ := rd.one
        have ey := iOf_at (d := .v (.int k)) rfl ry
        subst ey
        have eu := intsOf_at en h2
        subst eu
        refine ⟨a, ns, k, ns.idxOf k, rfl, rfl, h1, ?_, fun m hm he => ?_, fun hf => ?_⟩
        · rw [List.getElem?_eq_getElem (List.idxOf_lt_length_iff.mpr hk), List.getElem_idxOf]
        · obtain ⟨hl, e⟩ := List.getElem?_eq_some_iff.mp he
          have := List.not_of_lt_findIdx (p := (· == k)) (xs := ns) (i := m) hm
          rw [e] at this
          simp at this
        · exact p.wrote R h3 h4 (rp_ints _) (fun _ _ _ _ => .non) hf
      · exact p.elim
    · exact p.elim
  · exact p.elim
theorem mt_removeI {X : Cx} : MtR X "list.remove" rRemI := fun pins s σ H x xs v us Q I rx rxs h => mt_remove pins s σ H x xs v us Q I rx rxs h
end Fw
namespace Fw.LG
open PySem PySem.Spec PyProof.Rows L2 Fw
noncomputable abbrev f_law_pick : FF := Fw.LA.f_law_pick
end Fw.LG
namespace Fw
open PySem PySem.Spec PyProof.Rows L2
mutual
theorem keyN_hash (w w' : World) : ∀ (d : PyData) (k : NestedKey), keyN d = some k → k.hash w = k.hash w'
  | .none, k, e => by rw [keyN] at e; cases e; rfl
  | .int i, k, e => by rw [keyN] at e; cases e; rfl
  | .tuple ds, k, e => by
    rw [keyN] at e
    obtain ⟨ks, e1, rfl⟩ := Option.map_eq_some_iff.mp e
    rw [NestedKey.hash, NestedKey.hash, keyNA_hash w w' ds ks e1]
  | .bool _, k, e => by rw [keyN] at e <;> first | cases e | (intros; intro z; cases z)
  | .str _, k, e => by rw [keyN] at e <;> first | cases e | (intros; intro z; cases z)
  | .list _, k, e => by rw [keyN] at e <;> first | cases e | (intros; intro z; cases z)
  | .dict _, k, e => by rw [keyN] at e <;> first | cases e | (intros; intro z; cases z)
theorem keyNA_hash (w w' : World) : ∀ (ds : List PyData) (ks : List NestedKey), keyNA ds = some ks → NestedKey.hashes w ks = NestedKey.hashes w' ks
  | [], ks, e => by rw [keyNA] at e; cases e; rfl
  | d :: ds, ks, e => by
    rw [keyNA] at e
    split at e
    · rename_i k l h1 h2
      cases e
      rw [NestedKey.hashes, NestedKey.hashes, keyN_hash w w' d k h1, keyNA_hash w w' ds l h2]
    · cases e
end
theorem keyP_at {d : PyData} {k : NestedKey} (e : keyP d = some k) : keyN d = some k ∧ k.depth ≤ 8 := by
  unfold keyP at e
  split at e
  · split at e
    · rename_i k' h
      split at e
      · rename_i hd
        cases e
        exact ⟨h, hd⟩
      · cases e
    · cases e
  · cases e
section
variable {X : Cx} {pins : List (Addr × Obj)} {σ : L2.St} {H : Hp} {s : Shared} {F : Addr → Prop}
mutual
theorem rp_nest (I : Inv X pins σ H s) : ∀ (d : PyData) (v : L2.V) (u : Value) (k : NestedKey), Rp F H v d → keyN d = some k → RelV v u → NestedIs s.heap k u
  | .none, _, u, k, .non, e, r => by rw [keyN] at e; cases e; cases r; exact .none
  | .int i, _, u, k, .int _, e, r => by
    rw [keyN] at e
    cases e
    obtain ⟨t, rfl⟩ := r
    exact .int i t
  | .tuple ds, _, u, k, .tup (a := a) (xs := xs) (o := o) h1 _ _ h4, e, r => by
    rw [keyN] at e
    obtain ⟨ks, e1, rfl⟩ := Option.map_eq_some_iff.mp e
    cases (show u = Value.ref a from r)
    obtain ⟨h5, h6, its, rv, ob, h7, h8, n, h9⟩ := I.hok a _ h1
    exact .tup h7 h8 h9 (by simpa using rp_nestA I ds xs its ks h4 e1 rv)
  | .bool _, _, _, k, _, e, _ => by rw [keyN] at e <;> first | cases e | (intros; intro z; cases z)
  | .str _, _, _, k, _, e, _ => by rw [keyN] at e <;> first | cases e | (intros; intro z; cases z)
  | .list _, _, _, k, _, e, _ => by rw [keyN] at e <;> first | cases e | (intros; intro z; cases z)
  | .dict _, _, _, k, _, e, _ => by rw [keyN] at e <;> first | cases e | (intros; intro z; cases z)
theorem rp_nestA (I : Inv X pins σ H s) : ∀ (ds : List PyData) (vs : List L2.V) (us : List Value) (ks : List NestedKey), RpA F H vs ds → keyNA ds = some ks → Vals vs us → NestedAll s.heap ks us
  | [], _, _, ks, .nil, e, .nil => by rw [keyNA] at e; cases e; exact .nil
  | d :: ds, _, _, ks, .cons h t, e, .cons r rr => by
    rw [keyNA] at e
    split at e
    · rename_i k l h1 h2
      cases e
      exact .cons (rp_nest I d _ _ k h h1 r) (rp_nestA I ds _ _ l t h2 rr)
    · cases e
end
end
def KyH (H : Hp) (v : L2.V) (k : NestedKey) : Prop := ∃ F d, Rp F H v d ∧ keyP d = some k
structure TabH (H : Hp) (a : Addr) (xs : List (NestedKey × Addr × L2.V)) : Prop where
  at' : H a = some (TabO a xs)
  sys : (a == sysModules) = false
  nd : (xs.map (·.1)).Nodup
  len : xs.length ≤ sizeLine
  key : ∀ x ∈ xs, KyH H (.ref x.2.1) x.1
abbrev TR : List (NestedKey × Addr × L2.V) → List (NestedKey × Addr × Value) → Prop := Paired (fun p q => p.1 = q.1 ∧ p.2.1 = q.2.1 ∧ RelV p.2.2 q.2.2)
def hasT (xs : List (NestedKey × Addr × L2.V)) (k : NestedKey) : Bool := xs.any fun x => decide (x.1 = k)
def getT (xs : List (NestedKey × Addr × L2.V)) (k : NestedKey) : Option L2.V := (xs.find? fun x => decide (x.1 = k)).map (·.2.2)
def putT (xs : List (NestedKey × Addr × L2.V)) (k : NestedKey) (p : Addr) (v : L2.V) : List (NestedKey × Addr × L2.V) :=
  if hasT xs k = true then xs.map fun x => if x.1 = k then (x.1, x.2.1, v) else x else xs ++ [(k, p, v)]
theorem TR.keys : ∀ {xs ys}, TR xs ys → ys.map (·.1) = xs.map (·.1)
  | _, _, .nil => rfl
  | _, _, .cons h r => by rw [List.map_cons, List.map_cons, TR.keys r, h.1]
theorem TR.len : ∀ {xs ys}, TR xs ys → ys.length = xs.length
  | _, _, .nil => rfl
  | _, _, .cons h r => by rw [List.length_cons, List.length_cons, TR.len r]
theorem TR.mem : ∀ {xs ys}, TR xs ys → ∀ y ∈ ys, ∃ x ∈ xs, x.1 = y.1 ∧ x.2.1 = y.2.1
  | _, _, .nil, y, hy => by cases hy
  | _, _, .cons h r, y, hy => by
    rcases List.mem_cons.mp hy with rfl | hy
    · exact ⟨_, List.mem_cons_self, h.1, h.2.1⟩
    · obtain ⟨x, hx, e⟩ := TR.mem r y hy
      exact ⟨x, List.mem_cons_of_mem _ hx, e⟩
theorem TR.at : ∀ {xs ys} {k : NestedKey}, TR xs ys → RelO ((xs.find? fun x => decide (x.1 = k)).map (·.2.2)) ((atKey ys k).map (·.2))
  | _, _, _, .nil => trivial
  | x :: xs, y :: ys, k, .cons h r => by
    have ih := TR.at (k := k) r
    unfold atKey at ih ⊢
    rw [List.find?_cons, List.find?_cons, h.1]
    by_cases e : y.1 = k
    · rw [decide_eq_true e]
      exact h.2.2
    · rw [decide_eq_false e]
      exact ih
theorem TR.has {xs ys} {k : NestedKey} (r : TR xs ys) : (atKey ys k).isSome = hasT xs k := by
  have h := r.at (k := k)
  have e : hasT xs k = ((xs.find? fun x => decide (x.1 = k)).map (·.2.2)).isSome := by
    unfold hasT
    rw [Option.isSome_map, Bool.eq_iff_iff, List.any_eq_true, List.find?_isSome]
  rw [e]
  cases h1 : (xs.find? fun x => decide (x.1 = k)).map (·.2.2) with
  | none =>
    rw [h1] at h
    cases h2 : atKey ys k with
    | none => rfl
    | some p => rw [h2] at h; exact h.elim
  | some v =>
    rw [h1] at h
    cases h2 : atKey ys k with
    | none => rw [h2] at h; exact h.elim
    | some p => rfl
theorem TR.append : ∀ {xs ys xs' ys'}, TR xs ys → TR xs' ys' → TR (xs ++ xs') (ys ++ ys')
  | _, _, _, _, .nil, s => s
  | _, _, _, _, .cons h r, s => .cons h (TR.append r s)
theorem TR.putAt {k : NestedKey} {v : L2.V} {u : Value} (rv : RelV v u) : ∀ {xs ys}, TR xs ys → TR (xs.map fun x => if x.1 = k then (x.1, x.2.1, v) else x) (ys.map (PySem.putAt k u))
  | _, _, .nil => .nil
  | x :: xs, y :: ys, .cons h r => by
    refine .cons ?_ (TR.putAt rv r)
    unfold PySem.putAt
    rw [← h.1]
    dsimp only
    by_cases e : x.1 = k
    · rw [if_pos e, if_pos e]
      exact ⟨rfl, h.2.1, rv⟩
    · rw [if_neg e, if_neg e]
      exact h
theorem TR.put {k : NestedKey} {p : Addr} {v : L2.V} {u : Value} {xs ys} (r : TR xs ys) (rv : RelV v u) : TR (putT xs k p v) (storedH ys k p u) := by
  unfold putT storedH
  rw [r.has]
  split
  · exact r.putAt rv
  · exact r.append (.cons ⟨rfl, rfl, rv⟩ .nil)
section
variable {X : Cx} {pins : List (Addr × Obj)} {σ : L2.St} {H : Hp} {s : Shared} {a p : Addr} {k : NestedKey} {xs : List (NestedKey × Addr × L2.V)}
theorem KyH.is (I : Inv X pins σ H s) (h : KyH H (.ref p) k) : (nestedKind X.prog X.w).is s.heap k p := by
  obtain ⟨F, d, r, e⟩ := h
  obtain ⟨e1, e2⟩ := keyP_at e
  exact ⟨rp_nest I d _ _ k r e1 rfl, e2⟩
theorem TabH.dict (I : Inv X pins σ H s) (T : TabH H a xs) : ∃ ys, TR xs ys ∧ s.heap.DictOfH (nestedKind X.prog X.w) a ys := by
  obtain ⟨⟨w, ys, hp, o, es, ep, h1, h2, h3, h4⟩, _, _⟩ := I.hok a _ T.at'
  have hk : ∀ y ∈ ys, (nestedKind X.prog X.w).is s.heap y.1 y.2.1 := fun y hy => by
    obtain ⟨x, hx, e1, e2⟩ := TR.mem hp y hy
    rw [← e1, ← e2]
    exact (T.key x hx).is I
  refine ⟨ys, hp, o, es, ep, h1, h2, h3, ?_, hk, by rw [TR.keys hp]; exact T.nd⟩
  rw [h4]
  refine List.map_congr_left fun y hy => ?_
  obtain ⟨x, hx, e1, e2⟩ := TR.mem hp y hy
  obtain ⟨F, d, _, e⟩ := T.key x hx
  show (⟨y.1.hash w, _, _⟩ : DictEntry) = ⟨y.1.hash X.w, _, _⟩
  rw [← e1, keyN_hash w X.w d x.1 (keyP_at e).1]
end
def hasK (kvs : List (PyData × D)) (k : NestedKey) : Bool := kvs.any fun p => decide (keyP p.1 = some k)
def getKT (kvs : List (PyData × D)) (k : NestedKey) : Option D := (kvs.find? fun p => decide (keyP p.1 = some k)).map (·.2)
def putKT (kvs : List (PyData × D)) (kd : PyData) (k : NestedKey) (d : D) : List (PyData × D) :=
  if hasK kvs k = true then kvs.map fun p => if keyP p.1 = some k then (p.1, d) else p else kvs ++ [(kd, d)]
section
variable {K : PySem.W.Frag} {ι : Gh} {st : Sto} {H : Hp} {k : NestedKey}
theorem RTab.len : ∀ {kvs xs}, RTab K ι st H kvs xs → kvs.length = xs.length
  | _, _, .nil => rfl
  | _, _, .cons _ r => by rw [List.length_cons, List.length_cons, RTab.len r]
theorem RTab.has : ∀ {kvs xs} {k : NestedKey}, RTab K ι st H kvs xs → hasK kvs k = hasT xs k
  | _, _, _, .nil => rfl
  | _, _, k, .cons h r => by
    have ih := RTab.has (k := k) r
    unfold hasK hasT at ih ⊢
    rw [List.any_cons, List.any_cons, ih, h.1]
    congr 1
    exact decide_eq_decide.mpr ⟨fun z => Option.some.inj z, fun z => congrArg some z⟩
theorem RTab.get : ∀ {kvs xs} {d : D}, RTab K ι st H kvs xs → getKT kvs k = some d → ∃ v, getT xs k = some v ∧ RD K ι st H v d
  | _, _, d, .nil, e => by cases e
  | p :: kvs, x :: xs, d, .cons h r, e => by
    unfold getKT getT at *
    rw [List.find?_cons, h.1] at e
    rw [List.find?_cons]
    by_cases z : x.1 = k
    · rw [decide_eq_true (congrArg some z)] at e
      rw [decide_eq_true z]
      cases e
      exact ⟨_, rfl, h.2.2⟩
    · rw [decide_eq_false fun q => z (Option.some.inj q)] at e
      rw [decide_eq_false z]
      exact RTab.get r e
theorem RTab.append : ∀ {kvs xs kvs' xs'}, RTab K ι st H kvs xs → RTab K ι st H kvs' xs' → RTab K ι st H (kvs ++ kvs') (xs ++ xs')
  | _, _, _, _, .nil, s => s
  | _, _, _, _, .cons h r, s => .cons h (RTab.append r s)
theorem RTab.putAt {d : D} {v : L2.V} (rd : RD K ι st H v d) : ∀ {kvs xs}, RTab K ι st H kvs xs → RTab K ι st H (kvs.map fun p => if keyP p.1 = some k then (p.1, d) else p) (xs.map fun x => if x.1 = k then (x.1, x.2.1, v) else x)
  | _, _, .nil => .nil
  | p :: kvs, x :: xs, .cons h r => by
    refine .cons ?_ (RTab.putAt rd r)
    dsimp only
    rw [h.1]
    by_cases z : x.1 = k
    · rw [if_pos z, if_pos (congrArg some z)]
      exact ⟨h.1, h.2.1, rd⟩
    · rw [if_neg z, if_neg fun q => z (Option.some.inj q)]
      exact h
theorem RTab.put {d : D} {v : L2.V} {kd : PyData} {p : Addr} {kvs xs} (r : RTab K ι st H kvs xs) (rd : RD K ι st H v d) (hk : keyP kd = some k) (rk : Rp (Frz ι st) H (.ref p) kd) : RTab K ι st H (putKT kvs kd k d) (putT xs k p v) := by
  unfold putKT putT
  rw [r.has]
  split
  · exact r.putAt rd
  · exact r.append (.cons ⟨hk, rk, rd⟩ .nil)
theorem RTab.key : ∀ {kvs xs}, RTab K ι st H kvs xs → ∀ x ∈ xs, KyH H (.ref x.2.1) x.1
  | _, _, .nil, x, hx => by cases hx
  | _, _, .cons h r, x, hx => by
    rcases List.mem_cons.mp hx with rfl | hx
    · exact ⟨_, _, h.2.1, h.1⟩
    · exact RTab.key r x hx
end
section
variable {X : Cx} {W : XW} {o i e : Expr} {mo mi me : ME} {pos tpos : Pos} {vs : Option (List Nat)}
end
end Fw
namespace L2
open PySem PySem.Spec PyProof.Rows
theorem vals_no_contains : typeLookup (.type "dict_values") "__contains__" = pure none := by rw [typeLookup_type, builtinLookup_eq_fast]; kernel_rfl
theorem plain_cin : plainId "proto.contains_iter" = true := by decide +kernel
theorem entry_cin : entryFor table "proto.contains_iter" = some Builtin.«proto.contains_iter» := entryFor_of_fast (by kernel_rfl)
def ivB (x : Int) (v : Value) : Bool := match v with
  | .int j _ => j == x
  | _ => false
section
variable {prog : Program} {w : World} {A : Around} {E : Value → Shared → Prop} {s : Shared} {d : Addr} {es : Array DictEntry} {ep : Nat} {x : Int} {t : Tok}
theorem code_cin {R : Result → Shared → Prop} {it : Addr} (hh : A.in1.handled = none) (hne : d ≠ it) (hin : ∀ i (hi : i < es.size), ∃ j u, es[i].val = .int j u) :
    ∀ (k i : Nat) (s : Shared), es.size - i = k → i ≤ es.size → s.heap.IsValIter it d i es.size ep → s.heap.DictRaw d es ep →
    (∀ h', (∀ b o, b ≠ it → s.heap.get? b = some o → h'.get? b = some o) → R (.ok (.ret (.bool ((es.toList.drop i).any fun e => ivB x e.val)))) { s with heap := h' }) →
    codeAny (model prog w) A (.builtin "proto.contains_iter" ⟨[.ref it, .int x t], []⟩) R s := by
  intro k
  induction k with
  | zero =>
    intro i s hk hi hit hm hR
    refine codeAny_builtin entry_cin ?_
    rw [Around.under_plainId plain_cin _]
    show wpAny _ A.in1 (pyNext (.ref it) >>= _) _ _ s
    refine wpAny_bind (wpAny_pyNext_values_end_raw hh hit hm (by omega) fun h' hx => ?_)
    show wpAny _ A.in1 (rule "in.by-iteration.exhausted" >>= fun _ => ret (.bool false)) _ _ _
    refine wpAny_bind (wpAny_rule (wpAny_pure ?_))
    have e : (es.toList.drop i).any (fun e => ivB x e.val) = false := by
      rw [List.drop_eq_nil_of_le (by rw [Array.length_toList]; omega)]
      rfl
    have := hR h' fun b o hb e => hx b o hb e
    rw [e] at this
    exact this
  | succ k ih =>
    intro i s hk hi hit hm hR
    have hlt : i < es.size := by omega
    obtain ⟨j, u, hj⟩ := hin i hlt
    refine codeAny_builtin entry_cin ?_
    rw [Around.under_plainId plain_cin _]
    show wpAny _ A.in1 (pyNext (.ref it) >>= _) _ _ s
    refine wpAny_bind (wpAny_pyNext_values_item_raw hit hm hlt fun h' hit' hs => ?_)
    rw [hj]
    show wpAny _ A.in1 (eqBool (.int j u) (.int x t) >>= _) _ _ _
    refine wpAny_bind (wpAny_eqBool_int ?_)
    have hd : (es.toList.drop i).any (fun e => ivB x e.val) = ((j == x) || (es.toList.drop (i + 1)).any fun e => ivB x e.val) := by
      rw [List.drop_eq_getElem_cons (by rw [Array.length_toList]; exact hlt), List.any_cons, Array.getElem_toList, hj]
      rfl
    rw [hd] at hR
    have keep : ∀ b o, b ≠ it → s.heap.get? b = some o → h'.get? b = some o := fun b o hb e => (hs.2 b hb).trans e
    by_cases hjx : (j == x) = true
    · rw [if_pos hjx]
      show wpAny _ A.in1 (rule "in.by-iteration.found" >>= fun _ => ret (.bool true)) _ _ _
      refine wpAny_bind (wpAny_rule (wpAny_pure ?_))
      have := hR h' keep
      rw [hjx] at this
      exact this
    · rw [if_neg hjx]
      refine wpAny_pure ⟨plainId_quiet plain_cin _, ih (i + 1) _ (by omega) hlt hit' (hm.at fun o e => keep d o hne e) fun h'' hk2 => ?_⟩
      have := hR h'' fun b o hb e => hk2 b o hb (keep b o hb e)
      rw [Bool.eq_false_iff.mpr hjx, Bool.false_or] at this
      exact this
theorem contains_vals {v : Addr} {Q : Bool → Shared → Prop} (hh : A.handled = none) (hv : s.heap.IsValuesView v d) (hm : s.heap.DictRaw d es ep) (hin : ∀ i (hi : i < es.size), ∃ j u, es[i].val = .int j u)
    (h : ∀ h', (∀ b o, s.heap.get? b = some o → h'.get? b = some o) → Q (es.toList.any fun e => ivB x e.val) { s with heap := h' }) :
    wpAny (model prog w) A (contains (.ref v) (.int x t)) Q E s := by
  have hT := hv.typeIs
  unfold contains
  refine wpAny_holding ?_
  rw [stdlibNamesSay?_of_typeIs hT]
  refine wpAny_bind (wpAny_specialOf hT vals_no_contains ?_)
  show wpAny _ A (if (none == some Value.none) = true then _ else _) Q E s
  rw [if_neg (by simp)]
  refine wpAny_bind ?_
  unfold callSpecialUnlessNone?
  refine wpAny_bind (wpAny_specialOf hT vals_no_contains (wpAny_pure ?_))
  show wpAny _ A (rule "in.by-iteration" >>= _) Q E s
  refine wpAny_bind (wpAny_rule ?_)
  refine wpAny_bind ?_
  refine wpAny_tryCatch (wpAny_pyIter_values_raw hv hm ?_)
  have hlt : d < s.heap.objs.size := let ⟨_, ho, _⟩ := hm; Heap.lt_size ho
  refine wpAny_bind (wpAny_runValue ?_)
  refine code_cin (i := 0) (it := s.heap.objs.size) hh (Nat.ne_of_lt hlt) hin es.size _ rfl (Nat.zero_le _) ⟨_, Heap.get?_push_size _ rfl, rfl, rfl⟩ (hm.at fun o e => Heap.get?_push_of_some _ e) fun h' hk => ?_
  refine wpAny_pure ?_
  rw [List.drop_zero]
  exact h h' fun b o e => hk b o (Nat.ne_of_lt (Heap.lt_size e)) (Heap.get?_push_of_some _ e)
end
def vinB (i : Int) (v : L2.V) : Bool := match v with
  | .int j => j == i
  | _ => false
theorem vin_kv {i : Int} : ∀ {kvs : List (Key × L2.V)} {vs : List (Key × Value)}, KV kvs vs → (∀ p ∈ kvs, ∃ j, p.2 = .int j) → (kvs.any fun p => vinB i p.2) = ((vs.map (·.2)).any (ivB i)) ∧ ∀ v ∈ vs.map (·.2), ∃ j u, v = .int j u
  | [], _, .nil, _ => ⟨rfl, fun v hv => by cases hv⟩
  | p :: kvs, q :: vs, .cons h r, hi => by
    obtain ⟨h1, h2⟩ := vin_kv r fun p hp => hi p (List.mem_cons_of_mem _ hp)
    obtain ⟨j, hj⟩ := hi p List.mem_cons_self
    have hr := h.2
    rw [hj] at hr
    obtain ⟨t, ht⟩ := hr
    refine ⟨?_, fun v hv => ?_⟩
    · rw [List.any_cons, List.map_cons, List.any_cons, h1, hj, ht]
      rfl
    · rw [List.map_cons] at hv
      rcases List.mem_cons.mp hv with rfl | hv
      · exact ⟨j, t, ht⟩
      · exact h2 v hv
def tVIn (neg : Bool) (ty td : TE) : TE := fun σ H Q => ty σ H fun y H1 => td σ H1 fun x H2 => ∃ i d kvs, y = .int i ∧ x = .ref d ∧ Rd H2 d (.dK kvs) ∧ (∀ p ∈ kvs, ∃ j, p.2 = .int j) ∧ Q (.bl (neg ^^ kvs.any fun p => vinB i p.2)) H2
section
variable {X : Cx} {e o : Expr} {ty td : TE} {apos cpos : Pos}
theorem vals_any {es : Array DictEntry} {vs : List (Key × Value)} (hs : es.size = vs.length) (h : ∀ i (hi : i < es.size), ∃ k, vs[i]? = some (k, es[i].val)) : es.toList.map (·.val) = vs.map (·.2) := by
  refine List.ext_getElem? fun i => ?_
  rw [List.getElem?_map, List.getElem?_map]
  by_cases hi : i < es.size
  · obtain ⟨k, hk⟩ := h i hi
    rw [hk, Array.getElem?_toList, Array.getElem?_eq_getElem hi]
    rfl
  · rw [List.getElem?_eq_none (by rw [Array.length_toList]; omega), List.getElem?_eq_none (by omega)]
    rfl
theorem vals_eval (hc : X.calm = true) {neg : Bool} {op : CmpOp} (hop : ∀ (u v : Value) (Q : Value → Shared → Prop) (s : Shared), wpAny (model X.prog X.w) X.A (contains u v) (fun b s' => Q (.bool (neg ^^ b)) s') X.xe s → wpAny (model X.prog X.w) X.A (compareOp op v u) Q X.xe s)
    (hi : PE X e ty) (ho : PE X o td) (hbase : attributeBase o "values" X.env (eval o X.env) = eval o X.env) (hline : (apos.endLine == cpos.line) = true) :
    PC X op e (.Call (.Attribute o "values" apos) [] [] cpos) (tVIn neg ty td) := by
  refine ⟨fun pins s σ H Q I h => ?_⟩
  refine thn (hi.run pins s σ H _ I h) fun iv s1 ⟨y, H1, I1, ry, q1⟩ => ?_
  refine wpAny_Call_method (T := "dict") (id := "dict.values") hbase rfl hline F.plainAttrs_dict F.slot_dict_values F.type_dict_values (thn (ho.run pins s1 σ H1 _ I1 q1) fun u s2 ⟨x, H2, I2, rx, i, d, kvs, ey, ex, hd, hall, q⟩ => ?_)
  subst ex ey
  obtain rfl : u = Value.ref d := rx
  obtain ⟨t, rfl⟩ := ry
  obtain ⟨hz, hs0, vs, kv, hdo⟩ := dk_rd I2.hok hd
  have I3 : Inv X pins σ H2 { s2 with heap := s2.heap.push { cls := .type "dict_values", data := .fields #[.ref d] } } := I2.kept (t' := s2.toks) fun b ob q => Heap.get?_push_of_some _ q
  refine ⟨hdo.typeIs, hdo.mapOf.noDict, ?_⟩
  show wpAny _ _ (callWith cpos (.builtin "dict.values") [.ref d] [] []) _ X.xe s2
  refine method_meetsIn F.slot_dict_values F.entry_dict_values rfl (PySem.evalArgs_none ⟨rfl, hdo.typeIs, F.args_dict_values_1 _, _, meets_dict_values (mixKind X.prog X.w) d hs0, ⟨vs, hdo⟩, ?_⟩)
  obtain ⟨es, ep, hr, hsz, hes⟩ := hdo.raw
  obtain ⟨e1, e2⟩ := vin_kv (i := i) kv hall
  have hmap : es.toList.map (·.val) = vs.map (·.2) := vals_any hsz fun j hj => by
    have hjv : j < vs.length := hsz ▸ hj
    obtain ⟨_, h2⟩ := hes j hj vs[j].1 vs[j].2 (by rw [List.getElem?_eq_getElem hjv])
    exact ⟨vs[j].1, by rw [List.getElem?_eq_getElem hjv, h2]⟩
  refine hop _ _ _ _ ?_
  refine contains_vals (I2.ok.hd hc) ⟨_, Heap.get?_push_size _ rfl, rfl, rfl⟩ (hr.at fun o e => Heap.get?_push_of_some _ e) (fun j hj => ?_) fun h' hk => ?_
  · exact e2 _ (by rw [← hmap]; exact List.mem_map.mpr ⟨es[j], Array.getElem_mem_toList hj, rfl⟩)
  · refine ⟨.bl (neg ^^ kvs.any fun p => vinB i p.2), H2, I3.kept (t' := s2.toks) hk, ?_, q⟩
    show Value.bool _ = Value.bool _
    rw [e1, ← hmap, List.any_map]
    rfl
theorem pc_vnotin (hc : X.calm = true) (hi : PE X e ty) (ho : PE X o td) (hbase : attributeBase o "values" X.env (eval o X.env) = eval o X.env) (hline : (apos.endLine == cpos.line) = true) :
    PC X .NotIn e (.Call (.Attribute o "values" apos) [] [] cpos) (tVIn true ty td) := vals_eval hc (fun u v Q s h => by
  show wpAny _ _ (do return .bool (!(← contains u v))) Q _ s
  exact wpAny_bind (wpAny_mono h (fun b s' q => wpAny_pure (by rw [Bool.true_xor] at q; exact q)) fun _ _ z => z)) hi ho hbase hline
end
end L2
namespace Fw
open PySem PySem.Spec PyProof.Rows L2
def intV : List (PyData × D) → Option (List Int)
  | [] => some []
  | (_, .v (.int i)) :: r => (intV r).map (i :: ·)
  | _ => none
def vIn (neg : Bool) : F2 := fun a b st => match iOf a, viewK st b with
  | some i, some (false, kvs) => match intV kvs with
    | some is => .ok (.v (.bool (neg ^^ is.any (· == i)))) st
    | none => .stuck
  | _, _ => .stuck
theorem intV_at {K : PySem.W.Frag} {ι : Gh} {st : Sto} {H : Hp} {i : Int} : ∀ {kvs : List (PyData × D)} {xs : List (Key × L2.V)} {is : List Int}, intV kvs = some is → RK K ι st H kvs xs → (∀ p ∈ xs, ∃ j, p.2 = .int j) ∧ (xs.any fun p => vinB i p.2) = is.any (· == i)
  | [], _, _, e, .nil => by cases e; exact ⟨(fun p hp => nomatch hp), rfl⟩
  | (k, .v (.int j)) :: r, x :: xs, is, e, .cons h t => by
    unfold intV at e
    obtain ⟨js, e1, rfl⟩ := Option.map_eq_some_iff.mp e
    obtain ⟨h1, h2⟩ := intV_at (i := i) e1 t
    have hx : x.2 = .int j := by
      have := h.2
      cases x with
      | mk a b => cases (show Rp (Frz ι st) H b (.int j) from this); rfl
    refine ⟨fun p hp => ?_, ?_⟩
    · rcases List.mem_cons.mp hp with rfl | hp
      · exact ⟨j, hx⟩
      · exact h1 p hp
    · rw [List.any_cons, List.any_cons, h2, hx]
      rfl
  | (k, .ref n) :: r, _, _, e, _ => by cases e
  | (k, .scr n) :: r, _, _, e, _ => by cases e
  | (k, .v (.none)) :: r, _, _, e, _ => by cases e
  | (k, .v (.bool _)) :: r, _, _, e, _ => by cases e
  | (k, .v (.str _)) :: r, _, _, e, _ => by cases e
  | (k, .v (.list _)) :: r, _, _, e, _ => by cases e
  | (k, .v (.tuple _)) :: r, _, _, e, _ => by cases e
  | (k, .v (.dict _)) :: r, _, _, e, _ => by cases e
section
variable {X : Cx} {W : XW} {e o f : Expr} {me mo mf : ME} {apos cpos : Pos}
theorem vin_red {neg : Bool} {σ : L2.St} {H : Hp} {Q : VK} (q : TEo X.K W (mBin (vIn neg) me mo) σ H Q) : tVIn neg (TEo X.K W me) (TEo X.K W mo) σ H (fun v H' => HF H' → Q v H') := by
  obtain ⟨ι, env, st, R, EV, p⟩ := q
  refine ⟨ι, env, st, R, EV, Out.post_mono (Out.post_bind p) (fun a s1 q ι1 H1 y R1 E1 ra => ?_) fun _ _ z => z⟩
  refine ⟨ι1, env, s1, R1, EV.ext E1, Out.post_mono (Out.post_bind q) (fun b s2 q2 ι2 H2 x R2 E2 rb => ?_) fun _ _ z => z.ext E1⟩
  unfold vIn at q2
  split at q2
  · rename_i i kvs e1 e2
    split at q2
    · rename_i is e3
      obtain ⟨d, rfl, ⟨_, xs, h1, h2⟩ | ⟨z, _⟩⟩ := viewK_at R2 e2 rb
      · obtain ⟨h3, h4⟩ := intV_at (i := i) e3 h2
        refine ⟨i, d, xs, iOf_at e1 (ra.ext E2), rfl, h1, h3, fun _ => ?_⟩
        rw [h4]
        exact q2 ι2 H2 _ R2 (E1.trans E2) (.bl _)
      · cases z
    · exact q2.elim
  · exact q2.elim
theorem c_vnotin (g : Gd X) (he : PE X e (TEo X.K W me)) (ho : PE X o (TEo X.K W mo)) (hbase : attributeBase o "values" X.env (eval o X.env) = eval o X.env := by rfl) (hline : (apos.endLine == cpos.line) = true := by rfl) :
    PC X .NotIn e (.Call (.Attribute o "values" apos) [] [] cpos) (TEo X.K W (mBin (vIn true) me mo)) := pc_wrap (pc_vnotin g.calm he ho hbase hline) fun _ _ _ q => vin_red q
def mGet2 (mo mi mf : ME) : ME := fun env st => (mo env st).bind fun o s1 => if isK s1 o then (mi env s1).bind fun i s2 => (mf env s2).bind fun x s3 => match findS s3 o i with
  | some (some d) => .ok d s3
  | some none => .ok x s3
  | none => .stuck else .stuck
end
end Fw
namespace Fw
open PySem PySem.Spec PyProof.Rows L2
section
variable {st : Sto} {env : Ev}
end
end Fw
namespace Fw
open PySem PySem.Spec PyProof.Rows L2
def pairO : List D → Option (PyData × D)
  | [.v kd, v] => match key1 kd with
    | some _ => some (kd, v)
    | none => none
  | _ => none
open Classical in
noncomputable def lpL (w : Wt) (g : MG) (t : MT) (m : MA) (env0 : Ev) : List Itm → Sto → Out (List (PyData × D))
  | [] => fun st => if chk w st then .ok [] st else .stuck
  | d :: r => fun st => if chk w st then (g d env0 st).noX.bind fun e1 s1 => (t e1 s1).noX.bind fun k s2 =>
      if k then (m e1 s2).noX.bind fun ds s3 => match pairO ds with
        | some kv => (lpL w g t m env0 r s3).bind fun kvs s4 => .ok (kv :: kvs) s4
        | none => .stuck
      else lpL w g t m env0 r s2
    else .stuck
noncomputable def mLp (mi : MI) (g : MG) (t : MT) (m : MA) (own : List Nat) : Ev → Sto → Out (List (PyData × D)) := fun env st => (mi env st).bind fun r s1 => lpL r.2 g t m (wipeE env own) r.1 s1
def PrR (K : PySem.W.Frag) (ι : Gh) (st : Sto) (H : Hp) (p : PyData × D) (x : V) : Prop := ∃ t o kx vx, x = .ref t ∧ H t = some (.frz o (.tup [kx, vx])) ∧ Frz ι st t ∧ Rp (Frz ι st) H kx p.1 ∧ (∃ k, key1 p.1 = some k) ∧ RD K ι st H vx p.2
abbrev RPs (K : PySem.W.Frag) (ι : Gh) (st : Sto) (H : Hp) : List (PyData × D) → List V → Prop := Paired (PrR K ι st H)
section
variable {K : PySem.W.Frag} {ι ι' : Gh} {st st' : Sto} {H H' : Hp}
theorem PrR.mv (m : Mv ι st H ι' st' H') {p : PyData × D} {x : V} (h : PrR K ι st H p x) : PrR K ι' st' H' p x := by
  obtain ⟨t, o, kx, vx, rfl, h1, h2, h3, h4, h5⟩ := h
  obtain ⟨f, e⟩ := m.keep t _ h1 h2
  exact ⟨t, o, kx, vx, rfl, e, f, m.rp h3, h4, m.rd h5⟩
theorem RPs.mv (m : Mv ι st H ι' st' H') : ∀ {kvs xs}, RPs K ι st H kvs xs → RPs K ι' st' H' kvs xs
  | _, _, .nil => .nil
  | _, _, .cons h r => .cons (h.mv m) (RPs.mv m r)
end
def PP1 (K : PySem.W.Frag) (ι : Gh) (st : Sto) (H : Hp) (Q : VK) (kvs : List (PyData × D)) (st' : Sto) : Prop :=
  ∀ ι' H' xs p, SRel K ι' st' H' → Ext ι st H ι' st' H' → RPs K ι' st' H' kvs xs → H' p = none → HF (upd H' p (.lst xs)) → Q (.ref p) (upd H' p (.lst xs))
theorem PP1.ext {K : PySem.W.Frag} {ι ι' : Gh} {st st' s2 : Sto} {H H' : Hp} {Q : VK} {kvs : List (PyData × D)} (h : PP1 K ι st H Q kvs s2) (e : Ext ι st H ι' st' H') : PP1 K ι' st' H' Q kvs s2 :=
  fun ι2 H2 xs p R E r => h ι2 H2 xs p R (e.trans E) r
noncomputable def mDictLp (mi : MI) (g : MG) (t : MT) (m : MA) (own : List Nat) : ME := fun env st => (mLp mi g t m own env st).bind fun kvs s => if (kvs.all fun p => p.2.low s.length) = true then .ok (.ref s.length) (s ++ [.dct false (putAll [] kvs)]) else .stuck
section
variable {X : Cx} {W : XW} {tg iter : Expr} {es : List Expr} {ifs : List Expr} {scope : Scope} {own : List (Str × Nat)} {pos tpos cpos p : Pos} {mi : MI} {g : MG} {t : MT} {m : MA} {x : Str} {kk : Nat}
end
end Fw
namespace Fw.LH
open PySem PySem.Spec PyProof.Rows L2 Fw
noncomputable abbrev f_law_pick : FF := Fw.LB.f_law_pick
noncomputable abbrev f_law_want : FF := Fw.LC.f_law_want
noncomputable def S_law_rather_3 : MS := (sRet (mBin ltD (mVar 5) (mIte (mTB (mBin inU (mVar 3) (mVar 4))) (mIndex (mVar 4) (mCons (mVar 3) mNil)) (mArg fLen (mCons (mVar 4) mNil)))))
noncomputable def S_law_rather_2 : MS := (sSeq (sAsg (mIte (mTB (mBin inU (mVar 2) (mVar 4))) (mIndex (mVar 4) (mCons (mVar 2) mNil)) (mArg fLen (mCons (mVar 4) mNil))) (gNm 5)) S_law_rather_3)
noncomputable def S_law_rather : MS := (sSeq (sAsg (mFrz (mfBin gCat (mFrz (mfArg gList (mCons (mBin subsD (mBin subsD (mVar 0) (mC (.int 1))) (mVar 1)) mNil))) (mFrz (mfArg gDisp (mCons (mC .none) mNil))))) (gNm 4)) S_law_rather_2)
noncomputable def f_law_rather : FF := fnT 6 S_law_rather
noncomputable def law_partner_E1 : MI := (miSeq (mVar 0))
noncomputable def law_partner_G1 : MG := (gTp 2 (gMore (gNm 3) (gMore (gNm 4) gNone)))
noncomputable def law_partner_T1 : MT := (mTB (mBin inU (mVar 1) (mArg fTup (mCons (mVar 3) (mCons (mVar 4) mNil)))))
noncomputable def law_partner_M1 : ME := (mBin subD (mBin addD (mVar 3) (mVar 4)) (mVar 1))
noncomputable def S_law_partner_2 : MS := (sRet (mIte (mTB (mBin neD (mVar 2) (mFrz (mfArg gDisp mNil)))) (mBin subsD (mVar 2) (mC (.int 0))) (mC .none)))
noncomputable def S_law_partner : MS := (sSeq (sAsg (mFrz (mLc law_partner_E1 law_partner_G1 law_partner_T1 law_partner_M1 [3, 4])) (gNm 2)) S_law_partner_2)
noncomputable def f_law_partner : FF := fnT 5 S_law_partner
noncomputable def S_law_told_by : MS := (sRet (mArg fTup (mCons (mBin subsD (mVar 0) (mC (.int 0))) (mCons (mBin addD (mBin addD (mSl (mBin subsD (mVar 0) (mC (.int 1))) moNone (moSome (mVar 1))) (mArg fTup (mCons (mVar 2) mNil))) (mSl (mBin subsD (mVar 0) (mC (.int 1))) (moSome (mBin addD (mVar 1) (mC (.int 1)))) moNone)) mNil))))
noncomputable def f_law_told_by : FF := fnT 3 S_law_told_by
noncomputable def law_asking_E1 : MI := (miSeq (mBin subsD (mBin subsD (mVar 0) (mC (.int 1))) (mVar 4)))
noncomputable def law_asking_G1 : MG := (gNm 5)
noncomputable def law_asking_T1 : MT := (mTru' (mCall f_law_want (mCons (mVar 0) (mCons (mVar 4) (mCons (mVar 5) mNil))) []))
noncomputable def law_asking_M1 : ME := (mVar 5)
noncomputable def law_asking_E2 : MI := (miSeq (mVar 1))
noncomputable def law_asking_G2 : MG := (gNm 4)
noncomputable def law_asking_T2 : MT := mYes
noncomputable def law_asking_M2 : MA := (mCons (mVar 4) (mCons (mNew (mLc law_asking_E1 law_asking_G1 law_asking_T1 law_asking_M1 [5])) mNil))
noncomputable def law_asking_E3 : MI := (miSeq (mVar 1))
noncomputable def law_asking_G3 : MG := (gNm 4)
noncomputable def law_asking_T3 : MT := (mAndT (mTB (mBin (vIn true) (mVar 4) (mVar 3))) (mTB (mBin neD (mBin subsD (mVar 2) (mVar 4)) (mFrz (mfArg gDisp mNil)))))
noncomputable def law_asking_M3 : ME := (mVar 4)
noncomputable def law_asking_B2_2 : MS := (sIf (mTru' (mCall f_law_rather (mCons (mVar 0) (mCons (mVar 5) (mCons (mVar 4) (mCons (mGet2 (mVar 3) (mVar 5) (mC .none)) mNil)))) [])) (sSub (mVar 4) (mVar 3) (mVar 5)) sNil)
noncomputable def law_asking_E4 : MI := (miSeq (mFrz (mfSl (mVar 7) moNone (moSome (mC (.int 1))))))
noncomputable def law_asking_G4 : MG := (gNm 4)
noncomputable def law_asking_B2 : MS := (sSeq (sAsg (mM fmPopAt (mBin subsD (mVar 2) (mVar 4)) (mCons (mC (.int 0)) mNil)) (gNm 5)) law_asking_B2_2)
noncomputable def law_asking_B1_2 : MS := (sFor law_asking_E4 law_asking_G4 law_asking_B2)
noncomputable def law_asking_E5 : MI := (miR1 (mCons (mBin mulD (mBin subsD (mVar 0) (mC (.int 0))) (mBin subsD (mVar 0) (mC (.int 0)))) mNil))
noncomputable def law_asking_G5 : MG := (gNm 6)
noncomputable def law_asking_B1 : MS := (sSeq (sAsg (mFrz (mLc law_asking_E3 law_asking_G3 law_asking_T3 law_asking_M3 [4])) (gNm 7)) law_asking_B1_2)
noncomputable def law_asking_E6 : MI := (miItems (mVar 3))
noncomputable def law_asking_G6 : MG := (gTp 2 (gMore (gNm 5) (gMore (gNm 4) gNone)))
noncomputable def law_asking_T4 : MT := mYes
noncomputable def law_asking_M4 : ME := (mArg fTup (mCons (mArg (f2I intMin) (mCons (mVar 4) (mCons (mVar 5) mNil))) (mCons (mArg (f2I intMax) (mCons (mVar 4) (mCons (mVar 5) mNil))) mNil)))
noncomputable def S_law_asking_3 : MS := (sRet (mArg fTuple (mCons (mFrz (mfArg gSort (mCons (mLock 3 (mFrz (mLc law_asking_E6 law_asking_G6 law_asking_T4 law_asking_M4 [5, 4]))) mNil))) mNil)))
noncomputable def S_law_asking_2 : MS := (sSeq (sFor law_asking_E5 law_asking_G5 law_asking_B1) S_law_asking_3)
noncomputable def S_law_asking : MS := (sSeq (sAsgT 2 (mCons (mDictLp law_asking_E2 law_asking_G2 law_asking_T2 law_asking_M2 [4]) (mCons (mDnew false) mNil)) (gMore (gNm 2) (gMore (gNm 3) gNone))) S_law_asking_2)
noncomputable def f_law_asking : FF := fnT 8 S_law_asking
noncomputable def S_law_gains_2 : MS := (sRet (mCall f_law_rather (mCons (mVar 0) (mCons (mVar 2) (mCons (mCall f_law_partner (mCons (mVar 5) (mCons (mVar 2) mNil)) []) (mCons (mCall f_law_partner (mCons (mVar 4) (mCons (mVar 2) mNil)) []) mNil)))) []))
noncomputable def S_law_gains : MS := (sSeq (sPar2 4 5 (mCons (mCall f_law_asking (mCons (mVar 0) (mCons (mVar 1) mNil)) []) (mCons (mCall f_law_asking (mCons (mCall f_law_told_by (mCons (mVar 0) (mCons (mVar 2) (mCons (mVar 3) mNil))) []) (mCons (mVar 1) mNil)) []) mNil))) S_law_gains_2)
noncomputable def f_law_gains : FF := fnT 6 S_law_gains
end Fw.LH
namespace L2
open PySem PySem.Spec PyProof.Rows
abbrev IsLs (h : Heap) (l : Addr) (vs : List Value) : Prop := ∃ n, h.get? l = some { cls := .type "list", data := .seq vs.toArray n }
section
variable {prog : Program} {w : World} {A : Around} {E : Value → Shared → Prop} {l it S : Addr}
end
section
variable {X : Cx} {pins : List (Addr × Obj)} {σ : L2.St} {H : Hp} {s : Shared}
abbrev LsR (s : Shared) : List (Addr × List V) → List (Addr × List Value) → Prop := Paired (fun q p => q.1 = p.1 ∧ Vals q.2 p.2 ∧ IsLs s.heap p.1 p.2)
theorem LsR.flat : ∀ {xs ls}, LsR s xs ls → Vals (xs.map (·.2)).flatten (ls.map (·.2)).flatten
  | _, _, .nil => .nil
  | _, _, .cons h r => by
    rw [List.map_cons, List.map_cons, List.flatten_cons, List.flatten_cons]
    exact h.2.1.append (LsR.flat r)
theorem LsR.mem : ∀ {xs ls}, LsR s xs ls → ∀ p ∈ ls, IsLs s.heap p.1 p.2
  | _, _, .nil, p, hp => by cases hp
  | _, _, .cons h r, p, hp => by
    rcases List.mem_cons.mp hp with rfl | hp
    · exact h.2.2
    · exact LsR.mem r p hp
end
end L2
namespace Fw
open PySem PySem.Spec PyProof.Rows L2
end Fw
namespace Fw
open PySem PySem.Spec PyProof.Rows L2
open PySem.W (dataLt alike AlikeAll minD)
section
variable {X : Cx} {pins : List (Addr × Obj)} {σ : L2.St} {H : Hp} {s : Shared}
end
end Fw
namespace Wk37
open PySem PySem.Spec PyProof.Rows L2 Fw
abbrev top (i : Nat) : Stmt := PySem.Challenge.pw_pairsandprices_k37_whole_choosing.main.body.getD i (.Pass ⟨0, 0, 0, 0⟩)
abbrev FnP (K : PySem.W.Frag) (x : Str) (st : Stmt) (f : Addr) (fd : FuncData) : Prop := FunD K x x (defArgs st) (defBody st) (defScope st) [] [] f fd
noncomputable abbrev f_law_open_cells : FF := Fw.LA.f_law_open_cells
noncomputable abbrev f_law_pick : FF := Fw.LA.f_law_pick
noncomputable abbrev f_law_any_order : FF := Fw.LA.f_law_any_order
noncomputable def law_draw_houses_E1 : MI := (miSeq (mVar 7))
noncomputable def law_draw_houses_G1 : MG := (gNm 9)
noncomputable def law_draw_houses_T1 : MT := (mTB (mBin neD (mVar 9) (mVar 6)))
noncomputable def law_draw_houses_M1 : ME := (mVar 9)
noncomputable def law_draw_houses_B1_5 : MS := (sExp (mM fmAppend (mVar 5) (mCons (mArg fTuple (mCons (mVar 7) mNil)) mNil)))
noncomputable def law_draw_houses_B1_4 : MS := (sSeq (sIf (mTB (mBin eqD (mVar 3) (mC (.int 3)))) (sAsg (mFrz (mfBin gCat (mFrz (mLc law_draw_houses_E1 law_draw_houses_G1 law_draw_houses_T1 law_draw_houses_M1 [9])) (mFrz (mfArg gDisp (mCons (mVar 6) mNil))))) (gNm 7)) sNil) law_draw_houses_B1_5)
noncomputable def law_draw_houses_B1_3 : MS := (sSeq (sIf (mTB (mBin eqD (mVar 3) (mC (.int 2)))) (sSeq (sAsg (mCall f_law_pick (mCons (mVar 0) (mCons (mVar 2) mNil)) []) (gNm 8)) (sAsg (mBin addD (mSl (mVar 4) (moSome (mVar 8)) moNone) (mSl (mVar 4) moNone (moSome (mVar 8)))) (gNm 7))) sNil) law_draw_houses_B1_4)
noncomputable def law_draw_houses_B1_2 : MS := (sSeq (sIf (mAndT (mTB (mBin eqD (mVar 3) (mC (.int 1)))) (mTB (mBin gtD (mCall f_law_pick (mCons (mVar 0) (mCons (mC (.int 3)) mNil)) []) (mC (.int 0))))) (sAsg (mSl (mVar 4) moNone moNone) (gNm 7)) sNil) law_draw_houses_B1_3)
noncomputable def law_draw_houses_E2 : MI := (miR1 (mCons (mVar 2) mNil))
noncomputable def law_draw_houses_G2 : MG := (gNm 6)
noncomputable def law_draw_houses_B1 : MS := (sSeq (sAsg (mCall f_law_any_order (mCons (mVar 0) (mCons (mFrz (mRg1 (mVar 2))) mNil)) []) (gNm 7)) law_draw_houses_B1_2)
noncomputable def S_law_draw_houses_4 : MS := (sRet (mArg fTup (mCons (mVar 2) (mCons (mArg fTuple (mCons (mVar 5) mNil)) mNil))))
noncomputable def S_law_draw_houses_3 : MS := (sSeq (sFor law_draw_houses_E2 law_draw_houses_G2 law_draw_houses_B1) S_law_draw_houses_4)
noncomputable def S_law_draw_houses_2 : MS := (sSeq (sPar3 3 4 5 (mCons (mCall f_law_pick (mCons (mVar 0) (mCons (mC (.int 4)) mNil)) []) (mCons (mCall f_law_any_order (mCons (mVar 0) (mCons (mFrz (mRg1 (mVar 2))) mNil)) []) (mCons (mNew (mfArg gDisp mNil)) mNil)))) S_law_draw_houses_3)
noncomputable def S_law_draw_houses : MS := (sSeq (sAsg (mBin addD (mC (.int 1)) (mCall f_law_pick (mCons (mVar 0) (mCons (mVar 1) mNil)) [])) (gNm 2)) S_law_draw_houses_2)
noncomputable def f_law_draw_houses : FF := fnT 10 S_law_draw_houses
noncomputable def chosen_E1 : MI := (miR1 (mCons (mBin subsD (mVar 0) (mC (.int 0))) mNil))
noncomputable def chosen_G1 : MG := (gNm 4)
noncomputable def chosen_T1 : MT := mYes
noncomputable def chosen_M1 : ME := (mC (.int 0))
noncomputable def chosen_E2 : MI := (miSeq (mBin subsD (mBin subsD (mVar 0) (mC (.int 1))) (mVar 4)))
noncomputable def chosen_G2 : MG := (gNm 6)
noncomputable def chosen_T2 : MT := (mTB (mBin inU (mVar 6) (mVar 3)))
noncomputable def chosen_M2 : ME := (mVar 6)
noncomputable def chosen_B1_3 : MS := (sExp (mM fmRemove (mVar 3) (mCons (mVar 5) mNil)))
noncomputable def chosen_B1_2 : MS := (sSeq (sSub (mVar 5) (mVar 2) (mVar 4)) chosen_B1_3)
noncomputable def chosen_E3 : MI := (miSeq (mVar 1))
noncomputable def chosen_G3 : MG := (gNm 4)
noncomputable def chosen_B1 : MS := (sSeq (sAsg (mBin subsD (mFrz (mLc chosen_E2 chosen_G2 chosen_T2 chosen_M2 [6])) (mC (.int 0))) (gNm 5)) chosen_B1_2)
noncomputable def S_chosen_3 : MS := (sRet (mArg fTuple (mCons (mVar 2) mNil)))
noncomputable def S_chosen_2 : MS := (sSeq (sFor chosen_E3 chosen_G3 chosen_B1) S_chosen_3)
noncomputable def S_chosen : MS := (sSeq (sAsgT 2 (mCons (mNew (mLc chosen_E1 chosen_G1 chosen_T1 chosen_M1 [4])) (mCons (mNew (mRg1 (mBin subsD (mVar 0) (mC (.int 0))))) mNil)) (gMore (gNm 2) (gMore (gNm 3) gNone))) S_chosen_2)
noncomputable def f_chosen : FF := fnT 7 S_chosen
noncomputable def law_chosen_E1 : MI := (miSeq (mBin subsD (mBin subsD (mVar 0) (mC (.int 1))) (mVar 3)))
noncomputable def law_chosen_G1 : MG := (gNm 4)
noncomputable def law_chosen_T1 : MT := (mTB (mBin (vIn true) (mVar 4) (mVar 2)))
noncomputable def law_chosen_M1 : ME := (mVar 4)
noncomputable def law_chosen_E2 : MI := (miSeq (mVar 1))
noncomputable def law_chosen_G2 : MG := (gNm 3)
noncomputable def law_chosen_B1 : MS := (sSub (mBin subsD (mFrz (mLc law_chosen_E1 law_chosen_G1 law_chosen_T1 law_chosen_M1 [4])) (mC (.int 0))) (mVar 2) (mVar 3))
noncomputable def law_chosen_E3 : MI := (miR1 (mCons (mBin subsD (mVar 0) (mC (.int 0))) mNil))
noncomputable def law_chosen_G3 : MG := (gNm 3)
noncomputable def law_chosen_T2 : MT := mYes
noncomputable def law_chosen_M2 : ME := (mBin subsD (mVar 2) (mVar 3))
noncomputable def S_law_chosen_3 : MS := (sRet (mArg fTuple (mCons (mFrz (mLc law_chosen_E3 law_chosen_G3 law_chosen_T2 law_chosen_M2 [3])) mNil)))
noncomputable def S_law_chosen_2 : MS := (sSeq (sFor law_chosen_E2 law_chosen_G2 law_chosen_B1) S_law_chosen_3)
noncomputable def S_law_chosen : MS := (sSeq (sAsg (mDnew false) (gNm 2)) S_law_chosen_2)
noncomputable def f_law_chosen : FF := fnT 5 S_law_chosen
noncomputable def law_orders_E1 (rc : FF) : MI := (miSeq (mCall rc (mCons (mBin addD (mSl (mVar 0) moNone (moSome (mVar 2))) (mSl (mVar 0) (moSome (mBin addD (mVar 2) (mC (.int 1)))) moNone)) mNil) []))
noncomputable def law_orders_G1 (rc : FF) : MG := (gNm 3)
noncomputable def law_orders_T1 (rc : FF) : MT := mYes
noncomputable def law_orders_M1 (rc : FF) : ME := (mBin addD (mArg fTup (mCons (mBin subsD (mVar 0) (mVar 2)) mNil)) (mVar 3))
noncomputable def law_orders_E2 (rc : FF) : MI := (miR1 (mCons (mArg fLen (mCons (mVar 0) mNil)) mNil))
noncomputable def law_orders_G2 (rc : FF) : MG := (gNm 2)
noncomputable def law_orders_B1 (rc : FF) : MS := (sAsg (mFrz (mfBin gCat (mVar 1) (mFrz (mLc (law_orders_E1 rc) (law_orders_G1 rc) (law_orders_T1 rc) (law_orders_M1 rc) [3])))) (gNm 1))
noncomputable def S_law_orders_4 (rc : FF) : MS := (sRet (mVar 1))
noncomputable def S_law_orders_3 (rc : FF) : MS := (sSeq (sFor (law_orders_E2 rc) (law_orders_G2 rc) (law_orders_B1 rc)) (S_law_orders_4 rc))
noncomputable def S_law_orders_2 (rc : FF) : MS := (sSeq (sAsg (mFrz (mfArg gDisp mNil)) (gNm 1)) (S_law_orders_3 rc))
noncomputable def S_law_orders (rc : FF) : MS := (sSeq (sIf (mTB (mBin eqD (mVar 0) (mArg fTup mNil))) (sRet (mFrz (mfArg gDisp (mCons (mArg fTup mNil) mNil)))) sNil) (S_law_orders_2 rc))
noncomputable def r_law_orders : Nat → FF
  | 0 => fun _ _ => .stuck
  | n + 1 => fnT 4 (S_law_orders (r_law_orders n))
noncomputable def f_law_orders : FF := r_law_orders 6
noncomputable def law_gains_E1 : MI := (miR1 (mCons (mBin subsD (mVar 0) (mC (.int 0))) mNil))
noncomputable def law_gains_G1 : MG := (gNm 3)
noncomputable def law_gains_T1 : MT := mYes
noncomputable def law_gains_M1 : ME := (mBin subD (mIndex (mBin subsD (mBin subsD (mVar 0) (mC (.int 1))) (mVar 3)) (mCons (mBin subsD (mVar 1) (mVar 3)) mNil)) (mIndex (mBin subsD (mBin subsD (mVar 0) (mC (.int 1))) (mVar 3)) (mCons (mBin subsD (mVar 2) (mVar 3)) mNil)))
noncomputable def S_law_gains : MS := (sRet (mFrz (mLc law_gains_E1 law_gains_G1 law_gains_T1 law_gains_M1 [3])))
noncomputable def f_law_gains : FF := fnT 4 S_law_gains
noncomputable def S_rather_2 : MS := (sRet (mBin ltD (mIndex (mVar 4) (mCons (mVar 2) mNil)) (mIndex (mVar 4) (mCons (mVar 3) mNil))))
noncomputable def S_rather : MS := (sSeq (sAsg (mBin subsD (mBin subsD (mVar 0) (mC (.int 1))) (mVar 1)) (gNm 4)) S_rather_2)
noncomputable def f_rather : FF := fnT 5 S_rather
noncomputable def way_round_B2_2 : MS := (sIf (mTru' (mCall f_rather (mCons (mVar 0) (mCons (mBin subsD (mVar 6) (mUn negD (mC (.int 1)))) (mCons (mVar 7) (mCons (mBin subsD (mVar 1) (mBin subsD (mVar 6) (mUn negD (mC (.int 1))))) mNil)))) [])) (sSeq (sIf (mTB (mBin eqD (mVar 8) (mVar 3))) (sRet (mVar 6)) sNil) (sIf (mTB (mBin notInU (mVar 8) (mVar 5))) (sSeq (sExp (mM fmAppend (mVar 5) (mCons (mVar 8) mNil))) (sExp (mM fmAppend (mVar 4) (mCons (mFrz (mfBin gCat (mVar 6) (mFrz (mfArg gDisp (mCons (mVar 8) mNil))))) mNil)))) sNil)) sNil)
noncomputable def way_round_E1 : MI := (miSeq (mBin subsD (mBin subsD (mVar 0) (mC (.int 1))) (mBin subsD (mVar 6) (mUn negD (mC (.int 1))))))
noncomputable def way_round_G1 : MG := (gNm 7)
noncomputable def way_round_B2 : MS := (sSeq (sAsg (mBin subsD (mVar 2) (mVar 7)) (gNm 8)) way_round_B2_2)
noncomputable def way_round_B1_2 : MS := (sFor way_round_E1 way_round_G1 way_round_B2)
noncomputable def way_round_T1 : MT := (mTB (mBin neD (mVar 4) (mFrz (mfArg gDisp mNil))))
noncomputable def way_round_B1 : MS := (sSeq (sAsg (mM fmPopAt (mVar 4) (mCons (mC (.int 0)) mNil)) (gNm 6)) way_round_B1_2)
noncomputable def S_way_round_3 : MS := (sRet (mC .none))
noncomputable def S_way_round_2 : MS := (sSeq (whileL way_round_T1 way_round_B1 1000000) S_way_round_3)
noncomputable def S_way_round : MS := (sSeq (sPar2 4 5 (mCons (mNew (mfArg gDisp (mCons (mFrz (mfArg gDisp (mCons (mVar 3) mNil))) mNil))) (mCons (mNew (mfArg gDisp (mCons (mVar 3) mNil))) mNil))) S_way_round_2)
noncomputable def f_way_round : FF := fnT 9 S_way_round
noncomputable def better_than_E1 : MI := (miEnum (mCons (mVar 1) mNil))
noncomputable def better_than_G1 : MG := (gTp 2 (gMore (gNm 3) (gMore (gNm 4) gNone)))
noncomputable def better_than_T1 : MT := mYes
noncomputable def better_than_M1 : ME := (mArg fTup (mCons (mVar 4) (mCons (mVar 3) mNil)))
noncomputable def better_than_E2 : MI := (miZip (mCons (mVar 6) (mCons (mBin addD (mSl (mVar 6) (moSome (mC (.int 1))) moNone) (mSl (mVar 6) moNone (moSome (mC (.int 1))))) mNil)))
noncomputable def better_than_G2 : MG := (gTp 2 (gMore (gNm 8) (gMore (gNm 9) gNone)))
noncomputable def better_than_B2 : MS := (sSub (mBin subsD (mVar 1) (mVar 9)) (mVar 7) (mVar 8))
noncomputable def better_than_B1_2 : MS := (sIf (mTB (mBin isNotD (mVar 6) (mC .none))) (sSeq (sAsg (mNew (mfArg gList (mCons (mVar 1) mNil))) (gNm 7)) (sSeq (sFor better_than_E2 better_than_G2 better_than_B2) (sRet (mArg fTuple (mCons (mVar 7) mNil))))) sNil)
noncomputable def better_than_E3 : MI := (miR1 (mCons (mBin subsD (mVar 0) (mC (.int 0))) mNil))
noncomputable def better_than_G3 : MG := (gNm 5)
noncomputable def better_than_B1 : MS := (sSeq (sAsg (mCall f_way_round (mCons (mVar 0) (mCons (mVar 1) (mCons (mVar 2) (mCons (mVar 5) mNil)))) []) (gNm 6)) better_than_B1_2)
noncomputable def S_better_than_3 : MS := (sRet (mC .none))
noncomputable def S_better_than_2 : MS := (sSeq (sFor better_than_E3 better_than_G3 better_than_B1) S_better_than_3)
noncomputable def S_better_than : MS := (sSeq (sAsg (mArg fDictP (mCons (mFrz (mLc better_than_E1 better_than_G1 better_than_T1 better_than_M1 [3, 4])) mNil)) (gNm 2)) S_better_than_2)
noncomputable def f_better_than : FF := fnT 10 S_better_than
noncomputable def sequence_of_E1 : MI := (miSeq (mBin subsD (mBin subsD (mVar 0) (mC (.int 1))) (mVar 5)))
noncomputable def sequence_of_G1 : MG := (gNm 6)
noncomputable def sequence_of_T1 : MT := (mTB (mBin inU (mVar 6) (mVar 3)))
noncomputable def sequence_of_M1 : ME := (mVar 6)
noncomputable def sequence_of_E2 : MI := (miR1 (mCons (mBin subsD (mVar 0) (mC (.int 0))) mNil))
noncomputable def sequence_of_G2 : MG := (gNm 5)
noncomputable def sequence_of_T2 : MT := (mAndT (mTB (mBin notInU (mVar 5) (mVar 2))) (mTB (mBin eqD (mBin subsD (mVar 1) (mVar 5)) (mBin subsD (mFrz (mLc sequence_of_E1 sequence_of_G1 sequence_of_T1 sequence_of_M1 [6])) (mC (.int 0))))))
noncomputable def sequence_of_M2 : ME := (mVar 5)
noncomputable def sequence_of_B1_4 : MS := (sExp (mM fmRemove (mVar 3) (mCons (mBin subsD (mVar 1) (mBin subsD (mVar 4) (mC (.int 0)))) mNil)))
noncomputable def sequence_of_B1_3 : MS := (sSeq (sExp (mM fmAppend (mVar 2) (mCons (mBin subsD (mVar 4) (mC (.int 0))) mNil))) sequence_of_B1_4)
noncomputable def sequence_of_B1_2 : MS := (sSeq (sIf (mTB (mBin eqD (mVar 4) (mFrz (mfArg gDisp mNil)))) (sRet (mC .none)) sNil) sequence_of_B1_3)
noncomputable def sequence_of_T3 : MT := (mTB (mBin ltD (mArg fLen (mCons (mVar 2) mNil)) (mBin subsD (mVar 0) (mC (.int 0)))))
noncomputable def sequence_of_B1 : MS := (sSeq (sAsg (mFrz (mLc sequence_of_E2 sequence_of_G2 sequence_of_T2 sequence_of_M2 [5])) (gNm 4)) sequence_of_B1_2)
noncomputable def S_sequence_of_3 : MS := (sRet (mArg fTuple (mCons (mVar 2) mNil)))
noncomputable def S_sequence_of_2 : MS := (sSeq (whileL sequence_of_T3 sequence_of_B1 1000000) S_sequence_of_3)
noncomputable def S_sequence_of : MS := (sSeq (sAsgT 2 (mCons (mNew (mfArg gDisp mNil)) (mCons (mNew (mRg1 (mBin subsD (mVar 0) (mC (.int 0))))) mNil)) (gMore (gNm 2) (gMore (gNm 3) gNone))) S_sequence_of_2)
noncomputable def f_sequence_of : FF := fnT 7 S_sequence_of
noncomputable def law_B3_2 : MS := (sAsg (mAndV (mVar 8) (mNotV (mAndV (mBin geD (mArg (fIntsL lstMin) (mCons (mVar 10) mNil)) (mC (.int 0))) (mBin gtD (mArg (fIntsL lstMax) (mCons (mVar 10) mNil)) (mC (.int 0)))))) (gNm 8))
noncomputable def law_E1 : MI := (miSeq (mVar 6))
noncomputable def law_G1 : MG := (gNm 9)
noncomputable def law_B3 : MS := (sSeq (sAsg (mCall f_law_gains (mCons (mVar 3) (mCons (mVar 7) (mCons (mVar 9) mNil))) []) (gNm 10)) law_B3_2)
noncomputable def law_B2_5 : MS := (sIf (mTru' (mVar 8)) (sIf (mOrT (mNotT (mTru' (mUn (isiD "tuple") (mVar 11)))) (mOrT (mTB (mBin neD (mFrz (mfArg gSortG (mCons (mVar 11) mNil))) (mFrz (mRg1 (mVar 4))))) (mTB (mBin neD (mCall f_law_chosen (mCons (mVar 3) (mCons (mVar 11) mNil)) []) (mVar 7))))) (sRet (mC (.bool false))) sNil) (sIf (mOrT (mTB (mBin notInU (mVar 12) (mVar 6))) (mOrT (mTB (mBin ltD (mArg (fIntsL lstMin) (mCons (mCall f_law_gains (mCons (mVar 3) (mCons (mVar 7) (mCons (mVar 12) mNil))) []) mNil)) (mC (.int 0)))) (mTB (mBin eqD (mArg (fIntsL lstMax) (mCons (mCall f_law_gains (mCons (mVar 3) (mCons (mVar 7) (mCons (mVar 12) mNil))) []) mNil)) (mC (.int 0)))))) (sRet (mC (.bool false))) sNil))
noncomputable def law_B2_4 : MS := (sSeq (sIf (mOrT (mTB (mBin neD (mBin isNotD (mVar 11) (mC .none)) (mVar 8))) (mTB (mBin neD (mBin isD (mVar 12) (mC .none)) (mVar 8)))) (sRet (mC (.bool false))) sNil) law_B2_5)
noncomputable def law_B2_3 : MS := (sSeq (sPar2 11 12 (mCons (mCall f_sequence_of (mCons (mVar 3) (mCons (mVar 7) mNil)) []) (mCons (mCall f_better_than (mCons (mVar 3) (mCons (mVar 7) mNil)) []) mNil))) law_B2_4)
noncomputable def law_B2_2 : MS := (sSeq (sFor law_E1 law_G1 law_B3) law_B2_3)
noncomputable def law_E2 : MI := (miSeq (mArg fTup (mCons (mCall f_law_chosen (mCons (mVar 3) (mCons (mVar 5) mNil)) []) (mCons (mArg fTuple (mCons (mCall f_law_any_order (mCons (mVar 1) (mCons (mFrz (mRg1 (mVar 4))) mNil)) []) mNil)) (mCons (mTupRg1 (mVar 4)) mNil)))))
noncomputable def law_G2 : MG := (gNm 7)
noncomputable def law_B2 : MS := (sSeq (sAsg (mC (.bool true)) (gNm 8)) law_B2_2)
noncomputable def law_B1_6 : MS := (sFor law_E2 law_G2 law_B2)
noncomputable def law_B1_5 : MS := (sSeq (sAsg (mCall f_law_orders (mCons (mTupRg1 (mVar 4)) mNil) []) (gNm 6)) law_B1_6)
noncomputable def law_B1_4 : MS := (sSeq (sIf (mTB (mBin neD (mArg fReprK (mCons (mCall f_chosen (mCons (mVar 3) (mCons (mVar 5) mNil)) []) mNil)) (mArg fReprK (mCons (mCall f_law_chosen (mCons (mVar 3) (mCons (mVar 5) mNil)) []) mNil)))) (sRet (mC (.bool false))) sNil) law_B1_5)
noncomputable def law_B1_3 : MS := (sSeq (sAsg (mArg fTuple (mCons (mCall f_law_any_order (mCons (mVar 1) (mCons (mFrz (mRg1 (mVar 4))) mNil)) []) mNil)) (gNm 5)) law_B1_4)
noncomputable def law_B1_2 : MS := (sSeq (sAsg (mBin subsD (mVar 3) (mC (.int 0))) (gNm 4)) law_B1_3)
noncomputable def law_E3 : MI := (miR1 (mCons (mC (.int 3)) mNil))
noncomputable def law_G3 : MG := (gNm 2)
noncomputable def law_B1 : MS := (sSeq (sAsg (mCall f_law_draw_houses (mCons (mVar 1) (mCons (mC (.int 5)) mNil)) []) (gNm 3)) law_B1_2)
noncomputable def S_law_3 : MS := (sRet (mC (.bool true)))
noncomputable def S_law_2 : MS := (sSeq (sFor law_E3 law_G3 law_B1) S_law_3)
noncomputable def S_law : MS := (sSeq (sAsg (mCall f_law_open_cells (mCons (mVar 0) mNil) []) (gNm 1)) S_law_2)
noncomputable def f_law : FF := fnT 13 S_law
section
variable {P : Program} {w : World} {K : PySem.W.Frag} {mg : Str → Option Value} {base : Heap}
abbrev N_law_open_cells : List Str := ["script", "stirred", "cell", "cells"]
theorem sc_law_open_cells : FnScope N_law_open_cells ["script"] (defScope (top 8)) := ⟨rfl, rfl, rfl, by decide +kernel, rfl, by decide +kernel, by decide +kernel⟩
theorem ok_law_open_cells {f : Addr} {fd : FuncData} (F : FnP K "_law_open_cells" (top 8) f fd) (h_int : mg "int" = none) (h_abs : mg "abs" = none) : FnG P w K mg base CX0 1 f fd ["script"] (spG K V0 1 f_law_open_cells) := by
  refine fnG_K F sc_law_open_cells fun cdv A outer s H E hr => ?_
  have sc := sc_law_open_cells
  have gd := hr.gd (X := cxOf CX0 P w K mg base N_law_open_cells "_law_open_cells" (defScope (top 8)) f cdv A outer s H E) rfl
  exact (ss_cons (s_asg x_int (gn 1 sc.nd)) (ss_cons (s_for gd own_pass (i_seq (xv 0)) (gn 2 sc.nd) (ss_one (s_asg (x_mod (x_callT call_int1 opA_int rfl h_int bt_int (xa_cons (x_add (x_add (x_mul (xv 1) x_int) (x_mul (xv 2) x_int)) x_int) xa_nil)) x_int) (gn 1 sc.nd)))) (ss_cons (s_lcF (i := 3) (own := [("cell", 2)]) gd sc.nd rfl rfl (sw_true rfl rfl rfl (by decide +kernel)) (i_seq (xv 0)) (blkOk_by (N := N_law_open_cells) (sc := defScope (top 8)) (by decide +kernel)) (fun _ _ _ _ _ => ⟨(gn 2 sc.nd), ts_nil, (x_callB call_abs opA_abs rfl h_abs bt_abs (xa_cons (xv 2) xa_nil))⟩)) (ss_one (s_ret (x_disp (ps_cons0 x_str (x_new (xf_rev (xv 3))) (ps_cons0 x_str x_int (ps_cons0 x_str (xv 1) (ps_cons0 x_str x_int ps_nil0))))))))))
abbrev N_law_pick : List Str := ["source", "most", "cells", "others", "lap", "stirred"]
theorem sc_law_pick : FnScope N_law_pick ["source", "most"] (defScope (top 9)) := ⟨rfl, rfl, rfl, by decide +kernel, rfl, by decide +kernel, by decide +kernel⟩
theorem ok_law_pick {f : Addr} {fd : FuncData} (F : FnP K "_law_pick" (top 9) f fd) (h_len : mg "len" = none) (h_int : mg "int" = none) : FnG P w K mg base CX0 1 f fd ["source", "most"] (spG K V0 2 f_law_pick) := by
  refine fnG_T F sc_law_pick fun cdv A outer s H E hr => ?_
  have sc := sc_law_pick
  have gd := hr.gd (X := cxOf CX0 P w K mg base N_law_pick "_law_pick" (defScope (top 9)) f cdv A outer s H E) rfl
  exact (ss_cons (s_if (t_c (c_lt (xv 1) x_int)) (ss_one (s_ret x_int)) ss_nil) (ss_cons (s_asg (x_sub' gd (xv 0) x_str) (gn 2 sc.nd)) (ss_cons (s_while 1000000 own_pass (PW.pt (t_and (t_c (c_lt (x_sub' gd (xv 0) x_str) x_int)) (t_and1 (t_c (c_gt (x_callB call_len opA_len rfl h_len bt_len (xa_cons (xv 2) xa_nil)) x_int))))) (ss_one (s_subP gd (x_m0 PySem.F.plainAttrs_list PySem.F.slot_list_pop PySem.F.type_list_pop mt_pop opM_pop (xv 2)) (xv 0) x_str))) (ss_cons (s_asg (x_sub' gd (xv 0) x_str) (gn 3 sc.nd)) (ss_cons (s_if (t_c (c_gt (xv 3) x_int)) (ss_cons (s_subP gd (x_fdiv (xv 3) (xv 1)) (xv 0) x_str) (ss_one (s_ret (x_mod (x_callT call_int1 opA_int rfl h_int bt_int (xa_cons (xv 3) xa_nil)) (xv 1))))) ss_nil) (ss_cons (s_subP gd (x_add (x_sub' gd (xv 0) x_str) x_int) (xv 0) x_str) (ss_cons (s_asg (x_sub' gd (xv 0) x_str) (gn 4 sc.nd)) (ss_cons (s_asg (x_mod (x_callT call_int1 opA_int rfl h_int bt_int (xa_cons (x_add (x_sub' gd (xv 0) x_str) (x_mul (xv 4) x_int)) xa_nil)) x_int) (gn 5 sc.nd)) (ss_cons (s_asg (x_mod (x_callT call_int1 opA_int rfl h_int bt_int (xa_cons (x_add (x_mul (xv 5) (xv 5)) (x_mul (xv 4) x_int)) xa_nil)) x_int) (gn 5 sc.nd)) (ss_one (s_ret (x_mod (x_callT call_int1 opA_int rfl h_int bt_int (xa_cons (x_fdiv (xv 5) x_int) xa_nil)) (xv 1)))))))))))))
abbrev N_law_any_order : List Str := ["source", "things", "others", "lap"]
theorem sc_law_any_order : FnScope N_law_any_order ["source", "things"] (defScope (top 10)) := ⟨rfl, rfl, rfl, by decide +kernel, rfl, by decide +kernel, by decide +kernel⟩
theorem ok_law_any_order {f : Addr} {fd : FuncData} (F : FnP K "_law_any_order" (top 10) f fd) (h_list : mg "list" = none) (h_len : mg "len" = none) (h_range : mg "range" = none) (C_law_pick : Cal P w K mg base 1 "_law_pick" 2 [] f_law_pick) : FnG P w K mg base CX0 2 f fd ["source", "things"] (spG K V0 2 f_law_any_order) := by
  refine fnG_T F sc_law_any_order fun cdv A outer s H E hr => ?_
  have sc := sc_law_any_order
  have gd := hr.gd (X := cxOf CX0 P w K mg base N_law_any_order "_law_any_order" (defScope (top 10)) f cdv A outer s H E) rfl
  exact (ss_cons (s_asg (x_new (xf_list rfl h_list bt_list (xa_cons (xv 1) xa_nil))) (gn 2 sc.nd)) (ss_one (s_ret (x_frz (xf_lc (own := [("lap", 3)]) gd sc.nd (i_range1 rfl h_range (xa_cons (x_callB call_len opA_len rfl h_len bt_len (xa_cons (xv 2) xa_nil)) xa_nil)) (blkOk_by (N := N_law_any_order) (sc := defScope (top 10)) (by decide +kernel)) (fun _ _ _ _ _ => ⟨(gn 3 sc.nd), ts_nil, (x_m PySem.F.plainAttrs_list PySem.F.slot_list_pop PySem.F.type_list_pop mt_popAt opM_popAt (xv 2) (xa_cons (x_cal C_law_pick hr (by decide) rfl (xa_cons (xv 0) (xa_cons (x_callB call_len opA_len rfl h_len bt_len (xa_cons (xv 2) xa_nil)) xa_nil)) (.c (.c .n)) rfl) xa_nil))⟩))))))
abbrev N_law_draw_houses : List Str := ["source", "most", "n", "road", "first", "lists", "i", "row", "k", "h"]
theorem sc_law_draw_houses : FnScope N_law_draw_houses ["source", "most"] (defScope (top 11)) := ⟨rfl, rfl, rfl, by decide +kernel, rfl, by decide +kernel, by decide +kernel⟩
theorem ok_law_draw_houses {f : Addr} {fd : FuncData} (F : FnP K "_law_draw_houses" (top 11) f fd) (h_range : mg "range" = none) (h_list : mg "list" = none) (h_tuple : mg "tuple" = none) (C_law_pick : Cal P w K mg base 1 "_law_pick" 2 [] f_law_pick) (C_law_any_order : Cal P w K mg base 2 "_law_any_order" 2 [] f_law_any_order) : FnG P w K mg base CX0 3 f fd ["source", "most"] (spG K V0 2 f_law_draw_houses) := by
  refine fnG_T F sc_law_draw_houses fun cdv A outer s H E hr => ?_
  have sc := sc_law_draw_houses
  have gd := hr.gd (X := cxOf CX0 P w K mg base N_law_draw_houses "_law_draw_houses" (defScope (top 11)) f cdv A outer s H E) rfl
  exact (ss_cons (s_asg (x_add x_int (x_cal C_law_pick hr (by decide) rfl (xa_cons (xv 0) (xa_cons (xv 1) xa_nil)) (.c (.c .n)) rfl)) (gn 2 sc.nd)) (ss_cons (s_p3 gd sc.nd (xa_cons (x_cal C_law_pick hr (by decide) rfl (xa_cons (xv 0) (xa_cons x_int xa_nil)) (.c (.c .n)) rfl) (xa_cons (x_cal C_law_any_order hr (by decide) rfl (xa_cons (xv 0) (xa_cons (x_frz (xf_listRg1 gd rfl h_list rfl h_range (xv 2))) xa_nil)) (.c (.c .n)) rfl) (xa_cons (x_new (xf_disp xa_nil)) xa_nil)))) (ss_cons (s_for gd own_pass (i_range1 rfl h_range (xa_cons (xv 2) xa_nil)) (gn 6 sc.nd) (ss_cons (s_asg (x_cal C_law_any_order hr (by decide) rfl (xa_cons (xv 0) (xa_cons (x_frz (xf_listRg1 gd rfl h_list rfl h_range (xv 2))) xa_nil)) (.c (.c .n)) rfl) (gn 7 sc.nd)) (ss_cons (s_if (PW.pt (t_and (t_c (c_eq gd (xv 3) x_int)) (t_and1 (t_c (c_gt (x_cal C_law_pick hr (by decide) rfl (xa_cons (xv 0) (xa_cons x_int xa_nil)) (.c (.c .n)) rfl) x_int))))) (ss_one (s_asg (x_slice (xv 4) xo_none xo_none) (gn 7 sc.nd))) ss_nil) (ss_cons (s_if (t_c (c_eq gd (xv 3) x_int)) (ss_cons (s_asg (x_cal C_law_pick hr (by decide) rfl (xa_cons (xv 0) (xa_cons (xv 2) xa_nil)) (.c (.c .n)) rfl) (gn 8 sc.nd)) (ss_one (s_asg (x_add (x_slice (xv 4) (xo_some (xv 8)) xo_none) (x_slice (xv 4) xo_none (xo_some (xv 8)))) (gn 7 sc.nd)))) ss_nil) (ss_cons (s_if (t_c (c_eq gd (xv 3) x_int)) (ss_one (s_asg (x_frz (xf_cat (x_frz (xf_lc (own := [("h", 9)]) gd sc.nd (i_seq (xv 7)) (blkOk_by (N := N_law_draw_houses) (sc := defScope (top 11)) (by decide +kernel)) (fun _ _ _ _ _ => ⟨(gn 9 sc.nd), (ts_one (t_c (c_ne gd.blk (xv 9) (xv 6)))), (xv 9)⟩))) (x_frz (xf_disp (xa_cons (xv 6) xa_nil))))) (gn 7 sc.nd))) ss_nil) (ss_one (s_expr (x_m PySem.F.plainAttrs_list PySem.F.slot_list_append PySem.F.type_list_append mt_append opM_append (xv 5) (xa_cons (x_callT call_tupleN opA_tuple rfl h_tuple bt_tuple (xa_cons (xv 7) xa_nil)) xa_nil))))))))) (ss_one (s_ret (x_tup (xa_cons (xv 2) (xa_cons (x_callT call_tupleN opA_tuple rfl h_tuple bt_tuple (xa_cons (xv 5) xa_nil)) xa_nil))))))))
abbrev N_chosen : List Str := ["houses", "sequence", "deal", "left", "person", "house", "h"]
theorem sc_chosen : FnScope N_chosen ["houses", "sequence"] (defScope (top 3)) := ⟨rfl, rfl, rfl, by decide +kernel, rfl, by decide +kernel, by decide +kernel⟩
theorem ok_chosen {f : Addr} {fd : FuncData} (F : FnP K "chosen" (top 3) f fd) (h_range : mg "range" = none) (h_list : mg "list" = none) (h_tuple : mg "tuple" = none) : FnG P w K mg base CX0 1 f fd ["houses", "sequence"] (spG K V0 2 f_chosen) := by
  refine fnG_T F sc_chosen fun cdv A outer s H E hr => ?_
  have sc := sc_chosen
  have gd := hr.gd (X := cxOf CX0 P w K mg base N_chosen "chosen" (defScope (top 3)) f cdv A outer s H E) rfl
  exact (ss_cons (s_pT gd (xa_cons (x_new (xf_lc (own := [("person", 4)]) gd sc.nd (i_range1 rfl h_range (xa_cons (x_sub' gd (xv 0) x_int) xa_nil)) (blkOk_by (N := N_chosen) (sc := defScope (top 3)) (by decide +kernel)) (fun _ _ _ _ _ => ⟨(gn 4 sc.nd), ts_nil, x_int⟩))) (xa_cons (x_new (xf_listRg1 gd rfl h_list rfl h_range (x_sub' gd (xv 0) x_int))) xa_nil)) (gs_cons (gn 2 sc.nd) (gs_cons (gn 3 sc.nd) gs_nil))) (ss_cons (s_for gd own_pass (i_seq (xv 1)) (gn 4 sc.nd) (ss_cons (s_asg (x_sub' gd (x_frz (xf_lc (own := [("h", 6)]) gd sc.nd (i_seq (x_sub' gd (x_sub' gd (xv 0) x_int) (xv 4))) (blkOk_by (N := N_chosen) (sc := defScope (top 3)) (by decide +kernel)) (fun _ _ _ _ _ => ⟨(gn 6 sc.nd), (ts_one (t_c (c_in gd.blk (xv 6) (xv 3)))), (xv 6)⟩))) x_int) (gn 5 sc.nd)) (ss_cons (s_subP gd (xv 5) (xv 2) (xv 4)) (ss_one (s_expr (x_m PySem.F.plainAttrs_list PySem.F.slot_list_remove PySem.F.type_list_remove mt_removeI opM_remove (xv 3) (xa_cons (xv 5) xa_nil))))))) (ss_one (s_ret (x_callT call_tupleN opA_tuple rfl h_tuple bt_tuple (xa_cons (xv 2) xa_nil))))))
abbrev N_law_chosen : List Str := ["houses", "sequence", "found", "i", "h"]
theorem sc_law_chosen : FnScope N_law_chosen ["houses", "sequence"] (defScope (top 13)) := ⟨rfl, rfl, rfl, by decide +kernel, rfl, by decide +kernel, by decide +kernel⟩
theorem ok_law_chosen {f : Addr} {fd : FuncData} (F : FnP K "_law_chosen" (top 13) f fd) (h_range : mg "range" = none) (h_tuple : mg "tuple" = none) : FnG P w K mg base CX0 1 f fd ["houses", "sequence"] (spG K V0 2 f_law_chosen) := by
  refine fnG_T F sc_law_chosen fun cdv A outer s H E hr => ?_
  have sc := sc_law_chosen
  have gd := hr.gd (X := cxOf CX0 P w K mg base N_law_chosen "_law_chosen" (defScope (top 13)) f cdv A outer s H E) rfl
  exact (ss_cons (s_asg (x_dnew false) (gn 2 sc.nd)) (ss_cons (s_for gd own_pass (i_seq (xv 1)) (gn 3 sc.nd) (ss_one (s_subP gd (x_sub' gd (x_frz (xf_lc (own := [("h", 4)]) gd sc.nd (i_seq (x_sub' gd (x_sub' gd (xv 0) x_int) (xv 3))) (blkOk_by (N := N_law_chosen) (sc := defScope (top 13)) (by decide +kernel)) (fun _ _ _ _ _ => ⟨(gn 4 sc.nd), (ts_one (t_c (c_vnotin gd.blk (xv 4) (xv 2)))), (xv 4)⟩))) x_int) (xv 2) (xv 3)))) (ss_one (s_ret (x_callT call_tupleN opA_tuple rfl h_tuple bt_tuple (xa_cons (x_frz (xf_lc (own := [("i", 3)]) gd sc.nd (i_range1 rfl h_range (xa_cons (x_sub' gd (xv 0) x_int) xa_nil)) (blkOk_by (N := N_law_chosen) (sc := defScope (top 13)) (by decide +kernel)) (fun _ _ _ _ _ => ⟨(gn 3 sc.nd), ts_nil, (x_sub' gd.blk (xv 2) (xv 3))⟩))) xa_nil))))))
abbrev N_law_orders : List Str := ["things", "found", "k", "row"]
theorem sc_law_orders : FnScope N_law_orders ["things"] (defScope (top 12)) := ⟨rfl, rfl, rfl, by decide +kernel, rfl, by decide +kernel, by decide +kernel⟩
theorem ok_law_orders {f : Addr} {fd : FuncData} (n : Nat) (rc : FF) (F : FnP K "_law_orders" (top 12) f fd) (h_len : mg "len" = none) (h_range : mg "range" = none) (C_law_orders : Cal P w K mg base (0 + n) "_law_orders" 1 [] rc) : FnG P w K mg base CX0 (0 + n + 1) f fd ["things"] (spG K V0 1 (fnT 4 (Wk37.S_law_orders rc))) := by
  refine fnG_T F sc_law_orders fun cdv A outer s H E hr => ?_
  have sc := sc_law_orders
  have gd := hr.gd (X := cxOf CX0 P w K mg base N_law_orders "_law_orders" (defScope (top 12)) f cdv A outer s H E) rfl
  exact (ss_cons (s_if (t_c (c_eq gd (xv 0) (x_tup xa_nil))) (ss_one (s_ret (x_frz (xf_disp (xa_cons (x_tup xa_nil) xa_nil))))) ss_nil) (ss_cons (s_asg (x_frz (xf_disp xa_nil)) (gn 1 sc.nd)) (ss_cons (s_for gd own_pass (i_range1 rfl h_range (xa_cons (x_callB call_len opA_len rfl h_len bt_len (xa_cons (xv 0) xa_nil)) xa_nil)) (gn 2 sc.nd) (ss_one (s_asg (x_frz (xf_cat (xv 1) (x_frz (xf_lc (own := [("row", 3)]) gd sc.nd (i_seq (x_cal C_law_orders hr (by omega) rfl (xa_cons (x_add (x_slice (xv 0) xo_none (xo_some (xv 2))) (x_slice (xv 0) (xo_some (x_add (xv 2) x_int)) xo_none)) xa_nil) (.c .n) rfl)) (blkOk_by (N := N_law_orders) (sc := defScope (top 12)) (by decide +kernel)) (fun _ _ _ _ _ => ⟨(gn 3 sc.nd), ts_nil, (x_add (x_tup (xa_cons (x_sub' gd.blk (xv 0) (xv 2)) xa_nil)) (xv 3))⟩))))) (gn 1 sc.nd)))) (ss_one (s_ret (xv 1))))))
abbrev N_law_gains : List Str := ["houses", "deal", "other", "i"]
theorem sc_law_gains : FnScope N_law_gains ["houses", "deal", "other"] (defScope (top 14)) := ⟨rfl, rfl, rfl, by decide +kernel, rfl, by decide +kernel, by decide +kernel⟩
theorem ok_law_gains {f : Addr} {fd : FuncData} (F : FnP K "_law_gains" (top 14) f fd) (h_range : mg "range" = none) : FnG P w K mg base CX0 1 f fd ["houses", "deal", "other"] (spG K V0 3 f_law_gains) := by
  refine fnG_T F sc_law_gains fun cdv A outer s H E hr => ?_
  have sc := sc_law_gains
  have gd := hr.gd (X := cxOf CX0 P w K mg base N_law_gains "_law_gains" (defScope (top 14)) f cdv A outer s H E) rfl
  exact (ss_one (s_ret (x_frz (xf_lc (own := [("i", 3)]) gd sc.nd (i_range1 rfl h_range (xa_cons (x_sub' gd (xv 0) x_int) xa_nil)) (blkOk_by (N := N_law_gains) (sc := defScope (top 14)) (by decide +kernel)) (fun _ _ _ _ _ => ⟨(gn 3 sc.nd), ts_nil, (x_sub (x_index (x_sub' gd.blk (x_sub' gd.blk (xv 0) x_int) (xv 3)) (xa_cons (x_sub' gd.blk (xv 1) (xv 3)) xa_nil)) (x_index (x_sub' gd.blk (x_sub' gd.blk (xv 0) x_int) (xv 3)) (xa_cons (x_sub' gd.blk (xv 2) (xv 3)) xa_nil)))⟩)))))
abbrev N_rather : List Str := ["houses", "person", "house", "other", "row"]
theorem sc_rather : FnScope N_rather ["houses", "person", "house", "other"] (defScope (top 1)) := ⟨rfl, rfl, rfl, by decide +kernel, rfl, by decide +kernel, by decide +kernel⟩
theorem ok_rather {f : Addr} {fd : FuncData} (F : FnP K "rather" (top 1) f fd)  : FnG P w K mg base CX0 1 f fd ["houses", "person", "house", "other"] (spG K V0 4 f_rather) := by
  refine fnG_T F sc_rather fun cdv A outer s H E hr => ?_
  have sc := sc_rather
  have gd := hr.gd (X := cxOf CX0 P w K mg base N_rather "rather" (defScope (top 1)) f cdv A outer s H E) rfl
  exact (ss_cons (s_asg (x_sub' gd (x_sub' gd (xv 0) x_int) (xv 1)) (gn 4 sc.nd)) (ss_one (s_ret (x_c (c_lt (x_index (xv 4) (xa_cons (xv 2) xa_nil)) (x_index (xv 4) (xa_cons (xv 3) xa_nil)))))))
abbrev N_way_round : List Str := ["houses", "deal", "owners", "start", "ways", "seen", "way", "house", "other"]
theorem sc_way_round : FnScope N_way_round ["houses", "deal", "owners", "start"] (defScope (top 6)) := ⟨rfl, rfl, rfl, by decide +kernel, rfl, by decide +kernel, by decide +kernel⟩
theorem ok_way_round {f : Addr} {fd : FuncData} (F : FnP K "way_round" (top 6) f fd)  (C_rather : Cal P w K mg base 1 "rather" 4 [] f_rather) : FnG P w K mg base CX0 2 f fd ["houses", "deal", "owners", "start"] (spG K V0 4 f_way_round) := by
  refine fnG_T F sc_way_round fun cdv A outer s H E hr => ?_
  have sc := sc_way_round
  have gd := hr.gd (X := cxOf CX0 P w K mg base N_way_round "way_round" (defScope (top 6)) f cdv A outer s H E) rfl
  exact (ss_cons (s_p2 gd sc.nd (xa_cons (x_new (xf_disp (xa_cons (x_frz (xf_disp (xa_cons (xv 3) xa_nil))) xa_nil))) (xa_cons (x_new (xf_disp (xa_cons (xv 3) xa_nil))) xa_nil))) (ss_cons (s_while 1000000 own_pass (t_c (c_ne gd (xv 4) (x_frz (xf_disp xa_nil)))) (ss_cons (s_asg (x_m PySem.F.plainAttrs_list PySem.F.slot_list_pop PySem.F.type_list_pop mt_popAt opM_popAt (xv 4) (xa_cons x_int xa_nil)) (gn 6 sc.nd)) (ss_one (s_for gd own_pass (i_seq (x_sub' gd (x_sub' gd (xv 0) x_int) (x_sub' gd (xv 6) (x_neg x_int)))) (gn 7 sc.nd) (ss_cons (s_asg (x_sub' gd (xv 2) (xv 7)) (gn 8 sc.nd)) (ss_one (s_if (t_v (x_cal C_rather hr (by decide) rfl (xa_cons (xv 0) (xa_cons (x_sub' gd (xv 6) (x_neg x_int)) (xa_cons (xv 7) (xa_cons (x_sub' gd (xv 1) (x_sub' gd (xv 6) (x_neg x_int))) xa_nil)))) (.c (.c (.c (.c .n)))) rfl)) (ss_cons (s_if (t_c (c_eq gd (xv 8) (xv 3))) (ss_one (s_ret (xv 6))) ss_nil) (ss_one (s_if (t_c (c_notIn gd (xv 8) (xv 5))) (ss_cons (s_expr (x_m PySem.F.plainAttrs_list PySem.F.slot_list_append PySem.F.type_list_append mt_append opM_append (xv 5) (xa_cons (xv 8) xa_nil))) (ss_one (s_expr (x_m PySem.F.plainAttrs_list PySem.F.slot_list_append PySem.F.type_list_append mt_append opM_append (xv 4) (xa_cons (x_frz (xf_cat (xv 6) (x_frz (xf_disp (xa_cons (xv 8) xa_nil))))) xa_nil))))) ss_nil))) ss_nil))))))) (ss_one (s_ret x_non))))
abbrev N_better_than : List Str := ["houses", "deal", "owners", "i", "house", "start", "way", "late", "one", "other"]
theorem sc_better_than : FnScope N_better_than ["houses", "deal"] (defScope (top 5)) := ⟨rfl, rfl, rfl, by decide +kernel, rfl, by decide +kernel, by decide +kernel⟩
theorem ok_better_than {f : Addr} {fd : FuncData} (F : FnP K "better_than" (top 5) f fd) (h_enumerate : mg "enumerate" = none) (h_dict : mg "dict" = none) (h_range : mg "range" = none) (h_list : mg "list" = none) (h_zip : mg "zip" = none) (h_tuple : mg "tuple" = none) (C_way_round : Cal P w K mg base 2 "way_round" 4 [] f_way_round) : FnG P w K mg base CX0 3 f fd ["houses", "deal"] (spG K V0 2 f_better_than) := by
  refine fnG_T F sc_better_than fun cdv A outer s H E hr => ?_
  have sc := sc_better_than
  have gd := hr.gd (X := cxOf CX0 P w K mg base N_better_than "better_than" (defScope (top 5)) f cdv A outer s H E) rfl
  exact (ss_cons (s_asg (x_callT (call_dictP gd.calm) opA_dictP rfl h_dict bt_dict (xa_cons (x_frz (xf_lc (own := [("i", 3), ("house", 4)]) gd sc.nd (i_enum rfl h_enumerate (xa_cons (xv 1) xa_nil)) (blkOk_by (N := N_better_than) (sc := defScope (top 5)) (by decide +kernel)) (fun _ _ _ _ _ => ⟨(g_tp gd.blk (gs_cons (gn 3 sc.nd) (gs_cons (gn 4 sc.nd) gs_nil))), ts_nil, (x_tup (xa_cons (xv 4) (xa_cons (xv 3) xa_nil)))⟩))) xa_nil)) (gn 2 sc.nd)) (ss_cons (s_for gd own_pass (i_range1 rfl h_range (xa_cons (x_sub' gd (xv 0) x_int) xa_nil)) (gn 5 sc.nd) (ss_cons (s_asg (x_cal C_way_round hr (by decide) rfl (xa_cons (xv 0) (xa_cons (xv 1) (xa_cons (xv 2) (xa_cons (xv 5) xa_nil)))) (.c (.c (.c (.c .n)))) rfl) (gn 6 sc.nd)) (ss_one (s_if (t_c (c_isNot (xv 6) x_non)) (ss_cons (s_asg (x_new (xf_list rfl h_list bt_list (xa_cons (xv 1) xa_nil))) (gn 7 sc.nd)) (ss_cons (s_for gd own_pass (i_zip rfl h_zip (xa_cons (xv 6) (xa_cons (x_add (x_slice (xv 6) (xo_some x_int) xo_none) (x_slice (xv 6) xo_none (xo_some x_int))) xa_nil))) (g_tp gd (gs_cons (gn 8 sc.nd) (gs_cons (gn 9 sc.nd) gs_nil))) (ss_one (s_subP gd (x_sub' gd (xv 1) (xv 9)) (xv 7) (xv 8)))) (ss_one (s_ret (x_callT call_tupleN opA_tuple rfl h_tuple bt_tuple (xa_cons (xv 7) xa_nil)))))) ss_nil)))) (ss_one (s_ret x_non))))
abbrev N_sequence_of : List Str := ["houses", "deal", "found", "left", "some", "i", "h"]
theorem sc_sequence_of : FnScope N_sequence_of ["houses", "deal"] (defScope (top 4)) := ⟨rfl, rfl, rfl, by decide +kernel, rfl, by decide +kernel, by decide +kernel⟩
theorem ok_sequence_of {f : Addr} {fd : FuncData} (F : FnP K "sequence_of" (top 4) f fd) (h_range : mg "range" = none) (h_list : mg "list" = none) (h_len : mg "len" = none) (h_tuple : mg "tuple" = none) : FnG P w K mg base CX0 1 f fd ["houses", "deal"] (spG K V0 2 f_sequence_of) := by
  refine fnG_T F sc_sequence_of fun cdv A outer s H E hr => ?_
  have sc := sc_sequence_of
  have gd := hr.gd (X := cxOf CX0 P w K mg base N_sequence_of "sequence_of" (defScope (top 4)) f cdv A outer s H E) rfl
  exact (ss_cons (s_pT gd (xa_cons (x_new (xf_disp xa_nil)) (xa_cons (x_new (xf_listRg1 gd rfl h_list rfl h_range (x_sub' gd (xv 0) x_int))) xa_nil)) (gs_cons (gn 2 sc.nd) (gs_cons (gn 3 sc.nd) gs_nil))) (ss_cons (s_while 1000000 own_pass (t_c (c_lt (x_callB call_len opA_len rfl h_len bt_len (xa_cons (xv 2) xa_nil)) (x_sub' gd (xv 0) x_int))) (ss_cons (s_lcF (i := 4) (own := [("i", 5)]) gd sc.nd rfl rfl (sw_true rfl rfl rfl (by decide +kernel)) (i_range1 rfl h_range (xa_cons (x_sub' gd (xv 0) x_int) xa_nil)) (blkOk_by (N := N_sequence_of) (sc := defScope (top 4)) (by decide +kernel)) (fun _ _ _ _ _ => ⟨(gn 5 sc.nd), (ts_one (PW.pt (t_and (t_c (c_notIn gd.blk (xv 5) (xv 2))) (t_and1 (t_c (c_eq gd.blk (x_sub' gd.blk (xv 1) (xv 5)) (x_sub' gd.blk (x_frz (xf_lc (own := [("h", 6)]) gd.blk sc.nd (i_seq (x_sub' gd.blk (x_sub' gd.blk (xv 0) x_int) (xv 5))) (blkOk_by (by kernel_rfl)) (fun _ _ _ _ _ => ⟨(gn 6 sc.nd), (ts_one (t_c (c_in gd.blk.blk (xv 6) (xv 3)))), (xv 6)⟩))) x_int))))))), (xv 5)⟩)) (ss_cons (s_if (t_c (c_eq gd (xv 4) (x_frz (xf_disp xa_nil)))) (ss_one (s_ret x_non)) ss_nil) (ss_cons (s_expr (x_m PySem.F.plainAttrs_list PySem.F.slot_list_append PySem.F.type_list_append mt_append opM_append (xv 2) (xa_cons (x_sub' gd (xv 4) x_int) xa_nil))) (ss_one (s_expr (x_m PySem.F.plainAttrs_list PySem.F.slot_list_remove PySem.F.type_list_remove mt_removeI opM_remove (xv 3) (xa_cons (x_sub' gd (xv 1) (x_sub' gd (xv 4) x_int)) xa_nil)))))))) (ss_one (s_ret (x_callT call_tupleN opA_tuple rfl h_tuple bt_tuple (xa_cons (xv 2) xa_nil))))))
abbrev N_law : List Str := ["script", "source", "lap", "houses", "n", "sequence", "every", "deal", "is_lean", "other", "gains", "told", "late"]
theorem sc_law : FnScope N_law ["script"] (defScope (top 15)) := ⟨rfl, rfl, rfl, by decide +kernel, rfl, by decide +kernel, by decide +kernel⟩
theorem ok_law {f : Addr} {fd : FuncData} (F : FnP K "law" (top 15) f fd) (h_range : mg "range" = none) (h_list : mg "list" = none) (h_tuple : mg "tuple" = none) (h_repr : mg "repr" = none) (h_max : mg "max" = none) (h_min : mg "min" = none) (h_sorted : mg "sorted" = none) (h_isinstance : mg "isinstance" = none) (C_law_open_cells : Cal P w K mg base 1 "_law_open_cells" 1 [] f_law_open_cells) (C_law_draw_houses : Cal P w K mg base 3 "_law_draw_houses" 2 [] f_law_draw_houses) (C_law_any_order : Cal P w K mg base 2 "_law_any_order" 2 [] f_law_any_order) (C_chosen : Cal P w K mg base 1 "chosen" 2 [] f_chosen) (C_law_chosen : Cal P w K mg base 1 "_law_chosen" 2 [] f_law_chosen) (C_law_orders : Cal P w K mg base 6 "_law_orders" 1 [] f_law_orders) (C_law_gains : Cal P w K mg base 1 "_law_gains" 3 [] f_law_gains) (C_better_than : Cal P w K mg base 3 "better_than" 2 [] f_better_than) (C_sequence_of : Cal P w K mg base 1 "sequence_of" 2 [] f_sequence_of) : FnG P w K mg base CX0 7 f fd ["script"] (spG K V0 1 f_law) := by
  refine fnG_T F sc_law fun cdv A outer s H E hr => ?_
  have sc := sc_law
  have gd := hr.gd (X := cxOf CX0 P w K mg base N_law "law" (defScope (top 15)) f cdv A outer s H E) rfl
  exact (ss_cons (s_asg (x_cal C_law_open_cells hr (by decide) rfl (xa_cons (xv 0) xa_nil) (.c .n) rfl) (gn 1 sc.nd)) (ss_cons (s_for gd own_pass (i_range1 rfl h_range (xa_cons x_int xa_nil)) (gn 2 sc.nd) (ss_cons (s_asg (x_cal C_law_draw_houses hr (by decide) rfl (xa_cons (xv 1) (xa_cons x_int xa_nil)) (.c (.c .n)) rfl) (gn 3 sc.nd)) (ss_cons (s_asg (x_sub' gd (xv 3) x_int) (gn 4 sc.nd)) (ss_cons (s_asg (x_callT call_tupleN opA_tuple rfl h_tuple bt_tuple (xa_cons (x_cal C_law_any_order hr (by decide) rfl (xa_cons (xv 1) (xa_cons (x_frz (xf_listRg1 gd rfl h_list rfl h_range (xv 4))) xa_nil)) (.c (.c .n)) rfl) xa_nil)) (gn 5 sc.nd)) (ss_cons (s_if (t_c (c_ne gd (x_callB ((call_reprN gd).or (call_reprK gd)) opA_reprK rfl h_repr bt_repr (xa_cons (x_cal C_chosen hr (by decide) rfl (xa_cons (xv 3) (xa_cons (xv 5) xa_nil)) (.c (.c .n)) rfl) xa_nil)) (x_callB ((call_reprN gd).or (call_reprK gd)) opA_reprK rfl h_repr bt_repr (xa_cons (x_cal C_law_chosen hr (by decide) rfl (xa_cons (xv 3) (xa_cons (xv 5) xa_nil)) (.c (.c .n)) rfl) xa_nil)))) (ss_one (s_ret x_bl)) ss_nil) (ss_cons (s_asg (x_cal C_law_orders hr (by decide) rfl (xa_cons (x_tupRg1 gd rfl h_tuple rfl h_range (xv 4)) xa_nil) (.c .n) rfl) (gn 6 sc.nd)) (ss_one (s_for gd own_pass (i_seq (x_tup (xa_cons (x_cal C_law_chosen hr (by decide) rfl (xa_cons (xv 3) (xa_cons (xv 5) xa_nil)) (.c (.c .n)) rfl) (xa_cons (x_callT call_tupleN opA_tuple rfl h_tuple bt_tuple (xa_cons (x_cal C_law_any_order hr (by decide) rfl (xa_cons (xv 1) (xa_cons (x_frz (xf_listRg1 gd rfl h_list rfl h_range (xv 4))) xa_nil)) (.c (.c .n)) rfl) xa_nil)) (xa_cons (x_tupRg1 gd rfl h_tuple rfl h_range (xv 4)) xa_nil))))) (gn 7 sc.nd) (ss_cons (s_asg x_bl (gn 8 sc.nd)) (ss_cons (s_for gd own_pass (i_seq (xv 6)) (gn 9 sc.nd) (ss_cons (s_asg (x_cal C_law_gains hr (by decide) rfl (xa_cons (xv 3) (xa_cons (xv 7) (xa_cons (xv 9) xa_nil))) (.c (.c (.c .n))) rfl) (gn 10 sc.nd)) (ss_one (s_asg (x_and (xv 8) (x_one (x_not (x_and (x_c (c_ge (x_callB (cr_min gd.calm) opA_minL rfl h_min bt_min (xa_cons (xv 10) xa_nil)) x_int)) (x_one (x_c (c_gt (x_callB (cr_max gd.calm) opA_maxL rfl h_max bt_max (xa_cons (xv 10) xa_nil)) x_int))))))) (gn 8 sc.nd))))) (ss_cons (s_p2 gd sc.nd (xa_cons (x_cal C_sequence_of hr (by decide) rfl (xa_cons (xv 3) (xa_cons (xv 7) xa_nil)) (.c (.c .n)) rfl) (xa_cons (x_cal C_better_than hr (by decide) rfl (xa_cons (xv 3) (xa_cons (xv 7) xa_nil)) (.c (.c .n)) rfl) xa_nil))) (ss_cons (s_if (PW.pt (t_or (t_c (c_ne gd (x_c (c_isNot (xv 11) x_non)) (xv 8))) (t_or1 (t_c (c_ne gd (x_c (c_is (xv 12) x_non)) (xv 8)))))) (ss_one (s_ret x_bl)) ss_nil) (ss_one (s_if (t_v (xv 8)) (ss_one (s_if (PW.pt (t_or (t_not (t_v (x_isi "tuple" rfl h_isinstance rfl h_tuple bt_tuple (xv 11)))) (t_or (t_c (c_ne gd (x_frz (xf_sortG gd rfl h_sorted bt_sorted (xa_cons (xv 11) xa_nil))) (x_frz (xf_listRg1 gd rfl h_list rfl h_range (xv 4))))) (t_or1 (t_c (c_ne gd (x_cal C_law_chosen hr (by decide) rfl (xa_cons (xv 3) (xa_cons (xv 11) xa_nil)) (.c (.c .n)) rfl) (xv 7))))))) (ss_one (s_ret x_bl)) ss_nil)) (ss_one (s_if (PW.pt (t_or (t_c (c_notIn gd (xv 12) (xv 6))) (t_or (t_c (c_lt (x_callB (cr_min gd.calm) opA_minL rfl h_min bt_min (xa_cons (x_cal C_law_gains hr (by decide) rfl (xa_cons (xv 3) (xa_cons (xv 7) (xa_cons (xv 12) xa_nil))) (.c (.c (.c .n))) rfl) xa_nil)) x_int)) (t_or1 (t_c (c_eq gd (x_callB (cr_max gd.calm) opA_maxL rfl h_max bt_max (xa_cons (x_cal C_law_gains hr (by decide) rfl (xa_cons (xv 3) (xa_cons (xv 7) (xa_cons (xv 12) xa_nil))) (.c (.c (.c .n))) rfl) xa_nil)) x_int)))))) (ss_one (s_ret x_bl)) ss_nil)))))))))))))))) (ss_one (s_ret x_bl))))
end
def d_law_open_cells : He.DefD := ⟨("_law_open_cells", none), "_law_open_cells", "_law_open_cells", defArgs (top 8), defBody (top 8), defScope (top 8), [], []⟩
def d_law_pick : He.DefD := ⟨("_law_pick", none), "_law_pick", "_law_pick", defArgs (top 9), defBody (top 9), defScope (top 9), [], []⟩
def d_law_any_order : He.DefD := ⟨("_law_any_order", none), "_law_any_order", "_law_any_order", defArgs (top 10), defBody (top 10), defScope (top 10), [], []⟩
def d_law_draw_houses : He.DefD := ⟨("_law_draw_houses", none), "_law_draw_houses", "_law_draw_houses", defArgs (top 11), defBody (top 11), defScope (top 11), [], []⟩
def d_chosen : He.DefD := ⟨("chosen", none), "chosen", "chosen", defArgs (top 3), defBody (top 3), defScope (top 3), [], []⟩
def d_law_chosen : He.DefD := ⟨("_law_chosen", none), "_law_chosen", "_law_chosen", defArgs (top 13), defBody (top 13), defScope (top 13), [], []⟩
def d_law_orders : He.DefD := ⟨("_law_orders", none), "_law_orders", "_law_orders", defArgs (top 12), defBody (top 12), defScope (top 12), [], []⟩
def d_law_gains : He.DefD := ⟨("_law_gains", none), "_law_gains", "_law_gains", defArgs (top 14), defBody (top 14), defScope (top 14), [], []⟩
def d_rather : He.DefD := ⟨("rather", none), "rather", "rather", defArgs (top 1), defBody (top 1), defScope (top 1), [], []⟩
def d_way_round : He.DefD := ⟨("way_round", none), "way_round", "way_round", defArgs (top 6), defBody (top 6), defScope (top 6), [], []⟩
def d_better_than : He.DefD := ⟨("better_than", none), "better_than", "better_than", defArgs (top 5), defBody (top 5), defScope (top 5), [], []⟩
def d_sequence_of : He.DefD := ⟨("sequence_of", none), "sequence_of", "sequence_of", defArgs (top 4), defBody (top 4), defScope (top 4), [], []⟩
def d_law : He.DefD := ⟨("law", none), "law", "law", defArgs (top 15), defBody (top 15), defScope (top 15), [], []⟩
def fn : List He.DefD := [d_law_open_cells, d_law_pick, d_law_any_order, d_law_draw_houses, d_chosen, d_law_chosen, d_law_orders, d_law_gains, d_rather, d_way_round, d_better_than, d_sequence_of, d_law]
def fa : List He.Fa := [.glo "_law_open_cells", .glo "_law_pick", .glo "_law_any_order", .glo "_law_draw_houses", .glo "chosen", .glo "_law_chosen", .glo "_law_orders", .glo "_law_gains", .glo "rather", .glo "way_round", .glo "better_than", .glo "sequence_of", .glo "law", .free "int", .free "abs", .free "len", .free "list", .free "range", .free "tuple", .free "enumerate", .free "dict", .free "zip", .free "repr", .free "max", .free "min", .free "sorted", .free "isinstance"]
abbrev R : PySem.W.OpenRow := PySem.W.OpenLaw.row PySem.Challenge.rw_pairsandprices_k37_whole_choosing
abbrev hk : PySem.W.Hook := He.hookD 4 fa fn
def ob (s : PySem.W.SharedT) : He.AlD := He.obsDG 4 fa fn (HandSHeadRun.getT s)
theorem ob_eq (s : PySem.W.SharedT) : ob s = hk.obs s.abs := He.obsDG_eq (HandSHeadRun.getT_eq s)
abbrev lo : List PySem.Str := ["rather", "chosen", "sequence_of", "better_than", "way_round", "_law_open_cells", "_law_pick", "_law_any_order", "_law_draw_houses", "_law_orders", "_law_chosen", "_law_gains"]
theorem run (w : World) : HandSHeadRun.RunEq R (PySem.W.view R.prog [15]) hk ob 1180 lo w := by
  intro os
  kernel_rfl
theorem facts {P : Program} {w : World} {K : PySem.W.Frag} {h : Heap} {mg : Str → Option Value} {f : Addr} (X : K.In h) (G : h.Ns mainGlobals mg) (hfa : mg ("law" : Str) = some (.ref f)) (c : He.SaysD fa fn K) :
    ∃ fd : FuncData, (∀ (s : Shared) (v : Value), BindsTo s fd ⟨[v], []⟩ [("script", v)]) ∧ ∀ base : Heap, K.In base → base.Ns mainGlobals mg → FnG P w K mg base CX0 7 f fd ["script"] (spG K V0 1 f_law) := by
  obtain ⟨fd0, F0⟩ := c.def_ 0 (d := d_law_open_cells) rfl
  have m0 := He.glo_ok X G (c.fact 0 (f := .glo "_law_open_cells") rfl)
  obtain ⟨fd1, F1⟩ := c.def_ 1 (d := d_law_pick) rfl
  have m1 := He.glo_ok X G (c.fact 1 (f := .glo "_law_pick") rfl)
  obtain ⟨fd2, F2⟩ := c.def_ 2 (d := d_law_any_order) rfl
  have m2 := He.glo_ok X G (c.fact 2 (f := .glo "_law_any_order") rfl)
  obtain ⟨fd3, F3⟩ := c.def_ 3 (d := d_law_draw_houses) rfl
  have m3 := He.glo_ok X G (c.fact 3 (f := .glo "_law_draw_houses") rfl)
  obtain ⟨fd4, F4⟩ := c.def_ 4 (d := d_chosen) rfl
  have m4 := He.glo_ok X G (c.fact 4 (f := .glo "chosen") rfl)
  obtain ⟨fd5, F5⟩ := c.def_ 5 (d := d_law_chosen) rfl
  have m5 := He.glo_ok X G (c.fact 5 (f := .glo "_law_chosen") rfl)
  obtain ⟨fd6, F6⟩ := c.def_ 6 (d := d_law_orders) rfl
  have m6 := He.glo_ok X G (c.fact 6 (f := .glo "_law_orders") rfl)
  obtain ⟨fd7, F7⟩ := c.def_ 7 (d := d_law_gains) rfl
  have m7 := He.glo_ok X G (c.fact 7 (f := .glo "_law_gains") rfl)
  obtain ⟨fd8, F8⟩ := c.def_ 8 (d := d_rather) rfl
  have m8 := He.glo_ok X G (c.fact 8 (f := .glo "rather") rfl)
  obtain ⟨fd9, F9⟩ := c.def_ 9 (d := d_way_round) rfl
  have m9 := He.glo_ok X G (c.fact 9 (f := .glo "way_round") rfl)
  obtain ⟨fd10, F10⟩ := c.def_ 10 (d := d_better_than) rfl
  have m10 := He.glo_ok X G (c.fact 10 (f := .glo "better_than") rfl)
  obtain ⟨fd11, F11⟩ := c.def_ 11 (d := d_sequence_of) rfl
  have m11 := He.glo_ok X G (c.fact 11 (f := .glo "sequence_of") rfl)
  obtain ⟨fd12, F12⟩ := c.def_ 12 (d := d_law) rfl
  have m12 := He.glo_ok X G (c.fact 12 (f := .glo "law") rfl)
  have h_int := He.free_ok X G (c.fact 13 (f := .free "int") rfl)
  have h_abs := He.free_ok X G (c.fact 14 (f := .free "abs") rfl)
  have h_len := He.free_ok X G (c.fact 15 (f := .free "len") rfl)
  have h_list := He.free_ok X G (c.fact 16 (f := .free "list") rfl)
  have h_range := He.free_ok X G (c.fact 17 (f := .free "range") rfl)
  have h_tuple := He.free_ok X G (c.fact 18 (f := .free "tuple") rfl)
  have h_enumerate := He.free_ok X G (c.fact 19 (f := .free "enumerate") rfl)
  have h_dict := He.free_ok X G (c.fact 20 (f := .free "dict") rfl)
  have h_zip := He.free_ok X G (c.fact 21 (f := .free "zip") rfl)
  have h_repr := He.free_ok X G (c.fact 22 (f := .free "repr") rfl)
  have h_max := He.free_ok X G (c.fact 23 (f := .free "max") rfl)
  have h_min := He.free_ok X G (c.fact 24 (f := .free "min") rfl)
  have h_sorted := He.free_ok X G (c.fact 25 (f := .free "sorted") rfl)
  have h_isinstance := He.free_ok X G (c.fact 26 (f := .free "isinstance") rfl)
  have e := hfa.symm.trans m12
  cases e
  have b := FunD.bindsA (ps := ["script"]) F12 fun _ _ _ _ _ _ us hl => match us, hl with | [_], _ => rfl
  refine ⟨fd12, fun s v => b s [v] rfl, fun base _ _ => ?_⟩
  have C_law_open_cells : Cal P w K mg base 1 "_law_open_cells" 1 [] f_law_open_cells := .mk0 F0 m0 (ok_law_open_cells F0 h_int h_abs) fun _ _ _ _ _ _ us hl => match us, hl with | [_], _ => rfl
  have C_law_pick : Cal P w K mg base 1 "_law_pick" 2 [] f_law_pick := .mk0 F1 m1 (ok_law_pick F1 h_len h_int) fun _ _ _ _ _ _ us hl => match us, hl with | [_, _], _ => rfl
  have C_law_any_order : Cal P w K mg base 2 "_law_any_order" 2 [] f_law_any_order := .mk0 F2 m2 (ok_law_any_order F2 h_list h_len h_range C_law_pick) fun _ _ _ _ _ _ us hl => match us, hl with | [_, _], _ => rfl
  have C_law_draw_houses : Cal P w K mg base 3 "_law_draw_houses" 2 [] f_law_draw_houses := .mk0 F3 m3 (ok_law_draw_houses F3 h_range h_list h_tuple C_law_pick C_law_any_order) fun _ _ _ _ _ _ us hl => match us, hl with | [_, _], _ => rfl
  have C_chosen : Cal P w K mg base 1 "chosen" 2 [] f_chosen := .mk0 F4 m4 (ok_chosen F4 h_range h_list h_tuple) fun _ _ _ _ _ _ us hl => match us, hl with | [_, _], _ => rfl
  have C_law_chosen : Cal P w K mg base 1 "_law_chosen" 2 [] f_law_chosen := .mk0 F5 m5 (ok_law_chosen F5 h_range h_tuple) fun _ _ _ _ _ _ us hl => match us, hl with | [_, _], _ => rfl
  have C_law_orders : Cal P w K mg base 6 "_law_orders" 1 [] f_law_orders := .mk0 F6 m6 (fnG_rec (k := 0) (ps := ["things"]) Wk37.r_law_orders rfl (fun n ih => ok_law_orders n _ F6 h_len h_range (.mk0 F6 m6 ih fun _ _ _ _ _ _ us hl => match us, hl with | [_], _ => rfl)) 6) fun _ _ _ _ _ _ us hl => match us, hl with | [_], _ => rfl
  have C_law_gains : Cal P w K mg base 1 "_law_gains" 3 [] f_law_gains := .mk0 F7 m7 (ok_law_gains F7 h_range) fun _ _ _ _ _ _ us hl => match us, hl with | [_, _, _], _ => rfl
  have C_rather : Cal P w K mg base 1 "rather" 4 [] f_rather := .mk0 F8 m8 (ok_rather F8 ) fun _ _ _ _ _ _ us hl => match us, hl with | [_, _, _, _], _ => rfl
  have C_way_round : Cal P w K mg base 2 "way_round" 4 [] f_way_round := .mk0 F9 m9 (ok_way_round F9  C_rather) fun _ _ _ _ _ _ us hl => match us, hl with | [_, _, _, _], _ => rfl
  have C_better_than : Cal P w K mg base 3 "better_than" 2 [] f_better_than := .mk0 F10 m10 (ok_better_than F10 h_enumerate h_dict h_range h_list h_zip h_tuple C_way_round) fun _ _ _ _ _ _ us hl => match us, hl with | [_, _], _ => rfl
  have C_sequence_of : Cal P w K mg base 1 "sequence_of" 2 [] f_sequence_of := .mk0 F11 m11 (ok_sequence_of F11 h_range h_list h_len h_tuple) fun _ _ _ _ _ _ us hl => match us, hl with | [_, _], _ => rfl
  exact ok_law F12 h_range h_list h_tuple h_repr h_max h_min h_sorted h_isinstance C_law_open_cells C_law_draw_houses C_law_any_order C_chosen C_law_chosen C_law_orders C_law_gains C_better_than C_sequence_of
end Wk37
open PySem PySem.W PySem.Calls PyProof.Rows in
theorem Wk37.holds (law : ∀ ns : List Int, ns.length ≤ 63 → ∃ st, Wk37.f_law [.scr ns] [] = .ok (.v (.bool true)) st) : PySem.Challenge.rw_pairsandprices_k37_whole_choosing.Holds := by
  w_on; o_law
  refine HandSHeadRun.head_any (r := OpenLaw.row PySem.Challenge.rw_pairsandprices_k37_whole_choosing) (q := view (OpenLaw.row PySem.Challenge.rw_pairsandprices_k37_whole_choosing).prog [15]) (H := Wk37.hk) (ob := Wk37.ob) (M := 1180) (loose := Wk37.lo) (d := HandSHeadRun.topDef (OpenLaw.row PySem.Challenge.rw_pairsandprices_k37_whole_choosing).prog 15) (kwd := []) Wk37.ob_eq
    (by kernel_rfl) (fun s => by kernel_rfl) Wk37.run (by kernel_rfl) (by kernel_rfl) (by kernel_rfl) (by rfl) (by first | assumption | decide +kernel) (by decide +kernel) ⟨rfl, rfl, rfl, rfl, rfl, by decide +kernel⟩ ?hw ?hc
  case hw => w_witness2
  case hc =>
    refine Fw.walkG (l := PySem.Challenge.rw_pairsandprices_k37_whole_choosing) (n := 63) (k := 7) (x := "script") (ff := Wk37.f_law) rfl (by decide) (by kernel_rfl) Fw.rm0 ?F law
    intro w mg fa h Y G hmg0
    obtain ⟨K, KX, c⟩ := Y
    have hmg : mg ("law" : PySem.Str) = some (.ref fa) := by
      have e : (HandSHeadRun.topDef (OpenLaw.row PySem.Challenge.rw_pairsandprices_k37_whole_choosing).prog 15).name = ("law" : PySem.Str) := by kernel_rfl
      rw [← e]
      exact hmg0
    obtain ⟨fd, hb, hF⟩ := Wk37.facts (P := (PySem.Challenge.rw_pairsandprices_k37_whole_choosing).prog) (w := w) KX G hmg c
    exact ⟨K, fd, KX, hb, hF⟩
namespace Fw.Hl
open PySem PySem.Spec PyProof.Rows L2 Fw
abbrev rowsD (rows : List (List Nat)) : PyData := .tuple (rows.map tNs)
abbrev hallD (rows : List (List Nat)) : PyData := .tuple [nI rows.length, rowsD rows]
abbrev pr (p : Nat × Nat) : PyData := tNs [p.1, p.2]
def row (rows : List (List Nat)) (a : Nat) : List Nat := rows.getD a []
section
variable {rows : List (List Nat)} {a b k : Nat} {st : Sto} {ps : List (Nat × Nat)} {c : Option Nat}
theorem hall0 : subsD (.v (hallD rows)) (.v (.int 0)) st = .ok (.v (nI rows.length)) st := sub_tup (k := 0) rfl
theorem hall1 : subsD (.v (hallD rows)) (.v (.int 1)) st = .ok (.v (rowsD rows)) st := sub_tup (k := 1) rfl
theorem hall_row (h : a < rows.length) : subsD (.v (rowsD rows)) (.v (nI a)) st = .ok (.v (tNs (row rows a))) st := by
  refine sub_tup (k := a) ?_
  rw [List.getElem?_map, List.getElem?_eq_getElem h]
  unfold row
  rw [List.getD_eq_getElem?_getD, List.getElem?_eq_getElem h]
  rfl
def want (rows : List (List Nat)) (a b : Nat) : Bool := decide (b ∈ row rows a) && decide (a ∈ row rows b)
def place (rows : List (List Nat)) (a : Nat) : Option Nat → Nat
  | none => (row rows a).length
  | some b => if b ∈ row rows a then (row rows a).idxOf b else (row rows a).length + 1
def partner (ps : List (Nat × Nat)) (a : Nat) : Option Nat := (ps.find? fun p => decide (a = p.1 ∨ a = p.2)).map fun p => if a = p.1 then p.2 else p.1
def ratherO (l : List Nat) (b : Nat) : Option Nat → Bool
  | none => true
  | some c => !decide (c ∈ l) || decide (l.idxOf b < l.idxOf c)
def rather (rows : List (List Nat)) (a b : Nat) (c : Option Nat) : Bool := decide (b ∈ row rows a) && ratherO (row rows a) b c
def brk (rows : List (List Nat)) (ps : List (Nat × Nat)) (a b : Nat) : Bool := rather rows a b (partner ps a) && rather rows b a (partner ps b)
def brkOf (rows : List (List Nat)) (ps : List (Nat × Nat)) (a : Nat) : List (Nat × Nat) := (((ups (a + 1) rows.length).filter (want rows a)).filter (brk rows ps a)).map fun b => (a, b)
def breaking (rows : List (List Nat)) (ps : List (Nat × Nat)) : List (Nat × Nat) := (List.range rows.length).flatMap (brkOf rows ps)
theorem fm_filter {α β : Type} {p : α → Bool} {f : α → β} : ∀ l : List α, (l.filterMap fun b => if p b = true then some (f b) else none) = (l.filter p).map f
  | [] => rfl
  | x :: r => by
    rw [List.filterMap_cons, List.filter_cons]
    by_cases h : p x = true
    · rw [if_pos h, if_pos h, List.map_cons, ← fm_filter r]
    · rw [if_neg h, if_neg h, ← fm_filter r]
theorem place_lt (hb : b ∈ row rows a) : decide ((place rows a (some b) : Int) < (place rows a c : Int)) = rather rows a b c := by
  have h1 := List.idxOf_lt_length_of_mem hb
  have e1 : place rows a (some b) = (row rows a).idxOf b := if_pos hb
  unfold rather
  rw [decide_eq_true hb, e1, Bool.true_and]
  cases c with
  | none =>
    have e2 : place rows a none = (row rows a).length := rfl
    rw [e2]
    exact decide_eq_true (by omega)
  | some c =>
    by_cases hc : c ∈ row rows a
    · have e2 : place rows a (some c) = (row rows a).idxOf c := if_pos hc
      rw [e2]
      show _ = (!decide (c ∈ row rows a) || decide ((row rows a).idxOf b < (row rows a).idxOf c))
      rw [decide_eq_true hc]
      simp
    · have e2 : place rows a (some c) = (row rows a).length + 1 := if_neg hc
      rw [e2]
      show _ = (!decide (c ∈ row rows a) || decide ((row rows a).idxOf b < (row rows a).idxOf c))
      rw [decide_eq_false hc]
      exact decide_eq_true (by omega)
theorem want_row (h : want rows a b = true) : b ∈ row rows a ∧ a ∈ row rows b := by
  unfold want at h
  simpa using h
theorem last_at {o : O} : (st ++ [o])[st.length]? = some o := by
  rw [List.getElem?_append_right (Nat.le_refl _), Nat.sub_self]
  rfl
theorem last_set {o u : O} : (st ++ [o]).set st.length u = st ++ [u] := by
  rw [List.set_append_right _ _ (Nat.le_refl _), Nat.sub_self]
  rfl
end
def r2 (p : Nat × Nat) : List Int := [(p.1 : Int), (p.2 : Int)]
def insP (a : Nat × Nat) : List (Nat × Nat) → List (Nat × Nat)
  | [] => [a]
  | b :: r => if lexLe (r2 a) (r2 b) then a :: b :: r else b :: insP a r
def sortP : List (Nat × Nat) → List (Nat × Nat)
  | [] => []
  | a :: r => insP a (sortP r)
section
variable {rows : List (List Nat)} {ps : List (Nat × Nat)} {p : Nat × Nat} {st : Sto}
end
end Fw.Hl
namespace Fw.Hl
open PySem PySem.Spec PyProof.Rows L2 Fw
structure Hall (rows : List (List Nat)) : Prop where
  pos : 1 ≤ rows.length
  nd : ∀ a, (row rows a).Nodup
  mem : ∀ {a b}, b ∈ row rows a → b < rows.length ∧ b ≠ a
def far (p q : Nat × Nat) : Prop := p.1 ≠ q.1 ∧ p.1 ≠ q.2 ∧ p.2 ≠ q.1 ∧ p.2 ≠ q.2
theorem far_symm {p q : Nat × Nat} (h : far p q) : far q p := ⟨h.1.symm, h.2.2.1.symm, h.2.1.symm, h.2.2.2.symm⟩
structure Prs (n : Nat) (ps : List (Nat × Nat)) : Prop where
  lt : ∀ p ∈ ps, p.1 < p.2 ∧ p.2 < n
  far : ps.Pairwise far
structure Prg (rows : List (List Nat)) (ps : List (Nat × Nat)) : Prop extends Prs rows.length ps where
  want : ∀ p ∈ ps, want rows p.1 p.2 = true
theorem Prs.perm {n : Nat} {ps qs : List (Nat × Nat)} (h : Prs n ps) (p : qs.Perm ps) : Prs n qs :=
  ⟨fun q hq => h.lt q (p.mem_iff.mp hq), (p.pairwise_iff far_symm).mpr h.far⟩
theorem sub_len {α : Type} [DecidableEq α] : ∀ {l m : List α}, l.Nodup → (∀ x ∈ l, x ∈ m) → l.length ≤ m.length
  | [], _, _, _ => Nat.zero_le _
  | a :: r, m, nd, h => by
    obtain ⟨h1, h2⟩ := List.nodup_cons.mp nd
    have ha := h a List.mem_cons_self
    have ih := sub_len (m := m.erase a) h2 fun x hx => (List.mem_erase_of_ne fun (e : x = a) => h1 (e ▸ hx)).mpr (h x (List.mem_cons_of_mem _ hx))
    have hp := List.length_pos_of_mem ha
    rw [List.length_erase_of_mem ha] at ih
    rw [List.length_cons]
    omega
theorem Prs.len {n : Nat} {ps : List (Nat × Nat)} (h : Prs n ps) : ps.length ≤ n := by
  have h1 : (ps.map (·.1)).Nodup := List.pairwise_map.mpr (h.far.imp fun h => h.1)
  have h2 := sub_len (m := List.range n) h1 fun x hx => by
    obtain ⟨p, hp, rfl⟩ := List.mem_map.mp hx
    have := h.lt p hp
    exact List.mem_range.mpr (by omega)
  rw [List.length_map, List.length_range] at h2
  exact h2
end Fw.Hl
namespace Fw.Hl
open Fw
section
variable {rows : List (List Nat)} {ps : List (Nat × Nat)} {a b c p q x n : Nat} {L : List Nat} {side : Nat → Bool}
def Br (rows : List (List Nat)) (ps : List (Nat × Nat)) (a b : Nat) : Prop := want rows a b = true ∧ rather rows a b (partner ps a) = true ∧ rather rows b a (partner ps b) = true
theorem want_symm : want rows a b = want rows b a := by
  unfold want
  rw [Bool.and_comm]
theorem Br.symm (h : Br rows ps a b) : Br rows ps b a := ⟨want_symm ▸ h.1, h.2.2, h.2.1⟩
theorem Br.row (h : Br rows ps a b) : b ∈ row rows a ∧ a ∈ row rows b := want_row h.1
theorem rather_iff {o : Option Nat} (hb : b ∈ row rows a) : rather rows a b o = true ↔ place rows a (some b) < place rows a o := by
  rw [← place_lt hb, decide_eq_true_eq]
  omega
theorem far_of {l : List (Nat × Nat)} (h : l.Pairwise far) : ∀ {p q}, p ∈ l → q ∈ l → p = q ∨ far p q := by
  induction l with
  | nil => exact fun hp => nomatch hp
  | cons a r ih =>
    intro p q hp hq
    obtain ⟨h1, h2⟩ := List.pairwise_cons.mp h
    rcases List.mem_cons.mp hp with e1 | hp
    · rcases List.mem_cons.mp hq with e2 | hq
      · exact .inl (e1.trans e2.symm)
      · exact .inr (e1 ▸ h1 q hq)
    · rcases List.mem_cons.mp hq with e2 | hq
      · exact .inr (e2 ▸ far_symm (h1 p hp))
      · exact ih h2 hp hq
theorem partner_iff (h : Prs n ps) : partner ps a = some c ↔ (a, c) ∈ ps ∨ (c, a) ∈ ps := by
  unfold partner
  rw [Option.map_eq_some_iff]
  constructor
  · rintro ⟨p, hp, e⟩
    have hm := List.mem_of_find?_eq_some hp
    have ha : a = p.1 ∨ a = p.2 := by simpa using List.find?_some hp
    by_cases h1 : a = p.1
    · rw [if_pos h1] at e
      left
      rw [h1, ← e]
      exact hm
    · rw [if_neg h1] at e
      right
      rw [← e, ha.resolve_left h1]
      exact hm
  · intro hm
    have hex : ∃ q ∈ ps, decide (a = q.1 ∨ a = q.2) = true ∧ (q = (a, c) ∨ q = (c, a)) := by
      rcases hm with hm | hm
      · exact ⟨_, hm, by simp, .inl rfl⟩
      · exact ⟨_, hm, by simp, .inr rfl⟩
    obtain ⟨q, hq, hqa, hqe⟩ := hex
    cases hf : ps.find? (fun p => decide (a = p.1 ∨ a = p.2)) with
    | none => exact absurd hqa (List.find?_eq_none.mp hf q hq)
    | some r =>
      have hr := List.mem_of_find?_eq_some hf
      have hra : a = r.1 ∨ a = r.2 := by simpa using List.find?_some hf
      have hqa : a = q.1 ∨ a = q.2 := by simpa using hqa
      have hrq : r = q := by
        rcases far_of h.far hr hq with e | e
        · exact e
        · obtain ⟨e1, e2, e3, e4⟩ := e
          rcases hra with u | u <;> rcases hqa with w | w
          · exact absurd (u.symm.trans w) e1
          · exact absurd (u.symm.trans w) e2
          · exact absurd (u.symm.trans w) e3
          · exact absurd (u.symm.trans w) e4
      refine ⟨r, rfl, ?_⟩
      have hlt := h.lt q hq
      rw [hrq]
      rcases hqe with e | e
      · rw [e, if_pos rfl]
      · rw [e] at hlt ⊢
        rw [if_neg (by show ¬ a = c; have := hlt.1; have : c < a := this; omega)]
theorem partner_symm (h : Prs n ps) (e : partner ps a = some c) : partner ps c = some a := (partner_iff h).mpr ((partner_iff h).mp e).symm
theorem partner_want (h : Prg rows ps) (e : partner ps a = some c) : want rows a c = true := by
  rcases (partner_iff h.toPrs).mp e with m | m
  · exact h.want _ m
  · rw [want_symm]; exact h.want _ m
end
end Fw.Hl
namespace Fw.Da
open Fw Fw.Hl
section
variable {rows : List (List Nat)} {μ : List (Nat × Nat)} {S : List Nat} {a b m w x y : Nat} {sd : Nat → Bool}
def wr (rows : List (List Nat)) (a : Nat) : List Nat := (row rows a).filter (want rows a)
theorem mem_wr : b ∈ wr rows a ↔ want rows a b = true := by
  unfold wr
  rw [List.mem_filter]
  exact ⟨fun h => h.2, fun h => ⟨(want_row h).1, h⟩⟩
theorem place_row (h : b ∈ row rows a) : place rows a (some b) = (row rows a).idxOf b := if_pos h
theorem up_idx : ∀ {l : List Nat}, l.Nodup → l.Pairwise fun x y => l.idxOf x < l.idxOf y
  | [], _ => .nil
  | c :: r, nd => by
    obtain ⟨h1, h2⟩ := List.nodup_cons.mp nd
    have ne : ∀ {z}, z ∈ r → (c :: r).idxOf z = r.idxOf z + 1 := fun {z} hz => by
      have hcz : c ≠ z := fun e => h1 (e ▸ hz)
      rw [List.idxOf_cons, show (c == z) = false by simpa using hcz]
      rfl
    refine List.pairwise_cons.mpr ⟨fun z hz => ?_, ?_⟩
    · rw [List.idxOf_cons_self, ne hz]
      exact Nat.succ_pos _
    · refine (up_idx h2).imp_of_mem fun {u v} hu hv huv => ?_
      rw [ne hu, ne hv]
      omega
theorem wr_up (H : Hall rows) : (wr rows a).Pairwise fun x y => place rows a (some x) < place rows a (some y) := by
  have h := (up_idx (H.nd a)).filter (want rows a)
  refine h.imp_of_mem fun {u v} hu hv huv => ?_
  rw [place_row (List.mem_filter.mp hu).1, place_row (List.mem_filter.mp hv).1]
  exact huv
theorem wr_at (H : Hall rows) {i j : Nat} {u v : Nat} (hi : (wr rows a)[i]? = some u) (hj : (wr rows a)[j]? = some v) (h : i < j) : place rows a (some u) < place rows a (some v) := by
  obtain ⟨h1, rfl⟩ := List.getElem?_eq_some_iff.mp hi
  obtain ⟨h2, rfl⟩ := List.getElem?_eq_some_iff.mp hj
  exact List.pairwise_iff_getElem.mp (wr_up H) i j h1 h2 h
theorem wr_idx (h : want rows a b = true) : ∃ i : Nat, (wr rows a)[i]? = some b := List.getElem?_of_mem (mem_wr.mpr h)
structure Two (rows : List (List Nat)) (sd : Nat → Bool) (S : List Nat) : Prop where
  hall : Hall rows
  two : ∀ {a b}, b ∈ row rows a → sd b = !sd a
  nd : S.Nodup
  mem : ∀ {a}, a ∈ S ↔ a < rows.length ∧ sd a = true
abbrev Held := List (Nat × Nat)
def Mild (rows : List (List Nat)) (S : List Nat) (μ : List (Nat × Nat)) : Prop := ∀ {h w}, h ∈ S → Br rows μ h w → partner μ w = none
structure St (rows : List (List Nat)) (S : List Nat) (ask : Nat → Nat) (hd : Held) (free : List Nat) : Prop where
  keys : (hd.map (·.1)).Nodup
  fnd : free.Nodup
  fin : ∀ {m}, m ∈ free → m ∈ S
  held : ∀ {w m}, (w, m) ∈ hd → m ∈ S ∧ ¬ m ∈ free ∧ 0 < ask m ∧ (wr rows m)[ask m - 1]? = some w
  done : ∀ {m}, m ∈ S → ¬ m ∈ free → (∃ w, (w, m) ∈ hd) ∨ (wr rows m).length ≤ ask m
  le : ∀ {m}, ask m ≤ (wr rows m).length
  asked : ∀ {m}, m ∈ S → ∀ {j w}, j < ask m → (wr rows m)[j]? = some w → ∃ m', (w, m') ∈ hd ∧ (m' = m ∨ place rows w (some m') < place rows w (some m))
  opt : ∀ {μ}, Prg rows μ → Mild rows S μ → ∀ {m}, m ∈ S → ∀ {j w}, j < ask m → (wr rows m)[j]? = some w → ¬ (w, m) ∈ hd → partner μ m ≠ some w
theorem key_uniq {hd : Held} (h : (hd.map (·.1)).Nodup) {w m m' : Nat} (h1 : (w, m) ∈ hd) (h2 : (w, m') ∈ hd) : m = m' := by
  induction hd with
  | nil => cases h1
  | cons p r ih =>
    rw [List.map_cons] at h
    obtain ⟨h3, h4⟩ := List.nodup_cons.mp h
    rcases List.mem_cons.mp h1 with e1 | h1 <;> rcases List.mem_cons.mp h2 with e2 | h2
    · have := e1.trans e2.symm; exact congrArg (·.2) this
    · exact absurd (List.mem_map_of_mem (f := (·.1)) h2) (by rw [← e1] at h3; exact h3)
    · exact absurd (List.mem_map_of_mem (f := (·.1)) h1) (by rw [← e2] at h3; exact h3)
    · exact ih h4 h1 h2
theorem start (nd : S.Nodup) : St rows S (fun _ => 0) [] S :=
  ⟨.nil, nd, id, (fun h => nomatch h), fun h1 h2 => absurd h1 h2, Nat.zero_le _, (by intro m _ j w h; exact absurd h (Nat.not_lt_zero _)), (by intro μ _ _ m _ j w h; exact absurd h (Nat.not_lt_zero _))⟩
def inc (ask : Nat → Nat) (a : Nat) : Nat → Nat := fun x => if x = a then ask x + 1 else ask x
theorem inc_same {ask : Nat → Nat} : inc ask a a = ask a + 1 := if_pos rfl
theorem inc_ne {ask : Nat → Nat} (h : x ≠ a) : inc ask a x = ask x := if_neg h
variable {ask : Nat → Nat} {hd : Held} {free : List Nat}
theorem let_go (T : Two rows sd S) {h r : Nat} (hs : h ∈ S) (k : Nat) (hk : (wr rows h)[k]? = some w) (before : ∀ {μ}, Prg rows μ → Mild rows S μ → ∀ {j v}, j < k → (wr rows h)[j]? = some v → partner μ h ≠ some v)
    (better : place rows w (some h) < place rows w (some r)) (pμ : Prg rows μ) (bμ : Mild rows S μ) : partner μ r ≠ some w := fun e => by
  have e2 := partner_symm pμ.toPrs e
  have hwant : want rows h w = true := mem_wr.mp (List.mem_of_getElem? hk)
  have hrow := want_row hwant
  have hrw := want_row (partner_want pμ e2)
  have hne : h ≠ r := fun z => by rw [z] at better; exact Nat.lt_irrefl _ better
  have h1 : rather rows w h (partner μ w) = true := by rw [e2]; exact (rather_iff hrow.2).mpr better
  have h2 : rather rows h w (partner μ h) = true := by
    refine (rather_iff hrow.1).mpr ?_
    cases q : partner μ h with
    | none =>
      rw [place_row hrow.1]
      exact List.idxOf_lt_length_of_mem hrow.1
    | some v =>
      have hwv := partner_want pμ q
      obtain ⟨j, hj⟩ := wr_idx hwv
      rcases Nat.lt_trichotomy j k with c | c | c
      · exact absurd q (before pμ bμ c hj)
      · subst c
        rw [hk] at hj
        cases hj
        have := partner_symm pμ.toPrs q
        rw [e2] at this
        exact absurd (Option.some.inj this) (fun z => hne z.symm)
      · exact wr_at T.hall hk hj c
  have hB : Br rows μ h w := ⟨hwant, h2, h1⟩
  have := bμ hs hB
  rw [e2] at this
  cases this
structure Ask (rows : List (List Nat)) (S : List Nat) (ask : Nat → Nat) (hd : Held) (free : List Nat) (a w : Nat) : Prop where
  st : St rows S ask hd (free ++ [a])
  ask : (wr rows a)[ask a]? = some w
theorem keep (T : Two rows sd S) (A : Ask rows S ask hd free a w) {h : Nat} (hh : (w, h) ∈ hd) (hb : place rows w (some h) < place rows w (some a)) : St rows S (inc ask a) hd (free ++ [a]) := by
  have s := A.st
  have aS : a ∈ S := s.fin (List.mem_append_right _ (List.mem_singleton_self _))
  have hlt := (List.getElem?_eq_some_iff.mp A.ask).1
  have nah : ∀ {v}, ¬ (v, a) ∈ hd := fun h => (s.held h).2.1 (List.mem_append_right _ (List.mem_singleton_self _))
  have old : ∀ {m j}, j < inc ask a m → (m = a ∧ j = ask a) ∨ j < ask m := fun {m j} h => by
    by_cases e : m = a
    · subst e; rw [inc_same] at h; by_cases q : j = ask m
      · exact .inl ⟨rfl, q⟩
      · exact .inr (by omega)
    · rw [inc_ne e] at h; exact .inr h
  refine ⟨s.keys, s.fnd, s.fin, fun {v m} h => ?_, fun {m} hm hf => ?_, fun {m} => ?_, fun {m} hm {j v} hj hv => ?_, fun {μ} pμ bμ {m} hm {j v} hj hv hn => ?_⟩
  · have hma : m ≠ a := fun e => nah (e ▸ h)
    rw [inc_ne hma]
    exact s.held h
  · have e : m ≠ a := fun e => hf (e ▸ List.mem_append_right _ (List.mem_singleton_self _))
    rw [inc_ne e]
    exact s.done hm hf
  · by_cases e : m = a
    · subst e; rw [inc_same]; omega
    · rw [inc_ne e]; exact s.le
  · rcases old hj with ⟨rfl, rfl⟩ | hj
    · rw [A.ask] at hv; cases hv
      exact ⟨h, hh, .inr hb⟩
    · exact s.asked hm hj hv
  · rcases old hj with ⟨rfl, rfl⟩ | hj
    · rw [A.ask] at hv; cases hv
      obtain ⟨h1, h2, h3, h4⟩ := s.held hh
      refine let_go T h1 (ask h - 1) h4 (fun {μ} pμ bμ {j v} hj hv => s.opt pμ bμ h1 (by omega) hv fun z => ?_) hb pμ bμ
      have e := (s.held z).2.2.2
      have hnd := wr_at T.hall hv e hj
      exact Nat.lt_irrefl _ hnd
    · exact s.opt pμ bμ hm hj hv hn
def swap (hd : Held) (w a : Nat) : Held := hd.map fun p => if p.1 = w then (w, a) else p
end
end Fw.Da
namespace Fw.Da
open Fw Fw.Hl
section
variable {rows : List (List Nat)} {μ : List (Nat × Nat)} {S : List Nat} {a b m w x y : Nat} {sd : Nat → Bool} {ask : Nat → Nat} {hd : Held} {free : List Nat}
theorem St.one (s : St rows S ask hd free) {v : Nat} (h1 : (w, m) ∈ hd) (h2 : (v, m) ∈ hd) : w = v := by
  have e1 := (s.held h1).2.2.2
  have e2 := (s.held h2).2.2.2
  rw [e1] at e2
  exact Option.some.inj e2
end
end Fw.Da
namespace Fw.Da
open Fw Fw.Hl
section
variable {rows : List (List Nat)} {μ ν : List (Nat × Nat)} {S : List Nat} {a b m w : Nat} {sd : Nat → Bool}
end
end Fw.Da
namespace Fw.Da
open PySem PySem.Spec PyProof.Rows L2 Fw Fw.Hl
section
variable {rows : List (List Nat)} {μ : List (Nat × Nat)} {S : List Nat} {a b m w x y n : Nat} {sd : Nat → Bool} {ask : Nat → Nat} {hd : Held} {free : List Nat} {st : Sto} {kvs : List (PyData × D)}
theorem keq_nat : keq false (nI a) (nI b) = decide (a = b) := by
  show decide (key1 (nI a) = key1 (nI b)) = _
  refine decide_eq_decide.mpr ⟨fun h => ?_, fun h => by rw [h]⟩
  have h : some (Sum.inl (a : Int) : Key) = some (.inl (b : Int)) := h
  have h := Option.some.inj h
  have h : (a : Int) = (b : Int) := by injection h
  omega
theorem viewK_dct (h : st[n]? = some (.dct false kvs)) : viewK st (.ref n) = some (false, kvs) := by
  show (match st[n]? with
    | some (.dct t kvs) => some (t, kvs)
    | some (.lck t kvs) => some (t, kvs)
    | _ => none) = _
  rw [h]
theorem find_dct (h : st[n]? = some (.dct false kvs)) : findS st (.ref n) (.v (nI a)) = some (getK false kvs (nI a)) := by
  unfold findS
  rw [viewK_dct h]
  rfl
theorem sub_dct {d : D} (h : st[n]? = some (.dct false kvs)) (hg : getK false kvs (nI a) = some d) : subsD (.ref n) (.v (nI a)) st = .ok d st := by
  unfold subsD
  rw [viewK_dct h]
  show lookD (.ref n) (.v (nI a)) st = _
  unfold lookD
  rw [find_dct h, hg]
theorem set_dct {v : Nat} (h : st[n]? = some (.dct false kvs)) (hl : kvs.length < 1000000) : setU (.ref n) (.v (nI a)) (.v (nI v)) st = .ok () (st.set n (.dct false (putD kvs (nI a) (.v (nI v))))) := by
  have e1 : lAt st (.ref n) = none := by
    show (match st[n]? with
      | some (.lst zs) => some (n, zs)
      | _ => none) = _
    rw [h]
  have e2 : kAt st (.ref n) = some kvs := by
    show (match st[n]? with
      | some (.dct false kvs) => some kvs
      | _ => none) = _
    rw [h]
  unfold setU
  rw [e1, e2]
  show (if kvs.length < lim ∧ (D.v (nI v)).low n = true then _ else _) = _
  rw [if_pos ⟨hl, rfl⟩]
def heldK (hd : Held) : List (PyData × D) := hd.map fun p => (nI p.1, D.v (nI p.2))
theorem held_get : getK false (heldK hd) (nI w) = (hd.find? fun p => decide (p.1 = w)).map fun p => .v (nI p.2) := by
  unfold getK heldK
  induction hd with
  | nil => rfl
  | cons p r ih =>
    rw [List.map_cons, List.find?_cons, List.find?_cons]
    show Option.map (fun x => x.2) (match keq false (nI p.1) (nI w) with
      | true => some (nI p.1, D.v (nI p.2))
      | false => _) = _
    rw [keq_nat]
    cases decide (p.1 = w) with
    | true => rfl
    | false => exact ih
theorem any_key : ∀ {l : List (PyData × D)} {ks : List Nat}, l.map (·.1) = ks.map nI → (l.any fun p => keq false p.1 (nI a)) = decide (a ∈ ks)
  | [], [], _ => by simp
  | [], _ :: _, h => nomatch h
  | _ :: _, [], h => nomatch h
  | p :: r, k :: ks, h => by
    rw [List.map_cons, List.map_cons] at h
    have h1 := List.head_eq_of_cons_eq h
    have h2 := List.tail_eq_of_cons_eq h
    rw [List.any_cons, h1, keq_nat, any_key h2]
    by_cases e : k = a
    · subst e; simp
    · have e2 : ¬ a = k := fun z => e z.symm
      simp [e, e2]
theorem held_keys : (heldK hd).map (·.1) = (hd.map (·.1)).map nI := by unfold heldK; rw [List.map_map, List.map_map]; rfl
theorem held_put (h : ¬ w ∈ hd.map (·.1)) : putD (heldK hd) (nI w) (.v (nI a)) = heldK (hd ++ [(w, a)]) := by
  unfold putD
  rw [any_key held_keys, if_neg (by simpa using h)]
  unfold heldK
  rw [List.map_append]
  rfl
def bst (st : Sto) (A B : List (PyData × D)) (F : List PyData) : Sto := st ++ [O.dct false A, O.dct false B, O.lst F]
variable {A A' B B' : List (PyData × D)} {F F' : List PyData}
theorem b1 : (bst st A B F)[st.length + 1]? = some (O.dct false B) := by unfold bst; rw [List.getElem?_append_right (by omega), show st.length + 1 - st.length = 1 by omega]; rfl
theorem b2 : (bst st A B F)[st.length + 2]? = some (O.lst F) := by unfold bst; rw [List.getElem?_append_right (by omega), show st.length + 2 - st.length = 2 by omega]; rfl
theorem ne_nilR {zs : List PyData} (hst : st[n]? = some (.lst zs)) (hs : SeqAt.shaped (.list zs) = true) : neD (.ref n) (.v (.list [])) st = .ok (.v (.bool (!zs.isEmpty))) st := by
  have hv : viewL st (.ref n) = some zs := viewS_ref hst
  have e : eqS st (.ref n) (.v (.list [])) = eqS st (.v (.list zs)) (.v (.list [])) := by
    show Fw.eqT st (.ref n) (.v (.list [])) = Fw.eqT st (.v (.list zs)) (.v (.list []))
    unfold Fw.eqT viewP
    simp only [hv, Option.map_some]
  have q := ne_nilL (st := st) hs
  unfold neD at q ⊢
  rw [e]
  exact q
end
end Fw.Da
namespace Fw.Da
open PySem PySem.Spec PyProof.Rows L2 Fw Fw.Hl
section
variable {rows : List (List Nat)} {S : List Nat} {sd : Nat → Bool} {st : Sto}
theorem ok_Dnew {b : Bool} {env : Ev} {P : D → Sto → Prop} : (mDnew b env st).Ok P ↔ P (.ref st.length) (st ++ [O.dct b []]) := Iff.rfl
end
end Fw.Da
namespace Fw.Da
open PySem PySem.Spec PyProof.Rows L2 Fw Fw.Hl
section
variable {rows : List (List Nat)} {ps qs μ ν : List (Nat × Nat)} {a b n i : Nat} {st : Sto}
def more (rows : List (List Nat)) (a : Nat) (ps : List (Nat × Nat)) : List (List (Nat × Nat)) := if partner ps a = none then (((ups (a + 1) rows.length).filter (want rows a)).filter fun b => decide (partner ps b = none)).map fun b => sortP (ps ++ [(a, b)]) else []
end
end Fw.Da
namespace Fw.Da
open PySem PySem.Spec PyProof.Rows L2 Fw Fw.Hl
section
variable {rows : List (List Nat)} {ps qs μ ν : List (Nat × Nat)} {a b n i : Nat} {st : Sto}
theorem add_tupD {xs ys : List PyData} (h : xs.length + ys.length ≤ 1000000) : addD (.v (.tuple xs)) (.v (.tuple ys)) st = .ok (.v (.tuple (xs ++ ys))) st := by
  show (if xs.length + ys.length ≤ lim then Out.ok (D.v (.tuple (xs ++ ys))) st else .stuck) = _
  rw [if_pos (show xs.length + ys.length ≤ lim from h)]
end
end Fw.Da
namespace Fw.Aq
open PySem PySem.Spec PyProof.Rows L2 Fw Fw.Hl Fw.Da
section
variable {rows : List (List Nat)} {S lot : List Nat} {a b m w n k : Nat} {st : Sto} {ask : Nat → Nat} {hd : Held} {sd : Nat → Bool} {side : Bool}
def holder (hd : Held) (a : Nat) : Option Nat := ((hd.filter fun p => decide (p.2 = a)).map (·.1)).head?
theorem held_at (nd : (hd.map (·.1)).Nodup) {p : Nat × Nat} (hp : p ∈ hd) : getK false (heldK hd) (nI p.1) = some (.v (nI p.2)) := by
  rw [held_get]
  cases q : hd.find? (fun r => decide (r.1 = p.1)) with
  | none => exact absurd (decide_eq_true rfl) (List.find?_eq_none.mp q p hp)
  | some r =>
    have h1 : r.1 = p.1 := by simpa using List.find?_some q
    have hr := List.mem_of_find?_eq_some q
    have : r.2 = p.2 := key_uniq (w := p.1) nd (by rw [← h1]; exact hr) hp
    rw [← this]
    rfl
def freeOf (rows : List (List Nat)) (S : List Nat) (ask : Nat → Nat) (hd : Held) : List Nat := S.filter fun a => decide (ask a < (wr rows a).length) && (holder hd a).isNone
def put (rows : List (List Nat)) (hd : Held) (b a : Nat) : Held := match hd.find? fun p => decide (p.1 = b) with
  | none => hd ++ [(b, a)]
  | some p => if rather rows b a (some p.2) then swap hd b a else hd
end
end Fw.Aq
namespace Fw.Aq
open PySem PySem.Spec PyProof.Rows L2 Fw Fw.Hl Fw.Da
structure AS where
  ask : Nat → Nat
  hd : Held
  out : List (Nat × Nat)
def nxt (rows : List (List Nat)) (S : List Nat) (s : AS) : Option AS := match freeOf rows S s.ask s.hd with
  | [] => none
  | a :: _ => match (wr rows a)[s.ask a]? with
    | none => none
    | some b => some ⟨inc s.ask a, put rows s.hd b a, s.out ++ [(a, b)]⟩
section
variable {rows : List (List Nat)} {S lot : List Nat} {a b m w n k : Nat} {st : Sto} {ask : Nat → Nat} {hd : Held} {sd : Nat → Bool} {side : Bool} {free : List Nat} {s t u : AS}
theorem holder_none : (holder hd a).isNone = true ↔ ∀ w, ¬ (w, a) ∈ hd := by
  unfold holder
  rw [Option.isNone_iff_eq_none, List.head?_eq_none_iff, List.map_eq_nil_iff, List.filter_eq_nil_iff]
  constructor
  · intro h w hw
    exact h _ hw (decide_eq_true rfl)
  · rintro h ⟨w, m⟩ hp e
    have e : m = a := of_decide_eq_true e
    subst e
    exact h w hp
def left (rows : List (List Nat)) (S : List Nat) (s : AS) : Nat := (S.map fun a => (wr rows a).length - s.ask a).sum
def ast (st : Sto) (F : List PyData) (B A : List (PyData × D)) : Sto := st ++ [O.lst F, O.dct false B, O.dct false A]
variable {A A' B B' : List (PyData × D)} {F F' : List PyData} {more : Sto}
theorem a0 : (ast st F B A ++ more)[st.length]? = some (O.lst F) := by unfold ast; rw [List.append_assoc, List.getElem?_append_right (Nat.le_refl _), Nat.sub_self]; rfl
theorem a1 : (ast st F B A ++ more)[st.length + 1]? = some (O.dct false B) := by unfold ast; rw [List.append_assoc, List.getElem?_append_right (by omega), show st.length + 1 - st.length = 1 by omega]; rfl
theorem a2 : (ast st F B A ++ more)[st.length + 2]? = some (O.dct false A) := by unfold ast; rw [List.append_assoc, List.getElem?_append_right (by omega), show st.length + 2 - st.length = 2 by omega]; rfl
theorem a2' : (ast st F B A)[st.length + 2]? = some (O.dct false A) := by have := a2 (st := st) (F := F) (B := B) (A := A) (more := []); rwa [List.append_nil] at this
end
end Fw.Aq
namespace Fw.Aq
open PySem PySem.Spec PyProof.Rows L2 Fw Fw.Hl Fw.Da
section
variable {rows : List (List Nat)} {S lot : List Nat} {a b m w n k : Nat} {st : Sto} {ps qs μ ν : List (Nat × Nat)}
end
end Fw.Aq
namespace Fw.Aq
open PySem PySem.Spec PyProof.Rows L2 Fw Fw.Hl Fw.Da
section
variable {rows : List (List Nat)} {S lot : List Nat} {a b m w n k : Nat} {st : Sto} {ps qs μ ν : List (Nat × Nat)} {c o : Option Nat}
end
end Fw.Aq
namespace Fw.Aq
open PySem PySem.Spec PyProof.Rows L2 Fw Fw.Hl Fw.Da
section
variable {rows : List (List Nat)} {S lot : List Nat} {a b m w n k : Nat} {st : Sto} {ps qs μ ν : List (Nat × Nat)} {c o : Option Nat}
def flat (ps : List (Nat × Nat)) : List Nat := ps.flatMap fun p => [p.1, p.2]
def lmore (rows : List (List Nat)) (a : Nat) (ps : List (Nat × Nat)) : List (List (Nat × Nat)) := if a ∈ flat ps then [] else ((wr rows a).filter fun b => decide (b > a) && !decide (b ∈ flat ps)).map fun b => ps ++ [(a, b)]
def lto (rows : List (List Nat)) : Nat → List (List (Nat × Nat))
  | 0 => [[]]
  | a + 1 => lto rows a ++ (lto rows a).flatMap (lmore rows a)
def lps (rows : List (List Nat)) : List (List (Nat × Nat)) := (lto rows rows.length).map sortP
def evs (rows : List (List Nat)) : List (List (Nat × Nat)) := (lps rows).filter fun μ => decide (breaking rows μ = [])
end
end Fw.Aq
namespace Fw.Aq
open PySem PySem.Spec PyProof.Rows L2 Fw Fw.Hl Fw.Da
section
variable {rows : List (List Nat)} {S lot : List Nat} {a b m w n k : Nat} {st : Sto} {ps qs μ ν : List (Nat × Nat)} {c o : Option Nat} {side : Bool} {t : AS}
def go (rows : List (List Nat)) (S : List Nat) : Nat → AS → AS
  | 0, s => s
  | k + 1, s => match nxt rows S s with
    | none => s
    | some u => go rows S k u
end
end Fw.Aq
namespace Fw.Aq
open PySem PySem.Spec PyProof.Rows L2 Fw Fw.Hl Fw.Da
section
variable {rows : List (List Nat)} {S lot : List Nat} {a b m w n k : Nat} {st : Sto} {ps qs μ ν L O : List (Nat × Nat)} {c o : Option Nat} {side : Bool} {t : AS}
def bs (lot : List Nat) (L O : List (Nat × Nat)) (a : Nat) : Option Nat := if a ∈ lot then partner L a else partner O a
def ws (lot : List Nat) (L O : List (Nat × Nat)) (a : Nat) : Option Nat := if a ∈ lot then partner O a else partner L a
def okA (rows : List (List Nat)) (lot : List Nat) (L O μ : List (Nat × Nat)) (a : Nat) : Prop := place rows a (bs lot L O a) ≤ place rows a (partner μ a) ∧ place rows a (partner μ a) ≤ place rows a (ws lot L O a)
instance : Decidable (okA rows lot L O μ a) := by unfold okA; infer_instance
end
end Fw.Aq
namespace Fw.Aq
open PySem PySem.Spec PyProof.Rows L2 Fw Fw.Hl Fw.Da
section
variable {rows : List (List Nat)} {S lot : List Nat} {a b m w n k : Nat} {st : Sto} {ps qs μ ν L O : List (Nat × Nat)} {c o : Option Nat} {side : Bool} {t : AS}
def seen (rows : List (List Nat)) (a : Nat) : List Nat := (row rows a).filter fun b => decide (some b ∈ (evs rows).map fun ν => partner ν a)
end
end Fw.Aq
namespace Fw.An
open PySem PySem.Spec PyProof.Rows L2 Fw Fw.Hl Fw.Da Fw.Aq
inductive AV (B : Nat) : PyData → Prop
  | non : AV B .none
  | bl (b : Bool) : AV B (.bool b)
  | int (i : Int) (h : i.natAbs ≤ B) : AV B (.int i)
  | str (x : Str) (h : (x.cps.toList.all fun c => decide (c < 16 ^ 8)) = true) : AV B (.str x)
  | lst (xs : List PyData) (h : ∀ x ∈ xs, AV B x) : AV B (.list xs)
  | tup (xs : List PyData) (h : ∀ x ∈ xs, AV B x) : AV B (.tuple xs)
  | dct : AV B (.dict [])
section
variable {B C w k w' k' : Nat} {d : PyData} {xs ys : List PyData} {st : Sto}
theorem AV.mono (h : AV B d) (hc : B ≤ C) : AV C d := by
  induction h with
  | non => exact .non
  | bl b => exact .bl b
  | int i h => exact .int i (Nat.le_trans h hc)
  | str x h => exact .str x h
  | lst xs h ih => exact .lst xs ih
  | tup xs h ih => exact .tup xs ih
  | dct => exact .dct
theorem AV.all (h : AV B (.tuple xs)) : ∀ x ∈ xs, AV B x := by cases h with | tup _ h => exact h
theorem AV.ok (h : AV B d) (hB : B < 10 ^ 38) : kOk d = true ∧ d.showable = true ∧ d.leavesShort 40 = true ∧ tyB d = true := by
  have all : ∀ xs : List PyData, (∀ x ∈ xs, kOk x = true ∧ x.showable = true ∧ x.leavesShort 40 = true ∧ tyB x = true) → kOkA xs = true ∧ PyData.showableAll xs = true ∧ PyData.leavesShortAll 40 xs = true := fun xs => by
    induction xs with
    | nil => intro _; exact ⟨rfl, rfl, rfl⟩
    | cons x r ih =>
      intro h
      obtain ⟨a, b, c⟩ := ih fun y hy => h y (List.mem_cons_of_mem _ hy)
      obtain ⟨a1, b1, c1, _⟩ := h x List.mem_cons_self
      exact ⟨by rw [kOkA, a1, a]; rfl, by rw [PyData.showableAll, b1, b]; rfl, by rw [PyData.leavesShortAll, c1, c]; rfl⟩
  induction h with
  | non => exact ⟨rfl, rfl, rfl, rfl⟩
  | bl b => exact ⟨rfl, rfl, rfl, rfl⟩
  | int i h =>
    refine ⟨rfl, ?_, ?_, rfl⟩
    · rw [PyData.showable, decide_eq_true_eq]
      by_cases h0 : i.natAbs = 0
      · rw [h0]; decide
      · have h2 : i.natAbs < 2 ^ 200 := Nat.lt_of_le_of_lt h (Nat.lt_trans hB (by decide))
        have := (Nat.log2_lt h0 (k := 200)).mpr h2
        omega
    · rw [PyData.leavesShort, decide_eq_true_eq]
      have e := int_text_length_le10 (k := 38) (by decide) (show i.natAbs < 10 ^ 38 by omega)
      show (Str.ofString (toString i)).length ≤ 40
      rw [PySem.ofString_length]
      omega
  | str x h => exact ⟨rfl, rfl, by rw [PyData.leavesShort]; exact h, rfl⟩
  | lst xs h ih =>
    obtain ⟨a, b, c⟩ := all xs ih
    exact ⟨by rw [kOk]; exact a, by rw [PyData.showable]; exact b, by rw [PyData.leavesShort]; exact c, rfl⟩
  | tup xs h ih =>
    obtain ⟨a, b, c⟩ := all xs ih
    exact ⟨by rw [kOk]; exact a, by rw [PyData.showable]; exact b, by rw [PyData.leavesShort]; exact c, rfl⟩
  | dct => exact ⟨rfl, rfl, rfl, rfl⟩
structure An (B w k : Nat) (d : PyData) : Prop where
  av : AV B d
  bulk : d.bulk ≤ w
  dep : d.depth ≤ k
theorem An.mono (h : An B w k d) (h1 : w ≤ w') (h2 : k ≤ k') (h3 : B ≤ C) : An C w' k' d := ⟨h.av.mono h3, Nat.le_trans h.bulk h1, Nat.le_trans h.dep h2⟩
theorem An.repr (h : An B w k d) (hB : B < 10 ^ 38 := by decide) (hw : w ≤ 20000 := by decide) (hk : k ≤ 60 := by decide) : fReprM [.v d] st = .ok (.v (.str d.shown)) st := by
  obtain ⟨a, b, c, _⟩ := h.av.ok hB
  have hl := PyData.shown_le_bulk 40 (by decide) d c
  have h1 := h.bulk
  show (if kOk d && d.showable && decide (d.depth ≤ 60) && decide (d.shown.length ≤ lim) then Out.ok (D.v (.str d.shown)) st else fReprK [.v d] st) = _
  rw [if_pos]
  simp only [Bool.and_eq_true, decide_eq_true_eq]
  refine ⟨⟨⟨a, b⟩, Nat.le_trans h.dep hk⟩, ?_⟩
  show _ ≤ 1000000
  omega
theorem An.ty (h : AV B d) (hB : B < 10 ^ 38 := by decide) : tyB d = true := (h.ok hB).2.2.2
theorem depA_le {k : Nat} : ∀ {xs : List PyData}, (∀ x ∈ xs, x.depth ≤ k) ↔ PyData.depthAll xs ≤ k
  | [] => by simp [PyData.depthAll]
  | x :: r => by
    rw [PyData.depthAll, Nat.max_le, ← depA_le (xs := r)]
    simp
theorem bulkA_len : ∀ xs : List PyData, xs.length ≤ PyData.bulkAll xs
  | [] => Nat.zero_le _
  | x :: r => by
    have := bulkA_len r
    rw [PyData.bulkAll, List.length_cons]
    omega
theorem bulk_tup : (PyData.tuple xs).bulk = PyData.bulkAll xs := by rw [PyData.bulk]
theorem dep_tup : (PyData.tuple xs).depth = PyData.depthAll xs + 1 := by rw [PyData.depth]
theorem An.tup (h : ∀ x ∈ xs, AV B x ∧ x.depth ≤ k) (hb : PyData.bulkAll xs ≤ w) : An B w (k + 1) (.tuple xs) :=
  ⟨.tup xs fun x hx => (h x hx).1, by rw [bulk_tup]; exact hb, by rw [dep_tup]; exact Nat.succ_le_succ (depA_le.mp fun x hx => (h x hx).2)⟩
theorem An.parts (h : An B w k (.tuple xs)) : ∀ x ∈ xs, AV B x ∧ x.depth + 1 ≤ k := fun x hx => by
  have h1 := h.dep
  rw [dep_tup] at h1
  exact ⟨h.av.all x hx, by have := depA_le.mpr (Nat.le_refl (PyData.depthAll xs)) x hx; omega⟩
theorem An.len (h : An B w k (.tuple xs)) : xs.length ≤ w := by
  have := h.bulk
  rw [bulk_tup] at this
  exact Nat.le_trans (bulkA_len xs) this
end
section
variable {rest : Sto}
end
section
variable {B w k w' : Nat} {xs ys : List PyData} {st : Sto} {G : List (Nat × Nat)}
theorem bulkA_sub (h : ys.Sublist xs) : PyData.bulkAll ys ≤ PyData.bulkAll xs := by
  induction h with
  | slnil => exact Nat.le_refl _
  | cons a _ ih => rw [PyData.bulkAll]; omega
  | cons_cons a _ ih => rw [PyData.bulkAll, PyData.bulkAll]; omega
theorem bulkA_perm (h : ys.Perm xs) : PyData.bulkAll ys = PyData.bulkAll xs := by
  induction h with
  | nil => rfl
  | cons a _ ih => rw [PyData.bulkAll, PyData.bulkAll, ih]
  | swap a b l => rw [PyData.bulkAll, PyData.bulkAll, PyData.bulkAll, PyData.bulkAll]; omega
  | trans _ _ i j => exact i.trans j
theorem An.mk2 (h : An B w k (.tuple xs)) (hm : ∀ x ∈ ys, x ∈ xs) (hb : PyData.bulkAll ys ≤ w') : An B w' k (.tuple ys) := by
  cases k with
  | zero => have := h.dep; rw [dep_tup] at this; exact absurd this (Nat.not_succ_le_zero _)
  | succ k =>
    refine An.tup (fun x hx => ?_) hb
    obtain ⟨a, b⟩ := h.parts x (hm x hx)
    exact ⟨a, by omega⟩
theorem An.sub (h : An B w k (.tuple xs)) (hs : ys.Sublist xs) : An B w k (.tuple ys) := h.mk2 (fun _ hx => hs.mem hx) (by have := h.bulk; rw [bulk_tup] at this; exact Nat.le_trans (bulkA_sub hs) this)
theorem An.perm (h : An B w k (.tuple xs)) (hs : ys.Perm xs) : An B w k (.tuple ys) := h.mk2 (fun _ hx => hs.mem_iff.mp hx) (by have := h.bulk; rw [bulk_tup] at this; rw [bulkA_perm hs]; exact this)
theorem An.lst (h : An B w k (.tuple xs)) : An B w k (.list xs) := ⟨.lst xs h.av.all, by rw [PyData.bulk]; have := h.bulk; rw [bulk_tup] at this; exact this, by rw [PyData.depth]; have := h.dep; rw [dep_tup] at this; exact this⟩
end
section
variable {st : Sto}
end
section
variable {rows : List (List Nat)} {st : Sto} {B : Nat} {x : PyData} {xs : List PyData}
theorem lcL_auto {α : Type} {g : MG} {t : MT} {m : ME} {env0 : Ev} {f : α → Itm} (p : α → Bool) (F : α → PyData) (l : List α) (h : ∀ a ∈ l, (g (f a) env0 st).Ok fun e1 s1 => s1 = st ∧ (t e1 st).Ok fun k s2 => s2 = st ∧ k = p a ∧ (p a = true → (m e1 st).Ok fun v s3 => s3 = st ∧ v = .v (F a))) :
    lcL none g t m env0 (l.map f) st = .ok ((l.filter p).map F) st := by
  rw [lcL_mapA f (fun a => if p a = true then some (F a) else none), fm_filter]
  intro a ha
  refine (h a ha).mono ?_
  rintro e1 s1 ⟨rfl, h⟩
  refine ⟨rfl, h.mono ?_⟩
  rintro k s2 ⟨rfl, rfl, h⟩
  refine ⟨rfl, fun hk => (h hk).mono ?_, fun hk => by rw [if_neg (by rw [hk]; exact Bool.false_ne_true)]⟩
  rintro v s3 ⟨rfl, rfl⟩
  exact ⟨rfl, _, rfl, by rw [if_pos hk]⟩
end
end Fw.An
namespace Fw.Sp
open PySem PySem.Spec PyProof.Rows L2 Fw Fw.Hl Fw.Da Fw.Aq
section
variable {rows : List (List Nat)} {lot pl l : List Nat} {a b p n k s : Nat} {st : Sto} {G : List (Nat × Nat)}
variable {F : Nat → PyData}
def pof (pl : List Nat) (p : Nat) : Nat := pl.getD p 0
def ones (n : Nat) (lot : List Nat) : List Nat := (List.range n).filter fun a => decide (a ∈ lot)
def manies (n : Nat) (lot : List Nat) : List Nat := (List.range n).filter fun a => !decide (a ∈ lot)
def ppl (n : Nat) (lot : List Nat) : List Nat := ones n lot ++ manies n lot
def fs (pl : List Nat) : List Nat → Nat → Nat
  | [], _ => 0
  | q :: r, p => if q = p then 0 else pof pl q + fs pl r p
def wh (pl l : List Nat) (p : Nat) : List Nat := (List.range (pof pl p)).map fun k => fs pl l p + k
theorem ok_tupRg1 {m : ME} {env : Ev} {P : D → Sto → Prop} : (mTupRg1 m env st).Ok P ↔ (m env st).Ok fun d s => ∃ n, iOf d = some n ∧ rgOk 0 n = true ∧ P (.v (.tuple (rgD 0 n))) s := by
  unfold mTupRg1
  rw [ok_bind, ok_Rg1]
  exact Iff.rfl
theorem last_at {o : O} : (st ++ [o])[st.length]? = some o := by rw [List.getElem?_append_right (Nat.le_refl _), Nat.sub_self]; rfl
theorem last_set {o u : O} : (st ++ [o]).set st.length u = st ++ [u] := by rw [List.set_append_right _ _ (Nat.le_refl _), Nat.sub_self]; rfl
def own (pl l : List Nat) : List Nat := l.flatMap fun p => List.replicate (pof pl p) p
def srow (rows : List (List Nat)) (pl l : List Nat) (p : Nat) : List Nat := (row rows p).flatMap (wh pl l)
def W (rows : List (List Nat)) (lot pl : List Nat) : List (List Nat) := (own pl (ppl rows.length lot)).map (srow rows pl (ppl rows.length lot))
def held (rows : List (List Nat)) (G : List (Nat × Nat)) (b : Nat) : List Nat := (row rows b).filter fun a => decide ((a, b) ∈ G)
theorem put_newH : ∀ {l acc : List (Nat × Nat)}, ((acc ++ l).map (·.1)).Nodup → putAll (heldK acc) (heldK l) = heldK (acc ++ l)
  | [], acc, _ => by rw [List.append_nil]; rfl
  | b :: r, acc, nd => by
    have e2 : acc ++ [b] ++ r = acc ++ b :: r := by rw [List.append_assoc]; rfl
    have nb : ¬ b.1 ∈ acc.map (·.1) := fun h => by
      rw [List.map_append] at nd
      exact (List.nodup_append.mp nd).2.2 b.1 h b.1 (by rw [List.map_cons]; exact List.mem_cons_self) rfl
    show putAll (putD (heldK acc) (nI b.1) (.v (nI b.2))) (heldK r) = _
    rw [held_put nb, put_newH (by rw [e2]; exact nd), e2]
theorem pairs_held : ∀ l : List (Nat × Nat), pairsP (l.map pr) = some (heldK l)
  | [] => rfl
  | p :: r => by
    rw [List.map_cons]
    show (match key1 (nI p.1), pairsP (r.map pr) with
      | some _, some l => some ((nI p.1, D.v (nI p.2)) :: l)
      | _, _ => none) = _
    rw [pairs_held r]
    rfl
theorem dict_pairs {l : List (Nat × Nat)} (nd : (l.map (·.1)).Nodup) : fDictP [.v (.list (l.map pr))] st = .ok (.ref st.length) (st ++ [O.dct false (heldK l)]) := by
  show (match pairsP (l.map pr) with
    | some kvs => Out.ok (D.ref st.length) (st ++ [O.dct false (putAll [] kvs)])
    | none => .stuck) = _
  rw [pairs_held]
  show Out.ok (D.ref st.length) (st ++ [O.dct false (putAll (heldK []) (heldK l))]) = _
  rw [put_newH (acc := []) nd]
  rfl
end
end Fw.Sp
namespace Fw.Tl
open PySem PySem.Spec PyProof.Rows L2 Fw Fw.Hl Fw.Da
section
variable {rows : List (List Nat)} {S : List Nat} {sd : Nat → Bool} {st : Sto} {a b m w n : Nat} {ask : Nat → Nat} {hd : Held} {free : List Nat}
def pst (st : Sto) (B T : List (PyData × D)) (F : List PyData) : Sto := st ++ [O.dct false B, O.tab T, O.lst F]
variable {B B' T T' : List (PyData × D)} {F F' : List PyData}
theorem p1 : (pst st B T F)[st.length + 1]? = some (O.tab T) := by unfold pst; rw [List.getElem?_append_right (by omega), show st.length + 1 - st.length = 1 by omega]; rfl
theorem p2 : (pst st B T F)[st.length + 2]? = some (O.lst F) := by unfold pst; rw [List.getElem?_append_right (by omega), show st.length + 2 - st.length = 2 by omega]; rfl
end
end Fw.Tl
namespace Fw.Tl
open PySem PySem.Spec PyProof.Rows L2 Fw Fw.Hl Fw.Da
section
variable {rows : List (List Nat)} {S : List Nat} {sd : Nat → Bool} {st : Sto} {a b m w n : Nat} {ask : Nat → Nat} {hd : Held} {free : List Nat}
end
end Fw.Tl
namespace Fw.Tl
open PySem PySem.Spec PyProof.Rows L2 Fw Fw.Hl Fw.Da Fw.Aq
section
variable {rows : List (List Nat)} {S lot : List Nat} {sd : Nat → Bool} {st : Sto} {a b m w n k : Nat} {ask : Nat → Nat} {hd : Held} {free : List Nat} {s t u : AS} {μ : List (Nat × Nat)}
end
end Fw.Tl
namespace Fw.Tl
open PySem PySem.Spec PyProof.Rows L2 Fw Fw.Hl Fw.Da Fw.Aq
section
variable {rows : List (List Nat)} {S lot : List Nat} {sd : Nat → Bool} {st : Sto} {a b m w n k : Nat} {ask : Nat → Nat} {hd : Held} {free : List Nat} {s t u : AS} {μ : List (Nat × Nat)}
def asksK (n : Nat) (l : List Nat) : List (PyData × D) := (l.zipIdx n).map fun p => (nI p.1, D.ref p.2)
def lst0 (rows : List (List Nat)) (S : List Nat) (ask : Nat → Nat) : List O := S.map fun a => O.lst (((wr rows a).drop (ask a)).map nI)
def qst (st : Sto) (rows : List (List Nat)) (S : List Nat) (ask : Nat → Nat) (B : List (PyData × D)) : Sto := st ++ lst0 rows S ask ++ [O.dct false (asksK st.length S), O.dct false B]
variable {B B' : List (PyData × D)}
theorem lst0_len : (lst0 rows S ask).length = S.length := by unfold lst0; rw [List.length_map]
theorem q0 : (qst st rows S ask B)[st.length + S.length]? = some (O.dct false (asksK st.length S)) := by
  unfold qst
  rw [List.getElem?_append_right (by rw [List.length_append, lst0_len]; exact Nat.le_refl _), List.length_append, lst0_len, Nat.sub_self]
  rfl
theorem q1 : (qst st rows S ask B)[st.length + S.length + 1]? = some (O.dct false B) := by
  unfold qst
  rw [List.getElem?_append_right (by rw [List.length_append, lst0_len]; omega), List.length_append, lst0_len, show st.length + S.length + 1 - (st.length + S.length) = 1 by omega]
  rfl
theorem intV_held : ∀ {hd : Held}, intV (heldK hd) = some (hd.map fun p => (p.2 : Int))
  | [] => rfl
  | p :: r => by
    show (intV (heldK r)).map _ = _
    rw [intV_held (hd := r)]
    rfl
theorem vIn_held (h : st[n]? = some (.dct false (heldK hd))) : vIn true (.v (nI a)) (.ref n) st = .ok (.v (.bool (holder hd a).isNone)) st := by
  unfold vIn
  rw [viewK_dct h]
  show (match intV (heldK hd) with
    | some is => Out.ok (D.v (.bool (true ^^ is.any (· == (a : Int))))) st
    | none => .stuck) = _
  rw [intV_held]
  show Out.ok (D.v (.bool (true ^^ (hd.map fun p => (p.2 : Int)).any (· == (a : Int))))) st = _
  congr 3
  rw [Bool.true_xor, Bool.eq_iff_iff, holder_none, Bool.not_eq_true', List.any_map, List.any_eq_false]
  constructor
  · intro h w hw
    have := h (w, a) hw
    simp at this
  · intro h p hp e
    have e : p.2 = a := by
        have : (p.2 : Int) = (a : Int) := by simpa using e
        omega
    exact h p.1 (by rw [← e]; exact hp)
end
end Fw.Tl
namespace Fw.Sg
open PySem PySem.Spec PyProof.Rows L2 Fw Fw.Hl
section
variable {st : Sto}
theorem sort_same {xs ys : List PyData} (hp : xs.Perm ys) (inj : ∀ d ∈ xs, ∀ e ∈ xs, PySem.W.keyToks d = PySem.W.keyToks e → d = e) : xs.mergeSort (PySem.W.dataLe false id) = ys.mergeSort (PySem.W.dataLe false id) := by
  have T := PySem.W.sortLe_total (listOrd itemOrd) false (fun b : PyData => PySem.W.keyToks (id b))
  refine List.Perm.eq_of_pairwise (le := fun a b => PySem.W.dataLe false id a b = true) ?_ (List.pairwise_mergeSort T.trans (fun a b => (Bool.or_eq_true _ _).mpr (T.total a b)) xs) (List.pairwise_mergeSort T.trans (fun a b => (Bool.or_eq_true _ _).mpr (T.total a b)) ys) ((List.mergeSort_perm _ _).trans (hp.trans (List.mergeSort_perm _ _).symm))
  intro a b ha hb h1 h2
  have h1 : (!(PyProof.Rows.lexLt itemOrd (PySem.W.keyToks b) (PySem.W.keyToks a))) = true := h1
  have h2 : (!(PyProof.Rows.lexLt itemOrd (PySem.W.keyToks a) (PySem.W.keyToks b))) = true := h2
  rw [Bool.not_eq_true'] at h1 h2
  exact inj a ((List.mergeSort_perm _ _).mem_iff.mp ha) b (hp.mem_iff.mpr ((List.mergeSort_perm _ _).mem_iff.mp hb)) (lex_total _ _ h2 h1)
end
end Fw.Sg
namespace Fw.Sn
open PySem PySem.Spec PyProof.Rows L2 Fw
section
variable {st : Sto} {l : List Nat}
theorem le_nats {a b : Nat} (h : a ≤ b) : PySem.W.dataLe false id (nI a) (nI b) = true := by
  show (!(PyProof.Rows.lexLt itemOrd (PySem.W.keyToks (nI b)) (PySem.W.keyToks (nI a)))) = true
  show (!(PyProof.Rows.lexLt itemOrd [.inl (b : Int)] [.inl (a : Int)])) = true
  have : ¬ (b : Int) < (a : Int) := by omega
  simp [PyProof.Rows.lexLt, itemOrd, itemLt, this]
theorem nats_sor (l : List Nat) : sorB (l.map nI) = true := by
  have h1 : alikeB (l.map nI) = true := by
    unfold alikeB
    rw [List.all_eq_true]
    intro x hx
    rw [List.all_eq_true]
    intro y hy
    obtain ⟨a, _, rfl⟩ := List.mem_map.mp hx
    obtain ⟨b, _, rfl⟩ := List.mem_map.mp hy
    rfl
  have h2 : sortB (l.map nI) = true := by
    unfold sortB
    rw [Bool.or_eq_true]
    refine .inr (List.all_eq_true.mpr fun x hx => ?_)
    obtain ⟨a, _, rfl⟩ := List.mem_map.mp hx
    rfl
  have h3 : ((l.map nI).all fun d => decide (d.depth ≤ 50)) = true := by
    refine List.all_eq_true.mpr fun x hx => ?_
    obtain ⟨a, _, rfl⟩ := List.mem_map.mp hx
    rw [PyData.depth]
    rfl
  have h4 : PyData.hasDictAll (l.map nI) = false := by
    have key : ∀ l : List Nat, PyData.hasDictAll (l.map nI) = false := fun l => by
      induction l with
      | nil => simp [PyData.hasDictAll]
      | cons x r ih =>
        rw [List.map_cons, PyData.hasDictAll, ih]
        simp [PyData.hasDict]
    exact key l
  unfold sorB
  rw [h1, h2, h3, h4]
  rfl
theorem merge_nats : (l.map nI).mergeSort (PySem.W.dataLe false id) = (sortN l).map nI := by
  have hp : (l.map nI).Perm ((sortN l).map nI) := ((sortN_perm l).map nI).symm
  have inj : ∀ d ∈ l.map nI, ∀ e ∈ l.map nI, PySem.W.keyToks d = PySem.W.keyToks e → d = e := by
    intro d hd e he h
    obtain ⟨a, _, rfl⟩ := List.mem_map.mp hd
    obtain ⟨b, _, rfl⟩ := List.mem_map.mp he
    have h : [Sum.inl (a : Int)] = [Sum.inl (b : Int)] := h
    injection h with h _
    injection h with h
    show PyData.int (a : Int) = PyData.int (b : Int)
    rw [h]
  rw [Sg.sort_same hp inj]
  exact List.mergeSort_of_pairwise (List.pairwise_map.mpr ((sortN_sorted l).imp fun h => le_nats h))
theorem sortG_tup : gSortG [.v (tNs l)] st = .ok ((sortN l).map nI) st := by
  show (if sorB (l.map nI) then Out.ok ((l.map nI).mergeSort (PySem.W.dataLe false id)) st else .stuck) = _
  rw [if_pos (nats_sor l), merge_nats]
end
end Fw.Sn
namespace Fw.Ho
open PySem PySem.Spec PyProof.Rows L2 Fw Fw.Hl
structure Hou (rows : List (List Nat)) : Prop where
  pos : 1 ≤ rows.length
  nd : ∀ {a}, a < rows.length → (row rows a).Nodup
  mem : ∀ {a b}, a < rows.length → (b ∈ row rows a ↔ b < rows.length)
structure Dl (n : Nat) (d : List Nat) : Prop where
  len : d.length = n
  nd : d.Nodup
  lt : ∀ x ∈ d, x < n
def at' (d : List Nat) (i : Nat) : Nat := d.getD i 0
section
variable {rows : List (List Nat)} {n i j h g : Nat} {d e : List Nat}
theorem at_get (hi : i < d.length) : d[i]? = some (at' d i) := by
  unfold at'
  rw [List.getD_eq_getElem?_getD, List.getElem?_eq_getElem hi]
  rfl
theorem at_elem (hi : i < d.length) : at' d i = d[i] := by
  have := at_get hi
  rw [List.getElem?_eq_getElem hi] at this
  exact (Option.some.inj this).symm
theorem at_mem (hi : i < d.length) : at' d i ∈ d := List.mem_of_getElem? (at_get hi)
theorem Dl.at_lt (D : Dl n d) (hi : i < n) : at' d i < n := D.lt _ (at_mem (by rw [D.len]; exact hi))
theorem Dl.inj (D : Dl n d) (hi : i < n) (hj : j < n) (e : at' d i = at' d j) : i = j := by
  have hi : i < d.length := by rw [D.len]; exact hi
  have hj : j < d.length := by rw [D.len]; exact hj
  rw [at_elem hi, at_elem hj] at e
  exact (List.getElem_inj (h₀ := hi) (h₁ := hj) D.nd).mp e
theorem pig {A B : List Nat} (nA : A.Nodup) (f : Nat → Nat) (hf : ∀ a ∈ A, f a ∈ B) (inj : ∀ a ∈ A, ∀ b ∈ A, f a = f b → a = b) : A.length ≤ B.length := by
  have h1 : (A.map f).Nodup := by
    refine List.pairwise_map.mpr ?_
    refine List.Pairwise.imp_of_mem (fun {a b} ha hb hne e => hne (inj a ha b hb e)) nA
  have := sub_len h1 (m := B) fun x hx => by obtain ⟨a, ha, rfl⟩ := List.mem_map.mp hx; exact hf a ha
  rwa [List.length_map] at this
theorem Dl.all (D : Dl n d) (hh : h < n) : ∃ i, i < n ∧ at' d i = h := by
  refine Classical.byContradiction fun no => ?_
  have hm : ¬ h ∈ d := fun z => by
    obtain ⟨i, hi, e⟩ := List.mem_iff_getElem.mp z
    exact no ⟨i, by rw [← D.len]; exact hi, by rw [at_elem hi]; exact e⟩
  have := pig (A := h :: d) (B := List.range n) (List.nodup_cons.mpr ⟨hm, D.nd⟩) id (fun a ha => by
    rcases List.mem_cons.mp ha with rfl | z
    · exact List.mem_range.mpr hh
    · exact List.mem_range.mpr (D.lt a z)) (fun _ _ _ _ e => e)
  rw [List.length_cons, List.length_range, D.len] at this
  omega
theorem Dl.ext (D : Dl n d) (E : Dl n e) (h : ∀ i, i < n → at' d i = at' e i) : d = e := by
  refine List.ext_getElem (by rw [D.len, E.len]) fun i h1 h2 => ?_
  have := h i (by rw [← D.len]; exact h1)
  rwa [at_elem h1, at_elem h2] at this
def rk (rows : List (List Nat)) (i h : Nat) : Nat := (row rows i).idxOf h
theorem rk_lt (H : Hou rows) (hi : i < rows.length) (hh : h < rows.length) : rk rows i h < (row rows i).length := List.idxOf_lt_length_of_mem ((H.mem hi).mpr hh)
theorem rk_inj (H : Hou rows) (hi : i < rows.length) (hh : h < rows.length) (hg : g < rows.length) (e : rk rows i h = rk rows i g) : h = g := by
  have q1 := List.getElem_idxOf (rk_lt H hi hh)
  have q2 := List.getElem_idxOf (rk_lt H hi hg)
  rw [← q1, ← q2]
  congr 1
def Btr (rows : List (List Nat)) (d e : List Nat) : Prop := (∀ i, i < rows.length → rk rows i (at' e i) ≤ rk rows i (at' d i)) ∧ ∃ i, i < rows.length ∧ rk rows i (at' e i) < rk rows i (at' d i)
def Lean' (rows : List (List Nat)) (d : List Nat) : Prop := ∀ e, Dl rows.length e → ¬ Btr rows d e
def moved (n : Nat) (d : List Nat) (C : List Nat) (f : Nat → Nat) : List Nat := (List.range n).map fun i => if i ∈ C then at' d (f i) else at' d i
theorem moved_at {C : List Nat} {f : Nat → Nat} (hi : i < n) : at' (moved n d C f) i = if i ∈ C then at' d (f i) else at' d i := by
  unfold at' moved
  rw [List.getD_eq_getElem?_getD, List.getElem?_map, List.getElem?_range hi]
  rfl
theorem moved_dl (D : Dl n d) {C : List Nat} {f : Nat → Nat} (hC : ∀ i ∈ C, i < n) (hf : ∀ i ∈ C, f i ∈ C) (inj : ∀ a ∈ C, ∀ b ∈ C, f a = f b → a = b) : Dl n (moved n d C f) := by
  have hin : ∀ i j, i < n → j < n → (if i ∈ C then at' d (f i) else at' d i) = (if j ∈ C then at' d (f j) else at' d j) → i = j := by
    intro i j hi hj e
    by_cases h1 : i ∈ C
    · rw [if_pos h1] at e
      by_cases h2 : j ∈ C
      · rw [if_pos h2] at e
        exact inj i h1 j h2 (D.inj (hC _ (hf i h1)) (hC _ (hf j h2)) e)
      · rw [if_neg h2] at e
        have := D.inj (hC _ (hf i h1)) hj e
        exact absurd (this ▸ hf i h1) h2
    · rw [if_neg h1] at e
      by_cases h2 : j ∈ C
      · rw [if_pos h2] at e
        have := D.inj hi (hC _ (hf j h2)) e
        exact absurd (this.symm ▸ hf j h2) h1
      · rw [if_neg h2] at e
        exact D.inj hi hj e
  refine ⟨by unfold moved; rw [List.length_map, List.length_range], ?_, fun x hx => ?_⟩
  · unfold moved
    refine List.pairwise_map.mpr (List.Pairwise.imp_of_mem (fun {a b} ha hb hne e => hne (hin a b (List.mem_range.mp ha) (List.mem_range.mp hb) e)) List.nodup_range)
  · obtain ⟨i, hi, rfl⟩ := List.mem_map.mp hx
    have hi := List.mem_range.mp hi
    split
    · rename_i h1
      exact D.at_lt (hC _ (hf i h1))
    · exact D.at_lt hi
theorem moved_btr (H : Hou rows) (D : Dl rows.length d) {C : List Nat} {f : Nat → Nat} (ne : C ≠ []) (hC : ∀ i ∈ C, i < rows.length) (hf : ∀ i ∈ C, f i ∈ C) (hr : ∀ i ∈ C, rk rows i (at' d (f i)) < rk rows i (at' d i)) : Btr rows d (moved rows.length d C f) := by
  refine ⟨fun i hi => ?_, ?_⟩
  · rw [moved_at hi]
    split
    · rename_i h1
      exact Nat.le_of_lt (hr i h1)
    · exact Nat.le_refl _
  · obtain ⟨i, hi⟩ := List.exists_mem_of_ne_nil C ne
    refine ⟨i, hC i hi, ?_⟩
    rw [moved_at (hC i hi), if_pos hi]
    exact hr i hi
theorem core_of : ∀ (k : Nat) (U : List Nat) (f : Nat → Nat), U.length ≤ k → U.Nodup → U ≠ [] → (∀ i ∈ U, f i ∈ U) → ∃ C : List Nat, C ≠ [] ∧ (∀ i ∈ C, i ∈ U) ∧ (∀ i ∈ C, f i ∈ C) ∧ ∀ a ∈ C, ∀ b ∈ C, f a = f b → a = b
  | 0, U, f, hk, _, ne, _ => absurd (List.length_eq_zero_iff.mp (by omega)) ne
  | k + 1, U, f, hk, nd, ne, hf => by
    by_cases inj : ∀ a ∈ U, ∀ b ∈ U, f a = f b → a = b
    · exact ⟨U, ne, fun _ h => h, hf, inj⟩
    · let V := U.filter fun x => decide (x ∈ U.map f)
      have hV : V.length < U.length := by
        refine Nat.lt_of_le_of_ne (List.length_filter_le _ _) fun e => inj ?_
        have hall := List.length_filter_eq_length_iff.mp e
        intro a ha b hb hab
        refine Classical.byContradiction fun hne => ?_
        have hsub := sub_len (l := U) (m := (U.erase a).map f) nd fun x hx => by
          have := of_decide_eq_true (hall x hx)
          obtain ⟨y, hy, rfl⟩ := List.mem_map.mp this
          by_cases hya : y = a
          · subst hya
            exact List.mem_map.mpr ⟨b, (List.mem_erase_of_ne fun z => hne z.symm).mpr hb, hab.symm⟩
          · exact List.mem_map.mpr ⟨y, (List.mem_erase_of_ne hya).mpr hy, rfl⟩
        rw [List.length_map, List.length_erase_of_mem ha] at hsub
        have := List.length_pos_of_mem ha
        omega
      have hmem : ∀ {x}, x ∈ V ↔ x ∈ U ∧ x ∈ U.map f := fun {x} => by
        show x ∈ U.filter _ ↔ _
        rw [List.mem_filter, decide_eq_true_eq]
      obtain ⟨x, hx⟩ := List.exists_mem_of_ne_nil U ne
      have hxV : f x ∈ V := hmem.mpr ⟨hf x hx, List.mem_map.mpr ⟨x, hx, rfl⟩⟩
      obtain ⟨C, c1, c2, c3, c4⟩ := core_of k V f (by omega) (nd.sublist List.filter_sublist) (fun z => by rw [z] at hxV; cases hxV) fun i hi => by
        have := (hmem.mp hi).1
        exact hmem.mpr ⟨hf i this, List.mem_map.mpr ⟨i, this, rfl⟩⟩
      exact ⟨C, c1, fun i hi => (hmem.mp (c2 i hi)).1, c3, c4⟩
def bst (rows : List (List Nat)) (i : Nat) (T : List Nat) : Nat := ((row rows i).filter fun h => !decide (h ∈ T)).headD 0
theorem bst_get (H : Hou rows) (hi : i < rows.length) {T : List Nat} (hT : ∃ h, h < rows.length ∧ ¬ h ∈ T) : ((row rows i).filter fun h => !decide (h ∈ T))[0]? = some (bst rows i T) := by
  obtain ⟨h, h1, h2⟩ := hT
  have hm : h ∈ (row rows i).filter fun h => !decide (h ∈ T) := List.mem_filter.mpr ⟨(H.mem hi).mpr h1, by rw [decide_eq_false h2]; rfl⟩
  unfold bst
  cases e : (row rows i).filter fun h => !decide (h ∈ T) with
  | nil => rw [e] at hm; cases hm
  | cons x r => rfl
theorem idx_filter_le {p : Nat → Bool} : ∀ {l : List Nat} {x y : Nat} {r : List Nat}, l.filter p = x :: r → y ∈ l → p y = true → l.idxOf x ≤ l.idxOf y
  | [], x, y, r, e, _, _ => nomatch e
  | a :: l, x, y, r, e, hy, hp => by
    rw [List.filter_cons] at e
    by_cases pa : p a = true
    · rw [if_pos pa] at e
      injection e with e1 _
      subst e1
      rw [List.idxOf_cons_self]
      exact Nat.zero_le _
    · rw [if_neg pa] at e
      have hya : ¬ a = y := fun z => by subst z; exact pa hp
      have hxa : ¬ a = x := fun z => by
        have : x ∈ l.filter p := by rw [e]; exact .head _
        have := (List.mem_filter.mp this).2
        subst z
        exact pa this
      rw [List.idxOf_cons, List.idxOf_cons, show (a == x) = false by simpa using hxa, show (a == y) = false by simpa using hya]
      have := idx_filter_le (x := x) e ((List.mem_cons.mp hy).resolve_left fun z => hya z.symm) hp
      show _ + 1 ≤ _ + 1
      omega
theorem bst_ok (H : Hou rows) (hi : i < rows.length) {T : List Nat} (hT : ∃ h, h < rows.length ∧ ¬ h ∈ T) : bst rows i T < rows.length ∧ ¬ bst rows i T ∈ T ∧ ∀ g, g < rows.length → ¬ g ∈ T → rk rows i (bst rows i T) ≤ rk rows i g := by
  have hg := bst_get H hi hT
  cases e : (row rows i).filter fun h => !decide (h ∈ T) with
  | nil => rw [e] at hg; cases hg
  | cons x r =>
    rw [e] at hg
    have hx : bst rows i T = x := (Option.some.inj hg).symm
    have hm : x ∈ (row rows i).filter fun h => !decide (h ∈ T) := by rw [e]; exact .head _
    obtain ⟨m1, m2⟩ := List.mem_filter.mp hm
    rw [hx]
    refine ⟨(H.mem hi).mp m1, (fun z => by rw [decide_eq_true z] at m2; exact Bool.noConfusion m2), fun g hg hgT => ?_⟩
    exact idx_filter_le e ((H.mem hi).mpr hg) (by rw [decide_eq_false hgT]; rfl)
def chs (rows : List (List Nat)) : List Nat → List (Nat × Nat) → List (Nat × Nat)
  | [], F => F
  | i :: r, F => chs rows r (F ++ [(i, bst rows i (F.map (·.2)))])
theorem chs_app : ∀ (r s : List Nat) (F : List (Nat × Nat)), chs rows (r ++ s) F = chs rows s (chs rows r F)
  | [], s, F => rfl
  | i :: r, s, F => chs_app r s _
theorem chs_keys : ∀ (r : List Nat) (F : List (Nat × Nat)), (chs rows r F).map (·.1) = F.map (·.1) ++ r
  | [], F => by rw [List.append_nil]; rfl
  | i :: r, F => by
    show (chs rows r _).map _ = _
    rw [chs_keys r, List.map_append, List.append_assoc]
    rfl
theorem free_ex {F : List (Nat × Nat)} {n : Nat} (nd : (F.map (·.2)).Nodup) (lt : ∀ p ∈ F, p.2 < n) (hl : F.length < n) : ∃ h, h < n ∧ ¬ h ∈ F.map (·.2) := by
  refine Classical.byContradiction fun no => ?_
  have := sub_len (l := List.range n) (m := F.map (·.2)) List.nodup_range fun x hx => Classical.byContradiction fun z => no ⟨x, List.mem_range.mp hx, z⟩
  rw [List.length_range, List.length_map] at this
  omega
theorem chs_nd (H : Hou rows) : ∀ (r : List Nat) (F : List (Nat × Nat)), (∀ i ∈ r, i < rows.length) → F.length + r.length ≤ rows.length → (F.map (·.2)).Nodup → (∀ p ∈ F, p.2 < rows.length) → ((chs rows r F).map (·.2)).Nodup ∧ ∀ p ∈ chs rows r F, p.2 < rows.length
  | [], F, _, _, nd, lt => ⟨nd, lt⟩
  | i :: r, F, hr, hl, nd, lt => by
    rw [List.length_cons] at hl
    have hT := free_ex nd lt (by omega)
    obtain ⟨b1, b2, _⟩ := bst_ok H (hr i (.head _)) hT
    refine chs_nd H r _ (fun j hj => hr j (.tail _ hj)) (by rw [List.length_append, List.length_singleton]; omega) ?_ fun p hp => ?_
    · rw [List.map_append]
      refine List.nodup_append.mpr ⟨nd, List.pairwise_singleton _ _, fun a ha b hb e => ?_⟩
      rw [List.map_singleton] at hb
      have hb : b = bst rows i (F.map (·.2)) := List.mem_singleton.mp hb
      rw [e, hb] at ha
      exact b2 ha
    · rcases List.mem_append.mp hp with z | z
      · exact lt p z
      · rw [List.mem_singleton.mp z]; exact b1
end
end Fw.Ho
namespace Fw.Ho
open PySem PySem.Spec PyProof.Rows L2 Fw Fw.Hl
section
variable {rows : List (List Nat)} {n i j h g : Nat} {d e w S : List Nat} {F : List (Nat × Nat)}
theorem chs_sub : ∀ (r : List Nat) (F : List (Nat × Nat)) {p : Nat × Nat}, p ∈ F → p ∈ chs rows r F
  | [], F, p, h => h
  | i :: r, F, p, h => chs_sub r _ (List.mem_append_left _ h)
def lk (F : List (Nat × Nat)) (i : Nat) : Nat := ((F.find? fun p => decide (p.1 = i)).map (·.2)).getD 0
def dOf (n : Nat) (F : List (Nat × Nat)) : List Nat := (List.range n).map (lk F)
theorem lk_of (nd : (F.map (·.1)).Nodup) {p : Nat × Nat} (hp : p ∈ F) : lk F p.1 = p.2 := by
  unfold lk
  cases e : F.find? fun q => decide (q.1 = p.1) with
  | none =>
    have := List.find?_eq_none.mp e p hp
    simp at this
  | some q =>
    have h1 := List.mem_of_find?_eq_some e
    have h2 : q.1 = p.1 := by have := List.find?_some e; simpa using this
    show q.2 = p.2
    have : q = p := by
      refine Classical.byContradiction fun hne => ?_
      have := List.pairwise_map.mp nd
      rcases List.Pairwise.forall_of_forall_of_flip (R := fun a b => a.1 ≠ b.1 ∨ a = b) (fun x _ => .inr rfl) (this.imp fun h => .inl h) (this.imp fun h => .inl fun z => h z.symm) h1 hp with z | z
      · exact z h2
      · exact hne z
    rw [this]
theorem dOf_at (hi : i < n) : at' (dOf n F) i = lk F i := by
  unfold at' dOf
  rw [List.getD_eq_getElem?_getD, List.getElem?_map, List.getElem?_range hi]
  rfl
theorem key_ex (hi : i ∈ F.map (·.1)) : ∃ p ∈ F, p.1 = i := by
  obtain ⟨p, hp, e⟩ := List.mem_map.mp hi
  exact ⟨p, hp, e⟩
theorem vals_inj : ∀ {F : List (Nat × Nat)}, (F.map (·.2)).Nodup → ∀ {p q : Nat × Nat}, p ∈ F → q ∈ F → p.2 = q.2 → p = q
  | x :: r, nd, p, q, hp, hq, e => by
    rw [List.map_cons, List.nodup_cons] at nd
    rcases List.mem_cons.mp hp with h1 | h1
    · rcases List.mem_cons.mp hq with h2 | h2
      · rw [h1, h2]
      · exact absurd (show x.2 ∈ r.map (·.2) from List.mem_map.mpr ⟨q, h2, by rw [← e, h1]⟩) nd.1
    · rcases List.mem_cons.mp hq with h2 | h2
      · exact absurd (show x.2 ∈ r.map (·.2) from List.mem_map.mpr ⟨p, h1, by rw [e, h2]⟩) nd.1
      · exact vals_inj nd.2 h1 h2 e
theorem dOf_dl (kn : (F.map (·.1)).Nodup) (vn : (F.map (·.2)).Nodup) (vl : ∀ p ∈ F, p.2 < n) (all : ∀ i, i < n → i ∈ F.map (·.1)) : Dl n (dOf n F) := by
  have val : ∀ {i}, i < n → ∃ p ∈ F, p.1 = i ∧ lk F i = p.2 := fun {i} hi => by
    obtain ⟨p, hp, e⟩ := key_ex (all i hi)
    exact ⟨p, hp, e, by rw [← e]; exact lk_of kn hp⟩
  refine ⟨by unfold dOf; rw [List.length_map, List.length_range], ?_, fun x hx => ?_⟩
  · unfold dOf
    refine List.pairwise_map.mpr (List.Pairwise.imp_of_mem (fun {a b} ha hb hne e => hne ?_) List.nodup_range)
    obtain ⟨p, hp, p1, p2⟩ := val (List.mem_range.mp ha)
    obtain ⟨q, hq, q1, q2⟩ := val (List.mem_range.mp hb)
    have := vals_inj vn hp hq (by rw [← p2, ← q2, e])
    rw [← p1, ← q1, this]
  · obtain ⟨i, hi, rfl⟩ := List.mem_map.mp hx
    obtain ⟨p, hp, _, p2⟩ := val (List.mem_range.mp hi)
    rw [p2]
    exact vl p hp
theorem chs_fix (H : Hou rows) (E : Dl rows.length e) : ∀ (r : List Nat) (F : List (Nat × Nat)), (F.map (·.1) ++ r).Nodup → (∀ i ∈ F.map (·.1) ++ r, i < rows.length) → (F.map (·.2)).Nodup → (∀ p ∈ F, p.2 < rows.length) → (∀ p ∈ F, at' e p.1 = p.2) →
    (∀ p ∈ chs rows r F, rk rows p.1 (at' e p.1) ≤ rk rows p.1 p.2) → ∀ p ∈ chs rows r F, at' e p.1 = p.2
  | [], F, _, _, _, _, h, _ => h
  | i :: r, F, nd, lt, vn, vl, h, hle => by
    have hi : i < rows.length := lt i (List.mem_append_right _ (.head _))
    have hiF : ¬ i ∈ F.map (·.1) := fun z => by
      have := (List.nodup_append.mp nd).2.2 i z i (.head _)
      exact this rfl
    have hlen : F.length < rows.length := by
      have := pig (A := F.map (·.1) ++ i :: r) (B := List.range rows.length) nd id (fun a ha => List.mem_range.mpr (lt a ha)) (fun _ _ _ _ e => e)
      rw [List.length_append, List.length_map, List.length_cons, List.length_range] at this
      omega
    have hT := free_ex vn vl hlen
    obtain ⟨b1, b2, b3⟩ := bst_ok H hi hT
    have heT : ¬ at' e i ∈ F.map (·.2) := fun z => by
      obtain ⟨p, hp, ep⟩ := List.mem_map.mp z
      rw [← h p hp] at ep
      have hk : p.1 ∈ F.map (·.1) := List.mem_map.mpr ⟨p, hp, rfl⟩
      have := E.inj (lt p.1 (List.mem_append_left _ hk)) hi ep
      exact hiF (this ▸ hk)
    have h1 := b3 _ (E.at_lt hi) heT
    have hin : (i, bst rows i (F.map (·.2))) ∈ chs rows (i :: r) F := chs_sub r _ (List.mem_append_right _ (.head _))
    have h2 := hle _ hin
    have heq : at' e i = bst rows i (F.map (·.2)) := rk_inj H hi (E.at_lt hi) b1 (Nat.le_antisymm h2 h1)
    have e1 : (F ++ [(i, bst rows i (F.map (·.2)))]).map (·.1) ++ r = F.map (·.1) ++ i :: r := by rw [List.map_append, List.append_assoc]; rfl
    refine chs_fix H E r (F ++ [(i, bst rows i (F.map (·.2)))]) (by rw [e1]; exact nd) (by rw [e1]; exact lt) ?_ (fun p hp => ?_) (fun p hp => ?_) hle
    · rw [List.map_append]
      refine List.nodup_append.mpr ⟨vn, List.pairwise_singleton _ _, fun a ha b hb e => ?_⟩
      rw [List.map_singleton] at hb
      have hb : b = bst rows i (F.map (·.2)) := List.mem_singleton.mp hb
      rw [e, hb] at ha
      exact b2 ha
    · rcases List.mem_append.mp hp with z | z
      · exact vl p z
      · rw [List.mem_singleton.mp z]; exact b1
    · rcases List.mem_append.mp hp with z | z
      · exact h p z
      · rw [List.mem_singleton.mp z]; exact heq
structure Sq (n : Nat) (s : List Nat) : Prop where
  nd : s.Nodup
  mem : ∀ i, i ∈ s ↔ i < n
theorem Sq.of_perm {s : List Nat} (h : s.Perm (List.range n)) : Sq n s := ⟨h.nodup_iff.mpr List.nodup_range, fun i => by rw [h.mem_iff, List.mem_range]⟩
theorem Sq.len {s : List Nat} (h : Sq n s) : s.length = n := by
  have h1 := sub_len h.nd (m := List.range n) fun x hx => List.mem_range.mpr ((h.mem x).mp hx)
  have h2 := sub_len (List.nodup_range (n := n)) (m := s) fun x hx => (h.mem x).mpr (List.mem_range.mp hx)
  rw [List.length_range] at h1 h2
  omega
theorem Sq.perm {s : List Nat} (h : Sq n s) : s.Perm (List.range n) := (List.perm_ext_iff_of_nodup h.nd List.nodup_range).mpr fun a => by rw [h.mem, List.mem_range]
theorem chs_all (H : Hou rows) {s : List Nat} (q : Sq rows.length s) : ((chs rows s []).map (·.1)) = s ∧ ((chs rows s []).map (·.2)).Nodup ∧ (∀ p ∈ chs rows s [], p.2 < rows.length) ∧ Dl rows.length (dOf rows.length (chs rows s [])) := by
  have k := chs_keys (rows := rows) s []
  rw [List.map_nil, List.nil_append] at k
  obtain ⟨v1, v2⟩ := chs_nd H s [] (fun i hi => (q.mem i).mp hi) (by rw [q.len]; simp) List.nodup_nil (fun _ z => nomatch z)
  exact ⟨k, v1, v2, dOf_dl (by rw [k]; exact q.nd) v1 v2 fun i hi => by rw [k]; exact (q.mem i).mpr hi⟩
theorem chs_lean (H : Hou rows) {s : List Nat} (q : Sq rows.length s) : Lean' rows (dOf rows.length (chs rows s [])) := by
  obtain ⟨k, v1, v2, D⟩ := chs_all H q
  intro e E B
  have at_of : ∀ p ∈ chs rows s [], p.1 < rows.length ∧ at' (dOf rows.length (chs rows s [])) p.1 = p.2 := fun p hp => by
    have hk : p.1 ∈ (chs rows s []).map (·.1) := List.mem_map.mpr ⟨p, hp, rfl⟩
    rw [k] at hk
    have hlt := (q.mem _).mp hk
    exact ⟨hlt, by rw [dOf_at hlt]; exact lk_of (by rw [k]; exact q.nd) hp⟩
  have fix := chs_fix H E s [] (by simpa using q.nd) (fun i hi => (q.mem i).mp (by simpa using hi)) List.nodup_nil (fun _ z => nomatch z) (fun _ z => nomatch z) fun p hp => by
    obtain ⟨h1, h2⟩ := at_of p hp
    have := B.1 p.1 h1
    rw [h2] at this
    exact this
  obtain ⟨i, hi, hlt⟩ := B.2
  have hk : i ∈ (chs rows s []).map (·.1) := by rw [k]; exact (q.mem i).mpr hi
  obtain ⟨p, hp, rfl⟩ := key_ex hk
  obtain ⟨_, h2⟩ := at_of p hp
  rw [fix p hp, h2] at hlt
  exact Nat.lt_irrefl _ hlt
def own (d : List Nat) (h : Nat) : Nat := d.idxOf h
theorem own_at (D : Dl n d) (hh : h < n) : own d h < n ∧ at' d (own d h) = h := by
  obtain ⟨i, hi, e⟩ := D.all hh
  have hm : h ∈ d := by rw [← e]; exact at_mem (by rw [D.len]; exact hi)
  have hl := List.idxOf_lt_length_of_mem hm
  unfold own
  exact ⟨by rw [← D.len]; exact hl, by rw [at_elem hl]; exact List.getElem_idxOf hl⟩
theorem own_of (D : Dl n d) (hi : i < n) : own d (at' d i) = i := by
  obtain ⟨h1, h2⟩ := own_at D (D.at_lt hi)
  exact D.inj h1 hi h2
theorem stuck_btr (H : Hou rows) (D : Dl rows.length d) {K : List Nat} (nd : K.Nodup) (lt : ∀ k ∈ K, k < rows.length) (hl : K.length < rows.length) (no : ∀ i, i < rows.length → ¬ i ∈ K → at' d i ≠ bst rows i (K.map (at' d))) : ∃ e, Dl rows.length e ∧ Btr rows d e := by
  have hT : ∃ h, h < rows.length ∧ ¬ h ∈ K.map (at' d) := by
    refine Classical.byContradiction fun z => ?_
    have := sub_len (l := List.range rows.length) (m := K.map (at' d)) List.nodup_range fun x hx => Classical.byContradiction fun y => z ⟨x, List.mem_range.mp hx, y⟩
    rw [List.length_range, List.length_map] at this
    omega
  let U := (List.range rows.length).filter fun i => !decide (i ∈ K)
  have memU : ∀ {i}, i ∈ U ↔ i < rows.length ∧ ¬ i ∈ K := fun {i} => by
    show i ∈ (List.range rows.length).filter _ ↔ _
    rw [List.mem_filter, List.mem_range, Bool.not_eq_true', decide_eq_false_iff_not]
  let f := fun i => own d (bst rows i (K.map (at' d)))
  have hf : ∀ i ∈ U, f i ∈ U ∧ at' d (f i) = bst rows i (K.map (at' d)) := fun i hi => by
    obtain ⟨h1, h2⟩ := memU.mp hi
    obtain ⟨b1, b2, _⟩ := bst_ok H h1 hT
    obtain ⟨o1, o2⟩ := own_at D b1
    exact ⟨memU.mpr ⟨o1, fun z => b2 (List.mem_map.mpr ⟨_, z, o2⟩)⟩, o2⟩
  have ne : U ≠ [] := fun z => by
    have := sub_len (l := List.range rows.length) (m := K) List.nodup_range fun x hx => Classical.byContradiction fun y => by
      have : x ∈ U := memU.mpr ⟨List.mem_range.mp hx, y⟩
      rw [z] at this
      cases this
    rw [List.length_range] at this
    omega
  obtain ⟨C, c1, c2, c3, c4⟩ := core_of U.length U f (Nat.le_refl _) (List.nodup_range.sublist List.filter_sublist) ne fun i hi => (hf i hi).1
  have hC : ∀ i ∈ C, i < rows.length := fun i hi => (memU.mp (c2 i hi)).1
  refine ⟨_, moved_dl D hC c3 c4, moved_btr H D c1 hC c3 fun i hi => ?_⟩
  obtain ⟨h1, h2⟩ := memU.mp (c2 i hi)
  rw [(hf i (c2 i hi)).2]
  obtain ⟨b1, b2, b3⟩ := bst_ok H h1 hT
  have hdT : ¬ at' d i ∈ K.map (at' d) := fun z => by
    obtain ⟨k, hk, e⟩ := List.mem_map.mp z
    exact h2 (D.inj (lt k hk) h1 e ▸ hk)
  refine Nat.lt_of_le_of_ne (b3 _ (D.at_lt h1) hdT) fun z => no i h1 h2 ?_
  exact (rk_inj H h1 b1 (D.at_lt h1) z).symm
def Edge (rows : List (List Nat)) (d : List Nat) (s j : Nat) : Prop := j < rows.length ∧ rk rows s (at' d j) < rk rows s (at' d s)
theorem no_ring (H : Hou rows) (D : Dl rows.length d) (E : Dl rows.length e) (hle : ∀ i, i < rows.length → rk rows i (at' e i) ≤ rk rows i (at' d i)) {start : Nat} (nd : S.Nodup) (hs : start ∈ S) (lt : ∀ s ∈ S, s < rows.length) (cl : ∀ s ∈ S, ∀ j, Edge rows d s j → j ∈ S ∧ j ≠ start) : at' e start = at' d start := by
  refine Classical.byContradiction fun hne => ?_
  let M := S.filter fun s => decide (at' e s ≠ at' d s)
  have memM : ∀ {s}, s ∈ M ↔ s ∈ S ∧ at' e s ≠ at' d s := fun {s} => by
    show s ∈ S.filter _ ↔ _
    rw [List.mem_filter, decide_eq_true_eq]
  let g := fun s => own d (at' e s)
  have hg : ∀ s ∈ M, g s ∈ M ∧ g s ≠ start := fun s hsM => by
    obtain ⟨h1, h2⟩ := memM.mp hsM
    have hsn := lt s h1
    obtain ⟨o1, o2⟩ := own_at D (E.at_lt hsn)
    have hlt : rk rows s (at' e s) < rk rows s (at' d s) := Nat.lt_of_le_of_ne (hle s hsn) fun z => h2 (rk_inj H hsn (E.at_lt hsn) (D.at_lt hsn) z)
    obtain ⟨c1, c2⟩ := cl s h1 (g s) ⟨o1, by show rk rows s (at' d (own d (at' e s))) < _; rw [o2]; exact hlt⟩
    refine ⟨memM.mpr ⟨c1, fun z => h2 ?_⟩, c2⟩
    have z : at' e (g s) = at' e s := by rw [z]; exact o2
    have := E.inj o1 hsn z
    rw [this] at o2
    exact o2.symm
  have hM : M.Nodup := nd.sublist List.filter_sublist
  have hsM : start ∈ M := memM.mpr ⟨hs, hne⟩
  have := pig (A := M) (B := M.erase start) hM g (fun a ha => (List.mem_erase_of_ne (hg a ha).2).mpr (hg a ha).1) fun a ha b hb e => by
    have ha := lt a (memM.mp ha).1
    have hb := lt b (memM.mp hb).1
    have e1 := (own_at D (E.at_lt ha)).2
    have e2 := (own_at D (E.at_lt hb)).2
    have e : own d (at' _ a) = own d (at' _ b) := e
    rw [e, e2] at e1
    exact E.inj ha hb e1.symm
  rw [List.length_erase_of_mem hsM] at this
  have := List.length_pos_of_mem hsM
  omega
def nxtW (w : List Nat) (i : Nat) : Nat := at' (w.tail ++ w.take 1) (w.idxOf i)
structure Ring (rows : List (List Nat)) (d w : List Nat) : Prop where
  ne : w ≠ []
  nd : w.Nodup
  lt : ∀ i ∈ w, i < rows.length
  edge : ∀ i ∈ w, Edge rows d i (nxtW w i)
theorem rot_perm (w : List Nat) : (w.tail ++ w.take 1).Perm w := by
  cases w with
  | nil => exact .refl _
  | cons x r => exact List.perm_append_comm
theorem nxtW_mem (h : i ∈ w) : nxtW w i ∈ w := by
  have hl := List.idxOf_lt_length_of_mem h
  exact (rot_perm w).mem_iff.mp (at_mem (by rw [(rot_perm w).length_eq]; exact hl))
theorem nxtW_inj (nd : w.Nodup) : ∀ a ∈ w, ∀ b ∈ w, nxtW w a = nxtW w b → a = b := by
  intro a ha b hb e
  have h1 := List.idxOf_lt_length_of_mem ha
  have h2 := List.idxOf_lt_length_of_mem hb
  have l1 : w.idxOf a < (w.tail ++ w.take 1).length := by rw [(rot_perm w).length_eq]; exact h1
  have l2 : w.idxOf b < (w.tail ++ w.take 1).length := by rw [(rot_perm w).length_eq]; exact h2
  unfold nxtW at e
  rw [at_elem l1, at_elem l2] at e
  have := (List.getElem_inj (h₀ := l1) (h₁ := l2) ((rot_perm w).nodup_iff.mpr nd)).mp e
  have q1 := List.getElem_idxOf h1
  have q2 := List.getElem_idxOf h2
  rw [← q1, ← q2]
  congr 1
theorem Ring.btr (H : Hou rows) (D : Dl rows.length d) (r : Ring rows d w) : Dl rows.length (moved rows.length d w (nxtW w)) ∧ Btr rows d (moved rows.length d w (nxtW w)) :=
  ⟨moved_dl D r.lt (fun _ h => nxtW_mem h) (nxtW_inj r.nd), moved_btr H D r.ne r.lt (fun _ h => nxtW_mem h) fun i hi => (r.edge i hi).2⟩
end
end Fw.Ho
namespace Wk37
open PySem PySem.Spec PyProof.Rows L2 Fw Fw.Hl Fw.Ho
section
variable {rows : List (List Nat)} {n i j h g : Nat} {d e w S row first : List Nat} {F : List (Nat × Nat)} {st : Sto}
theorem rg_nats {n : Nat} : rgD 0 (n : Int) = (List.range n).map nI := by
  unfold rgD
  rw [show ((n : Int) - 0).toNat = n by omega]
  refine List.map_congr_left fun i _ => ?_
  show PyData.int (0 + (i : Int)) = nI i
  rw [Int.zero_add]
theorem unmap_nats {ys : List PyData} {l : List Nat} (h : ys.Perm (l.map nI)) : ∃ zs : List Nat, ys = zs.map nI ∧ zs.Perm l := perm_unmap h rfl
theorem sto_last {s : Src} {rest : Sto} {o : O} : s.sto rest ++ [o] = s.sto (rest ++ [o]) := rfl
theorem sto_at' {s : Src} {rest : Sto} {o : O} : (s.sto (rest ++ [o]))[rest.length + 2]? = some o := by
  show (O.lst _ :: s.o :: (rest ++ [o]))[rest.length + 2]? = _
  rw [List.getElem?_cons_succ, List.getElem?_cons_succ, List.getElem?_append_right (Nat.le_refl _), Nat.sub_self]
  rfl
theorem sto_set' {s : Src} {rest : Sto} {o u : O} : (s.sto (rest ++ [o])).set (rest.length + 2) u = s.sto (rest ++ [u]) := by
  show (O.lst _ :: s.o :: (rest ++ [o])).set (rest.length + 2) u = _
  rw [List.set_cons_succ, List.set_cons_succ, List.set_append_right _ _ (Nat.le_refl _), Nat.sub_self]
  rfl
theorem sto_take' {s s0 : Src} {rest more : Sto} : (s.sto (rest ++ more)).take (s0.sto rest).length = s.sto rest := by
  show (O.lst _ :: s.o :: (rest ++ more)).take (rest.length + 1 + 1) = _
  rw [List.take_succ_cons, List.take_succ_cons, List.take_left]
  rfl
theorem rot_perm' (l : List Nat) (k : Nat) : (l.drop k ++ l.take k).Perm l := List.perm_append_comm.trans (by rw [List.take_append_drop])
theorem draw_ok {s : Src} {rest : Sto} {most : Nat} (h1 : 1 ≤ most) (h2 : most ≤ 50) (ok : s.ok) :
    (f_law_draw_houses [.ref 1, .v (nI most)] (s.sto rest)).Ok fun d st => ∃ (rows : List (List Nat)) (s' : Src), d = .v (hallD rows) ∧ st = s'.sto rest ∧ s'.ok ∧ Hou rows ∧ rows.length ≤ most := by
  refine fnT_ok ?_
  unfold S_law_draw_houses
  simp only [envE, so_seq, so_if, so_ret, so_retN, so_exp, so_nil, so_nx, so_rt, so_asg, so_asgG, so_par2, so_par3, ok_gNm, ok_gMore, ok_gNone, so_asgT, so_sub, so_for, ok_TB, ok_Tru, ok_notT, ok_andT, ok_orT, ok_andV, ok_orV, ok_notV, ok_iteE, ok_frz, ok_new, ok_mfArg, ok_mfBin, ok_lc, ok_M, ok_M0, ok_moNone, ok_moSome, ok_Sl,
  ok_bin, ok_un, ok_arg, ok_cons, ok_nil, ok_call, ok_var, ok_C, ok_ok, ok_stuck, ok_noX, bOf_bool, low_v, iOf_int, addD_int, subD_int, negD_int, ltD_int, leD_int, gtD_int, geD_int, fInt_int, isD_bool, isNotD_bool, tru_bool, List.map_cons, List.map_nil, List.length_cons, List.length_nil, List.replicate_succ, List.replicate_zero, List.cons_append, List.nil_append,
  List.append_nil, List.getElem?_cons_zero, List.getElem?_cons_succ, List.set_cons_zero, List.set_cons_succ, Option.some.injEq, exists_eq_left', exists_eq_left, true_and, and_true, true_implies, false_implies, implies_true, Bool.false_eq_true, reduceCtorEq, false_and, and_false, D.v.injEq, PyData.int.injEq, D.ref.injEq, p1i_int, p2_two, p3_three, decide_true, Bool.not_true, Bool.not_false, decide_eq_true_eq, decide_eq_false_iff_not]
  refine (pickA_ok s rest (most : Int) (by omega) ok).mono ?_
  rintro _ _ ⟨r, s1, rfl, rfl, ok1, q0, q1, _⟩
  have q1 := q1 (by omega)
  obtain ⟨r, rfl⟩ : ∃ m : Nat, r = (m : Int) := ⟨r.toNat, by omega⟩
  generalize hn : 1 + r = n
  have hadd : ∀ s, addD (.v (.int 1)) (.v (.int (r : Int))) s = .ok (.v (nI n)) s := fun s => by
    rw [addD_int, ← hn]
    congr 3
  rw [hadd, ok_ok]
  have hn1 : 1 ≤ n := by omega
  have hn50 : n ≤ most := by omega
  unfold S_law_draw_houses_2
  simp only [envE, so_seq, so_if, so_ret, so_retN, so_exp, so_nil, so_nx, so_rt, so_asg, so_asgG, so_par2, so_par3, ok_gNm, ok_gMore, ok_gNone, so_asgT, so_sub, so_for, ok_TB, ok_Tru, ok_notT, ok_andT, ok_orT, ok_andV, ok_orV, ok_notV, ok_iteE, ok_frz, ok_new, ok_mfArg, ok_mfBin, ok_lc, ok_M, ok_M0, ok_moNone, ok_moSome, ok_Sl,
  ok_bin, ok_un, ok_arg, ok_cons, ok_nil, ok_call, ok_var, ok_C, ok_ok, ok_stuck, ok_noX, bOf_bool, low_v, iOf_int, addD_int, subD_int, negD_int, ltD_int, leD_int, gtD_int, geD_int, fInt_int, isD_bool, isNotD_bool, tru_bool, List.map_cons, List.map_nil, List.length_cons, List.length_nil, List.replicate_succ, List.replicate_zero, List.cons_append, List.nil_append,
  List.append_nil, List.getElem?_cons_zero, List.getElem?_cons_succ, List.set_cons_zero, List.set_cons_succ, Option.some.injEq, exists_eq_left', exists_eq_left, true_and, and_true, true_implies, false_implies, implies_true, Bool.false_eq_true, reduceCtorEq, false_and, and_false, D.v.injEq, PyData.int.injEq, D.ref.injEq, p1i_int, p2_two, p3_three, decide_true, Bool.not_true, Bool.not_false, decide_eq_true_eq, decide_eq_false_iff_not]
  refine (pickA_ok s1 rest 4 (by omega) ok1).mono ?_
  rintro _ _ ⟨road, s2, rfl, rfl, ok2, _, _, _⟩
  have hrg : rgOk 0 (n : Int) = true := by
    unfold rgOk
    simp
    omega
  simp only [ok_Rg1, envE, so_seq, so_if, so_ret, so_retN, so_exp, so_nil, so_nx, so_rt, so_asg, so_asgG, so_par2, so_par3, ok_gNm, ok_gMore, ok_gNone, so_asgT, so_sub, so_for, ok_TB, ok_Tru, ok_notT, ok_andT, ok_orT, ok_andV, ok_orV, ok_notV, ok_iteE, ok_frz, ok_new, ok_mfArg, ok_mfBin, ok_lc, ok_M, ok_M0, ok_moNone, ok_moSome, ok_Sl,
  ok_bin, ok_un, ok_arg, ok_cons, ok_nil, ok_call, ok_var, ok_C, ok_ok, ok_stuck, ok_noX, bOf_bool, low_v, iOf_int, addD_int, subD_int, negD_int, ltD_int, leD_int, gtD_int, geD_int, fInt_int, isD_bool, isNotD_bool, tru_bool, List.map_cons, List.map_nil, List.length_cons, List.length_nil, List.replicate_succ, List.replicate_zero, List.cons_append, List.nil_append,
  List.append_nil, List.getElem?_cons_zero, List.getElem?_cons_succ, List.set_cons_zero, List.set_cons_succ, Option.some.injEq, exists_eq_left', exists_eq_left, true_and, and_true, true_implies, false_implies, implies_true, Bool.false_eq_true, reduceCtorEq, false_and, and_false, D.v.injEq, PyData.int.injEq, D.ref.injEq, p1i_int, p2_two, p3_three, decide_true, Bool.not_true, Bool.not_false, decide_eq_true_eq, decide_eq_false_iff_not]
  refine ⟨hrg, ?_⟩
  rw [rg_nats]
  have shuf : ∀ (s : Src) (rest : Sto), s.ok → (f_law_any_order [.ref 1, .v (.list ((List.range n).map nI))] (s.sto rest)).Ok fun d st => ∃ (l : List Nat) (s' : Src), d = .v (lNs l) ∧ st = s'.sto rest ∧ s'.ok ∧ l.Perm (List.range n) := fun s rest ok => by
    have hsh := shufA s rest (.v (.list ((List.range n).map nI))) ((List.range n).map nI) ok viewS_list (by rw [List.length_map, List.length_range]; omega)
    refine hsh.mono ?_
    rintro _ _ ⟨ys, s', rfl, rfl, ok', hp⟩
    obtain ⟨zs, rfl, hp2⟩ := unmap_nats hp
    exact ⟨zs, s', rfl, rfl, ok', hp2⟩
  refine (shuf s2 rest ok2).mono ?_
  rintro _ _ ⟨first, s3, rfl, rfl, ok3, hf⟩
  have hlen : ∀ s : Src, (s.sto rest).length = rest.length + 2 := fun _ => rfl
  simp only [envE, so_seq, so_if, so_ret, so_retN, so_exp, so_nil, so_nx, so_rt, so_asg, so_asgG, so_par2, so_par3, ok_gNm, ok_gMore, ok_gNone, so_asgT, so_sub, so_for, ok_TB, ok_Tru, ok_notT, ok_andT, ok_orT, ok_andV, ok_orV, ok_notV, ok_iteE, ok_frz, ok_new, ok_mfArg, ok_mfBin, ok_lc, ok_M, ok_M0, ok_moNone, ok_moSome, ok_Sl,
  ok_bin, ok_un, ok_arg, ok_cons, ok_nil, ok_call, ok_var, ok_C, ok_ok, ok_stuck, ok_noX, bOf_bool, low_v, iOf_int, addD_int, subD_int, negD_int, ltD_int, leD_int, gtD_int, geD_int, fInt_int, isD_bool, isNotD_bool, tru_bool, List.map_cons, List.map_nil, List.length_cons, List.length_nil, List.replicate_succ, List.replicate_zero, List.cons_append, List.nil_append,
  List.append_nil, List.getElem?_cons_zero, List.getElem?_cons_succ, List.set_cons_zero, List.set_cons_succ, Option.some.injEq, exists_eq_left', exists_eq_left, true_and, and_true, true_implies, false_implies, implies_true, Bool.false_eq_true, reduceCtorEq, false_and, and_false, D.v.injEq, PyData.int.injEq, D.ref.injEq, p1i_int, p2_two, p3_three, decide_true, Bool.not_true, Bool.not_false, decide_eq_true_eq, decide_eq_false_iff_not, disp0, sto_last, hlen]
  unfold S_law_draw_houses_3 law_draw_houses_E2
  simp only [envE, so_seq, so_if, so_ret, so_retN, so_exp, so_nil, so_nx, so_rt, so_asg, so_asgG, so_par2, so_par3, ok_gNm, ok_gMore, ok_gNone, so_asgT, so_sub, so_for, ok_TB, ok_Tru, ok_notT, ok_andT, ok_orT, ok_andV, ok_orV, ok_notV, ok_iteE, ok_frz, ok_new, ok_mfArg, ok_mfBin, ok_lc, ok_M, ok_M0, ok_moNone, ok_moSome, ok_Sl,
  ok_bin, ok_un, ok_arg, ok_cons, ok_nil, ok_call, ok_var, ok_C, ok_ok, ok_stuck, ok_noX, bOf_bool, low_v, iOf_int, addD_int, subD_int, negD_int, ltD_int, leD_int, gtD_int, geD_int, fInt_int, isD_bool, isNotD_bool, tru_bool, List.map_cons, List.map_nil, List.length_cons, List.length_nil, List.replicate_succ, List.replicate_zero, List.cons_append, List.nil_append,
  List.append_nil, List.getElem?_cons_zero, List.getElem?_cons_succ, List.set_cons_zero, List.set_cons_succ, Option.some.injEq, exists_eq_left', exists_eq_left, true_and, and_true, true_implies, false_implies, implies_true, Bool.false_eq_true, reduceCtorEq, false_and, and_false, D.v.injEq, PyData.int.injEq, D.ref.injEq, p1i_int, p2_two, p3_three, decide_true, Bool.not_true, Bool.not_false, decide_eq_true_eq, decide_eq_false_iff_not, ok_R1]
  refine ⟨⟨by omega, by omega⟩, ?_⟩
  rw [Int.toNat_natCast]
  refine forL_inv (fun i e st => ∃ (s : Src) (rows : List (List Nat)), st = s.sto (rest ++ [.lst (rows.map tNs)]) ∧ s.ok ∧ rows.length = i ∧ (∀ l ∈ rows, l.Perm (List.range n)) ∧ ∃ x6 x7 x8 x9, e = [some (.ref 1), some (.v (nI most)), some (.v (nI n)), some (.v (.int road)), some (.v (lNs first)), some (.ref (rest.length + 2)), x6, x7, x8, x9]) _ _ _ 0 ?_ ?_ ⟨s3, [], rfl, ok3, rfl, (fun l z => nomatch z), _, _, _, _, rfl⟩
  · rintro i d e st hd ⟨s4, rows, rfl, ok4, hl, hr, x6, x7, x8, x9, rfl⟩
    obtain ⟨hi, rfl⟩ := rngI_get hd
    rw [Int.zero_add, Nat.zero_add] at *
    refine ⟨trivial, ?_⟩
    unfold law_draw_houses_G2 law_draw_houses_B1
    simp only [envE, so_seq, so_if, so_ret, so_retN, so_exp, so_nil, so_nx, so_rt, so_asg, so_asgG, so_par2, so_par3, ok_gNm, ok_gMore, ok_gNone, so_asgT, so_sub, so_for, ok_TB, ok_Tru, ok_notT, ok_andT, ok_orT, ok_andV, ok_orV, ok_notV, ok_iteE, ok_frz, ok_new, ok_mfArg, ok_mfBin, ok_lc, ok_M, ok_M0, ok_moNone, ok_moSome, ok_Sl,
  ok_bin, ok_un, ok_arg, ok_cons, ok_nil, ok_call, ok_var, ok_C, ok_ok, ok_stuck, ok_noX, bOf_bool, low_v, iOf_int, addD_int, subD_int, negD_int, ltD_int, leD_int, gtD_int, geD_int, fInt_int, isD_bool, isNotD_bool, tru_bool, List.map_cons, List.map_nil, List.length_cons, List.length_nil, List.replicate_succ, List.replicate_zero, List.cons_append, List.nil_append,
  List.append_nil, List.getElem?_cons_zero, List.getElem?_cons_succ, List.set_cons_zero, List.set_cons_succ, Option.some.injEq, exists_eq_left', exists_eq_left, true_and, and_true, true_implies, false_implies, implies_true, Bool.false_eq_true, reduceCtorEq, false_and, and_false, D.v.injEq, PyData.int.injEq, D.ref.injEq, p1i_int, p2_two, p3_three, decide_true, Bool.not_true, Bool.not_false, decide_eq_true_eq, decide_eq_false_iff_not, ok_Rg1]
    refine ⟨hrg, ?_⟩
    rw [rg_nats]
    refine (shuf s4 _ ok4).mono ?_
    rintro _ _ ⟨row, s5, rfl, rfl, ok5, hrow⟩
    have fin : ∀ (s9 : Src) (row : List Nat) (x8 x9 : Option D), s9.ok → row.Perm (List.range n) → (law_draw_houses_B1_5 [some (.ref 1), some (.v (nI most)), some (.v (nI n)), some (.v (.int road)), some (.v (lNs first)), some (.ref (rest.length + 2)), some (.v (.int (i : Int))), some (.v (lNs row)), x8, x9] (s9.sto (rest ++ [.lst (rows.map tNs)]))).Ok
        (fun e2 s2 => ∃ (s : Src) (rows : List (List Nat)), s2 = s.sto (rest ++ [.lst (rows.map tNs)]) ∧ s.ok ∧ rows.length = i + 1 ∧ (∀ l ∈ rows, l.Perm (List.range n)) ∧ ∃ x6 x7 x8 x9, e2 = [some (.ref 1), some (.v (nI most)), some (.v (nI n)), some (.v (.int road)), some (.v (lNs first)), some (.ref (rest.length + 2)), x6, x7, x8, x9])
        (fun d st => D.low (s.sto rest).length d = true ∧ ∃ (rows : List (List Nat)) (s' : Src), d = .v (hallD rows) ∧ st.take (s.sto rest).length = s'.sto rest ∧ s'.ok ∧ Hou rows ∧ rows.length ≤ most) := by
      intro s9 row x8 x9 ok hp
      unfold law_draw_houses_B1_5
      simp only [envE, so_seq, so_if, so_ret, so_retN, so_exp, so_nil, so_nx, so_rt, so_asg, so_asgG, so_par2, so_par3, ok_gNm, ok_gMore, ok_gNone, so_asgT, so_sub, so_for, ok_TB, ok_Tru, ok_notT, ok_andT, ok_orT, ok_andV, ok_orV, ok_notV, ok_iteE, ok_frz, ok_new, ok_mfArg, ok_mfBin, ok_lc, ok_M, ok_M0, ok_moNone, ok_moSome, ok_Sl,
  ok_bin, ok_un, ok_arg, ok_cons, ok_nil, ok_call, ok_var, ok_C, ok_ok, ok_stuck, ok_noX, bOf_bool, low_v, iOf_int, addD_int, subD_int, negD_int, ltD_int, leD_int, gtD_int, geD_int, fInt_int, isD_bool, isNotD_bool, tru_bool, List.map_cons, List.map_nil, List.length_cons, List.length_nil, List.replicate_succ, List.replicate_zero, List.cons_append, List.nil_append,
  List.append_nil, List.getElem?_cons_zero, List.getElem?_cons_succ, List.set_cons_zero, List.set_cons_succ, Option.some.injEq, exists_eq_left', exists_eq_left, true_and, and_true, true_implies, false_implies, implies_true, Bool.false_eq_true, reduceCtorEq, false_and, and_false, D.v.injEq, PyData.int.injEq, D.ref.injEq, p1i_int, p2_two, p3_three, decide_true, Bool.not_true, Bool.not_false, decide_eq_true_eq, decide_eq_false_iff_not, tup_list]
      refine ⟨isL_ref sto_at', ?_⟩
      rw [Fw.append_at sto_at' (by rw [List.length_map]; omega), ok_ok, sto_set']
      refine ⟨s9, rows ++ [row], by rw [List.map_append]; rfl, ok, by rw [List.length_append, hl]; rfl, fun l hl => ?_, _, _, _, _, rfl⟩
      rcases List.mem_append.mp hl with z | z
      · exact hr l z
      · rw [List.mem_singleton.mp z]; exact hp
    have fin4 : ∀ (s9 : Src) (row : List Nat) (x8 x9 : Option D), s9.ok → row.Perm (List.range n) → (law_draw_houses_B1_4 [some (.ref 1), some (.v (nI most)), some (.v (nI n)), some (.v (.int road)), some (.v (lNs first)), some (.ref (rest.length + 2)), some (.v (.int (i : Int))), some (.v (lNs row)), x8, x9] (s9.sto (rest ++ [.lst (rows.map tNs)]))).Ok
        (fun e2 s2 => ∃ (s : Src) (rows : List (List Nat)), s2 = s.sto (rest ++ [.lst (rows.map tNs)]) ∧ s.ok ∧ rows.length = i + 1 ∧ (∀ l ∈ rows, l.Perm (List.range n)) ∧ ∃ x6 x7 x8 x9, e2 = [some (.ref 1), some (.v (nI most)), some (.v (nI n)), some (.v (.int road)), some (.v (lNs first)), some (.ref (rest.length + 2)), x6, x7, x8, x9])
        (fun d st => D.low (s.sto rest).length d = true ∧ ∃ (rows : List (List Nat)) (s' : Src), d = .v (hallD rows) ∧ st.take (s.sto rest).length = s'.sto rest ∧ s'.ok ∧ Hou rows ∧ rows.length ≤ most) := by
      intro s9 row x8 x9 ok hp
      unfold law_draw_houses_B1_4
      simp only [envE, so_seq, so_if, so_ret, so_retN, so_exp, so_nil, so_nx, so_rt, so_asg, so_asgG, so_par2, so_par3, ok_gNm, ok_gMore, ok_gNone, so_asgT, so_sub, so_for, ok_TB, ok_Tru, ok_notT, ok_andT, ok_orT, ok_andV, ok_orV, ok_notV, ok_iteE, ok_frz, ok_new, ok_mfArg, ok_mfBin, ok_lc, ok_M, ok_M0, ok_moNone, ok_moSome, ok_Sl,
  ok_bin, ok_un, ok_arg, ok_cons, ok_nil, ok_call, ok_var, ok_C, ok_ok, ok_stuck, ok_noX, bOf_bool, low_v, iOf_int, addD_int, subD_int, negD_int, ltD_int, leD_int, gtD_int, geD_int, fInt_int, isD_bool, isNotD_bool, tru_bool, List.map_cons, List.map_nil, List.length_cons, List.length_nil, List.replicate_succ, List.replicate_zero, List.cons_append, List.nil_append,
  List.append_nil, List.getElem?_cons_zero, List.getElem?_cons_succ, List.set_cons_zero, List.set_cons_succ, Option.some.injEq, exists_eq_left', exists_eq_left, true_and, and_true, true_implies, false_implies, implies_true, Bool.false_eq_true, reduceCtorEq, false_and, and_false, D.v.injEq, PyData.int.injEq, D.ref.injEq, p1i_int, p2_two, p3_three, decide_true, Bool.not_true, Bool.not_false, decide_eq_true_eq, decide_eq_false_iff_not, eqD_int]
      refine ⟨fun _ => ?_, fun _ => fin s9 row x8 x9 ok hp⟩
      unfold law_draw_houses_E1
      simp only [envE, so_seq, so_if, so_ret, so_retN, so_exp, so_nil, so_nx, so_rt, so_asg, so_asgG, so_par2, so_par3, ok_gNm, ok_gMore, ok_gNone, so_asgT, so_sub, so_for, ok_TB, ok_Tru, ok_notT, ok_andT, ok_orT, ok_andV, ok_orV, ok_notV, ok_iteE, ok_frz, ok_new, ok_mfArg, ok_mfBin, ok_lc, ok_M, ok_M0, ok_moNone, ok_moSome, ok_Sl,
  ok_bin, ok_un, ok_arg, ok_cons, ok_nil, ok_call, ok_var, ok_C, ok_ok, ok_stuck, ok_noX, bOf_bool, low_v, iOf_int, addD_int, subD_int, negD_int, ltD_int, leD_int, gtD_int, geD_int, fInt_int, isD_bool, isNotD_bool, tru_bool, List.map_cons, List.map_nil, List.length_cons, List.length_nil, List.replicate_succ, List.replicate_zero, List.cons_append, List.nil_append,
  List.append_nil, List.getElem?_cons_zero, List.getElem?_cons_succ, List.set_cons_zero, List.set_cons_succ, Option.some.injEq, exists_eq_left', exists_eq_left, true_and, and_true, true_implies, false_implies, implies_true, Bool.false_eq_true, reduceCtorEq, false_and, and_false, D.v.injEq, PyData.int.injEq, D.ref.injEq, p1i_int, p2_two, p3_three, decide_true, Bool.not_true, Bool.not_false, decide_eq_true_eq, decide_eq_false_iff_not, ok_seq, seqW_list, List.map_map]
      rw [An.lcL_auto (fun x : Nat => !decide (x = i)) nI]
      rotate_left
      · intro x hx
        unfold law_draw_houses_G1 law_draw_houses_T1 law_draw_houses_M1
        show (gNm 9 (.one (.v (nI x))) _ _).Ok _
        simp only [envE, so_seq, so_if, so_ret, so_retN, so_exp, so_nil, so_nx, so_rt, so_asg, so_asgG, so_par2, so_par3, ok_gNm, ok_gMore, ok_gNone, so_asgT, so_sub, so_for, ok_TB, ok_Tru, ok_notT, ok_andT, ok_orT, ok_andV, ok_orV, ok_notV, ok_iteE, ok_frz, ok_new, ok_mfArg, ok_mfBin, ok_lc, ok_M, ok_M0, ok_moNone, ok_moSome, ok_Sl,
  ok_bin, ok_un, ok_arg, ok_cons, ok_nil, ok_call, ok_var, ok_C, ok_ok, ok_stuck, ok_noX, bOf_bool, low_v, iOf_int, addD_int, subD_int, negD_int, ltD_int, leD_int, gtD_int, geD_int, fInt_int, isD_bool, isNotD_bool, tru_bool, List.map_cons, List.map_nil, List.length_cons, List.length_nil, List.replicate_succ, List.replicate_zero, List.cons_append, List.nil_append,
  List.append_nil, List.getElem?_cons_zero, List.getElem?_cons_succ, List.set_cons_zero, List.set_cons_succ, Option.some.injEq, exists_eq_left', exists_eq_left, true_and, and_true, true_implies, false_implies, implies_true, Bool.false_eq_true, reduceCtorEq, false_and, and_false, D.v.injEq, PyData.int.injEq, D.ref.injEq, p1i_int, p2_two, p3_three, decide_true, Bool.not_true, Bool.not_false, decide_eq_true_eq, decide_eq_false_iff_not, wipeE, neD_int]
        simp
        omega
      have disp1 : ∀ {a : PyData} {s}, gDisp [.v a] s = .ok [a] s := fun {_ _} => rfl
      have hpl : row.length = n := by have := hp.length_eq; rw [List.length_range] at this; exact this
      rw [ok_ok, disp1, ok_ok, cat_list (by rw [List.length_map]; have := List.length_filter_le (fun x => !decide (x = i)) row; show _ + 1 ≤ _; omega), ok_ok]
      have hp2 : (row.filter (fun x => !decide (x = i)) ++ [i]).Perm (List.range n) := by
        have hnd : row.Nodup := hp.nodup_iff.mpr List.nodup_range
        have him : i ∈ row := hp.mem_iff.mpr (List.mem_range.mpr hi)
        refine List.Perm.trans ?_ hp
        refine (List.perm_ext_iff_of_nodup ?_ hnd).mpr fun a => ?_
        · refine List.nodup_append.mpr ⟨hnd.sublist List.filter_sublist, List.pairwise_singleton _ _, fun a ha b hb e => ?_⟩
          have := (List.mem_filter.mp ha).2
          rw [List.mem_singleton.mp hb] at e
          rw [e] at this
          simp at this
        · rw [List.mem_append, List.mem_filter, List.mem_singleton]
          constructor
          · rintro (⟨z, _⟩ | z)
            · exact z
            · rw [z]; exact him
          · intro z
            by_cases e : a = i
            · exact .inr e
            · exact .inl ⟨z, by simp [e]⟩
      have := fin s9 (row.filter (fun x => !decide (x = i)) ++ [i]) x8 x9 ok hp2
      unfold lNs at this
      rw [List.map_append] at this
      exact this
    have fin3 : ∀ (s9 : Src) (row : List Nat) (x8 x9 : Option D), s9.ok → row.Perm (List.range n) → (law_draw_houses_B1_3 [some (.ref 1), some (.v (nI most)), some (.v (nI n)), some (.v (.int road)), some (.v (lNs first)), some (.ref (rest.length + 2)), some (.v (.int (i : Int))), some (.v (lNs row)), x8, x9] (s9.sto (rest ++ [.lst (rows.map tNs)]))).Ok
        (fun e2 s2 => ∃ (s : Src) (rows : List (List Nat)), s2 = s.sto (rest ++ [.lst (rows.map tNs)]) ∧ s.ok ∧ rows.length = i + 1 ∧ (∀ l ∈ rows, l.Perm (List.range n)) ∧ ∃ x6 x7 x8 x9, e2 = [some (.ref 1), some (.v (nI most)), some (.v (nI n)), some (.v (.int road)), some (.v (lNs first)), some (.ref (rest.length + 2)), x6, x7, x8, x9])
        (fun d st => D.low (s.sto rest).length d = true ∧ ∃ (rows : List (List Nat)) (s' : Src), d = .v (hallD rows) ∧ st.take (s.sto rest).length = s'.sto rest ∧ s'.ok ∧ Hou rows ∧ rows.length ≤ most) := by
      intro s9 row x8 x9 ok hp
      unfold law_draw_houses_B1_3
      simp only [envE, so_seq, so_if, so_ret, so_retN, so_exp, so_nil, so_nx, so_rt, so_asg, so_asgG, so_par2, so_par3, ok_gNm, ok_gMore, ok_gNone, so_asgT, so_sub, so_for, ok_TB, ok_Tru, ok_notT, ok_andT, ok_orT, ok_andV, ok_orV, ok_notV, ok_iteE, ok_frz, ok_new, ok_mfArg, ok_mfBin, ok_lc, ok_M, ok_M0, ok_moNone, ok_moSome, ok_Sl,
  ok_bin, ok_un, ok_arg, ok_cons, ok_nil, ok_call, ok_var, ok_C, ok_ok, ok_stuck, ok_noX, bOf_bool, low_v, iOf_int, addD_int, subD_int, negD_int, ltD_int, leD_int, gtD_int, geD_int, fInt_int, isD_bool, isNotD_bool, tru_bool, List.map_cons, List.map_nil, List.length_cons, List.length_nil, List.replicate_succ, List.replicate_zero, List.cons_append, List.nil_append,
  List.append_nil, List.getElem?_cons_zero, List.getElem?_cons_succ, List.set_cons_zero, List.set_cons_succ, Option.some.injEq, exists_eq_left', exists_eq_left, true_and, and_true, true_implies, false_implies, implies_true, Bool.false_eq_true, reduceCtorEq, false_and, and_false, D.v.injEq, PyData.int.injEq, D.ref.injEq, p1i_int, p2_two, p3_three, decide_true, Bool.not_true, Bool.not_false, decide_eq_true_eq, decide_eq_false_iff_not, eqD_int]
      refine ⟨fun _ => ?_, fun _ => fin4 s9 row x8 x9 ok hp⟩
      refine (pickA_ok s9 _ (n : Int) (by omega) ok).mono ?_
      rintro _ _ ⟨k, s6, rfl, rfl, ok6, k0, k1, _⟩
      obtain ⟨k, rfl⟩ : ∃ m : Nat, k = (m : Int) := ⟨k.toNat, by omega⟩
      have hfl : first.length = n := by have := hf.length_eq; rw [List.length_range] at this; exact this
      have a1 : ∀ s, slD (.v (lNs first)) (some (k : Int)) none s = .ok (.v (.list ((first.drop k).map nI))) s := fun s => by rw [slice_list, cut_drop, ← List.map_drop]
      have a2 : ∀ s, slD (.v (lNs first)) none (some (k : Int)) s = .ok (.v (.list ((first.take k).map nI))) s := fun s => by rw [slice_list, cut_take, ← List.map_take]
      have a3 : ∀ s, addD (.v (.list ((first.drop k).map nI))) (.v (.list ((first.take k).map nI))) s = .ok (.v (lNs (first.drop k ++ first.take k))) s := fun s => by
        show (if ((first.drop k).map nI).length + ((first.take k).map nI).length ≤ lim then Out.ok (D.v (.list ((first.drop k).map nI ++ (first.take k).map nI))) s else .stuck) = _
        rw [if_pos (by rw [List.length_map, List.length_map, List.length_drop, List.length_take]; show _ ≤ 1000000; omega), ← List.map_append]
      simp only [envE, so_seq, so_if, so_ret, so_retN, so_exp, so_nil, so_nx, so_rt, so_asg, so_asgG, so_par2, so_par3, ok_gNm, ok_gMore, ok_gNone, so_asgT, so_sub, so_for, ok_TB, ok_Tru, ok_notT, ok_andT, ok_orT, ok_andV, ok_orV, ok_notV, ok_iteE, ok_frz, ok_new, ok_mfArg, ok_mfBin, ok_lc, ok_M, ok_M0, ok_moNone, ok_moSome, ok_Sl,
  ok_bin, ok_un, ok_arg, ok_cons, ok_nil, ok_call, ok_var, ok_C, ok_ok, ok_stuck, ok_noX, bOf_bool, low_v, iOf_int, addD_int, subD_int, negD_int, ltD_int, leD_int, gtD_int, geD_int, fInt_int, isD_bool, isNotD_bool, tru_bool, List.map_cons, List.map_nil, List.length_cons, List.length_nil, List.replicate_succ, List.replicate_zero, List.cons_append, List.nil_append,
  List.append_nil, List.getElem?_cons_zero, List.getElem?_cons_succ, List.set_cons_zero, List.set_cons_succ, Option.some.injEq, exists_eq_left', exists_eq_left, true_and, and_true, true_implies, false_implies, implies_true, Bool.false_eq_true, reduceCtorEq, false_and, and_false, D.v.injEq, PyData.int.injEq, D.ref.injEq, p1i_int, p2_two, p3_three, decide_true, Bool.not_true, Bool.not_false, decide_eq_true_eq, decide_eq_false_iff_not, a1, a2, a3]
      exact fin4 s6 _ _ _ ok6 ((rot_perm' first k).trans hf)
    unfold law_draw_houses_B1_2
    simp only [envE, so_seq, so_if, so_ret, so_retN, so_exp, so_nil, so_nx, so_rt, so_asg, so_asgG, so_par2, so_par3, ok_gNm, ok_gMore, ok_gNone, so_asgT, so_sub, so_for, ok_TB, ok_Tru, ok_notT, ok_andT, ok_orT, ok_andV, ok_orV, ok_notV, ok_iteE, ok_frz, ok_new, ok_mfArg, ok_mfBin, ok_lc, ok_M, ok_M0, ok_moNone, ok_moSome, ok_Sl,
  ok_bin, ok_un, ok_arg, ok_cons, ok_nil, ok_call, ok_var, ok_C, ok_ok, ok_stuck, ok_noX, bOf_bool, low_v, iOf_int, addD_int, subD_int, negD_int, ltD_int, leD_int, gtD_int, geD_int, fInt_int, isD_bool, isNotD_bool, tru_bool, List.map_cons, List.map_nil, List.length_cons, List.length_nil, List.replicate_succ, List.replicate_zero, List.cons_append, List.nil_append,
  List.append_nil, List.getElem?_cons_zero, List.getElem?_cons_succ, List.set_cons_zero, List.set_cons_succ, Option.some.injEq, exists_eq_left', exists_eq_left, true_and, and_true, true_implies, false_implies, implies_true, Bool.false_eq_true, reduceCtorEq, false_and, and_false, D.v.injEq, PyData.int.injEq, D.ref.injEq, p1i_int, p2_two, p3_three, decide_true, Bool.not_true, Bool.not_false, decide_eq_true_eq, decide_eq_false_iff_not, eqD_int]
    refine ⟨fun _ => ?_, fun _ => fin3 s5 row x8 x9 ok5 hrow⟩
    refine (pickA_ok s5 _ 3 (by omega) ok5).mono ?_
    rintro _ _ ⟨q, s6, rfl, rfl, ok6, _, _, _⟩
    have a1 : ∀ s, slD (.v (lNs first)) none none s = .ok (.v (lNs first)) s := fun s => by
      rw [slice_list, show cutP (first.map nI) none none = first.map nI by unfold cutP; rw [show HT.sIx (first.map nI).length 0 none = 0 from rfl, show HT.sIx (first.map nI).length (first.map nI).length none = (first.map nI).length from rfl, List.drop_zero, Nat.sub_zero, List.take_length]]
    simp only [envE, so_seq, so_if, so_ret, so_retN, so_exp, so_nil, so_nx, so_rt, so_asg, so_asgG, so_par2, so_par3, ok_gNm, ok_gMore, ok_gNone, so_asgT, so_sub, so_for, ok_TB, ok_Tru, ok_notT, ok_andT, ok_orT, ok_andV, ok_orV, ok_notV, ok_iteE, ok_frz, ok_new, ok_mfArg, ok_mfBin, ok_lc, ok_M, ok_M0, ok_moNone, ok_moSome, ok_Sl,
  ok_bin, ok_un, ok_arg, ok_cons, ok_nil, ok_call, ok_var, ok_C, ok_ok, ok_stuck, ok_noX, bOf_bool, low_v, iOf_int, addD_int, subD_int, negD_int, ltD_int, leD_int, gtD_int, geD_int, fInt_int, isD_bool, isNotD_bool, tru_bool, List.map_cons, List.map_nil, List.length_cons, List.length_nil, List.replicate_succ, List.replicate_zero, List.cons_append, List.nil_append,
  List.append_nil, List.getElem?_cons_zero, List.getElem?_cons_succ, List.set_cons_zero, List.set_cons_succ, Option.some.injEq, exists_eq_left', exists_eq_left, true_and, and_true, true_implies, false_implies, implies_true, Bool.false_eq_true, reduceCtorEq, false_and, and_false, D.v.injEq, PyData.int.injEq, D.ref.injEq, p1i_int, p2_two, p3_three, decide_true, Bool.not_true, Bool.not_false, decide_eq_true_eq, decide_eq_false_iff_not, a1]
    exact ⟨fun _ => fin3 s6 first x8 x9 ok6 hf, fun _ => fin3 s6 row x8 x9 ok6 hrow⟩
  · rintro e st ⟨s4, rows, rfl, ok4, hl, hr, x6, x7, x8, x9, rfl⟩
    refine ⟨trivial, ?_⟩
    unfold S_law_draw_houses_4
    have hl : rows.length = n := by
      rw [hl]
      unfold rngI
      rw [List.length_map, List.length_range, Nat.zero_add]
    simp only [envE, so_seq, so_if, so_ret, so_retN, so_exp, so_nil, so_nx, so_rt, so_asg, so_asgG, so_par2, so_par3, ok_gNm, ok_gMore, ok_gNone, so_asgT, so_sub, so_for, ok_TB, ok_Tru, ok_notT, ok_andT, ok_orT, ok_andV, ok_orV, ok_notV, ok_iteE, ok_frz, ok_new, ok_mfArg, ok_mfBin, ok_lc, ok_M, ok_M0, ok_moNone, ok_moSome, ok_Sl,
  ok_bin, ok_un, ok_arg, ok_cons, ok_nil, ok_call, ok_var, ok_C, ok_ok, ok_stuck, ok_noX, bOf_bool, low_v, iOf_int, addD_int, subD_int, negD_int, ltD_int, leD_int, gtD_int, geD_int, fInt_int, isD_bool, isNotD_bool, tru_bool, List.map_cons, List.map_nil, List.length_cons, List.length_nil, List.replicate_succ, List.replicate_zero, List.cons_append, List.nil_append,
  List.append_nil, List.getElem?_cons_zero, List.getElem?_cons_succ, List.set_cons_zero, List.set_cons_succ, Option.some.injEq, exists_eq_left', exists_eq_left, true_and, and_true, true_implies, false_implies, implies_true, Bool.false_eq_true, reduceCtorEq, false_and, and_false, D.v.injEq, PyData.int.injEq, D.ref.injEq, p1i_int, p2_two, p3_three, decide_true, Bool.not_true, Bool.not_false, decide_eq_true_eq, decide_eq_false_iff_not, tup_of sto_at']
    have t2 : ∀ {x y : PyData} {s}, fTup [.v x, .v y] s = .ok (.v (.tuple [x, y])) s := fun {_ _ _} => rfl
    rw [t2, ok_ok]
    refine ⟨rfl, rows, s4, by rw [← hl], sto_take' (s0 := s), ok4, ⟨by omega, fun {a} ha => ?_, fun {a b} ha => ?_⟩, by omega⟩
    · have : row rows a ∈ rows := by unfold row; rw [List.getD_eq_getElem?_getD, List.getElem?_eq_getElem ha]; exact List.getElem_mem ha
      exact (hr _ this).nodup_iff.mpr List.nodup_range
    · have : row rows a ∈ rows := by unfold row; rw [List.getD_eq_getElem?_getD, List.getElem?_eq_getElem ha]; exact List.getElem_mem ha
      rw [(hr _ this).mem_iff, List.mem_range, hl]
end
end Wk37
namespace Wk37
open PySem PySem.Spec PyProof.Rows L2 Fw Fw.Hl Fw.Ho
section
variable {rows : List (List Nat)} {n i j h g k : Nat} {d e w S : List Nat} {F : List (Nat × Nat)} {st : Sto}
theorem hrow {a : Nat} (ha : a < rows.length) : subsD (.v (rowsD rows)) (.v (nI a)) st = .ok (.v (tNs (row rows a))) st := hall_row ha
theorem two_at0 {o1 o2 : O} : (st ++ [o1] ++ [o2])[st.length]? = some o1 := by
  rw [List.append_assoc, List.getElem?_append_right (Nat.le_refl _), Nat.sub_self]
  rfl
theorem two_at1 {o1 o2 : O} : (st ++ [o1] ++ [o2])[st.length + 1]? = some o2 := by
  rw [List.append_assoc, List.getElem?_append_right (by omega), show st.length + 1 - st.length = 1 by omega]
  rfl
theorem two_set0 {o1 o2 u : O} : (st ++ [o1] ++ [o2]).set st.length u = st ++ [u] ++ [o2] := by
  rw [List.append_assoc, List.append_assoc, List.set_append_right _ _ (Nat.le_refl _), Nat.sub_self]
  rfl
theorem two_set1 {o1 o2 u : O} : (st ++ [o1] ++ [o2]).set (st.length + 1) u = st ++ [o1] ++ [u] := by
  rw [List.append_assoc, List.append_assoc, List.set_append_right _ _ (by omega), show st.length + 1 - st.length = 1 by omega]
  rfl
theorem two_take {o1 o2 : O} : (st ++ [o1] ++ [o2]).take st.length = st := by
  rw [List.append_assoc, List.take_left]
theorem two_len {o1 : O} : (st ++ [o1]).length = st.length + 1 := by rw [List.length_append]; rfl
theorem in_lst {l : List Nat} {m : Nat} (hst : st[m]? = some (.lst (l.map nI))) : inU (.v (nI h)) (.ref m) st = .ok (.v (.bool (decide (h ∈ l)))) st ∧ notInU (.v (nI h)) (.ref m) st = .ok (.v (.bool (!decide (h ∈ l)))) st := by
  have e : inS st (.v (nI h)) (.ref m) = some (decide (h ∈ l)) := by
    have h2 : inS st (.v (nI h)) (.v (lNs l)) = some (decide (h ∈ l)) := inS_list
    have hv : viewL st (.ref m) = some (l.map nI) := viewS_ref hst
    unfold inS at h2 ⊢
    rw [viewS_ref hst, hv]
    exact h2
  have hk : viewK st (.ref m) = none := by
    show (match st[m]? with
      | some (.dct t kvs) => some (t, kvs)
      | some (.lck t kvs) => some (t, kvs)
      | _ => none) = _
    rw [hst]
  constructor
  · unfold inU
    rw [hk]
    show (match inS st (.v (nI h)) (.ref m) with
      | some k => Out.ok (D.v (.bool k)) st
      | none => .stuck) = _
    rw [e]
  · unfold notInU
    rw [hk]
    show (match inS st (.v (nI h)) (.ref m) with
      | some k => Out.ok (D.v (.bool (!k))) st
      | none => .stuck) = _
    rw [e]
def lft (n : Nat) (T : List Nat) : List Nat := (List.range n).filter fun h => !decide (h ∈ T)
theorem mem_lft {T : List Nat} : h ∈ lft n T ↔ h < n ∧ ¬ h ∈ T := by
  unfold lft
  rw [List.mem_filter, List.mem_range, Bool.not_eq_true', decide_eq_false_iff_not]
theorem filter_lft (H : Hou rows) (hi : i < rows.length) {T : List Nat} : (row rows i).filter (fun h => decide (h ∈ lft rows.length T)) = (row rows i).filter fun h => !decide (h ∈ T) := by
  refine List.filter_congr fun x hx => ?_
  have hx := (H.mem hi).mp hx
  by_cases z : x ∈ T
  · rw [decide_eq_true z, decide_eq_false fun y => (mem_lft.mp y).2 z]; rfl
  · rw [decide_eq_false z, decide_eq_true (mem_lft.mpr ⟨hx, z⟩)]; rfl
theorem ints_of : ∀ l : List Nat, intsOf (l.map nI) = some (l.map fun x : Nat => (x : Int))
  | [] => rfl
  | x :: r => by
    rw [List.map_cons, List.map_cons]
    show (intsOf (r.map nI)).map _ = _
    rw [ints_of r]
    rfl
theorem er_map {α β : Type} (f : α → β) : ∀ (l : List α) (i : Nat), (l.map f).eraseIdx i = (l.eraseIdx i).map f
  | [], i => rfl
  | x :: r, 0 => rfl
  | x :: r, i + 1 => by
    rw [List.map_cons, List.eraseIdx_cons_succ, List.eraseIdx_cons_succ, List.map_cons, er_map f r i]
theorem remove_at {l : List Nat} {m : Nat} (hst : st[m]? = some (.lst (l.map nI))) (hh : h ∈ l) : fmRemove (.ref m) [.v (nI h)] st = .ok (.v .none) (st.set m (.lst ((l.erase h).map nI))) := by
  unfold fmRemove
  rw [lAt_ref hst]
  simp only [ints_of]
  have hm : (h : Int) ∈ l.map (fun x : Nat => (x : Int)) := List.mem_map.mpr ⟨h, hh, rfl⟩
  rw [if_pos hm]
  congr 3
  have hi : (l.map fun x : Nat => (x : Int)).idxOf (h : Int) = l.idxOf h := by
    clear hst hh hm
    induction l with
    | nil => rfl
    | cons x r ih =>
      rw [List.map_cons, List.idxOf_cons, List.idxOf_cons, ih]
      have : ((x : Int) == (h : Int)) = (x == h) := by
        rw [Bool.eq_iff_iff, beq_iff_eq, beq_iff_eq]
        omega
      rw [this]
  rw [hi, List.erase_eq_eraseIdx_of_idxOf rfl, er_map, List.map_map]
  rfl
theorem erase_lft (hh : h ∈ lft n S) : (lft n S).erase h = lft n (S ++ [h]) := by
  unfold lft
  rw [(List.nodup_range.sublist List.filter_sublist).erase_eq_filter, List.filter_filter]
  refine List.filter_congr fun x _ => ?_
  by_cases e : x = h
  · subst e
    simp
  · have : (x ∈ S ++ [h]) ↔ x ∈ S := by rw [List.mem_append, List.mem_singleton]; exact ⟨fun z => z.resolve_right e, .inl⟩
    simp [e, this]
theorem best_comp (H : Hou rows) (hi : i < rows.length) {T : List Nat} (hT : ∃ h, h < rows.length ∧ ¬ h ∈ T) : subsD (.v (lNs ((row rows i).filter fun h => !decide (h ∈ T)))) (.v (.int 0)) st = .ok (.v (nI (bst rows i T))) st := by
  refine sub_list (k := 0) ?_
  rw [List.getElem?_map, bst_get H hi hT]
  rfl
def fil (n : Nat) (F : List (Nat × Nat)) : List Nat := (List.range n).map fun i => if i ∈ F.map (·.1) then lk F i else 0
theorem fil_nil : fil n [] = List.replicate n 0 := by
  unfold fil
  simp
  exact List.eq_replicate_iff.mpr ⟨by simp, fun b hb => by obtain ⟨_, _, rfl⟩ := List.mem_map.mp hb; rfl⟩
theorem fil_set {v : Nat} (hi : ¬ i ∈ F.map (·.1)) : (fil n F).set i v = fil n (F ++ [(i, v)]) := by
  refine List.ext_getElem? fun j => ?_
  unfold fil
  by_cases hj : j < n
  · rw [List.getElem?_map, List.getElem?_range hj]
    by_cases e : i = j
    · subst e
      rw [List.getElem?_set_self (by rw [List.length_map, List.length_range]; exact hj)]
      have h1 : i ∈ (F ++ [(i, v)]).map (·.1) := by rw [List.map_append]; exact List.mem_append_right _ (.head _)
      have h2 : lk (F ++ [(i, v)]) i = v := by
        unfold lk
        rw [List.find?_append]
        have : F.find? (fun p => decide (p.1 = i)) = none := List.find?_eq_none.mpr fun p hp z => hi (List.mem_map.mpr ⟨p, hp, by simpa using z⟩)
        rw [this]
        simp
      show some v = some (if _ then _ else _)
      rw [if_pos h1, h2]
    · rw [List.getElem?_set_ne e, List.getElem?_map, List.getElem?_range hj]
      have h1 : (j ∈ (F ++ [(i, v)]).map (·.1)) ↔ j ∈ F.map (·.1) := by
        rw [List.map_append, List.mem_append, List.map_singleton, List.mem_singleton]
        exact ⟨fun z => z.resolve_right fun y => e y.symm, .inl⟩
      have h2 : lk (F ++ [(i, v)]) j = lk F j := by
        unfold lk
        rw [List.find?_append]
        cases F.find? (fun p => decide (p.1 = j)) with
        | some p => rfl
        | none => simp [e]
      show some (if _ then _ else _) = some (if _ then _ else _)
      by_cases hm : j ∈ F.map (·.1)
      · rw [if_pos hm, if_pos (h1.mpr hm), h2]
      · rw [if_neg hm, if_neg fun z => hm (h1.mp z)]
  · rw [List.getElem?_eq_none (by rw [List.length_set, List.length_map, List.length_range]; omega), List.getElem?_eq_none (by rw [List.length_map, List.length_range]; omega)]
theorem fil_all (all : ∀ i, i < n → i ∈ F.map (·.1)) : fil n F = dOf n F := by
  unfold fil dOf
  refine List.map_congr_left fun i hi => ?_
  rw [if_pos (all i (List.mem_range.mp hi))]
theorem rg_ok {n : Nat} (h : n ≤ 50) : rgOk 0 (n : Int) = true := by
  unfold rgOk
  simp
  omega
theorem upto_step {s : List Nat} {x : Nat} (hx : s[i]? = some x) : chs rows (s.take (i + 1)) [] = chs rows (s.take i) [] ++ [(x, bst rows x ((chs rows (s.take i) []).map (·.2)))] := by
  rw [List.take_add_one, hx, chs_app]
  rfl
theorem upto_facts (H : Hou rows) {s : List Nat} (q : Sq rows.length s) (hi : i ≤ s.length) : ((chs rows (s.take i) []).map (·.1)) = s.take i ∧ (chs rows (s.take i) []).length = i ∧ ((chs rows (s.take i) []).map (·.2)).Nodup ∧ ∀ p ∈ chs rows (s.take i) [], p.2 < rows.length := by
  have k := chs_keys (rows := rows) (s.take i) []
  rw [List.map_nil, List.nil_append] at k
  obtain ⟨v1, v2⟩ := chs_nd H (s.take i) [] (fun j hj => (q.mem j).mp (List.mem_of_mem_take hj)) (by have := q.len; rw [List.length_take]; simp; omega) List.nodup_nil (fun _ z => nomatch z)
  refine ⟨k, ?_, v1, v2⟩
  have := congrArg List.length k
  rw [List.length_map, List.length_take] at this
  omega
theorem upto_new {s : List Nat} (q : Sq rows.length s) {x : Nat} (hx : s[i]? = some x) : ¬ x ∈ s.take i := by
  intro z
  obtain ⟨hi, e⟩ := List.getElem?_eq_some_iff.mp hx
  obtain ⟨j, hj, e2⟩ := List.mem_iff_getElem.mp z
  rw [List.length_take] at hj
  rw [List.getElem_take] at e2
  have := (List.getElem_inj (h₀ := by omega) (h₁ := hi) q.nd).mp (e2.trans e.symm)
  omega
theorem chosen_eq (H : Hou rows) (hn : rows.length ≤ 50) {s : List Nat} (q : Sq rows.length s) : f_chosen [.v (hallD rows), .v (tNs s)] st = .ok (.v (tNs (dOf rows.length (chs rows s [])))) st := by
  refine Out.Ok.is (fnT_ok ?_)
  unfold S_chosen chosen_E1 chosen_T1
  simp only [envE, so_seq, so_if, so_ret, so_retN, so_exp, so_nil, so_nx, so_rt, so_asg, so_asgG, so_par2, so_par3, ok_gNm, ok_gMore, ok_gNone, so_asgT, so_sub, so_for, ok_TB, ok_Tru, ok_notT, ok_andT, ok_orT, ok_andV, ok_orV, ok_notV, ok_iteE, ok_frz, ok_new, ok_mfArg, ok_mfBin, ok_lc, ok_M, ok_M0, ok_moNone, ok_moSome, ok_Sl,
  ok_bin, ok_un, ok_arg, ok_cons, ok_nil, ok_call, ok_var, ok_C, ok_ok, ok_stuck, ok_noX, bOf_bool, low_v, iOf_int, addD_int, subD_int, negD_int, ltD_int, leD_int, gtD_int, geD_int, fInt_int, isD_bool, isNotD_bool, tru_bool, List.map_cons, List.map_nil, List.length_cons, List.length_nil, List.replicate_succ, List.replicate_zero, List.cons_append, List.nil_append,
  List.append_nil, List.getElem?_cons_zero, List.getElem?_cons_succ, List.set_cons_zero, List.set_cons_succ, Option.some.injEq, exists_eq_left', exists_eq_left, true_and, and_true, true_implies, false_implies, implies_true, Bool.false_eq_true, reduceCtorEq, false_and, and_false, D.v.injEq, PyData.int.injEq, D.ref.injEq, p1i_int, p2_two, p3_three, decide_true, Bool.not_true, Bool.not_false, decide_eq_true_eq, decide_eq_false_iff_not, ok_R1, hall0, ok_Rg1]
  refine ⟨⟨by omega, by omega⟩, ?_⟩
  rw [Int.toNat_natCast, show rngI 0 rows.length = (List.range rows.length).map (fun i : Nat => Itm.one (.v (.int (0 + (i : Int))))) from rfl, lcL_all _ (fun _ => nI 0)]
  rotate_left
  · intro a ha
    unfold chosen_G1 chosen_M1
    show (gNm 4 (.one (.v (.int (0 + (a : Int))))) _ _).Ok _
    simp only [envE, so_seq, so_if, so_ret, so_retN, so_exp, so_nil, so_nx, so_rt, so_asg, so_asgG, so_par2, so_par3, ok_gNm, ok_gMore, ok_gNone, so_asgT, so_sub, so_for, ok_TB, ok_Tru, ok_notT, ok_andT, ok_orT, ok_andV, ok_orV, ok_notV, ok_iteE, ok_frz, ok_new, ok_mfArg, ok_mfBin, ok_lc, ok_M, ok_M0, ok_moNone, ok_moSome, ok_Sl,
  ok_bin, ok_un, ok_arg, ok_cons, ok_nil, ok_call, ok_var, ok_C, ok_ok, ok_stuck, ok_noX, bOf_bool, low_v, iOf_int, addD_int, subD_int, negD_int, ltD_int, leD_int, gtD_int, geD_int, fInt_int, isD_bool, isNotD_bool, tru_bool, List.map_cons, List.map_nil, List.length_cons, List.length_nil, List.replicate_succ, List.replicate_zero, List.cons_append, List.nil_append,
  List.append_nil, List.getElem?_cons_zero, List.getElem?_cons_succ, List.set_cons_zero, List.set_cons_succ, Option.some.injEq, exists_eq_left', exists_eq_left, true_and, and_true, true_implies, false_implies, implies_true, Bool.false_eq_true, reduceCtorEq, false_and, and_false, D.v.injEq, PyData.int.injEq, D.ref.injEq, p1i_int, p2_two, p3_three, decide_true, Bool.not_true, Bool.not_false, decide_eq_true_eq, decide_eq_false_iff_not, wipeE]
    rfl
  rw [ok_ok]
  refine ⟨rg_ok hn, ?_⟩
  rw [rg_nats]
  have hz : (List.range rows.length).map (fun _ => nI 0) = (fil rows.length []).map nI := by
    rw [fil_nil, List.map_replicate]
    exact List.eq_replicate_iff.mpr ⟨by simp, fun b hb => by obtain ⟨_, _, rfl⟩ := List.mem_map.mp hb; rfl⟩
  have hl0 : (List.range rows.length).map nI = (lft rows.length []).map nI := by
    unfold lft
    rw [List.filter_eq_self.mpr (by simp)]
  rw [hz, hl0, two_len]
  refine ⟨by decide, ?_⟩
  unfold S_chosen_2 chosen_E3
  simp only [envE, so_seq, so_if, so_ret, so_retN, so_exp, so_nil, so_nx, so_rt, so_asg, so_asgG, so_par2, so_par3, ok_gNm, ok_gMore, ok_gNone, so_asgT, so_sub, so_for, ok_TB, ok_Tru, ok_notT, ok_andT, ok_orT, ok_andV, ok_orV, ok_notV, ok_iteE, ok_frz, ok_new, ok_mfArg, ok_mfBin, ok_lc, ok_M, ok_M0, ok_moNone, ok_moSome, ok_Sl,
  ok_bin, ok_un, ok_arg, ok_cons, ok_nil, ok_call, ok_var, ok_C, ok_ok, ok_stuck, ok_noX, bOf_bool, low_v, iOf_int, addD_int, subD_int, negD_int, ltD_int, leD_int, gtD_int, geD_int, fInt_int, isD_bool, isNotD_bool, tru_bool, List.map_cons, List.map_nil, List.length_cons, List.length_nil, List.replicate_succ, List.replicate_zero, List.cons_append, List.nil_append,
  List.append_nil, List.getElem?_cons_zero, List.getElem?_cons_succ, List.set_cons_zero, List.set_cons_succ, Option.some.injEq, exists_eq_left', exists_eq_left, true_and, and_true, true_implies, false_implies, implies_true, Bool.false_eq_true, reduceCtorEq, false_and, and_false, D.v.injEq, PyData.int.injEq, D.ref.injEq, p1i_int, p2_two, p3_three, decide_true, Bool.not_true, Bool.not_false, decide_eq_true_eq, decide_eq_false_iff_not, ok_seq, seqW_tup, List.map_map]
  refine forL_inv (fun i e t => t = st ++ [.lst ((fil rows.length (chs rows (s.take i) [])).map nI)] ++ [.lst ((lft rows.length ((chs rows (s.take i) []).map (·.2))).map nI)] ∧ ∃ x4 x5 x6, e = [some (.v (hallD rows)), some (.v (tNs s)), some (.ref st.length), some (.ref (st.length + 1)), x4, x5, x6]) _ _ _ 0 ?_ ?_ ⟨rfl, _, _, _, rfl⟩
  · rintro i d e t hd ⟨rfl, x4, x5, x6, rfl⟩
    rw [List.getElem?_map] at hd
    obtain ⟨x, hx, rfl⟩ := Option.map_eq_some_iff.mp hd
    have hil := (List.getElem?_eq_some_iff.mp hx).1
    have hxn := (q.mem x).mp (List.mem_of_getElem? hx)
    have hsl := q.len
    obtain ⟨f1, f2, f3, f4⟩ := upto_facts H q (i := i) (by omega)
    have hnew := upto_new q hx
    refine ⟨trivial, ?_⟩
    rw [Nat.zero_add, upto_step hx]
    generalize chs rows (s.take i) [] = F at f1 f2 f3 f4 ⊢
    have hT := free_ex f3 f4 (by omega)
    unfold chosen_G3 chosen_B1 chosen_E2
    show (gNm 4 (.one (.v (nI x))) _ _).Ok _
    simp only [envE, so_seq, so_if, so_ret, so_retN, so_exp, so_nil, so_nx, so_rt, so_asg, so_asgG, so_par2, so_par3, ok_gNm, ok_gMore, ok_gNone, so_asgT, so_sub, so_for, ok_TB, ok_Tru, ok_notT, ok_andT, ok_orT, ok_andV, ok_orV, ok_notV, ok_iteE, ok_frz, ok_new, ok_mfArg, ok_mfBin, ok_lc, ok_M, ok_M0, ok_moNone, ok_moSome, ok_Sl,
  ok_bin, ok_un, ok_arg, ok_cons, ok_nil, ok_call, ok_var, ok_C, ok_ok, ok_stuck, ok_noX, bOf_bool, low_v, iOf_int, addD_int, subD_int, negD_int, ltD_int, leD_int, gtD_int, geD_int, fInt_int, isD_bool, isNotD_bool, tru_bool, List.map_cons, List.map_nil, List.length_cons, List.length_nil, List.replicate_succ, List.replicate_zero, List.cons_append, List.nil_append,
  List.append_nil, List.getElem?_cons_zero, List.getElem?_cons_succ, List.set_cons_zero, List.set_cons_succ, Option.some.injEq, exists_eq_left', exists_eq_left, true_and, and_true, true_implies, false_implies, implies_true, Bool.false_eq_true, reduceCtorEq, false_and, and_false, D.v.injEq, PyData.int.injEq, D.ref.injEq, p1i_int, p2_two, p3_three, decide_true, Bool.not_true, Bool.not_false, decide_eq_true_eq, decide_eq_false_iff_not, hall1, hrow hxn, ok_seq, seqW_tup, List.map_map]
    rw [An.lcL_auto (fun h => decide (h ∈ lft rows.length (F.map (·.2)))) nI]
    rotate_left
    · intro h hh
      unfold chosen_G2 chosen_T2 chosen_M2
      show (gNm 6 (.one (.v (nI h))) _ _).Ok _
      have hin : inU (.v (nI h)) (.ref (st.length + 1)) (st ++ [.lst ((fil rows.length F).map nI)] ++ [.lst ((lft rows.length (F.map (·.2))).map nI)]) = .ok (.v (.bool (decide (h ∈ lft rows.length (F.map (·.2)))))) (st ++ [.lst ((fil rows.length F).map nI)] ++ [.lst ((lft rows.length (F.map (·.2))).map nI)]) := (in_lst two_at1).1
      simp only [envE, so_seq, so_if, so_ret, so_retN, so_exp, so_nil, so_nx, so_rt, so_asg, so_asgG, so_par2, so_par3, ok_gNm, ok_gMore, ok_gNone, so_asgT, so_sub, so_for, ok_TB, ok_Tru, ok_notT, ok_andT, ok_orT, ok_andV, ok_orV, ok_notV, ok_iteE, ok_frz, ok_new, ok_mfArg, ok_mfBin, ok_lc, ok_M, ok_M0, ok_moNone, ok_moSome, ok_Sl,
  ok_bin, ok_un, ok_arg, ok_cons, ok_nil, ok_call, ok_var, ok_C, ok_ok, ok_stuck, ok_noX, bOf_bool, low_v, iOf_int, addD_int, subD_int, negD_int, ltD_int, leD_int, gtD_int, geD_int, fInt_int, isD_bool, isNotD_bool, tru_bool, List.map_cons, List.map_nil, List.length_cons, List.length_nil, List.replicate_succ, List.replicate_zero, List.cons_append, List.nil_append,
  List.append_nil, List.getElem?_cons_zero, List.getElem?_cons_succ, List.set_cons_zero, List.set_cons_succ, Option.some.injEq, exists_eq_left', exists_eq_left, true_and, and_true, true_implies, false_implies, implies_true, Bool.false_eq_true, reduceCtorEq, false_and, and_false, D.v.injEq, PyData.int.injEq, D.ref.injEq, p1i_int, p2_two, p3_three, decide_true, Bool.not_true, Bool.not_false, decide_eq_true_eq, decide_eq_false_iff_not, wipeE, hin]
    rw [ok_ok, filter_lft H hxn, best_comp H hxn hT, ok_ok]
    obtain ⟨b1, b2, _⟩ := bst_ok H hxn hT
    unfold chosen_B1_2
    simp only [envE, so_seq, so_if, so_ret, so_retN, so_exp, so_nil, so_nx, so_rt, so_asg, so_asgG, so_par2, so_par3, ok_gNm, ok_gMore, ok_gNone, so_asgT, so_sub, so_for, ok_TB, ok_Tru, ok_notT, ok_andT, ok_orT, ok_andV, ok_orV, ok_notV, ok_iteE, ok_frz, ok_new, ok_mfArg, ok_mfBin, ok_lc, ok_M, ok_M0, ok_moNone, ok_moSome, ok_Sl,
  ok_bin, ok_un, ok_arg, ok_cons, ok_nil, ok_call, ok_var, ok_C, ok_ok, ok_stuck, ok_noX, bOf_bool, low_v, iOf_int, addD_int, subD_int, negD_int, ltD_int, leD_int, gtD_int, geD_int, fInt_int, isD_bool, isNotD_bool, tru_bool, List.map_cons, List.map_nil, List.length_cons, List.length_nil, List.replicate_succ, List.replicate_zero, List.cons_append, List.nil_append,
  List.append_nil, List.getElem?_cons_zero, List.getElem?_cons_succ, List.set_cons_zero, List.set_cons_succ, Option.some.injEq, exists_eq_left', exists_eq_left, true_and, and_true, true_implies, false_implies, implies_true, Bool.false_eq_true, reduceCtorEq, false_and, and_false, D.v.injEq, PyData.int.injEq, D.ref.injEq, p1i_int, p2_two, p3_three, decide_true, Bool.not_true, Bool.not_false, decide_eq_true_eq, decide_eq_false_iff_not]
    rw [set_ref two_at0 (by rw [List.length_map]; unfold fil; rw [List.length_map, List.length_range]; exact hxn), ok_ok, two_set0]
    unfold chosen_B1_3
    simp only [envE, so_seq, so_if, so_ret, so_retN, so_exp, so_nil, so_nx, so_rt, so_asg, so_asgG, so_par2, so_par3, ok_gNm, ok_gMore, ok_gNone, so_asgT, so_sub, so_for, ok_TB, ok_Tru, ok_notT, ok_andT, ok_orT, ok_andV, ok_orV, ok_notV, ok_iteE, ok_frz, ok_new, ok_mfArg, ok_mfBin, ok_lc, ok_M, ok_M0, ok_moNone, ok_moSome, ok_Sl,
  ok_bin, ok_un, ok_arg, ok_cons, ok_nil, ok_call, ok_var, ok_C, ok_ok, ok_stuck, ok_noX, bOf_bool, low_v, iOf_int, addD_int, subD_int, negD_int, ltD_int, leD_int, gtD_int, geD_int, fInt_int, isD_bool, isNotD_bool, tru_bool, List.map_cons, List.map_nil, List.length_cons, List.length_nil, List.replicate_succ, List.replicate_zero, List.cons_append, List.nil_append,
  List.append_nil, List.getElem?_cons_zero, List.getElem?_cons_succ, List.set_cons_zero, List.set_cons_succ, Option.some.injEq, exists_eq_left', exists_eq_left, true_and, and_true, true_implies, false_implies, implies_true, Bool.false_eq_true, reduceCtorEq, false_and, and_false, D.v.injEq, PyData.int.injEq, D.ref.injEq, p1i_int, p2_two, p3_three, decide_true, Bool.not_true, Bool.not_false, decide_eq_true_eq, decide_eq_false_iff_not]
    refine ⟨isL_ref two_at1, ?_⟩
    rw [remove_at two_at1 (mem_lft.mpr ⟨b1, b2⟩), ok_ok, two_set1, erase_lft (mem_lft.mpr ⟨b1, b2⟩)]
    refine ⟨?_, _, _, _, rfl⟩
    rw [← List.map_set, fil_set (by rw [f1]; exact hnew), List.map_append]
    rfl
  · rintro e t ⟨rfl, x4, x5, x6, rfl⟩
    refine ⟨trivial, ?_⟩
    rw [Nat.zero_add, List.length_map, List.take_of_length_le (Nat.le_refl _)]
    obtain ⟨c1, _, _, _⟩ := chs_all H q
    unfold S_chosen_3
    simp only [envE, so_seq, so_if, so_ret, so_retN, so_exp, so_nil, so_nx, so_rt, so_asg, so_asgG, so_par2, so_par3, ok_gNm, ok_gMore, ok_gNone, so_asgT, so_sub, so_for, ok_TB, ok_Tru, ok_notT, ok_andT, ok_orT, ok_andV, ok_orV, ok_notV, ok_iteE, ok_frz, ok_new, ok_mfArg, ok_mfBin, ok_lc, ok_M, ok_M0, ok_moNone, ok_moSome, ok_Sl,
  ok_bin, ok_un, ok_arg, ok_cons, ok_nil, ok_call, ok_var, ok_C, ok_ok, ok_stuck, ok_noX, bOf_bool, low_v, iOf_int, addD_int, subD_int, negD_int, ltD_int, leD_int, gtD_int, geD_int, fInt_int, isD_bool, isNotD_bool, tru_bool, List.map_cons, List.map_nil, List.length_cons, List.length_nil, List.replicate_succ, List.replicate_zero, List.cons_append, List.nil_append,
  List.append_nil, List.getElem?_cons_zero, List.getElem?_cons_succ, List.set_cons_zero, List.set_cons_succ, Option.some.injEq, exists_eq_left', exists_eq_left, true_and, and_true, true_implies, false_implies, implies_true, Bool.false_eq_true, reduceCtorEq, false_and, and_false, D.v.injEq, PyData.int.injEq, D.ref.injEq, p1i_int, p2_two, p3_three, decide_true, Bool.not_true, Bool.not_false, decide_eq_true_eq, decide_eq_false_iff_not, tup_of two_at0, two_take]
    rw [fil_all fun i hi => by rw [c1]; exact (q.mem i).mpr hi]
end
end Wk37
namespace Wk37
open PySem PySem.Spec PyProof.Rows L2 Fw Fw.Hl Fw.Ho Fw.Da Fw.Aq Fw.Tl
section
variable {rows : List (List Nat)} {n i j h g k : Nat} {d e w S : List Nat} {F : List (Nat × Nat)} {st : Sto}
theorem hold_val : (holder F h).isNone = !decide (h ∈ F.map (·.2)) := by
  rw [Bool.eq_iff_iff, holder_none, Bool.not_eq_true', decide_eq_false_iff_not]
  constructor
  · intro z y
    obtain ⟨p, hp, e⟩ := List.mem_map.mp y
    exact z p.1 (by rw [← e]; exact hp)
  · intro z w y
    exact z (List.mem_map.mpr ⟨(w, h), y, rfl⟩)
theorem law_chosen_eq (H : Hou rows) (hn : rows.length ≤ 50) {s : List Nat} (q : Sq rows.length s) : f_law_chosen [.v (hallD rows), .v (tNs s)] st = .ok (.v (tNs (dOf rows.length (chs rows s [])))) st := by
  refine Out.Ok.is (fnT_ok ?_)
  unfold S_law_chosen
  simp only [envE, so_seq, so_if, so_ret, so_retN, so_exp, so_nil, so_nx, so_rt, so_asg, so_asgG, so_par2, so_par3, ok_gNm, ok_gMore, ok_gNone, so_asgT, so_sub, so_for, ok_TB, ok_Tru, ok_notT, ok_andT, ok_orT, ok_andV, ok_orV, ok_notV, ok_iteE, ok_frz, ok_new, ok_mfArg, ok_mfBin, ok_lc, ok_M, ok_M0, ok_moNone, ok_moSome, ok_Sl,
  ok_bin, ok_un, ok_arg, ok_cons, ok_nil, ok_call, ok_var, ok_C, ok_ok, ok_stuck, ok_noX, bOf_bool, low_v, iOf_int, addD_int, subD_int, negD_int, ltD_int, leD_int, gtD_int, geD_int, fInt_int, isD_bool, isNotD_bool, tru_bool, List.map_cons, List.map_nil, List.length_cons, List.length_nil, List.replicate_succ, List.replicate_zero, List.cons_append, List.nil_append,
  List.append_nil, List.getElem?_cons_zero, List.getElem?_cons_succ, List.set_cons_zero, List.set_cons_succ, Option.some.injEq, exists_eq_left', exists_eq_left, true_and, and_true, true_implies, false_implies, implies_true, Bool.false_eq_true, reduceCtorEq, false_and, and_false, D.v.injEq, PyData.int.injEq, D.ref.injEq, p1i_int, p2_two, p3_three, decide_true, Bool.not_true, Bool.not_false, decide_eq_true_eq, decide_eq_false_iff_not, ok_Dnew]
  unfold S_law_chosen_2 law_chosen_E2
  simp only [envE, so_seq, so_if, so_ret, so_retN, so_exp, so_nil, so_nx, so_rt, so_asg, so_asgG, so_par2, so_par3, ok_gNm, ok_gMore, ok_gNone, so_asgT, so_sub, so_for, ok_TB, ok_Tru, ok_notT, ok_andT, ok_orT, ok_andV, ok_orV, ok_notV, ok_iteE, ok_frz, ok_new, ok_mfArg, ok_mfBin, ok_lc, ok_M, ok_M0, ok_moNone, ok_moSome, ok_Sl,
  ok_bin, ok_un, ok_arg, ok_cons, ok_nil, ok_call, ok_var, ok_C, ok_ok, ok_stuck, ok_noX, bOf_bool, low_v, iOf_int, addD_int, subD_int, negD_int, ltD_int, leD_int, gtD_int, geD_int, fInt_int, isD_bool, isNotD_bool, tru_bool, List.map_cons, List.map_nil, List.length_cons, List.length_nil, List.replicate_succ, List.replicate_zero, List.cons_append, List.nil_append,
  List.append_nil, List.getElem?_cons_zero, List.getElem?_cons_succ, List.set_cons_zero, List.set_cons_succ, Option.some.injEq, exists_eq_left', exists_eq_left, true_and, and_true, true_implies, false_implies, implies_true, Bool.false_eq_true, reduceCtorEq, false_and, and_false, D.v.injEq, PyData.int.injEq, D.ref.injEq, p1i_int, p2_two, p3_three, decide_true, Bool.not_true, Bool.not_false, decide_eq_true_eq, decide_eq_false_iff_not, ok_seq, seqW_tup, List.map_map]
  refine forL_inv (fun i e t => t = st ++ [.dct false (heldK (chs rows (s.take i) []))] ∧ ∃ x3 x4, e = [some (.v (hallD rows)), some (.v (tNs s)), some (.ref st.length), x3, x4]) _ _ _ 0 ?_ ?_ ⟨rfl, _, _, rfl⟩
  · rintro i d e t hd ⟨rfl, x3, x4, rfl⟩
    rw [List.getElem?_map] at hd
    obtain ⟨x, hx, rfl⟩ := Option.map_eq_some_iff.mp hd
    have hil := (List.getElem?_eq_some_iff.mp hx).1
    have hxn := (q.mem x).mp (List.mem_of_getElem? hx)
    have hsl := q.len
    obtain ⟨f1, f2, f3, f4⟩ := upto_facts H q (i := i) (by omega)
    have hnew := upto_new q hx
    refine ⟨trivial, ?_⟩
    rw [Nat.zero_add, upto_step hx]
    generalize chs rows (s.take i) [] = F at f1 f2 f3 f4 ⊢
    have hT := free_ex f3 f4 (by omega)
    unfold law_chosen_G2 law_chosen_B1 law_chosen_E1
    show (gNm 3 (.one (.v (nI x))) _ _).Ok _
    simp only [envE, so_seq, so_if, so_ret, so_retN, so_exp, so_nil, so_nx, so_rt, so_asg, so_asgG, so_par2, so_par3, ok_gNm, ok_gMore, ok_gNone, so_asgT, so_sub, so_for, ok_TB, ok_Tru, ok_notT, ok_andT, ok_orT, ok_andV, ok_orV, ok_notV, ok_iteE, ok_frz, ok_new, ok_mfArg, ok_mfBin, ok_lc, ok_M, ok_M0, ok_moNone, ok_moSome, ok_Sl,
  ok_bin, ok_un, ok_arg, ok_cons, ok_nil, ok_call, ok_var, ok_C, ok_ok, ok_stuck, ok_noX, bOf_bool, low_v, iOf_int, addD_int, subD_int, negD_int, ltD_int, leD_int, gtD_int, geD_int, fInt_int, isD_bool, isNotD_bool, tru_bool, List.map_cons, List.map_nil, List.length_cons, List.length_nil, List.replicate_succ, List.replicate_zero, List.cons_append, List.nil_append,
  List.append_nil, List.getElem?_cons_zero, List.getElem?_cons_succ, List.set_cons_zero, List.set_cons_succ, Option.some.injEq, exists_eq_left', exists_eq_left, true_and, and_true, true_implies, false_implies, implies_true, Bool.false_eq_true, reduceCtorEq, false_and, and_false, D.v.injEq, PyData.int.injEq, D.ref.injEq, p1i_int, p2_two, p3_three, decide_true, Bool.not_true, Bool.not_false, decide_eq_true_eq, decide_eq_false_iff_not, hall1, hrow hxn, ok_seq, seqW_tup, List.map_map]
    rw [An.lcL_auto (fun h => !decide (h ∈ F.map (·.2))) nI]
    rotate_left
    · intro h hh
      unfold law_chosen_G1 law_chosen_T1 law_chosen_M1
      show (gNm 4 (.one (.v (nI h))) _ _).Ok _
      have hin : vIn true (.v (nI h)) (.ref st.length) (st ++ [.dct false (heldK F)]) = .ok (.v (.bool (!decide (h ∈ F.map (·.2))))) (st ++ [.dct false (heldK F)]) := by
        rw [vIn_held last_at, hold_val]
      simp only [envE, so_seq, so_if, so_ret, so_retN, so_exp, so_nil, so_nx, so_rt, so_asg, so_asgG, so_par2, so_par3, ok_gNm, ok_gMore, ok_gNone, so_asgT, so_sub, so_for, ok_TB, ok_Tru, ok_notT, ok_andT, ok_orT, ok_andV, ok_orV, ok_notV, ok_iteE, ok_frz, ok_new, ok_mfArg, ok_mfBin, ok_lc, ok_M, ok_M0, ok_moNone, ok_moSome, ok_Sl,
  ok_bin, ok_un, ok_arg, ok_cons, ok_nil, ok_call, ok_var, ok_C, ok_ok, ok_stuck, ok_noX, bOf_bool, low_v, iOf_int, addD_int, subD_int, negD_int, ltD_int, leD_int, gtD_int, geD_int, fInt_int, isD_bool, isNotD_bool, tru_bool, List.map_cons, List.map_nil, List.length_cons, List.length_nil, List.replicate_succ, List.replicate_zero, List.cons_append, List.nil_append,
  List.append_nil, List.getElem?_cons_zero, List.getElem?_cons_succ, List.set_cons_zero, List.set_cons_succ, Option.some.injEq, exists_eq_left', exists_eq_left, true_and, and_true, true_implies, false_implies, implies_true, Bool.false_eq_true, reduceCtorEq, false_and, and_false, D.v.injEq, PyData.int.injEq, D.ref.injEq, p1i_int, p2_two, p3_three, decide_true, Bool.not_true, Bool.not_false, decide_eq_true_eq, decide_eq_false_iff_not, wipeE, hin]
    rw [ok_ok, best_comp H hxn hT, ok_ok]
    have hlen : (heldK F).length < 1000000 := by unfold heldK; rw [List.length_map]; omega
    rw [set_dct last_at hlen, ok_ok, held_put (by rw [f1]; exact hnew), last_set]
    exact ⟨rfl, _, _, rfl⟩
  · rintro e t ⟨rfl, x3, x4, rfl⟩
    refine ⟨trivial, ?_⟩
    rw [Nat.zero_add, List.length_map, List.take_of_length_le (Nat.le_refl _)]
    obtain ⟨c1, c2, c3, c4⟩ := chs_all H q
    generalize hF : chs rows s [] = F at c1 c2 c3 c4 ⊢
    unfold S_law_chosen_3 law_chosen_E3 law_chosen_T2
    simp only [envE, so_seq, so_if, so_ret, so_retN, so_exp, so_nil, so_nx, so_rt, so_asg, so_asgG, so_par2, so_par3, ok_gNm, ok_gMore, ok_gNone, so_asgT, so_sub, so_for, ok_TB, ok_Tru, ok_notT, ok_andT, ok_orT, ok_andV, ok_orV, ok_notV, ok_iteE, ok_frz, ok_new, ok_mfArg, ok_mfBin, ok_lc, ok_M, ok_M0, ok_moNone, ok_moSome, ok_Sl,
  ok_bin, ok_un, ok_arg, ok_cons, ok_nil, ok_call, ok_var, ok_C, ok_ok, ok_stuck, ok_noX, bOf_bool, low_v, iOf_int, addD_int, subD_int, negD_int, ltD_int, leD_int, gtD_int, geD_int, fInt_int, isD_bool, isNotD_bool, tru_bool, List.map_cons, List.map_nil, List.length_cons, List.length_nil, List.replicate_succ, List.replicate_zero, List.cons_append, List.nil_append,
  List.append_nil, List.getElem?_cons_zero, List.getElem?_cons_succ, List.set_cons_zero, List.set_cons_succ, Option.some.injEq, exists_eq_left', exists_eq_left, true_and, and_true, true_implies, false_implies, implies_true, Bool.false_eq_true, reduceCtorEq, false_and, and_false, D.v.injEq, PyData.int.injEq, D.ref.injEq, p1i_int, p2_two, p3_three, decide_true, Bool.not_true, Bool.not_false, decide_eq_true_eq, decide_eq_false_iff_not, ok_R1, hall0]
    refine ⟨⟨by omega, by omega⟩, ?_⟩
    rw [Int.toNat_natCast, show rngI 0 rows.length = (List.range rows.length).map (fun i : Nat => Itm.one (.v (.int (0 + (i : Int))))) from rfl, lcL_all _ (fun a => nI (lk F a))]
    rotate_left
    · intro a ha
      have ha := List.mem_range.mp ha
      unfold law_chosen_G3 law_chosen_M2
      show (gNm 3 (.one (.v (.int (0 + (a : Int))))) _ _).Ok _
      have kn : (F.map (·.1)).Nodup := by rw [c1]; exact q.nd
      obtain ⟨p, hp, rfl⟩ := key_ex (F := F) (i := a) (by rw [c1]; exact (q.mem a).mpr ha)
      have hs : ∀ z : Int, z = (p.1 : Int) → subsD (.ref st.length) (.v (.int z)) (st ++ [.dct false (heldK F)]) = .ok (.v (nI (lk F p.1))) (st ++ [.dct false (heldK F)]) := fun z hz => by
        subst hz
        rw [lk_of kn hp]
        exact sub_dct last_at (held_at kn hp)
      simp only [envE, so_seq, so_if, so_ret, so_retN, so_exp, so_nil, so_nx, so_rt, so_asg, so_asgG, so_par2, so_par3, ok_gNm, ok_gMore, ok_gNone, so_asgT, so_sub, so_for, ok_TB, ok_Tru, ok_notT, ok_andT, ok_orT, ok_andV, ok_orV, ok_notV, ok_iteE, ok_frz, ok_new, ok_mfArg, ok_mfBin, ok_lc, ok_M, ok_M0, ok_moNone, ok_moSome, ok_Sl,
  ok_bin, ok_un, ok_arg, ok_cons, ok_nil, ok_call, ok_var, ok_C, ok_ok, ok_stuck, ok_noX, bOf_bool, low_v, iOf_int, addD_int, subD_int, negD_int, ltD_int, leD_int, gtD_int, geD_int, fInt_int, isD_bool, isNotD_bool, tru_bool, List.map_cons, List.map_nil, List.length_cons, List.length_nil, List.replicate_succ, List.replicate_zero, List.cons_append, List.nil_append,
  List.append_nil, List.getElem?_cons_zero, List.getElem?_cons_succ, List.set_cons_zero, List.set_cons_succ, Option.some.injEq, exists_eq_left', exists_eq_left, true_and, and_true, true_implies, false_implies, implies_true, Bool.false_eq_true, reduceCtorEq, false_and, and_false, D.v.injEq, PyData.int.injEq, D.ref.injEq, p1i_int, p2_two, p3_three, decide_true, Bool.not_true, Bool.not_false, decide_eq_true_eq, decide_eq_false_iff_not, wipeE, hs (0 + (p.1 : Int)) (by omega)]
    rw [ok_ok, tup_list, ok_ok]
    refine ⟨rfl, ?_, List.take_left⟩
    show D.v (.tuple _) = D.v (.tuple ((dOf rows.length F).map nI))
    unfold dOf
    rw [List.map_map]
    rfl
theorem at_sub (hi : i < d.length) : subsD (.v (tNs d)) (.v (nI i)) st = .ok (.v (nI (at' d i))) st := by
  refine sub_tup (k := i) ?_
  rw [List.getElem?_map, at_get hi]
  rfl
theorem index_rk (H : Hou rows) (hi : i < rows.length) (hh : h < rows.length) : fmIndex (.v (tNs (row rows i))) [.v (nI h)] st = .ok (.v (nI (rk rows i h))) st := index_tN ((H.mem hi).mpr hh)
def gns (rows : List (List Nat)) (d e : List Nat) : List Int := (List.range rows.length).map fun i => (rk rows i (at' d i) : Int) - (rk rows i (at' e i) : Int)
theorem gains_eq' (H : Hou rows) (hn : rows.length ≤ 50) (Dd : Dl rows.length d) (De : Dl rows.length e) : f_law_gains [.v (hallD rows), .v (tNs d), .v (tNs e)] st = .ok (.v (.list ((gns rows d e).map .int))) st := by
  refine Out.Ok.is (fnT_ok ?_)
  unfold S_law_gains law_gains_E1 law_gains_T1
  simp only [envE, so_seq, so_if, so_ret, so_retN, so_exp, so_nil, so_nx, so_rt, so_asg, so_asgG, so_par2, so_par3, ok_gNm, ok_gMore, ok_gNone, so_asgT, so_sub, so_for, ok_TB, ok_Tru, ok_notT, ok_andT, ok_orT, ok_andV, ok_orV, ok_notV, ok_iteE, ok_frz, ok_new, ok_mfArg, ok_mfBin, ok_lc, ok_M, ok_M0, ok_moNone, ok_moSome, ok_Sl,
  ok_bin, ok_un, ok_arg, ok_cons, ok_nil, ok_call, ok_var, ok_C, ok_ok, ok_stuck, ok_noX, bOf_bool, low_v, iOf_int, addD_int, subD_int, negD_int, ltD_int, leD_int, gtD_int, geD_int, fInt_int, isD_bool, isNotD_bool, tru_bool, List.map_cons, List.map_nil, List.length_cons, List.length_nil, List.replicate_succ, List.replicate_zero, List.cons_append, List.nil_append,
  List.append_nil, List.getElem?_cons_zero, List.getElem?_cons_succ, List.set_cons_zero, List.set_cons_succ, Option.some.injEq, exists_eq_left', exists_eq_left, true_and, and_true, true_implies, false_implies, implies_true, Bool.false_eq_true, reduceCtorEq, false_and, and_false, D.v.injEq, PyData.int.injEq, D.ref.injEq, p1i_int, p2_two, p3_three, decide_true, Bool.not_true, Bool.not_false, decide_eq_true_eq, decide_eq_false_iff_not, ok_R1, hall0]
  refine ⟨⟨by omega, by omega⟩, ?_⟩
  rw [Int.toNat_natCast, show rngI 0 rows.length = (List.range rows.length).map (fun i : Nat => Itm.one (.v (.int (0 + (i : Int))))) from rfl, lcL_all _ (fun i => PyData.int ((rk rows i (at' d i) : Int) - (rk rows i (at' e i) : Int)))]
  rotate_left
  · intro a ha
    have ha := List.mem_range.mp ha
    unfold law_gains_G1 law_gains_M1
    show (gNm 3 (.one (.v (.int (0 + (a : Int))))) _ _).Ok _
    rw [Int.zero_add]
    have hr : ∀ s, subsD (.v (rowsD rows)) (.v (.int (a : Int))) s = .ok (.v (tNs (row rows a))) s := fun s => hrow ha
    have h1 : ∀ s, subsD (.v (tNs d)) (.v (.int (a : Int))) s = .ok (.v (nI (at' d a))) s := fun s => at_sub (by rw [Dd.len]; exact ha)
    have h2 : ∀ s, subsD (.v (tNs e)) (.v (.int (a : Int))) s = .ok (.v (nI (at' e a))) s := fun s => at_sub (by rw [De.len]; exact ha)
    have i1 : ∀ s, fmIndex (.v (tNs (row rows a))) [.v (nI (at' d a))] s = .ok (.v (nI (rk rows a (at' d a)))) s := fun s => index_rk H ha (Dd.at_lt ha)
    have i2 : ∀ s, fmIndex (.v (tNs (row rows a))) [.v (nI (at' e a))] s = .ok (.v (nI (rk rows a (at' e a)))) s := fun s => index_rk H ha (De.at_lt ha)
    simp only [envE, so_seq, so_if, so_ret, so_retN, so_exp, so_nil, so_nx, so_rt, so_asg, so_asgG, so_par2, so_par3, ok_gNm, ok_gMore, ok_gNone, so_asgT, so_sub, so_for, ok_TB, ok_Tru, ok_notT, ok_andT, ok_orT, ok_andV, ok_orV, ok_notV, ok_iteE, ok_frz, ok_new, ok_mfArg, ok_mfBin, ok_lc, ok_M, ok_M0, ok_moNone, ok_moSome, ok_Sl,
  ok_bin, ok_un, ok_arg, ok_cons, ok_nil, ok_call, ok_var, ok_C, ok_ok, ok_stuck, ok_noX, bOf_bool, low_v, iOf_int, addD_int, subD_int, negD_int, ltD_int, leD_int, gtD_int, geD_int, fInt_int, isD_bool, isNotD_bool, tru_bool, List.map_cons, List.map_nil, List.length_cons, List.length_nil, List.replicate_succ, List.replicate_zero, List.cons_append, List.nil_append,
  List.append_nil, List.getElem?_cons_zero, List.getElem?_cons_succ, List.set_cons_zero, List.set_cons_succ, Option.some.injEq, exists_eq_left', exists_eq_left, true_and, and_true, true_implies, false_implies, implies_true, Bool.false_eq_true, reduceCtorEq, false_and, and_false, D.v.injEq, PyData.int.injEq, D.ref.injEq, p1i_int, p2_two, p3_three, decide_true, Bool.not_true, Bool.not_false, decide_eq_true_eq, decide_eq_false_iff_not, wipeE, hall1, hr, ok_Index, isT_tup, Bool.or_true, h1, h2, i1, i2]
  rw [ok_ok]
  refine ⟨?_, List.take_length⟩
  unfold gns
  rw [List.map_map]
  rfl
theorem rather_eq' (H : Hou rows) (hi : i < rows.length) (hh : h < rows.length) (hg : g < rows.length) : f_rather [.v (hallD rows), .v (nI i), .v (nI h), .v (nI g)] st = .ok (.v (.bool (decide (rk rows i h < rk rows i g)))) st := by
  refine Out.Ok.is (fnT_ok ?_)
  unfold S_rather S_rather_2
  have i1 : ∀ s, fmIndex (.v (tNs (row rows i))) [.v (nI h)] s = .ok (.v (nI (rk rows i h))) s := fun s => index_rk H hi hh
  have i2 : ∀ s, fmIndex (.v (tNs (row rows i))) [.v (nI g)] s = .ok (.v (nI (rk rows i g))) s := fun s => index_rk H hi hg
  simp only [envE, so_seq, so_if, so_ret, so_retN, so_exp, so_nil, so_nx, so_rt, so_asg, so_asgG, so_par2, so_par3, ok_gNm, ok_gMore, ok_gNone, so_asgT, so_sub, so_for, ok_TB, ok_Tru, ok_notT, ok_andT, ok_orT, ok_andV, ok_orV, ok_notV, ok_iteE, ok_frz, ok_new, ok_mfArg, ok_mfBin, ok_lc, ok_M, ok_M0, ok_moNone, ok_moSome, ok_Sl,
  ok_bin, ok_un, ok_arg, ok_cons, ok_nil, ok_call, ok_var, ok_C, ok_ok, ok_stuck, ok_noX, bOf_bool, low_v, iOf_int, addD_int, subD_int, negD_int, ltD_int, leD_int, gtD_int, geD_int, fInt_int, isD_bool, isNotD_bool, tru_bool, List.map_cons, List.map_nil, List.length_cons, List.length_nil, List.replicate_succ, List.replicate_zero, List.cons_append, List.nil_append,
  List.append_nil, List.getElem?_cons_zero, List.getElem?_cons_succ, List.set_cons_zero, List.set_cons_succ, Option.some.injEq, exists_eq_left', exists_eq_left, true_and, and_true, true_implies, false_implies, implies_true, Bool.false_eq_true, reduceCtorEq, false_and, and_false, D.v.injEq, PyData.int.injEq, D.ref.injEq, p1i_int, p2_two, p3_three, decide_true, Bool.not_true, Bool.not_false, decide_eq_true_eq, decide_eq_false_iff_not, hall1, hrow hi, ok_Index, isT_tup, Bool.or_true, i1, i2]
  refine ⟨?_, List.take_length⟩
  congr 1
  exact decide_eq_decide.mpr (by omega)
theorem ints_ofI : ∀ l : List Int, intsOf (l.map .int) = some l
  | [] => rfl
  | x :: r => by
    rw [List.map_cons]
    show (intsOf (r.map .int)).map _ = _
    rw [ints_ofI r]
    rfl
theorem min_eq {l : List Int} (ne : 0 < l.length) : fIntsL lstMin [.v (.list (l.map .int))] st = .ok (.v (.int (lstMin l))) st := by
  show (match intsOf (l.map .int) with
    | some ns => if 0 < ns.length then Out.ok (D.v (.int (lstMin ns))) st else .stuck
    | none => .stuck) = _
  rw [ints_ofI]
  exact if_pos ne
theorem max_eq {l : List Int} (ne : 0 < l.length) : fIntsL lstMax [.v (.list (l.map .int))] st = .ok (.v (.int (lstMax l))) st := by
  show (match intsOf (l.map .int) with
    | some ns => if 0 < ns.length then Out.ok (D.v (.int (lstMax ns))) st else .stuck
    | none => .stuck) = _
  rw [ints_ofI]
  exact if_pos ne
theorem min_nn : ∀ {l : List Int}, 0 < l.length → (0 ≤ lstMin l ↔ ∀ y ∈ l, 0 ≤ y)
  | [x], _ => by simp [lstMin]
  | x :: y :: r, _ => by
    have ih := min_nn (l := y :: r) (by simp)
    rw [lstMin]
    · constructor
      · intro h z hz
        rcases List.mem_cons.mp hz with rfl | hz
        · omega
        · exact ih.mp (by omega) z hz
      · intro h
        have h1 := h x (.head _)
        have h2 := ih.mpr fun z hz => h z (.tail _ hz)
        omega
    · simp
theorem max_pos : ∀ {l : List Int}, 0 < l.length → (0 < lstMax l ↔ ∃ y ∈ l, 0 < y)
  | [x], _ => by simp [lstMax]
  | x :: y :: r, _ => by
    have ih := max_pos (l := y :: r) (by simp)
    rw [lstMax]
    · constructor
      · intro h
        by_cases z : 0 < x
        · exact ⟨x, .head _, z⟩
        · obtain ⟨w, hw, h2⟩ := ih.mp (by omega)
          exact ⟨w, .tail _ hw, h2⟩
      · rintro ⟨z, hz, h⟩
        rcases List.mem_cons.mp hz with rfl | hz
        · omega
        · have := ih.mpr ⟨z, hz, h⟩
          omega
    · simp
theorem gns_len : (gns rows d e).length = rows.length := by unfold gns; rw [List.length_map, List.length_range]
theorem gns_nn : (∀ y ∈ gns rows d e, 0 ≤ y) ↔ ∀ i, i < rows.length → rk rows i (at' e i) ≤ rk rows i (at' d i) := by
  unfold gns
  constructor
  · intro h i hi
    have := h _ (List.mem_map.mpr ⟨i, List.mem_range.mpr hi, rfl⟩)
    omega
  · intro h y hy
    obtain ⟨i, hi, rfl⟩ := List.mem_map.mp hy
    have := h i (List.mem_range.mp hi)
    omega
theorem gns_pos : (∃ y ∈ gns rows d e, 0 < y) ↔ ∃ i, i < rows.length ∧ rk rows i (at' e i) < rk rows i (at' d i) := by
  unfold gns
  constructor
  · rintro ⟨y, hy, h⟩
    obtain ⟨i, hi, rfl⟩ := List.mem_map.mp hy
    exact ⟨i, List.mem_range.mp hi, by omega⟩
  · rintro ⟨i, hi, h⟩
    exact ⟨_, List.mem_map.mpr ⟨i, List.mem_range.mpr hi, rfl⟩, by omega⟩
theorem btr_iff (H : Hou rows) : Btr rows d e ↔ 0 ≤ lstMin (gns rows d e) ∧ 0 < lstMax (gns rows d e) := by
  have hl : 0 < (gns rows d e).length := by rw [gns_len]; exact H.pos
  rw [min_nn hl, max_pos hl, gns_nn, gns_pos]
  exact Iff.rfl
end
end Wk37
namespace Wk37
open PySem PySem.Spec PyProof.Rows L2 Fw Fw.Hl Fw.Ho Fw.Da Fw.Aq Fw.Tl
section
variable {rows : List (List Nat)} {n i j h g k : Nat} {d e w S : List Nat} {F : List (Nat × Nat)} {st : Sto}
structure Go (rows : List (List Nat)) (d s : List Nat) : Prop where
  nd : s.Nodup
  lt : ∀ i ∈ s, i < rows.length
  eq : chs rows s [] = s.map fun i => (i, at' d i)
theorem Go.len (g : Go rows d S) : S.length ≤ rows.length := by
  have := sub_len g.nd (m := List.range rows.length) fun x hx => List.mem_range.mpr (g.lt x hx)
  rwa [List.length_range] at this
theorem Go.end (H : Hou rows) (Dd : Dl rows.length d) (g : Go rows d S) (hl : ¬ S.length < rows.length) : Sq rows.length S ∧ dOf rows.length (chs rows S []) = d := by
  have hm : ∀ i, i ∈ S ↔ i < rows.length := fun i => by
    refine ⟨g.lt i, fun hi => Classical.byContradiction fun z => ?_⟩
    have := sub_len (l := i :: S) (m := List.range rows.length) (List.nodup_cons.mpr ⟨z, g.nd⟩) fun x hx => by
      rcases List.mem_cons.mp hx with rfl | hx
      · exact List.mem_range.mpr hi
      · exact List.mem_range.mpr (g.lt x hx)
    rw [List.length_range, List.length_cons] at this
    omega
  have q : Sq rows.length S := ⟨g.nd, hm⟩
  obtain ⟨k, v1, v2, D2⟩ := chs_all H q
  refine ⟨q, D2.ext Dd fun i hi => ?_⟩
  rw [dOf_at hi]
  have hp : (i, at' d i) ∈ chs rows S [] := by rw [g.eq]; exact List.mem_map.mpr ⟨i, (hm i).mpr hi, rfl⟩
  exact lk_of (by rw [k]; exact g.nd) hp
theorem seq_ok (H : Hou rows) (hn : rows.length ≤ 50) (Dd : Dl rows.length d) : (f_sequence_of [.v (hallD rows), .v (tNs d)] st).Ok fun r t => t = st ∧ ((r = .v .none ∧ ∃ e, Dl rows.length e ∧ Btr rows d e) ∨ ∃ s, r = .v (tNs s) ∧ Sq rows.length s ∧ dOf rows.length (chs rows s []) = d) := by
  refine fnT_ok ?_
  unfold S_sequence_of
  simp only [envE, so_seq, so_if, so_ret, so_retN, so_exp, so_nil, so_nx, so_rt, so_asg, so_asgG, so_par2, so_par3, ok_gNm, ok_gMore, ok_gNone, so_asgT, so_sub, so_for, ok_TB, ok_Tru, ok_notT, ok_andT, ok_orT, ok_andV, ok_orV, ok_notV, ok_iteE, ok_frz, ok_new, ok_mfArg, ok_mfBin, ok_lc, ok_M, ok_M0, ok_moNone, ok_moSome, ok_Sl,
  ok_bin, ok_un, ok_arg, ok_cons, ok_nil, ok_call, ok_var, ok_C, ok_ok, ok_stuck, ok_noX, bOf_bool, low_v, iOf_int, addD_int, subD_int, negD_int, ltD_int, leD_int, gtD_int, geD_int, fInt_int, isD_bool, isNotD_bool, tru_bool, List.map_cons, List.map_nil, List.length_cons, List.length_nil, List.replicate_succ, List.replicate_zero, List.cons_append, List.nil_append,
  List.append_nil, List.getElem?_cons_zero, List.getElem?_cons_succ, List.set_cons_zero, List.set_cons_succ, Option.some.injEq, exists_eq_left', exists_eq_left, true_and, and_true, true_implies, false_implies, implies_true, Bool.false_eq_true, reduceCtorEq, false_and, and_false, D.v.injEq, PyData.int.injEq, D.ref.injEq, p1i_int, p2_two, p3_three, decide_true, Bool.not_true, Bool.not_false, decide_eq_true_eq, decide_eq_false_iff_not, disp0, hall0, ok_Rg1]
  refine ⟨rg_ok hn, ?_⟩
  have hl0 : (List.range rows.length).map nI = (lft rows.length []).map nI := by
    unfold lft
    rw [List.filter_eq_self.mpr (by simp)]
  rw [rg_nats, hl0, two_len]
  refine ⟨by decide, ?_⟩
  unfold S_sequence_of_2
  rw [so_seq]
  refine whileL_inv (fun k e t => ∃ s, k = rows.length - s.length ∧ Go rows d s ∧ t = st ++ [.lst (s.map nI)] ++ [.lst ((lft rows.length (s.map (at' d))).map nI)] ∧ ∃ x4 x5 x6, e = [some (.v (hallD rows)), some (.v (tNs d)), some (.ref st.length), some (.ref (st.length + 1)), x4, x5, x6]) ?_ 1000000 (rows.length - 0) _ _ (by omega) ⟨[], rfl, ⟨List.nodup_nil, (fun _ z => nomatch z), rfl⟩, rfl, _, _, _, rfl⟩
  rintro k env t ⟨s, rfl, g, rfl, x4, x5, x6, rfl⟩
  have gl := g.len
  unfold sequence_of_T3
  have hfl : ∀ t, t = st ++ [O.lst (s.map nI)] ++ [O.lst ((lft rows.length (s.map (at' d))).map nI)] → fLen [.ref st.length] t = .ok (.v (nI s.length)) t := fun t ht => by
    subst ht
    rw [len_of (viewS_ref two_at0), List.length_map]
  simp only [envE, so_seq, so_if, so_ret, so_retN, so_exp, so_nil, so_nx, so_rt, so_asg, so_asgG, so_par2, so_par3, ok_gNm, ok_gMore, ok_gNone, so_asgT, so_sub, so_for, ok_TB, ok_Tru, ok_notT, ok_andT, ok_orT, ok_andV, ok_orV, ok_notV, ok_iteE, ok_frz, ok_new, ok_mfArg, ok_mfBin, ok_lc, ok_M, ok_M0, ok_moNone, ok_moSome, ok_Sl,
  ok_bin, ok_un, ok_arg, ok_cons, ok_nil, ok_call, ok_var, ok_C, ok_ok, ok_stuck, ok_noX, bOf_bool, low_v, iOf_int, addD_int, subD_int, negD_int, ltD_int, leD_int, gtD_int, geD_int, fInt_int, isD_bool, isNotD_bool, tru_bool, List.map_cons, List.map_nil, List.length_cons, List.length_nil, List.replicate_succ, List.replicate_zero, List.cons_append, List.nil_append,
  List.append_nil, List.getElem?_cons_zero, List.getElem?_cons_succ, List.set_cons_zero, List.set_cons_succ, Option.some.injEq, exists_eq_left', exists_eq_left, true_and, and_true, true_implies, false_implies, implies_true, Bool.false_eq_true, reduceCtorEq, false_and, and_false, D.v.injEq, PyData.int.injEq, D.ref.injEq, p1i_int, p2_two, p3_three, decide_true, Bool.not_true, Bool.not_false, decide_eq_true_eq, decide_eq_false_iff_not, hfl _ rfl, hall0]
  refine ⟨fun hlt => ?_, fun hlt => ?_⟩
  · have hlt : s.length < rows.length := by omega
    have hT : ∃ h, h < rows.length ∧ ¬ h ∈ s.map (at' d) := by
      refine Classical.byContradiction fun z => ?_
      have := sub_len (l := List.range rows.length) (m := s.map (at' d)) List.nodup_range fun x hx => Classical.byContradiction fun y => z ⟨x, List.mem_range.mp hx, y⟩
      rw [List.length_range, List.length_map] at this
      omega
    unfold sequence_of_B1 sequence_of_E2
    simp only [envE, so_seq, so_if, so_ret, so_retN, so_exp, so_nil, so_nx, so_rt, so_asg, so_asgG, so_par2, so_par3, ok_gNm, ok_gMore, ok_gNone, so_asgT, so_sub, so_for, ok_TB, ok_Tru, ok_notT, ok_andT, ok_orT, ok_andV, ok_orV, ok_notV, ok_iteE, ok_frz, ok_new, ok_mfArg, ok_mfBin, ok_lc, ok_M, ok_M0, ok_moNone, ok_moSome, ok_Sl,
  ok_bin, ok_un, ok_arg, ok_cons, ok_nil, ok_call, ok_var, ok_C, ok_ok, ok_stuck, ok_noX, bOf_bool, low_v, iOf_int, addD_int, subD_int, negD_int, ltD_int, leD_int, gtD_int, geD_int, fInt_int, isD_bool, isNotD_bool, tru_bool, List.map_cons, List.map_nil, List.length_cons, List.length_nil, List.replicate_succ, List.replicate_zero, List.cons_append, List.nil_append,
  List.append_nil, List.getElem?_cons_zero, List.getElem?_cons_succ, List.set_cons_zero, List.set_cons_succ, Option.some.injEq, exists_eq_left', exists_eq_left, true_and, and_true, true_implies, false_implies, implies_true, Bool.false_eq_true, reduceCtorEq, false_and, and_false, D.v.injEq, PyData.int.injEq, D.ref.injEq, p1i_int, p2_two, p3_three, decide_true, Bool.not_true, Bool.not_false, decide_eq_true_eq, decide_eq_false_iff_not, ok_R1, hall0]
    refine ⟨⟨by omega, by omega⟩, ?_⟩
    rw [Int.toNat_natCast, show rngI 0 rows.length = (List.range rows.length).map (fun i : Nat => Itm.one (.v (.int (0 + (i : Int))))) from rfl]
    rw [An.lcL_auto (fun i => !decide (i ∈ s) && decide (at' d i = bst rows i (s.map (at' d)))) nI]
    rotate_left
    · intro a ha
      have ha := List.mem_range.mp ha
      unfold sequence_of_G2 sequence_of_T2 sequence_of_M2
      show (gNm 5 (.one (.v (.int (0 + (a : Int))))) _ _).Ok _
      rw [Int.zero_add]
      have hin : ∀ t, t = st ++ [O.lst (s.map nI)] ++ [O.lst ((lft rows.length (s.map (at' d))).map nI)] → notInU (.v (.int (a : Int))) (.ref st.length) t = .ok (.v (.bool (!decide (a ∈ s)))) t := fun t ht => by
        subst ht
        exact (in_lst (h := a) two_at0).2
      have h1 : ∀ t, subsD (.v (tNs d)) (.v (.int (a : Int))) t = .ok (.v (nI (at' d a))) t := fun t => at_sub (by rw [Dd.len]; exact ha)
      have h2 : ∀ t, subsD (.v (rowsD rows)) (.v (.int (a : Int))) t = .ok (.v (tNs (row rows a))) t := fun t => hrow ha
      unfold sequence_of_E1
      simp only [envE, so_seq, so_if, so_ret, so_retN, so_exp, so_nil, so_nx, so_rt, so_asg, so_asgG, so_par2, so_par3, ok_gNm, ok_gMore, ok_gNone, so_asgT, so_sub, so_for, ok_TB, ok_Tru, ok_notT, ok_andT, ok_orT, ok_andV, ok_orV, ok_notV, ok_iteE, ok_frz, ok_new, ok_mfArg, ok_mfBin, ok_lc, ok_M, ok_M0, ok_moNone, ok_moSome, ok_Sl,
  ok_bin, ok_un, ok_arg, ok_cons, ok_nil, ok_call, ok_var, ok_C, ok_ok, ok_stuck, ok_noX, bOf_bool, low_v, iOf_int, addD_int, subD_int, negD_int, ltD_int, leD_int, gtD_int, geD_int, fInt_int, isD_bool, isNotD_bool, tru_bool, List.map_cons, List.map_nil, List.length_cons, List.length_nil, List.replicate_succ, List.replicate_zero, List.cons_append, List.nil_append,
  List.append_nil, List.getElem?_cons_zero, List.getElem?_cons_succ, List.set_cons_zero, List.set_cons_succ, Option.some.injEq, exists_eq_left', exists_eq_left, true_and, and_true, true_implies, false_implies, implies_true, Bool.false_eq_true, reduceCtorEq, false_and, and_false, D.v.injEq, PyData.int.injEq, D.ref.injEq, p1i_int, p2_two, p3_three, decide_true, Bool.not_true, Bool.not_false, decide_eq_true_eq, decide_eq_false_iff_not, wipeE, hin _ rfl, h1, hall1, h2, ok_seq, seqW_tup, List.map_map]
      rw [An.lcL_auto (fun h => decide (h ∈ lft rows.length (s.map (at' d)))) nI]
      rotate_left
      · intro h hh
        unfold sequence_of_G1 sequence_of_T1 sequence_of_M1
        show (gNm 6 (.one (.v (nI h))) _ _).Ok _
        have hin : ∀ t, t = st ++ [O.lst (s.map nI)] ++ [O.lst ((lft rows.length (s.map (at' d))).map nI)] → inU (.v (nI h)) (.ref (st.length + 1)) t = .ok (.v (.bool (decide (h ∈ lft rows.length (s.map (at' d)))))) t := fun t ht => by
          subst ht
          exact (in_lst (h := h) two_at1).1
        simp only [envE, so_seq, so_if, so_ret, so_retN, so_exp, so_nil, so_nx, so_rt, so_asg, so_asgG, so_par2, so_par3, ok_gNm, ok_gMore, ok_gNone, so_asgT, so_sub, so_for, ok_TB, ok_Tru, ok_notT, ok_andT, ok_orT, ok_andV, ok_orV, ok_notV, ok_iteE, ok_frz, ok_new, ok_mfArg, ok_mfBin, ok_lc, ok_M, ok_M0, ok_moNone, ok_moSome, ok_Sl,
  ok_bin, ok_un, ok_arg, ok_cons, ok_nil, ok_call, ok_var, ok_C, ok_ok, ok_stuck, ok_noX, bOf_bool, low_v, iOf_int, addD_int, subD_int, negD_int, ltD_int, leD_int, gtD_int, geD_int, fInt_int, isD_bool, isNotD_bool, tru_bool, List.map_cons, List.map_nil, List.length_cons, List.length_nil, List.replicate_succ, List.replicate_zero, List.cons_append, List.nil_append,
  List.append_nil, List.getElem?_cons_zero, List.getElem?_cons_succ, List.set_cons_zero, List.set_cons_succ, Option.some.injEq, exists_eq_left', exists_eq_left, true_and, and_true, true_implies, false_implies, implies_true, Bool.false_eq_true, reduceCtorEq, false_and, and_false, D.v.injEq, PyData.int.injEq, D.ref.injEq, p1i_int, p2_two, p3_three, decide_true, Bool.not_true, Bool.not_false, decide_eq_true_eq, decide_eq_false_iff_not, wipeE, hin _ rfl]
      rw [ok_ok, filter_lft H ha, best_comp H ha hT, ok_ok, eqD_int, ok_ok]
      by_cases hm : a ∈ s
      · simp [hm]
      · simp [hm]
        omega
    rw [ok_ok]
    have hsm : ∀ {i}, i ∈ (List.range rows.length).filter (fun i => !decide (i ∈ s) && decide (at' d i = bst rows i (s.map (at' d)))) ↔ i < rows.length ∧ ¬ i ∈ s ∧ at' d i = bst rows i (s.map (at' d)) := fun {i} => by
      rw [List.mem_filter, List.mem_range, Bool.and_eq_true, Bool.not_eq_true', decide_eq_false_iff_not, decide_eq_true_eq]
    generalize (List.range rows.length).filter (fun i => !decide (i ∈ s) && decide (at' d i = bst rows i (s.map (at' d)))) = some' at hsm ⊢
    unfold sequence_of_B1_2
    have he : ∀ t, eqD (.v (lNs some')) (.v (.list [])) t = .ok (.v (.bool (decide (some' = [])))) t := fun t => by
      rw [eq_nilL (shaped_nats _)]
      cases some' <;> rfl
    simp only [envE, so_seq, so_if, so_ret, so_retN, so_exp, so_nil, so_nx, so_rt, so_asg, so_asgG, so_par2, so_par3, ok_gNm, ok_gMore, ok_gNone, so_asgT, so_sub, so_for, ok_TB, ok_Tru, ok_notT, ok_andT, ok_orT, ok_andV, ok_orV, ok_notV, ok_iteE, ok_frz, ok_new, ok_mfArg, ok_mfBin, ok_lc, ok_M, ok_M0, ok_moNone, ok_moSome, ok_Sl,
  ok_bin, ok_un, ok_arg, ok_cons, ok_nil, ok_call, ok_var, ok_C, ok_ok, ok_stuck, ok_noX, bOf_bool, low_v, iOf_int, addD_int, subD_int, negD_int, ltD_int, leD_int, gtD_int, geD_int, fInt_int, isD_bool, isNotD_bool, tru_bool, List.map_cons, List.map_nil, List.length_cons, List.length_nil, List.replicate_succ, List.replicate_zero, List.cons_append, List.nil_append,
  List.append_nil, List.getElem?_cons_zero, List.getElem?_cons_succ, List.set_cons_zero, List.set_cons_succ, Option.some.injEq, exists_eq_left', exists_eq_left, true_and, and_true, true_implies, false_implies, implies_true, Bool.false_eq_true, reduceCtorEq, false_and, and_false, D.v.injEq, PyData.int.injEq, D.ref.injEq, p1i_int, p2_two, p3_three, decide_true, Bool.not_true, Bool.not_false, decide_eq_true_eq, decide_eq_false_iff_not, disp0, he]
    refine ⟨fun hs => ?_, fun hs => ?_⟩
    · subst hs
      refine ⟨two_take, .inl (stuck_btr H Dd g.nd g.lt hlt fun i hi hik z => ?_)⟩
      have := hsm.mpr ⟨hi, hik, z⟩
      cases this
    · cases some' with
      | nil => exact absurd rfl hs
      | cons x r =>
        obtain ⟨x1, x2, x3⟩ := hsm.mp (.head _)
        have s0 : ∀ t, subsD (.v (.list (nI x :: List.map nI r))) (.v (.int 0)) t = .ok (.v (nI x)) t := fun t => sub_list (k := 0) rfl
        have hxd : at' d x ∈ lft rows.length (s.map (at' d)) := by
          rw [x3]
          obtain ⟨b1, b2, _⟩ := bst_ok H x1 hT
          exact mem_lft.mpr ⟨b1, b2⟩
        unfold sequence_of_B1_3
        simp only [envE, so_seq, so_if, so_ret, so_retN, so_exp, so_nil, so_nx, so_rt, so_asg, so_asgG, so_par2, so_par3, ok_gNm, ok_gMore, ok_gNone, so_asgT, so_sub, so_for, ok_TB, ok_Tru, ok_notT, ok_andT, ok_orT, ok_andV, ok_orV, ok_notV, ok_iteE, ok_frz, ok_new, ok_mfArg, ok_mfBin, ok_lc, ok_M, ok_M0, ok_moNone, ok_moSome, ok_Sl,
  ok_bin, ok_un, ok_arg, ok_cons, ok_nil, ok_call, ok_var, ok_C, ok_ok, ok_stuck, ok_noX, bOf_bool, low_v, iOf_int, addD_int, subD_int, negD_int, ltD_int, leD_int, gtD_int, geD_int, fInt_int, isD_bool, isNotD_bool, tru_bool, List.map_cons, List.map_nil, List.length_cons, List.length_nil, List.replicate_succ, List.replicate_zero, List.cons_append, List.nil_append,
  List.append_nil, List.getElem?_cons_zero, List.getElem?_cons_succ, List.set_cons_zero, List.set_cons_succ, Option.some.injEq, exists_eq_left', exists_eq_left, true_and, and_true, true_implies, false_implies, implies_true, Bool.false_eq_true, reduceCtorEq, false_and, and_false, D.v.injEq, PyData.int.injEq, D.ref.injEq, p1i_int, p2_two, p3_three, decide_true, Bool.not_true, Bool.not_false, decide_eq_true_eq, decide_eq_false_iff_not, s0]
        refine ⟨isL_ref two_at0, ?_⟩
        rw [Fw.append_at two_at0 (by rw [List.length_map]; omega), ok_ok, two_set0]
        have h1 : ∀ t, subsD (.v (tNs d)) (.v (nI x)) t = .ok (.v (nI (at' d x))) t := fun t => at_sub (by rw [Dd.len]; exact x1)
        unfold sequence_of_B1_4
        simp only [envE, so_seq, so_if, so_ret, so_retN, so_exp, so_nil, so_nx, so_rt, so_asg, so_asgG, so_par2, so_par3, ok_gNm, ok_gMore, ok_gNone, so_asgT, so_sub, so_for, ok_TB, ok_Tru, ok_notT, ok_andT, ok_orT, ok_andV, ok_orV, ok_notV, ok_iteE, ok_frz, ok_new, ok_mfArg, ok_mfBin, ok_lc, ok_M, ok_M0, ok_moNone, ok_moSome, ok_Sl,
  ok_bin, ok_un, ok_arg, ok_cons, ok_nil, ok_call, ok_var, ok_C, ok_ok, ok_stuck, ok_noX, bOf_bool, low_v, iOf_int, addD_int, subD_int, negD_int, ltD_int, leD_int, gtD_int, geD_int, fInt_int, isD_bool, isNotD_bool, tru_bool, List.map_cons, List.map_nil, List.length_cons, List.length_nil, List.replicate_succ, List.replicate_zero, List.cons_append, List.nil_append,
  List.append_nil, List.getElem?_cons_zero, List.getElem?_cons_succ, List.set_cons_zero, List.set_cons_succ, Option.some.injEq, exists_eq_left', exists_eq_left, true_and, and_true, true_implies, false_implies, implies_true, Bool.false_eq_true, reduceCtorEq, false_and, and_false, D.v.injEq, PyData.int.injEq, D.ref.injEq, p1i_int, p2_two, p3_three, decide_true, Bool.not_true, Bool.not_false, decide_eq_true_eq, decide_eq_false_iff_not, s0, h1]
        refine ⟨isL_ref two_at1, ?_⟩
        rw [remove_at two_at1 hxd, ok_ok, two_set1, erase_lft hxd]
        refine ⟨rows.length - (s ++ [x]).length, by rw [List.length_append]; show rows.length - (s.length + 1) < _; omega, s ++ [x], rfl, ⟨?_, fun i hi => ?_, ?_⟩, by rw [List.map_append, List.map_append]; rfl, _, _, _, rfl⟩
        · refine List.nodup_append.mpr ⟨g.nd, List.pairwise_singleton _ _, fun a ha b hb e => x2 ?_⟩
          rw [← List.mem_singleton.mp hb, ← e]
          exact ha
        · rcases List.mem_append.mp hi with z | z
          · exact g.lt i z
          · rw [List.mem_singleton.mp z]; exact x1
        · rw [chs_app, g.eq, List.map_append]
          show s.map _ ++ [(x, bst rows x ((s.map fun i => (i, at' d i)).map (·.2)))] = _
          rw [List.map_map, show ((fun p : Nat × Nat => p.2) ∘ fun i => (i, at' d i)) = at' d from rfl, ← x3]
          rfl
  · have hlt : ¬ s.length < rows.length := by omega
    obtain ⟨q, e⟩ := g.end H Dd hlt
    unfold S_sequence_of_3
    simp only [envE, so_seq, so_if, so_ret, so_retN, so_exp, so_nil, so_nx, so_rt, so_asg, so_asgG, so_par2, so_par3, ok_gNm, ok_gMore, ok_gNone, so_asgT, so_sub, so_for, ok_TB, ok_Tru, ok_notT, ok_andT, ok_orT, ok_andV, ok_orV, ok_notV, ok_iteE, ok_frz, ok_new, ok_mfArg, ok_mfBin, ok_lc, ok_M, ok_M0, ok_moNone, ok_moSome, ok_Sl,
  ok_bin, ok_un, ok_arg, ok_cons, ok_nil, ok_call, ok_var, ok_C, ok_ok, ok_stuck, ok_noX, bOf_bool, low_v, iOf_int, addD_int, subD_int, negD_int, ltD_int, leD_int, gtD_int, geD_int, fInt_int, isD_bool, isNotD_bool, tru_bool, List.map_cons, List.map_nil, List.length_cons, List.length_nil, List.replicate_succ, List.replicate_zero, List.cons_append, List.nil_append,
  List.append_nil, List.getElem?_cons_zero, List.getElem?_cons_succ, List.set_cons_zero, List.set_cons_succ, Option.some.injEq, exists_eq_left', exists_eq_left, true_and, and_true, true_implies, false_implies, implies_true, Bool.false_eq_true, reduceCtorEq, false_and, and_false, D.v.injEq, PyData.int.injEq, D.ref.injEq, p1i_int, p2_two, p3_three, decide_true, Bool.not_true, Bool.not_false, decide_eq_true_eq, decide_eq_false_iff_not, tup_of two_at0, two_take]
    exact .inr ⟨s, rfl, q, e⟩
end
end Wk37
namespace Wk37
open PySem PySem.Spec PyProof.Rows L2 Fw Fw.Hl Fw.Ho Fw.Da Fw.Aq Fw.Tl
section
variable {rows : List (List Nat)} {n i j h g k start : Nat} {d e w S : List Nat} {F : List (Nat × Nat)} {st : Sto}
def ownL (d : List Nat) : List (Nat × Nat) := d.zipIdx
theorem ownL_keys : (ownL d).map (·.1) = d := List.zipIdx_map_fst 0 d
theorem ownL_at (Dd : Dl n d) (hh : h < n) : getK false (heldK (ownL d)) (nI h) = some (.v (nI (own d h))) := by
  obtain ⟨o1, o2⟩ := own_at Dd hh
  have hm : (h, own d h) ∈ ownL d := by
    refine List.mem_zipIdx_iff_getElem?.mpr ?_
    have := at_get (d := d) (i := own d h) (by rw [Dd.len]; exact o1)
    rw [o2] at this
    exact this
  exact held_at (by rw [ownL_keys]; exact Dd.nd) hm
structure Way (rows : List (List Nat)) (d : List Nat) (start : Nat) (S w : List Nat) : Prop where
  hd : w.head? = some start
  nd : w.Nodup
  sub : ∀ i ∈ w, i ∈ S
  edge : ∀ k a b, w[k]? = some a → w[k + 1]? = some b → Edge rows d a b
theorem Way.mono {T : List Nat} (y : Way rows d start S w) (h : ∀ i ∈ S, i ∈ T) : Way rows d start T w := ⟨y.hd, y.nd, fun i hi => h i (y.sub i hi), y.edge⟩
theorem Way.ne (y : Way rows d start S w) : w ≠ [] := fun z => by have := y.hd; rw [z] at this; cases this
theorem last_get {w : List Nat} {l : Nat} (h : w.getLast? = some l) : w[w.length - 1]? = some l := by rw [← List.getLast?_eq_getElem?]; exact h
theorem Way.more {l x : Nat} (y : Way rows d start S w) (hl : w.getLast? = some l) (hx : ¬ x ∈ S) (e : Edge rows d l x) : Way rows d start (S ++ [x]) (w ++ [x]) := by
  have hne := y.ne
  refine ⟨?_, ?_, fun i hi => ?_, fun k a b ha hb => ?_⟩
  · cases w with
    | nil => exact absurd rfl hne
    | cons a r => exact y.hd
  · refine List.nodup_append.mpr ⟨y.nd, List.pairwise_singleton _ _, fun a ha b hb e => hx ?_⟩
    rw [← List.mem_singleton.mp hb, ← e]
    exact y.sub a ha
  · rcases List.mem_append.mp hi with z | z
    · exact List.mem_append_left _ (y.sub i z)
    · exact List.mem_append_right _ z
  · by_cases hk : k + 1 < w.length
    · rw [List.getElem?_append_left (by omega)] at ha
      rw [List.getElem?_append_left hk] at hb
      exact y.edge k a b ha hb
    · have hb2 := (List.getElem?_eq_some_iff.mp hb).1
      rw [List.length_append, List.length_singleton] at hb2
      have hk2 : k = w.length - 1 := by omega
      rw [List.getElem?_append_left (by omega), hk2, last_get hl] at ha
      rw [List.getElem?_append_right (by omega), show k + 1 - w.length = 0 by omega] at hb
      have h1 : l = a := Option.some.inj ha
      have h2 : x = b := Option.some.inj hb
      rw [← h1, ← h2]
      exact e
theorem Way.ring {l : Nat} (y : Way rows d start S w) (lt : ∀ i ∈ S, i < rows.length) (hl : w.getLast? = some l) (e : Edge rows d l start) : Ring rows d w := by
  refine ⟨y.ne, y.nd, fun i hi => lt i (y.sub i hi), fun i hi => ?_⟩
  have h1 := List.idxOf_lt_length_of_mem hi
  have h2 : w[w.idxOf i]? = some i := by rw [List.getElem?_eq_getElem h1, List.getElem_idxOf h1]
  unfold nxtW
  by_cases hk : w.idxOf i + 1 < w.length
  · have h3 : (w.tail ++ w.take 1)[w.idxOf i]? = w[w.idxOf i + 1]? := by
      rw [List.getElem?_append_left (by rw [List.length_tail]; omega), List.getElem?_tail]
    have h4 := at_get (d := w.tail ++ w.take 1) (i := w.idxOf i) (by rw [(rot_perm w).length_eq]; exact h1)
    rw [h3] at h4
    exact y.edge _ _ _ h2 h4
  · have hi2 : w.idxOf i = w.length - 1 := by omega
    have h5 := last_get hl
    rw [← hi2, h2] at h5
    have h6 : i = l := Option.some.inj h5
    have h4 : at' (w.tail ++ w.take 1) (w.idxOf i) = start := by
      have h4 := at_get (d := w.tail ++ w.take 1) (i := w.idxOf i) (by rw [(rot_perm w).length_eq]; exact h1)
      rw [List.getElem?_append_right (by rw [List.length_tail]; omega), List.length_tail, show w.idxOf i - (w.length - 1) = 0 by omega] at h4
      cases w with
      | nil => exact absurd rfl y.ne
      | cons a r =>
        have e1 : some a = some start := y.hd
        have e2 : some a = some _ := h4
        rw [e1] at e2
        exact (Option.some.inj e2).symm
    rw [h4, h6]
    exact e
structure Look (rows : List (List Nat)) (d : List Nat) (start : Nat) (W : List (List Nat)) (S : List Nat) : Prop where
  nd : S.Nodup
  st : start ∈ S
  lt : ∀ i ∈ S, i < rows.length
  way : ∀ w ∈ W, Way rows d start S w
theorem Look.len (l : Look rows d start W S) : S.length ≤ rows.length := by
  have := sub_len l.nd (m := List.range rows.length) fun x hx => List.mem_range.mpr (l.lt x hx)
  rwa [List.length_range] at this
theorem pop_front {zs : List PyData} {z : PyData} {m : Nat} (h : st[m]? = some (.lst (z :: zs))) (hl : (z :: zs).length ≤ 1000000) : fmPopAt (.ref m) [.v (.int 0)] st = .ok (.v z) (st.set m (.lst zs)) := pop_at (k := 0) h (by simp) hl
theorem way_ok {o : Nat} (H : Hou rows) (hn : rows.length ≤ 50) (Dd : Dl rows.length d) (hs : start < rows.length) (ho : ∀ more : Sto, (st ++ more)[o]? = some (.dct false (heldK (ownL d)))) :
    (f_way_round [.v (hallD rows), .v (tNs d), .ref o, .v (nI start)] st).Ok fun r t => t = st ∧ ((∃ w, r = .v (lNs w) ∧ Ring rows d w) ∨ (r = .v .none ∧ ∃ S : List Nat, S.Nodup ∧ start ∈ S ∧ (∀ i ∈ S, i < rows.length) ∧ ∀ s ∈ S, ∀ j, Edge rows d s j → j ∈ S ∧ j ≠ start)) := by
  refine fnT_ok ?_
  unfold S_way_round
  have disp1 : ∀ {a : PyData} {s}, gDisp [.v a] s = .ok [a] s := fun {_ _} => rfl
  simp only [envE, so_seq, so_if, so_ret, so_retN, so_exp, so_nil, so_nx, so_rt, so_asg, so_asgG, so_par2, so_par3, ok_gNm, ok_gMore, ok_gNone, so_asgT, so_sub, so_for, ok_TB, ok_Tru, ok_notT, ok_andT, ok_orT, ok_andV, ok_orV, ok_notV, ok_iteE, ok_frz, ok_new, ok_mfArg, ok_mfBin, ok_lc, ok_M, ok_M0, ok_moNone, ok_moSome, ok_Sl,
  ok_bin, ok_un, ok_arg, ok_cons, ok_nil, ok_call, ok_var, ok_C, ok_ok, ok_stuck, ok_noX, bOf_bool, low_v, iOf_int, addD_int, subD_int, negD_int, ltD_int, leD_int, gtD_int, geD_int, fInt_int, isD_bool, isNotD_bool, tru_bool, List.map_cons, List.map_nil, List.length_cons, List.length_nil, List.replicate_succ, List.replicate_zero, List.cons_append, List.nil_append,
  List.append_nil, List.getElem?_cons_zero, List.getElem?_cons_succ, List.set_cons_zero, List.set_cons_succ, Option.some.injEq, exists_eq_left', exists_eq_left, true_and, and_true, true_implies, false_implies, implies_true, Bool.false_eq_true, reduceCtorEq, false_and, and_false, D.v.injEq, PyData.int.injEq, D.ref.injEq, p1i_int, p2_two, p3_three, decide_true, Bool.not_true, Bool.not_false, decide_eq_true_eq, decide_eq_false_iff_not, disp1, two_len]
  unfold S_way_round_2
  rw [so_seq]
  refine whileL_inv (fun k e t => ∃ (W : List (List Nat)) (S : List Nat), k = W.length + (rows.length - S.length) ∧ Look rows d start W S ∧ W.length ≤ S.length ∧ (∀ s ∈ S, (∃ w ∈ W, w.getLast? = some s) ∨ ∀ j, Edge rows d s j → j ∈ S ∧ j ≠ start) ∧ t = st ++ [.lst (W.map lNs)] ++ [.lst (S.map nI)] ∧ ∃ x6 x7 x8, e = [some (.v (hallD rows)), some (.v (tNs d)), some (.ref o), some (.v (nI start)), some (.ref st.length), some (.ref (st.length + 1)), x6, x7, x8]) ?_ 1000000 (1 + (rows.length - 1)) _ _ (by omega)
    ⟨[[start]], [start], rfl, ⟨List.pairwise_singleton _ _, .head _, fun i hi => by rw [List.mem_singleton.mp hi]; exact hs, fun w hw => ?_⟩, Nat.le_refl _, fun s hs => .inl ⟨[start], .head _, by rw [List.mem_singleton.mp hs]; rfl⟩, rfl, _, _, _, rfl⟩
  rotate_left
  · rw [List.mem_singleton.mp hw]
    refine ⟨rfl, List.pairwise_singleton _ _, fun i hi => hi, fun k a b _ hb => ?_⟩
    have := (List.getElem?_eq_some_iff.mp hb).1
    simp at this
  rintro k env t ⟨W, S, rfl, lk, hWl, cl, rfl, x6, x7, x8, rfl⟩
  have hSl := lk.len
  have shW : SeqAt.shaped (.list (W.map lNs)) = true := by
    have := (rep_list (xs := W.map lNs) (w := 50) (k := 1) (w' := 50) (fun x hx => by
      obtain ⟨w, hw, rfl⟩ := List.mem_map.mp hx
      have y := lk.way w hw
      refine rep_intsL (is := w.map fun x : Nat => (x : Int)) ?_ ?_ |> fun r => by
        have e : PyData.list ((w.map fun x : Nat => (x : Int)).map .int) = lNs w := by rw [List.map_map]; rfl
        rw [e] at r
        exact r
      · intro i hi
        obtain ⟨a, ha, rfl⟩ := List.mem_map.mp hi
        have := lk.lt a (y.sub a ha)
        exact Nat.lt_trans (Nat.lt_of_lt_of_le (show (a : Int).natAbs < 51 by omega) (by decide : 51 ≤ 10 ^ 11)) (by decide)
      · rw [List.length_map]
        have := sub_len y.nd (m := S) y.sub
        omega) (by rw [List.length_map]; omega))
    exact shaped_of this
  unfold way_round_T1
  have hne : ∀ t, t = st ++ [O.lst (W.map lNs)] ++ [O.lst (S.map nI)] → neD (.ref st.length) (.v (.list [])) t = .ok (.v (.bool (!W.isEmpty))) t := fun t ht => by
    subst ht
    rw [Da.ne_nilR two_at0 shW]
    cases W <;> rfl
  simp only [envE, so_seq, so_if, so_ret, so_retN, so_exp, so_nil, so_nx, so_rt, so_asg, so_asgG, so_par2, so_par3, ok_gNm, ok_gMore, ok_gNone, so_asgT, so_sub, so_for, ok_TB, ok_Tru, ok_notT, ok_andT, ok_orT, ok_andV, ok_orV, ok_notV, ok_iteE, ok_frz, ok_new, ok_mfArg, ok_mfBin, ok_lc, ok_M, ok_M0, ok_moNone, ok_moSome, ok_Sl,
  ok_bin, ok_un, ok_arg, ok_cons, ok_nil, ok_call, ok_var, ok_C, ok_ok, ok_stuck, ok_noX, bOf_bool, low_v, iOf_int, addD_int, subD_int, negD_int, ltD_int, leD_int, gtD_int, geD_int, fInt_int, isD_bool, isNotD_bool, tru_bool, List.map_cons, List.map_nil, List.length_cons, List.length_nil, List.replicate_succ, List.replicate_zero, List.cons_append, List.nil_append,
  List.append_nil, List.getElem?_cons_zero, List.getElem?_cons_succ, List.set_cons_zero, List.set_cons_succ, Option.some.injEq, exists_eq_left', exists_eq_left, true_and, and_true, true_implies, false_implies, implies_true, Bool.false_eq_true, reduceCtorEq, false_and, and_false, D.v.injEq, PyData.int.injEq, D.ref.injEq, p1i_int, p2_two, p3_three, decide_true, Bool.not_true, Bool.not_false, decide_eq_true_eq, decide_eq_false_iff_not, disp0, hne _ rfl]
  refine ⟨fun hW => ?_, fun hW => ?_⟩
  · cases W with
    | nil => cases hW
    | cons w W =>
      have y := lk.way w (.head _)
      obtain ⟨l, hl⟩ : ∃ l, w.getLast? = some l := by
        cases e : w.getLast? with
        | none => exact absurd (List.getLast?_eq_none_iff.mp e) y.ne
        | some l => exact ⟨l, rfl⟩
      have hlm : l ∈ w := List.mem_of_getLast? hl
      have hln := lk.lt l (y.sub l hlm)
      unfold way_round_B1
      simp only [envE, so_seq, so_if, so_ret, so_retN, so_exp, so_nil, so_nx, so_rt, so_asg, so_asgG, so_par2, so_par3, ok_gNm, ok_gMore, ok_gNone, so_asgT, so_sub, so_for, ok_TB, ok_Tru, ok_notT, ok_andT, ok_orT, ok_andV, ok_orV, ok_notV, ok_iteE, ok_frz, ok_new, ok_mfArg, ok_mfBin, ok_lc, ok_M, ok_M0, ok_moNone, ok_moSome, ok_Sl,
  ok_bin, ok_un, ok_arg, ok_cons, ok_nil, ok_call, ok_var, ok_C, ok_ok, ok_stuck, ok_noX, bOf_bool, low_v, iOf_int, addD_int, subD_int, negD_int, ltD_int, leD_int, gtD_int, geD_int, fInt_int, isD_bool, isNotD_bool, tru_bool, List.map_cons, List.map_nil, List.length_cons, List.length_nil, List.replicate_succ, List.replicate_zero, List.cons_append, List.nil_append,
  List.append_nil, List.getElem?_cons_zero, List.getElem?_cons_succ, List.set_cons_zero, List.set_cons_succ, Option.some.injEq, exists_eq_left', exists_eq_left, true_and, and_true, true_implies, false_implies, implies_true, Bool.false_eq_true, reduceCtorEq, false_and, and_false, D.v.injEq, PyData.int.injEq, D.ref.injEq, p1i_int, p2_two, p3_three, decide_true, Bool.not_true, Bool.not_false, decide_eq_true_eq, decide_eq_false_iff_not]
      refine ⟨isL_ref two_at0, ?_⟩
      rw [pop_front two_at0 (by simp at hWl ⊢; omega), ok_ok, two_set0]
      have hlast : ∀ t, subsD (.v (lNs w)) (.v (.int (-1))) t = .ok (.v (nI l)) t := fun t => by
        have e : w.dropLast ++ [l] = w := by
          have h1 := List.dropLast_concat_getLast y.ne
          have h2 : w.getLast? = some (w.getLast y.ne) := List.getLast?_eq_some_getLast y.ne
          rw [h2] at hl
          rw [← Option.some.inj hl]
          exact h1
        refine sub_last (xs := w.dropLast.map nI) (z := nI l) rfl ?_
        show some (w.map nI) = _
        rw [← e, List.map_append, List.dropLast_concat]
        rfl
      unfold way_round_B1_2 way_round_E1
      simp only [envE, so_seq, so_if, so_ret, so_retN, so_exp, so_nil, so_nx, so_rt, so_asg, so_asgG, so_par2, so_par3, ok_gNm, ok_gMore, ok_gNone, so_asgT, so_sub, so_for, ok_TB, ok_Tru, ok_notT, ok_andT, ok_orT, ok_andV, ok_orV, ok_notV, ok_iteE, ok_frz, ok_new, ok_mfArg, ok_mfBin, ok_lc, ok_M, ok_M0, ok_moNone, ok_moSome, ok_Sl,
  ok_bin, ok_un, ok_arg, ok_cons, ok_nil, ok_call, ok_var, ok_C, ok_ok, ok_stuck, ok_noX, bOf_bool, low_v, iOf_int, addD_int, subD_int, negD_int, ltD_int, leD_int, gtD_int, geD_int, fInt_int, isD_bool, isNotD_bool, tru_bool, List.map_cons, List.map_nil, List.length_cons, List.length_nil, List.replicate_succ, List.replicate_zero, List.cons_append, List.nil_append,
  List.append_nil, List.getElem?_cons_zero, List.getElem?_cons_succ, List.set_cons_zero, List.set_cons_succ, Option.some.injEq, exists_eq_left', exists_eq_left, true_and, and_true, true_implies, false_implies, implies_true, Bool.false_eq_true, reduceCtorEq, false_and, and_false, D.v.injEq, PyData.int.injEq, D.ref.injEq, p1i_int, p2_two, p3_three, decide_true, Bool.not_true, Bool.not_false, decide_eq_true_eq, decide_eq_false_iff_not, hall1, hlast, hrow hln, ok_seq, seqW_tup, List.map_map]
      refine forL_inv (fun i e t => ∃ (W' : List (List Nat)) (S' : List Nat), W'.length + (rows.length - S'.length) < W.length + 1 + (rows.length - S.length) ∧ Look rows d start W' S' ∧ W'.length ≤ S'.length ∧ (∀ s ∈ S', s = l ∨ (∃ w ∈ W', w.getLast? = some s) ∨ ∀ j, Edge rows d s j → j ∈ S' ∧ j ≠ start) ∧
          (∀ h ∈ (row rows l).take i, rk rows l h < rk rows l (at' d l) → own d h ∈ S' ∧ own d h ≠ start) ∧ (∀ x ∈ S, x ∈ S') ∧ t = st ++ [.lst (W'.map lNs)] ++ [.lst (S'.map nI)] ∧ ∃ x7 x8, e = [some (.v (hallD rows)), some (.v (tNs d)), some (.ref o), some (.v (nI start)), some (.ref st.length), some (.ref (st.length + 1)), some (.v (lNs w)), x7, x8]) _ _ _ 0 ?_ ?_
        ⟨W, S, by simp, ⟨lk.nd, lk.st, lk.lt, fun v hv => lk.way v (.tail _ hv)⟩, by simp at hWl; omega, fun s hs => ?_, (fun h hh => by rw [List.take_zero] at hh; cases hh), (fun _ h => h), rfl, _, _, rfl⟩
      rotate_left 2
      · rcases cl s hs with ⟨v, hv, e⟩ | z
        · rcases List.mem_cons.mp hv with rfl | hv
          · left
            rw [hl] at e
            exact (Option.some.inj e).symm
          · exact .inr (.inl ⟨v, hv, e⟩)
        · exact .inr (.inr z)
      · rintro i dd env t hd ⟨W', S', hm, lk', hWl', cl', seen, sub, rfl, x7, x8, rfl⟩
        rw [Nat.zero_add] at *
        rw [List.getElem?_map] at hd
        obtain ⟨h, hh, rfl⟩ := Option.map_eq_some_iff.mp hd
        have hhn := (H.mem hln).mp (List.mem_of_getElem? hh)
        obtain ⟨o1, o2⟩ := own_at Dd hhn
        have hSl' := lk'.len
        refine ⟨trivial, ?_⟩
        unfold way_round_G1 way_round_B2
        show (gNm 7 (.one (.v (nI h))) _ _).Ok _
        have hsub : ∀ (a b : O), subsD (.ref o) (.v (nI h)) (st ++ [a] ++ [b]) = .ok (.v (nI (own d h))) (st ++ [a] ++ [b]) := fun a b => sub_dct (by rw [List.append_assoc]; exact ho _) (ownL_at Dd hhn)
        have h1 : ∀ t, subsD (.v (tNs d)) (.v (nI l)) t = .ok (.v (nI (at' d l))) t := fun t => at_sub (by rw [Dd.len]; exact hln)
        have hrat : ∀ t, f_rather [.v (hallD rows), .v (nI l), .v (nI h), .v (nI (at' d l))] t = .ok (.v (.bool (decide (rk rows l h < rk rows l (at' d l))))) t := fun t => rather_eq' H hln hhn (Dd.at_lt hln)
        simp only [envE, so_seq, so_if, so_ret, so_retN, so_exp, so_nil, so_nx, so_rt, so_asg, so_asgG, so_par2, so_par3, ok_gNm, ok_gMore, ok_gNone, so_asgT, so_sub, so_for, ok_TB, ok_Tru, ok_notT, ok_andT, ok_orT, ok_andV, ok_orV, ok_notV, ok_iteE, ok_frz, ok_new, ok_mfArg, ok_mfBin, ok_lc, ok_M, ok_M0, ok_moNone, ok_moSome, ok_Sl,
  ok_bin, ok_un, ok_arg, ok_cons, ok_nil, ok_call, ok_var, ok_C, ok_ok, ok_stuck, ok_noX, bOf_bool, low_v, iOf_int, addD_int, subD_int, negD_int, ltD_int, leD_int, gtD_int, geD_int, fInt_int, isD_bool, isNotD_bool, tru_bool, List.map_cons, List.map_nil, List.length_cons, List.length_nil, List.replicate_succ, List.replicate_zero, List.cons_append, List.nil_append,
  List.append_nil, List.getElem?_cons_zero, List.getElem?_cons_succ, List.set_cons_zero, List.set_cons_succ, Option.some.injEq, exists_eq_left', exists_eq_left, true_and, and_true, true_implies, false_implies, implies_true, Bool.false_eq_true, reduceCtorEq, false_and, and_false, D.v.injEq, PyData.int.injEq, D.ref.injEq, p1i_int, p2_two, p3_three, decide_true, Bool.not_true, Bool.not_false, decide_eq_true_eq, decide_eq_false_iff_not, hsub]
        unfold way_round_B2_2
        simp only [envE, so_seq, so_if, so_ret, so_retN, so_exp, so_nil, so_nx, so_rt, so_asg, so_asgG, so_par2, so_par3, ok_gNm, ok_gMore, ok_gNone, so_asgT, so_sub, so_for, ok_TB, ok_Tru, ok_notT, ok_andT, ok_orT, ok_andV, ok_orV, ok_notV, ok_iteE, ok_frz, ok_new, ok_mfArg, ok_mfBin, ok_lc, ok_M, ok_M0, ok_moNone, ok_moSome, ok_Sl,
  ok_bin, ok_un, ok_arg, ok_cons, ok_nil, ok_call, ok_var, ok_C, ok_ok, ok_stuck, ok_noX, bOf_bool, low_v, iOf_int, addD_int, subD_int, negD_int, ltD_int, leD_int, gtD_int, geD_int, fInt_int, isD_bool, isNotD_bool, tru_bool, List.map_cons, List.map_nil, List.length_cons, List.length_nil, List.replicate_succ, List.replicate_zero, List.cons_append, List.nil_append,
  List.append_nil, List.getElem?_cons_zero, List.getElem?_cons_succ, List.set_cons_zero, List.set_cons_succ, Option.some.injEq, exists_eq_left', exists_eq_left, true_and, and_true, true_implies, false_implies, implies_true, Bool.false_eq_true, reduceCtorEq, false_and, and_false, D.v.injEq, PyData.int.injEq, D.ref.injEq, p1i_int, p2_two, p3_three, decide_true, Bool.not_true, Bool.not_false, decide_eq_true_eq, decide_eq_false_iff_not, hlast, h1, hrat, eqD_int]
        have hst : ((own d h : Int) = (start : Int)) ↔ own d h = start := by omega
        have step : ∀ {S2 : List Nat}, (∀ x ∈ S', x ∈ S2) → (rk rows l h < rk rows l (at' d l) → own d h ∈ S2 ∧ own d h ≠ start) → ∀ g ∈ (row rows l).take (i + 1), rk rows l g < rk rows l (at' d l) → own d g ∈ S2 ∧ own d g ≠ start := fun {S2} hsub hnew g hg hlt => by
          rw [List.take_add_one, hh] at hg
          rcases List.mem_append.mp hg with z | z
          · obtain ⟨z1, z2⟩ := seen g z hlt
            exact ⟨hsub _ z1, z2⟩
          · have : g = h := List.mem_singleton.mp z
            subst this
            exact hnew hlt
        refine ⟨fun hlt => ⟨fun he => ?_, fun he => ?_⟩, fun hlt => ?_⟩
        · refine ⟨two_take, .inl ⟨w, rfl, y.ring lk.lt hl ⟨hs, ?_⟩⟩⟩
          rw [← hst.mp he, o2]
          exact hlt
        · have hne : own d h ≠ start := fun z => he (hst.mpr z)
          have hin : ∀ t, t = st ++ [O.lst (W'.map lNs)] ++ [O.lst (S'.map nI)] → notInU (.v (nI (own d h))) (.ref (st.length + 1)) t = .ok (.v (.bool (!decide (own d h ∈ S')))) t := fun t ht => by
            subst ht
            exact (in_lst two_at1).2
          simp only [hin _ rfl, envE, so_seq, so_if, so_ret, so_retN, so_exp, so_nil, so_nx, so_rt, so_asg, so_asgG, so_par2, so_par3, ok_gNm, ok_gMore, ok_gNone, so_asgT, so_sub, so_for, ok_TB, ok_Tru, ok_notT, ok_andT, ok_orT, ok_andV, ok_orV, ok_notV, ok_iteE, ok_frz, ok_new, ok_mfArg, ok_mfBin, ok_lc, ok_M, ok_M0, ok_moNone, ok_moSome, ok_Sl,
  ok_bin, ok_un, ok_arg, ok_cons, ok_nil, ok_call, ok_var, ok_C, ok_ok, ok_stuck, ok_noX, bOf_bool, low_v, iOf_int, addD_int, subD_int, negD_int, ltD_int, leD_int, gtD_int, geD_int, fInt_int, isD_bool, isNotD_bool, tru_bool, List.map_cons, List.map_nil, List.length_cons, List.length_nil, List.replicate_succ, List.replicate_zero, List.cons_append, List.nil_append,
  List.append_nil, List.getElem?_cons_zero, List.getElem?_cons_succ, List.set_cons_zero, List.set_cons_succ, Option.some.injEq, exists_eq_left', exists_eq_left, true_and, and_true, true_implies, false_implies, implies_true, Bool.false_eq_true, reduceCtorEq, false_and, and_false, D.v.injEq, PyData.int.injEq, D.ref.injEq, p1i_int, p2_two, p3_three, decide_true, Bool.not_true, Bool.not_false, decide_eq_true_eq, decide_eq_false_iff_not]
          have disp1 : ∀ {a : PyData} {s}, gDisp [.v a] s = .ok [a] s := fun {_ _} => rfl
          refine ⟨fun hnew => ?_, fun hold => ?_⟩
          · have hnew : ¬ own d h ∈ S' := by simpa using hnew
            have hS2 : (S' ++ [own d h]).length ≤ rows.length := by
              have := sub_len (l := S' ++ [own d h]) (m := List.range rows.length) (List.nodup_append.mpr ⟨lk'.nd, List.pairwise_singleton _ _, fun a ha b hb e => hnew (by rw [← List.mem_singleton.mp hb, ← e]; exact ha)⟩) fun x hx => by
                rcases List.mem_append.mp hx with z | z
                · exact List.mem_range.mpr (lk'.lt x z)
                · rw [List.mem_singleton.mp z]; exact List.mem_range.mpr o1
              rwa [List.length_range] at this
            rw [List.length_append, List.length_singleton] at hS2
            refine ⟨isL_ref two_at1, ?_⟩
            rw [Fw.append_at two_at1 (by rw [List.length_map]; omega), ok_ok, two_set1]
            refine ⟨isL_ref two_at0, ?_⟩
            have hwl : w.length ≤ rows.length := Nat.le_trans (sub_len y.nd (m := S) y.sub) hSl
            rw [disp1, ok_ok, cat_list (by rw [List.length_map]; show _ + 1 ≤ _; omega), ok_ok, Fw.append_at two_at0 (by rw [List.length_map]; omega), ok_ok, two_set0]
            have hsub2 : ∀ x ∈ S', x ∈ S' ++ [own d h] := fun x hx => List.mem_append_left _ hx
            have hedge : Edge rows d l (own d h) := ⟨o1, by rw [o2]; exact hlt⟩
            refine ⟨W' ++ [w ++ [own d h]], S' ++ [own d h], by rw [List.length_append, List.length_append, List.length_singleton, List.length_singleton]; omega, ⟨?_, hsub2 _ lk'.st, fun x hx => ?_, fun v hv => ?_⟩, ?_, fun s hs => ?_, step hsub2 (fun _ => ⟨List.mem_append_right _ (.head _), hne⟩), (fun x hx => hsub2 x (sub x hx)), ?_, _, _, rfl⟩
            · exact List.nodup_append.mpr ⟨lk'.nd, List.pairwise_singleton _ _, fun a ha b hb e => hnew (by rw [← List.mem_singleton.mp hb, ← e]; exact ha)⟩
            · rcases List.mem_append.mp hx with z | z
              · exact lk'.lt x z
              · rw [List.mem_singleton.mp z]; exact o1
            · rcases List.mem_append.mp hv with z | z
              · exact (lk'.way v z).mono hsub2
              · rw [List.mem_singleton.mp z]
                exact (y.mono (T := S') sub).more hl hnew hedge
            · rw [List.length_append, List.length_append, List.length_singleton, List.length_singleton]; omega
            · rcases List.mem_append.mp hs with z | z
              · rcases cl' s z with z | ⟨v, hv, e⟩ | z
                · exact .inl z
                · exact .inr (.inl ⟨v, List.mem_append_left _ hv, e⟩)
                · exact .inr (.inr fun j hj => ⟨hsub2 _ (z j hj).1, (z j hj).2⟩)
              · rw [List.mem_singleton.mp z]
                exact .inr (.inl ⟨w ++ [own d h], List.mem_append_right _ (.head _), by simp⟩)
            · rw [List.map_append, List.map_append]
              simp
          · have hold : own d h ∈ S' := by simpa using hold
            exact ⟨W', S', hm, lk', hWl', cl', step (fun _ h => h) (fun _ => ⟨hold, hne⟩), sub, rfl, _, _, rfl⟩
        · exact ⟨W', S', hm, lk', hWl', cl', step (fun _ h => h) (fun z => absurd z hlt), sub, rfl, _, _, rfl⟩
      · rintro env t ⟨W', S', hm, lk', hWl', cl', seen, sub, rfl, x7, x8, rfl⟩
        rw [Nat.zero_add, List.length_map, List.take_of_length_le (Nat.le_refl _)] at seen
        refine ⟨trivial, _, hm, W', S', rfl, lk', hWl', fun s hs => ?_, rfl, _, _, _, rfl⟩
        rcases cl' s hs with rfl | z | z
        · right
          rintro j ⟨j1, j2⟩
          have := seen (at' d j) ((H.mem hln).mpr (Dd.at_lt j1)) j2
          rw [own_of Dd j1] at this
          exact this
        · exact .inl z
        · exact .inr z
  · cases W with
    | cons w W => cases hW
    | nil =>
      unfold S_way_round_3
      simp only [envE, so_seq, so_if, so_ret, so_retN, so_exp, so_nil, so_nx, so_rt, so_asg, so_asgG, so_par2, so_par3, ok_gNm, ok_gMore, ok_gNone, so_asgT, so_sub, so_for, ok_TB, ok_Tru, ok_notT, ok_andT, ok_orT, ok_andV, ok_orV, ok_notV, ok_iteE, ok_frz, ok_new, ok_mfArg, ok_mfBin, ok_lc, ok_M, ok_M0, ok_moNone, ok_moSome, ok_Sl,
  ok_bin, ok_un, ok_arg, ok_cons, ok_nil, ok_call, ok_var, ok_C, ok_ok, ok_stuck, ok_noX, bOf_bool, low_v, iOf_int, addD_int, subD_int, negD_int, ltD_int, leD_int, gtD_int, geD_int, fInt_int, isD_bool, isNotD_bool, tru_bool, List.map_cons, List.map_nil, List.length_cons, List.length_nil, List.replicate_succ, List.replicate_zero, List.cons_append, List.nil_append,
  List.append_nil, List.getElem?_cons_zero, List.getElem?_cons_succ, List.set_cons_zero, List.set_cons_succ, Option.some.injEq, exists_eq_left', exists_eq_left, true_and, and_true, true_implies, false_implies, implies_true, Bool.false_eq_true, reduceCtorEq, false_and, and_false, D.v.injEq, PyData.int.injEq, D.ref.injEq, p1i_int, p2_two, p3_three, decide_true, Bool.not_true, Bool.not_false, decide_eq_true_eq, decide_eq_false_iff_not]
      refine ⟨two_take, .inr ⟨S, lk.nd, lk.st, lk.lt, fun s hs j hj => ?_⟩⟩
      rcases cl s hs with ⟨w, hw, _⟩ | z
      · cases hw
      · exact z j hj
end
end Wk37
namespace Wk37
open PySem PySem.Spec PyProof.Rows L2 Fw Fw.Hl Fw.Ho Fw.Da Fw.Aq Fw.Tl
section
variable {rows : List (List Nat)} {n i j h g k start : Nat} {d e w S : List Nat} {F : List (Nat × Nat)} {st : Sto}
theorem zip_nats {l m : List Nat} : zip2I (l.map nI) (m.map nI) = (l.zip m).map fun p => .many [.v (nI p.1), .v (nI p.2)] := by
  unfold zip2I
  rw [List.zip_map, List.map_map]
  rfl
theorem moved_nil (Dd : Dl n d) {f : Nat → Nat} : moved n d [] f = d := by
  unfold moved
  refine List.ext_getElem? fun i => ?_
  rw [List.getElem?_map]
  by_cases hi : i < n
  · rw [List.getElem?_range hi, at_get (by rw [Dd.len]; exact hi)]
    simp
  · rw [List.getElem?_eq_none (by rw [List.length_range]; omega), List.getElem?_eq_none (by rw [Dd.len]; omega)]
    rfl
theorem moved_set {C : List Nat} {f : Nat → Nat} {a : Nat} : (moved n d C f).set a (at' d (f a)) = moved n d (C ++ [a]) f := by
  unfold moved
  refine List.ext_getElem? fun i => ?_
  by_cases hi : i < n
  · by_cases e : a = i
    · subst e
      rw [List.getElem?_set_self (by rw [List.length_map, List.length_range]; exact hi), List.getElem?_map, List.getElem?_range hi]
      simp
    · rw [List.getElem?_set_ne e, List.getElem?_map, List.getElem?_map, List.getElem?_range hi]
      have : (i ∈ C ++ [a]) ↔ i ∈ C := by rw [List.mem_append, List.mem_singleton]; exact ⟨fun z => z.resolve_right fun y => e y.symm, .inl⟩
      show some (if _ then _ else _) = some (if _ then _ else _)
      by_cases hm : i ∈ C
      · rw [if_pos hm, if_pos (this.mpr hm)]
      · rw [if_neg hm, if_neg fun z => hm (this.mp z)]
  · rw [List.getElem?_eq_none (by rw [List.length_set, List.length_map, List.length_range]; omega), List.getElem?_eq_none (by rw [List.length_map, List.length_range]; omega)]
theorem better_ok (H : Hou rows) (hn : rows.length ≤ 50) (Dd : Dl rows.length d) : (f_better_than [.v (hallD rows), .v (tNs d)] st).Ok fun r t => t = st ∧ ((∃ e, r = .v (tNs e) ∧ Dl rows.length e ∧ Btr rows d e) ∨ (r = .v .none ∧ Lean' rows d)) := by
  refine fnT_ok ?_
  unfold S_better_than better_than_E1 better_than_T1
  have hen : enumI (d.map nI) = (ownL d).map fun p : Nat × Nat => Itm.many [.v (nI p.2), .v (nI p.1)] := by
    unfold enumI ownL
    rw [List.zipIdx_map, List.map_map]
    rfl
  simp only [envE, so_seq, so_if, so_ret, so_retN, so_exp, so_nil, so_nx, so_rt, so_asg, so_asgG, so_par2, so_par3, ok_gNm, ok_gMore, ok_gNone, so_asgT, so_sub, so_for, ok_TB, ok_Tru, ok_notT, ok_andT, ok_orT, ok_andV, ok_orV, ok_notV, ok_iteE, ok_frz, ok_new, ok_mfArg, ok_mfBin, ok_lc, ok_M, ok_M0, ok_moNone, ok_moSome, ok_Sl,
  ok_bin, ok_un, ok_arg, ok_cons, ok_nil, ok_call, ok_var, ok_C, ok_ok, ok_stuck, ok_noX, bOf_bool, low_v, iOf_int, addD_int, subD_int, negD_int, ltD_int, leD_int, gtD_int, geD_int, fInt_int, isD_bool, isNotD_bool, tru_bool, List.map_cons, List.map_nil, List.length_cons, List.length_nil, List.replicate_succ, List.replicate_zero, List.cons_append, List.nil_append,
  List.append_nil, List.getElem?_cons_zero, List.getElem?_cons_succ, List.set_cons_zero, List.set_cons_succ, Option.some.injEq, exists_eq_left', exists_eq_left, true_and, and_true, true_implies, false_implies, implies_true, Bool.false_eq_true, reduceCtorEq, false_and, and_false, D.v.injEq, PyData.int.injEq, D.ref.injEq, p1i_int, p2_two, p3_three, decide_true, Bool.not_true, Bool.not_false, decide_eq_true_eq, decide_eq_false_iff_not, ok_enum, enum_tup, hen]
  rw [lcL_all _ (fun p : Nat × Nat => pr p)]
  rotate_left
  · intro p hp
    unfold better_than_G1 better_than_M1
    rw [ok_gTp2]
    simp only [envE, so_seq, so_if, so_ret, so_retN, so_exp, so_nil, so_nx, so_rt, so_asg, so_asgG, so_par2, so_par3, ok_gNm, ok_gMore, ok_gNone, so_asgT, so_sub, so_for, ok_TB, ok_Tru, ok_notT, ok_andT, ok_orT, ok_andV, ok_orV, ok_notV, ok_iteE, ok_frz, ok_new, ok_mfArg, ok_mfBin, ok_lc, ok_M, ok_M0, ok_moNone, ok_moSome, ok_Sl,
  ok_bin, ok_un, ok_arg, ok_cons, ok_nil, ok_call, ok_var, ok_C, ok_ok, ok_stuck, ok_noX, bOf_bool, low_v, iOf_int, addD_int, subD_int, negD_int, ltD_int, leD_int, gtD_int, geD_int, fInt_int, isD_bool, isNotD_bool, tru_bool, List.map_cons, List.map_nil, List.length_cons, List.length_nil, List.replicate_succ, List.replicate_zero, List.cons_append, List.nil_append,
  List.append_nil, List.getElem?_cons_zero, List.getElem?_cons_succ, List.set_cons_zero, List.set_cons_succ, Option.some.injEq, exists_eq_left', exists_eq_left, true_and, and_true, true_implies, false_implies, implies_true, Bool.false_eq_true, reduceCtorEq, false_and, and_false, D.v.injEq, PyData.int.injEq, D.ref.injEq, p1i_int, p2_two, p3_three, decide_true, Bool.not_true, Bool.not_false, decide_eq_true_eq, decide_eq_false_iff_not, wipeE, tup2]
    rfl
  rw [ok_ok, Sp.dict_pairs (by rw [ownL_keys]; exact Dd.nd), ok_ok]
  unfold S_better_than_2 better_than_E3
  simp only [envE, so_seq, so_if, so_ret, so_retN, so_exp, so_nil, so_nx, so_rt, so_asg, so_asgG, so_par2, so_par3, ok_gNm, ok_gMore, ok_gNone, so_asgT, so_sub, so_for, ok_TB, ok_Tru, ok_notT, ok_andT, ok_orT, ok_andV, ok_orV, ok_notV, ok_iteE, ok_frz, ok_new, ok_mfArg, ok_mfBin, ok_lc, ok_M, ok_M0, ok_moNone, ok_moSome, ok_Sl,
  ok_bin, ok_un, ok_arg, ok_cons, ok_nil, ok_call, ok_var, ok_C, ok_ok, ok_stuck, ok_noX, bOf_bool, low_v, iOf_int, addD_int, subD_int, negD_int, ltD_int, leD_int, gtD_int, geD_int, fInt_int, isD_bool, isNotD_bool, tru_bool, List.map_cons, List.map_nil, List.length_cons, List.length_nil, List.replicate_succ, List.replicate_zero, List.cons_append, List.nil_append,
  List.append_nil, List.getElem?_cons_zero, List.getElem?_cons_succ, List.set_cons_zero, List.set_cons_succ, Option.some.injEq, exists_eq_left', exists_eq_left, true_and, and_true, true_implies, false_implies, implies_true, Bool.false_eq_true, reduceCtorEq, false_and, and_false, D.v.injEq, PyData.int.injEq, D.ref.injEq, p1i_int, p2_two, p3_three, decide_true, Bool.not_true, Bool.not_false, decide_eq_true_eq, decide_eq_false_iff_not, ok_R1, hall0]
  refine ⟨⟨by omega, by omega⟩, ?_⟩
  rw [Int.toNat_natCast]
  refine forL_inv (fun i env t => t = st ++ [.dct false (heldK (ownL d))] ∧ (∀ s, s < i → ∀ e, Dl rows.length e → (∀ i, i < rows.length → rk rows i (at' e i) ≤ rk rows i (at' d i)) → at' e s = at' d s) ∧ ∃ x3 x4 x5 x6 x7 x8 x9, env = [some (.v (hallD rows)), some (.v (tNs d)), some (.ref st.length), x3, x4, x5, x6, x7, x8, x9]) _ _ _ 0 ?_ ?_ ⟨rfl, (fun _ z => absurd z (Nat.not_lt_zero _)), _, _, _, _, _, _, _, rfl⟩
  · rintro i dd env t hd ⟨rfl, hfix, x3, x4, x5, x6, x7, x8, x9, rfl⟩
    obtain ⟨hi, rfl⟩ := rngI_get hd
    rw [Nat.zero_add, Int.zero_add] at *
    refine ⟨trivial, ?_⟩
    unfold better_than_G3 better_than_B1
    simp only [envE, so_seq, so_if, so_ret, so_retN, so_exp, so_nil, so_nx, so_rt, so_asg, so_asgG, so_par2, so_par3, ok_gNm, ok_gMore, ok_gNone, so_asgT, so_sub, so_for, ok_TB, ok_Tru, ok_notT, ok_andT, ok_orT, ok_andV, ok_orV, ok_notV, ok_iteE, ok_frz, ok_new, ok_mfArg, ok_mfBin, ok_lc, ok_M, ok_M0, ok_moNone, ok_moSome, ok_Sl,
  ok_bin, ok_un, ok_arg, ok_cons, ok_nil, ok_call, ok_var, ok_C, ok_ok, ok_stuck, ok_noX, bOf_bool, low_v, iOf_int, addD_int, subD_int, negD_int, ltD_int, leD_int, gtD_int, geD_int, fInt_int, isD_bool, isNotD_bool, tru_bool, List.map_cons, List.map_nil, List.length_cons, List.length_nil, List.replicate_succ, List.replicate_zero, List.cons_append, List.nil_append,
  List.append_nil, List.getElem?_cons_zero, List.getElem?_cons_succ, List.set_cons_zero, List.set_cons_succ, Option.some.injEq, exists_eq_left', exists_eq_left, true_and, and_true, true_implies, false_implies, implies_true, Bool.false_eq_true, reduceCtorEq, false_and, and_false, D.v.injEq, PyData.int.injEq, D.ref.injEq, p1i_int, p2_two, p3_three, decide_true, Bool.not_true, Bool.not_false, decide_eq_true_eq, decide_eq_false_iff_not]
    have hat : ∀ more : Sto, ((st ++ [O.dct false (heldK (ownL d))]) ++ more)[st.length]? = some (.dct false (heldK (ownL d))) := fun more => by
      rw [List.append_assoc, List.getElem?_append_right (Nat.le_refl _), Nat.sub_self]
      rfl
    have hw := way_ok (st := st ++ [O.dct false (heldK (ownL d))]) (start := i) (o := st.length) H hn Dd hi hat
    refine hw.mono ?_
    rintro _ _ ⟨rfl, ⟨w, rfl, r⟩ | ⟨rfl, S, s1, s2, s3, s4⟩⟩
    · unfold better_than_B1_2 better_than_E2
      have hnn : ∀ t, isNotD (.v (lNs w)) (.v .none) t = .ok (.v (.bool true)) t := fun t => rfl
      have hli : ∀ t, gList [.v (tNs d)] t = .ok (d.map nI) t := fun t => rfl
      simp only [envE, so_seq, so_if, so_ret, so_retN, so_exp, so_nil, so_nx, so_rt, so_asg, so_asgG, so_par2, so_par3, ok_gNm, ok_gMore, ok_gNone, so_asgT, so_sub, so_for, ok_TB, ok_Tru, ok_notT, ok_andT, ok_orT, ok_andV, ok_orV, ok_notV, ok_iteE, ok_frz, ok_new, ok_mfArg, ok_mfBin, ok_lc, ok_M, ok_M0, ok_moNone, ok_moSome, ok_Sl,
  ok_bin, ok_un, ok_arg, ok_cons, ok_nil, ok_call, ok_var, ok_C, ok_ok, ok_stuck, ok_noX, bOf_bool, low_v, iOf_int, addD_int, subD_int, negD_int, ltD_int, leD_int, gtD_int, geD_int, fInt_int, isD_bool, isNotD_bool, tru_bool, List.map_cons, List.map_nil, List.length_cons, List.length_nil, List.replicate_succ, List.replicate_zero, List.cons_append, List.nil_append,
  List.append_nil, List.getElem?_cons_zero, List.getElem?_cons_succ, List.set_cons_zero, List.set_cons_succ, Option.some.injEq, exists_eq_left', exists_eq_left, true_and, and_true, true_implies, false_implies, implies_true, Bool.false_eq_true, reduceCtorEq, false_and, and_false, D.v.injEq, PyData.int.injEq, D.ref.injEq, p1i_int, p2_two, p3_three, decide_true, Bool.not_true, Bool.not_false, decide_eq_true_eq, decide_eq_false_iff_not, hnn, hli, two_len]
      have hwl : w.length ≤ rows.length := by
        have := sub_len r.nd (m := List.range rows.length) fun x hx => List.mem_range.mpr (r.lt x hx)
        rwa [List.length_range] at this
      have a1 : ∀ s, slD (.v (lNs w)) (some (1 : Int)) none s = .ok (.v (lNs w.tail)) s := fun s => by
        rw [slice_list, show (some (1 : Int)) = some ((1 : Nat) : Int) from rfl, cut_drop, ← List.map_drop, List.drop_one]
      have a2 : ∀ s, slD (.v (lNs w)) none (some (1 : Int)) s = .ok (.v (lNs (w.take 1))) s := fun s => by
        rw [slice_list, show (some (1 : Int)) = some ((1 : Nat) : Int) from rfl, cut_take, ← List.map_take]
      have a3 : ∀ s, addD (.v (lNs w.tail)) (.v (lNs (w.take 1))) s = .ok (.v (lNs (w.tail ++ w.take 1))) s := fun s => by
        show (if (w.tail.map nI).length + ((w.take 1).map nI).length ≤ lim then Out.ok (D.v (.list (w.tail.map nI ++ (w.take 1).map nI))) s else .stuck) = _
        rw [if_pos (by rw [List.length_map, List.length_map, List.length_tail, List.length_take]; show _ ≤ 1000000; omega), ← List.map_append]
      simp only [ok_zip, envE, so_seq, so_if, so_ret, so_retN, so_exp, so_nil, so_nx, so_rt, so_asg, so_asgG, so_par2, so_par3, ok_gNm, ok_gMore, ok_gNone, so_asgT, so_sub, so_for, ok_TB, ok_Tru, ok_notT, ok_andT, ok_orT, ok_andV, ok_orV, ok_notV, ok_iteE, ok_frz, ok_new, ok_mfArg, ok_mfBin, ok_lc, ok_M, ok_M0, ok_moNone, ok_moSome, ok_Sl,
  ok_bin, ok_un, ok_arg, ok_cons, ok_nil, ok_call, ok_var, ok_C, ok_ok, ok_stuck, ok_noX, bOf_bool, low_v, iOf_int, addD_int, subD_int, negD_int, ltD_int, leD_int, gtD_int, geD_int, fInt_int, isD_bool, isNotD_bool, tru_bool, List.map_cons, List.map_nil, List.length_cons, List.length_nil, List.replicate_succ, List.replicate_zero, List.cons_append, List.nil_append,
  List.append_nil, List.getElem?_cons_zero, List.getElem?_cons_succ, List.set_cons_zero, List.set_cons_succ, Option.some.injEq, exists_eq_left', exists_eq_left, true_and, and_true, true_implies, false_implies, implies_true, Bool.false_eq_true, reduceCtorEq, false_and, and_false, D.v.injEq, PyData.int.injEq, D.ref.injEq, p1i_int, p2_two, p3_three, decide_true, Bool.not_true, Bool.not_false, decide_eq_true_eq, decide_eq_false_iff_not, a1, a2, a3, zip_list, zip_nats]
      rw [show (st ++ [O.dct false (heldK (ownL d))] ++ [O.lst (d.map nI)]) = st ++ [O.dct false (heldK (ownL d))] ++ [O.lst ((moved rows.length d (w.take 0) (nxtW w)).map nI)] by rw [List.take_zero, moved_nil Dd]]
      refine forL_inv (fun k env t => t = st ++ [.dct false (heldK (ownL d))] ++ [.lst ((moved rows.length d (w.take k) (nxtW w)).map nI)] ∧ ∃ x8 x9, env = [some (.v (hallD rows)), some (.v (tNs d)), some (.ref st.length), x3, x4, some (.v (.int (i : Int))), some (.v (lNs w)), some (.ref (st.length + 1)), x8, x9]) _ _ _ 0 ?_ ?_ ⟨rfl, _, _, rfl⟩
      · rintro k dd env t hd ⟨rfl, x8, x9, rfl⟩
        rw [Nat.zero_add] at *
        rw [List.getElem?_map] at hd
        obtain ⟨p, hp, rfl⟩ := Option.map_eq_some_iff.mp hd
        obtain ⟨hp1, hp2⟩ := List.getElem?_zip_eq_some.mp hp
        have hk := (List.getElem?_eq_some_iff.mp hp1).1
        have hpw : p.1 ∈ w := List.mem_of_getElem? hp1
        have hix : w.idxOf p.1 = k := by
          obtain ⟨h1, h2⟩ := List.getElem?_eq_some_iff.mp hp1
          rw [← h2]
          exact List.Nodup.idxOf_getElem r.nd k h1
        have hnx : p.2 = nxtW w p.1 := by
          unfold nxtW
          rw [hix]
          have := at_get (d := w.tail ++ w.take 1) (i := k) (by rw [(rot_perm w).length_eq]; exact hk)
          rw [hp2] at this
          exact Option.some.inj this
        have hpn := r.lt _ hpw
        have hp2n : p.2 < rows.length := by rw [hnx]; exact r.lt _ (nxtW_mem hpw)
        refine ⟨trivial, ?_⟩
        unfold better_than_G2 better_than_B2
        rw [ok_gTp2]
        have h1 : ∀ t, subsD (.v (tNs d)) (.v (nI p.2)) t = .ok (.v (nI (at' d p.2))) t := fun t => at_sub (by rw [Dd.len]; exact hp2n)
        simp only [envE, so_seq, so_if, so_ret, so_retN, so_exp, so_nil, so_nx, so_rt, so_asg, so_asgG, so_par2, so_par3, ok_gNm, ok_gMore, ok_gNone, so_asgT, so_sub, so_for, ok_TB, ok_Tru, ok_notT, ok_andT, ok_orT, ok_andV, ok_orV, ok_notV, ok_iteE, ok_frz, ok_new, ok_mfArg, ok_mfBin, ok_lc, ok_M, ok_M0, ok_moNone, ok_moSome, ok_Sl,
  ok_bin, ok_un, ok_arg, ok_cons, ok_nil, ok_call, ok_var, ok_C, ok_ok, ok_stuck, ok_noX, bOf_bool, low_v, iOf_int, addD_int, subD_int, negD_int, ltD_int, leD_int, gtD_int, geD_int, fInt_int, isD_bool, isNotD_bool, tru_bool, List.map_cons, List.map_nil, List.length_cons, List.length_nil, List.replicate_succ, List.replicate_zero, List.cons_append, List.nil_append,
  List.append_nil, List.getElem?_cons_zero, List.getElem?_cons_succ, List.set_cons_zero, List.set_cons_succ, Option.some.injEq, exists_eq_left', exists_eq_left, true_and, and_true, true_implies, false_implies, implies_true, Bool.false_eq_true, reduceCtorEq, false_and, and_false, D.v.injEq, PyData.int.injEq, D.ref.injEq, p1i_int, p2_two, p3_three, decide_true, Bool.not_true, Bool.not_false, decide_eq_true_eq, decide_eq_false_iff_not, h1]
        rw [set_ref two_at1 (by rw [List.length_map]; unfold moved; rw [List.length_map, List.length_range]; exact hpn), ok_ok, two_set1]
        refine ⟨?_, _, _, rfl⟩
        rw [← List.map_set, hnx, moved_set, List.take_add_one, hp1]
        rfl
      · rintro env t ⟨rfl, x8, x9, rfl⟩
        refine ⟨trivial, ?_⟩
        have hl : (List.map (fun p : Nat × Nat => Itm.many [.v (nI p.1), .v (nI p.2)]) (w.zip (w.tail ++ w.take 1))).length = w.length := by
          rw [List.length_map, List.length_zip, (rot_perm w).length_eq, Nat.min_self]
        rw [Nat.zero_add, hl, List.take_length]
        simp only [envE, so_seq, so_if, so_ret, so_retN, so_exp, so_nil, so_nx, so_rt, so_asg, so_asgG, so_par2, so_par3, ok_gNm, ok_gMore, ok_gNone, so_asgT, so_sub, so_for, ok_TB, ok_Tru, ok_notT, ok_andT, ok_orT, ok_andV, ok_orV, ok_notV, ok_iteE, ok_frz, ok_new, ok_mfArg, ok_mfBin, ok_lc, ok_M, ok_M0, ok_moNone, ok_moSome, ok_Sl,
  ok_bin, ok_un, ok_arg, ok_cons, ok_nil, ok_call, ok_var, ok_C, ok_ok, ok_stuck, ok_noX, bOf_bool, low_v, iOf_int, addD_int, subD_int, negD_int, ltD_int, leD_int, gtD_int, geD_int, fInt_int, isD_bool, isNotD_bool, tru_bool, List.map_cons, List.map_nil, List.length_cons, List.length_nil, List.replicate_succ, List.replicate_zero, List.cons_append, List.nil_append,
  List.append_nil, List.getElem?_cons_zero, List.getElem?_cons_succ, List.set_cons_zero, List.set_cons_succ, Option.some.injEq, exists_eq_left', exists_eq_left, true_and, and_true, true_implies, false_implies, implies_true, Bool.false_eq_true, reduceCtorEq, false_and, and_false, D.v.injEq, PyData.int.injEq, D.ref.injEq, p1i_int, p2_two, p3_three, decide_true, Bool.not_true, Bool.not_false, decide_eq_true_eq, decide_eq_false_iff_not, tup_of two_at1, two_take]
        obtain ⟨b1, b2⟩ := r.btr H Dd
        exact .inl ⟨_, rfl, b1, b2⟩
    · unfold better_than_B1_2
      have hnn : ∀ t, isNotD (.v .none) (.v .none) t = .ok (.v (.bool false)) t := fun t => rfl
      simp only [envE, so_seq, so_if, so_ret, so_retN, so_exp, so_nil, so_nx, so_rt, so_asg, so_asgG, so_par2, so_par3, ok_gNm, ok_gMore, ok_gNone, so_asgT, so_sub, so_for, ok_TB, ok_Tru, ok_notT, ok_andT, ok_orT, ok_andV, ok_orV, ok_notV, ok_iteE, ok_frz, ok_new, ok_mfArg, ok_mfBin, ok_lc, ok_M, ok_M0, ok_moNone, ok_moSome, ok_Sl,
  ok_bin, ok_un, ok_arg, ok_cons, ok_nil, ok_call, ok_var, ok_C, ok_ok, ok_stuck, ok_noX, bOf_bool, low_v, iOf_int, addD_int, subD_int, negD_int, ltD_int, leD_int, gtD_int, geD_int, fInt_int, isD_bool, isNotD_bool, tru_bool, List.map_cons, List.map_nil, List.length_cons, List.length_nil, List.replicate_succ, List.replicate_zero, List.cons_append, List.nil_append,
  List.append_nil, List.getElem?_cons_zero, List.getElem?_cons_succ, List.set_cons_zero, List.set_cons_succ, Option.some.injEq, exists_eq_left', exists_eq_left, true_and, and_true, true_implies, false_implies, implies_true, Bool.false_eq_true, reduceCtorEq, false_and, and_false, D.v.injEq, PyData.int.injEq, D.ref.injEq, p1i_int, p2_two, p3_three, decide_true, Bool.not_true, Bool.not_false, decide_eq_true_eq, decide_eq_false_iff_not, hnn]
      refine ⟨fun s hs e De hle => ?_, _, _, _, _, _, _, _, rfl⟩
      rcases Nat.lt_or_ge s i with z | z
      · exact hfix s z e De hle
      · have : s = i := by omega
        subst this
        exact no_ring H Dd De hle s1 s2 s3 s4
  · rintro env t ⟨rfl, hfix, x3, x4, x5, x6, x7, x8, x9, rfl⟩
    refine ⟨trivial, ?_⟩
    unfold S_better_than_3
    have hl : (rngI 0 rows.length).length = rows.length := by unfold rngI; rw [List.length_map, List.length_range]
    rw [hl, Nat.zero_add] at hfix
    simp only [envE, so_seq, so_if, so_ret, so_retN, so_exp, so_nil, so_nx, so_rt, so_asg, so_asgG, so_par2, so_par3, ok_gNm, ok_gMore, ok_gNone, so_asgT, so_sub, so_for, ok_TB, ok_Tru, ok_notT, ok_andT, ok_orT, ok_andV, ok_orV, ok_notV, ok_iteE, ok_frz, ok_new, ok_mfArg, ok_mfBin, ok_lc, ok_M, ok_M0, ok_moNone, ok_moSome, ok_Sl,
  ok_bin, ok_un, ok_arg, ok_cons, ok_nil, ok_call, ok_var, ok_C, ok_ok, ok_stuck, ok_noX, bOf_bool, low_v, iOf_int, addD_int, subD_int, negD_int, ltD_int, leD_int, gtD_int, geD_int, fInt_int, isD_bool, isNotD_bool, tru_bool, List.map_cons, List.map_nil, List.length_cons, List.length_nil, List.replicate_succ, List.replicate_zero, List.cons_append, List.nil_append,
  List.append_nil, List.getElem?_cons_zero, List.getElem?_cons_succ, List.set_cons_zero, List.set_cons_succ, Option.some.injEq, exists_eq_left', exists_eq_left, true_and, and_true, true_implies, false_implies, implies_true, Bool.false_eq_true, reduceCtorEq, false_and, and_false, D.v.injEq, PyData.int.injEq, D.ref.injEq, p1i_int, p2_two, p3_three, decide_true, Bool.not_true, Bool.not_false, decide_eq_true_eq, decide_eq_false_iff_not]
    refine ⟨List.take_left, .inr fun e De B => ?_⟩
    obtain ⟨i, hi, hlt⟩ := B.2
    rw [hfix i hi e De B.1] at hlt
    exact Nat.lt_irrefl _ hlt
end
end Wk37
namespace Wk37
open PySem PySem.Spec PyProof.Rows L2 Fw Fw.Hl Fw.Ho Fw.Da Fw.Aq Fw.Tl
section
variable {rows : List (List Nat)} {n i j h g k start : Nat} {d e w S : List Nat} {F : List (Nat × Nat)} {st : Sto}
def fct : Nat → Nat
  | 0 => 1
  | n + 1 => (n + 1) * fct n
theorem eq_nilT' {xs : List PyData} (h : SeqAt.shaped (.tuple xs) = true) : eqD (.v (.tuple xs)) (.v (.tuple [])) st = .ok (.v (.bool xs.isEmpty)) st := by
  have q := ne_nilT (st := st) h
  unfold neD at q
  unfold eqD
  cases e : eqS st (.v (.tuple xs)) (.v (.tuple [])) with
  | none => rw [e] at q; cases q
  | some k =>
    rw [e] at q
    have q : Out.ok (D.v (.bool (!k))) st = Out.ok (D.v (.bool (!xs.isEmpty))) st := q
    injection q with q
    injection q with q
    injection q with q
    have : k = xs.isEmpty := by cases k <;> cases h2 : xs.isEmpty <;> rw [h2] at q <;> first | rfl | cases q
    rw [this]
theorem perm_cons_iff {l p : List Nat} (ne : l ≠ []) : p.Perm l ↔ ∃ j : Nat, ∃ (hj : j < l.length), ∃ q : List Nat, q.Perm (l.eraseIdx j) ∧ p = l[j] :: q := by
  constructor
  · intro h
    cases p with
    | nil => exact absurd (List.Perm.eq_nil h.symm) ne
    | cons x q =>
      have hx : x ∈ l := h.mem_iff.mp (.head _)
      have hj := List.idxOf_lt_length_of_mem hx
      refine ⟨l.idxOf x, hj, q, ?_, by rw [List.getElem_idxOf hj]⟩
      have h2 := h.erase x
      rw [List.erase_cons_head, List.erase_eq_eraseIdx_of_idxOf rfl] at h2
      exact h2
  · rintro ⟨j, hj, q, hq, rfl⟩
    refine (hq.cons _).trans ?_
    rw [List.eraseIdx_eq_take_drop_succ]
    refine List.perm_middle.symm.trans ?_
    rw [← List.drop_eq_getElem_cons hj, List.take_append_drop]
theorem orders_ok : ∀ (m : Nat) (l : List Nat) (st : Sto), l.length < m → l.length ≤ 5 → (r_law_orders m [.v (tNs l)] st).Ok fun r t => t = st ∧ ∃ L : List (List Nat), r = .v (.list (L.map tNs)) ∧ L.length = fct l.length ∧ ∀ p, p ∈ L ↔ p.Perm l
  | 0, l, st, h, _ => absurd h (Nat.not_lt_zero _)
  | m + 1, l, st, h, h5 => by
    refine fnT_ok ?_
    unfold S_law_orders
    have t0 : ∀ s, fTup [] s = .ok (.v (.tuple [])) s := fun s => rfl
    have disp1 : ∀ {a : PyData} {s}, gDisp [.v a] s = .ok [a] s := fun {_ _} => rfl
    have he : ∀ t, eqD (.v (tNs l)) (.v (.tuple [])) t = .ok (.v (.bool l.isEmpty)) t := fun t => by
      rw [show (D.v (tNs l)) = .v (.tuple (l.map nI)) from rfl, eq_nilT' (shaped_nats l)]
      cases l <;> rfl
    simp only [envE, so_seq, so_if, so_ret, so_retN, so_exp, so_nil, so_nx, so_rt, so_asg, so_asgG, so_par2, so_par3, ok_gNm, ok_gMore, ok_gNone, so_asgT, so_sub, so_for, ok_TB, ok_Tru, ok_notT, ok_andT, ok_orT, ok_andV, ok_orV, ok_notV, ok_iteE, ok_frz, ok_new, ok_mfArg, ok_mfBin, ok_lc, ok_M, ok_M0, ok_moNone, ok_moSome, ok_Sl,
  ok_bin, ok_un, ok_arg, ok_cons, ok_nil, ok_call, ok_var, ok_C, ok_ok, ok_stuck, ok_noX, bOf_bool, low_v, iOf_int, addD_int, subD_int, negD_int, ltD_int, leD_int, gtD_int, geD_int, fInt_int, isD_bool, isNotD_bool, tru_bool, List.map_cons, List.map_nil, List.length_cons, List.length_nil, List.replicate_succ, List.replicate_zero, List.cons_append, List.nil_append,
  List.append_nil, List.getElem?_cons_zero, List.getElem?_cons_succ, List.set_cons_zero, List.set_cons_succ, Option.some.injEq, exists_eq_left', exists_eq_left, true_and, and_true, true_implies, false_implies, implies_true, Bool.false_eq_true, reduceCtorEq, false_and, and_false, D.v.injEq, PyData.int.injEq, D.ref.injEq, p1i_int, p2_two, p3_three, decide_true, Bool.not_true, Bool.not_false, decide_eq_true_eq, decide_eq_false_iff_not, t0, disp1, he, disp0]
    refine ⟨fun h0 => ?_, fun h0 => ?_⟩
    · have h0 := List.isEmpty_iff.mp h0
      subst h0
      refine ⟨List.take_length, [[]], rfl, rfl, fun p => ?_⟩
      rw [List.mem_singleton]
      exact ⟨fun z => by rw [z], fun z => List.Perm.eq_nil z⟩
    · have ne : l ≠ [] := fun z => by rw [z] at h0; cases h0
      unfold S_law_orders_2
      simp only [envE, so_seq, so_if, so_ret, so_retN, so_exp, so_nil, so_nx, so_rt, so_asg, so_asgG, so_par2, so_par3, ok_gNm, ok_gMore, ok_gNone, so_asgT, so_sub, so_for, ok_TB, ok_Tru, ok_notT, ok_andT, ok_orT, ok_andV, ok_orV, ok_notV, ok_iteE, ok_frz, ok_new, ok_mfArg, ok_mfBin, ok_lc, ok_M, ok_M0, ok_moNone, ok_moSome, ok_Sl,
  ok_bin, ok_un, ok_arg, ok_cons, ok_nil, ok_call, ok_var, ok_C, ok_ok, ok_stuck, ok_noX, bOf_bool, low_v, iOf_int, addD_int, subD_int, negD_int, ltD_int, leD_int, gtD_int, geD_int, fInt_int, isD_bool, isNotD_bool, tru_bool, List.map_cons, List.map_nil, List.length_cons, List.length_nil, List.replicate_succ, List.replicate_zero, List.cons_append, List.nil_append,
  List.append_nil, List.getElem?_cons_zero, List.getElem?_cons_succ, List.set_cons_zero, List.set_cons_succ, Option.some.injEq, exists_eq_left', exists_eq_left, true_and, and_true, true_implies, false_implies, implies_true, Bool.false_eq_true, reduceCtorEq, false_and, and_false, D.v.injEq, PyData.int.injEq, D.ref.injEq, p1i_int, p2_two, p3_three, decide_true, Bool.not_true, Bool.not_false, decide_eq_true_eq, decide_eq_false_iff_not, disp0]
      unfold S_law_orders_3 law_orders_E2
      have hlen : ∀ t, fLen [.v (tNs l)] t = .ok (.v (nI l.length)) t := fun t => by
        show fLen [.v (.tuple (l.map nI))] t = _
        rw [Fw.len_tup, List.length_map]
      simp only [envE, so_seq, so_if, so_ret, so_retN, so_exp, so_nil, so_nx, so_rt, so_asg, so_asgG, so_par2, so_par3, ok_gNm, ok_gMore, ok_gNone, so_asgT, so_sub, so_for, ok_TB, ok_Tru, ok_notT, ok_andT, ok_orT, ok_andV, ok_orV, ok_notV, ok_iteE, ok_frz, ok_new, ok_mfArg, ok_mfBin, ok_lc, ok_M, ok_M0, ok_moNone, ok_moSome, ok_Sl,
  ok_bin, ok_un, ok_arg, ok_cons, ok_nil, ok_call, ok_var, ok_C, ok_ok, ok_stuck, ok_noX, bOf_bool, low_v, iOf_int, addD_int, subD_int, negD_int, ltD_int, leD_int, gtD_int, geD_int, fInt_int, isD_bool, isNotD_bool, tru_bool, List.map_cons, List.map_nil, List.length_cons, List.length_nil, List.replicate_succ, List.replicate_zero, List.cons_append, List.nil_append,
  List.append_nil, List.getElem?_cons_zero, List.getElem?_cons_succ, List.set_cons_zero, List.set_cons_succ, Option.some.injEq, exists_eq_left', exists_eq_left, true_and, and_true, true_implies, false_implies, implies_true, Bool.false_eq_true, reduceCtorEq, false_and, and_false, D.v.injEq, PyData.int.injEq, D.ref.injEq, p1i_int, p2_two, p3_three, decide_true, Bool.not_true, Bool.not_false, decide_eq_true_eq, decide_eq_false_iff_not, ok_R1, hlen]
      refine ⟨⟨by omega, by omega⟩, ?_⟩
      rw [Int.toNat_natCast]
      have hb : fct (l.length - 1) ≤ 24 := by
        have : l.length = 0 ∨ l.length = 1 ∨ l.length = 2 ∨ l.length = 3 ∨ l.length = 4 ∨ l.length = 5 := by omega
        rcases this with e | e | e | e | e | e <;> rw [e] <;> decide
      refine forL_inv (fun i env t => t = st ∧ ∃ L : List (List Nat), L.length = i * fct (l.length - 1) ∧ (∀ p, p ∈ L ↔ ∃ j : Nat, ∃ (hj : j < l.length), j < i ∧ ∃ q : List Nat, q.Perm (l.eraseIdx j) ∧ p = l[j] :: q) ∧ ∃ x2 x3, env = [some (.v (tNs l)), some (.v (.list (L.map tNs))), x2, x3]) _ _ _ 0 ?_ ?_ ⟨rfl, [], by simp, fun p => ⟨(fun z => nomatch z), fun ⟨j, _, z, _⟩ => absurd z (Nat.not_lt_zero _)⟩, _, _, rfl⟩
      · rintro i dd env t hd ⟨rfl, L, hL, mem, x2, x3, rfl⟩
        obtain ⟨hi, rfl⟩ := rngI_get hd
        simp only [Nat.zero_add, Int.zero_add] at hL mem ⊢
        refine ⟨trivial, ?_⟩
        have hel : (l.eraseIdx i).length = l.length - 1 := by rw [List.length_eraseIdx, if_pos hi]
        unfold law_orders_G2 law_orders_B1 law_orders_E1 law_orders_T1
        have a1 : ∀ s, slD (.v (tNs l)) none (some (i : Int)) s = .ok (.v (.tuple ((l.take i).map nI))) s := fun s => by
          show slD (.v (.tuple (l.map nI))) none _ s = _
          rw [slice_tup, cut_take, ← List.map_take]
        have a0 : ∀ s, addD (.v (.int (i : Int))) (.v (.int 1)) s = .ok (.v (.int ((i + 1 : Nat) : Int))) s := fun s => by rw [addD_int]; rfl
        have a2 : ∀ s, slD (.v (tNs l)) (some ((i + 1 : Nat) : Int)) none s = .ok (.v (.tuple ((l.drop (i + 1)).map nI))) s := fun s => by
          show slD (.v (.tuple (l.map nI))) _ none s = _
          rw [slice_tup, cut_drop, ← List.map_drop]
        have a3 : ∀ s, addD (.v (.tuple ((l.take i).map nI))) (.v (.tuple ((l.drop (i + 1)).map nI))) s = .ok (.v (tNs (l.eraseIdx i))) s := fun s => by
          rw [add_tupD (by rw [List.length_map, List.length_map, List.length_take, List.length_drop]; omega), ← List.map_append, List.eraseIdx_eq_take_drop_succ]
        have hio : iOf (.v (.int ((i + 1 : Nat) : Int))) = some ((i + 1 : Nat) : Int) := rfl
        simp only [envE, so_seq, so_if, so_ret, so_retN, so_exp, so_nil, so_nx, so_rt, so_asg, so_asgG, so_par2, so_par3, ok_gNm, ok_gMore, ok_gNone, so_asgT, so_sub, so_for, ok_TB, ok_Tru, ok_notT, ok_andT, ok_orT, ok_andV, ok_orV, ok_notV, ok_iteE, ok_frz, ok_new, ok_mfArg, ok_mfBin, ok_lc, ok_M, ok_M0, ok_moNone, ok_moSome, ok_Sl,
  ok_bin, ok_un, ok_arg, ok_cons, ok_nil, ok_call, ok_var, ok_C, ok_ok, ok_stuck, ok_noX, bOf_bool, low_v, iOf_int, addD_int, subD_int, negD_int, ltD_int, leD_int, gtD_int, geD_int, fInt_int, isD_bool, isNotD_bool, tru_bool, List.map_cons, List.map_nil, List.length_cons, List.length_nil, List.replicate_succ, List.replicate_zero, List.cons_append, List.nil_append,
  List.append_nil, List.getElem?_cons_zero, List.getElem?_cons_succ, List.set_cons_zero, List.set_cons_succ, Option.some.injEq, exists_eq_left', exists_eq_left, true_and, and_true, true_implies, false_implies, implies_true, Bool.false_eq_true, reduceCtorEq, false_and, and_false, D.v.injEq, PyData.int.injEq, D.ref.injEq, p1i_int, p2_two, p3_three, decide_true, Bool.not_true, Bool.not_false, decide_eq_true_eq, decide_eq_false_iff_not, ok_seq, a1]
        have a2' : ∀ s, slD (.v (tNs l)) (some ((i : Int) + 1)) none s = .ok (.v (.tuple ((l.drop (i + 1)).map nI))) s := a2
        rw [a2', ok_ok, a3, ok_ok]
        refine (orders_ok m (l.eraseIdx i) _ (by omega) (by omega)).mono ?_
        rintro _ _ ⟨rfl, M, rfl, hM, memM⟩
        simp only [seqW_list, ok_ok, List.map_map]
        rw [lcL_all _ (fun q : List Nat => tNs (l[i] :: q))]
        rotate_left
        · intro q hq
          unfold law_orders_G1 law_orders_M1
          show (gNm 3 (.one (.v (tNs q))) _ _).Ok _
          have hq5 : q.length ≤ 5 := by rw [((memM q).mp hq).length_eq, hel]; omega
          have h1 : ∀ t, subsD (.v (tNs l)) (.v (.int (i : Int))) t = .ok (.v (nI l[i])) t := fun t => by
            refine sub_tup (k := i) ?_
            rw [List.getElem?_map, List.getElem?_eq_getElem hi]
            rfl
          have t1 : ∀ {x : PyData} {s}, fTup [.v x] s = .ok (.v (.tuple [x])) s := fun {_ _} => rfl
          have h2 : ∀ t, addD (.v (.tuple [nI l[i]])) (.v (tNs q)) t = .ok (.v (tNs (l[i] :: q))) t := fun t => by
            show addD _ (.v (.tuple (q.map nI))) t = _
            rw [add_tupD (by rw [List.length_map]; show 1 + _ ≤ _; omega)]
            rfl
          simp only [envE, so_seq, so_if, so_ret, so_retN, so_exp, so_nil, so_nx, so_rt, so_asg, so_asgG, so_par2, so_par3, ok_gNm, ok_gMore, ok_gNone, so_asgT, so_sub, so_for, ok_TB, ok_Tru, ok_notT, ok_andT, ok_orT, ok_andV, ok_orV, ok_notV, ok_iteE, ok_frz, ok_new, ok_mfArg, ok_mfBin, ok_lc, ok_M, ok_M0, ok_moNone, ok_moSome, ok_Sl,
  ok_bin, ok_un, ok_arg, ok_cons, ok_nil, ok_call, ok_var, ok_C, ok_ok, ok_stuck, ok_noX, bOf_bool, low_v, iOf_int, addD_int, subD_int, negD_int, ltD_int, leD_int, gtD_int, geD_int, fInt_int, isD_bool, isNotD_bool, tru_bool, List.map_cons, List.map_nil, List.length_cons, List.length_nil, List.replicate_succ, List.replicate_zero, List.cons_append, List.nil_append,
  List.append_nil, List.getElem?_cons_zero, List.getElem?_cons_succ, List.set_cons_zero, List.set_cons_succ, Option.some.injEq, exists_eq_left', exists_eq_left, true_and, and_true, true_implies, false_implies, implies_true, Bool.false_eq_true, reduceCtorEq, false_and, and_false, D.v.injEq, PyData.int.injEq, D.ref.injEq, p1i_int, p2_two, p3_three, decide_true, Bool.not_true, Bool.not_false, decide_eq_true_eq, decide_eq_false_iff_not, wipeE, h1, t1, h2]
        rw [ok_ok]
        have hsz : L.length ≤ 5 * 24 := by rw [hL]; exact Nat.mul_le_mul (by omega) hb
        have hM2 : M.length ≤ 24 := by rw [hM, hel]; exact hb
        rw [cat_list (by rw [List.length_map, List.length_map]; omega), ok_ok]
        refine ⟨rfl, L ++ M.map (fun q => l[i] :: q), ?_, fun p => ?_, some (.v (.int (i : Int))), x3, ?_⟩
        · rw [List.length_append, List.length_map, hL, hM, hel, Nat.succ_mul]
        · rw [List.mem_append, mem, List.mem_map]
          constructor
          · rintro (⟨j, hj, h1, h2⟩ | ⟨q, hq, rfl⟩)
            · exact ⟨j, hj, by omega, h2⟩
            · exact ⟨i, hi, by omega, q, (memM q).mp hq, rfl⟩
          · rintro ⟨j, hj, h1, q, hq, rfl⟩
            rcases Nat.lt_or_ge j i with z | z
            · exact .inl ⟨j, hj, z, q, hq, rfl⟩
            · have : j = i := by omega
              subst this
              exact .inr ⟨q, (memM q).mpr hq, rfl⟩
        · rw [List.map_append, List.map_map]
          rfl
      · rintro env t ⟨rfl, L, hL, mem, x2, x3, rfl⟩
        refine ⟨trivial, ?_⟩
        have hl : (rngI 0 l.length).length = l.length := by unfold rngI; rw [List.length_map, List.length_range]
        rw [hl, Nat.zero_add] at hL mem
        unfold S_law_orders_4
        simp only [envE, so_seq, so_if, so_ret, so_retN, so_exp, so_nil, so_nx, so_rt, so_asg, so_asgG, so_par2, so_par3, ok_gNm, ok_gMore, ok_gNone, so_asgT, so_sub, so_for, ok_TB, ok_Tru, ok_notT, ok_andT, ok_orT, ok_andV, ok_orV, ok_notV, ok_iteE, ok_frz, ok_new, ok_mfArg, ok_mfBin, ok_lc, ok_M, ok_M0, ok_moNone, ok_moSome, ok_Sl,
  ok_bin, ok_un, ok_arg, ok_cons, ok_nil, ok_call, ok_var, ok_C, ok_ok, ok_stuck, ok_noX, bOf_bool, low_v, iOf_int, addD_int, subD_int, negD_int, ltD_int, leD_int, gtD_int, geD_int, fInt_int, isD_bool, isNotD_bool, tru_bool, List.map_cons, List.map_nil, List.length_cons, List.length_nil, List.replicate_succ, List.replicate_zero, List.cons_append, List.nil_append,
  List.append_nil, List.getElem?_cons_zero, List.getElem?_cons_succ, List.set_cons_zero, List.set_cons_succ, Option.some.injEq, exists_eq_left', exists_eq_left, true_and, and_true, true_implies, false_implies, implies_true, Bool.false_eq_true, reduceCtorEq, false_and, and_false, D.v.injEq, PyData.int.injEq, D.ref.injEq, p1i_int, p2_two, p3_three, decide_true, Bool.not_true, Bool.not_false, decide_eq_true_eq, decide_eq_false_iff_not]
        refine ⟨List.take_length, L, rfl, ?_, fun p => ?_⟩
        · rw [hL]
          have : ∃ k, l.length = k + 1 := ⟨l.length - 1, by have := List.length_pos_iff.mpr ne; omega⟩
          obtain ⟨k, e⟩ := this
          rw [e]
          rfl
        · rw [mem, perm_cons_iff ne]
          constructor
          · rintro ⟨j, hj, _, q⟩
            exact ⟨j, hj, q⟩
          · rintro ⟨j, hj, q⟩
            exact ⟨j, hj, hj, q⟩
end
end Wk37
namespace Wk37
open PySem PySem.Spec PyProof.Rows L2 Fw Fw.Hl Fw.Ho Fw.Da Fw.Aq Fw.Tl
section
variable {rows : List (List Nat)} {n i j h g k start : Nat} {d e w S : List Nat} {F : List (Nat × Nat)} {st : Sto}
theorem dl_perm : Dl n d ↔ d.Perm (List.range n) := by
  constructor
  · intro D
    refine (List.perm_ext_iff_of_nodup D.nd List.nodup_range).mpr fun a => ?_
    rw [List.mem_range]
    refine ⟨D.lt a, fun ha => ?_⟩
    obtain ⟨i, hi, e⟩ := D.all ha
    rw [← e]
    exact at_mem (by rw [D.len]; exact hi)
  · intro h
    exact ⟨by rw [h.length_eq, List.length_range], h.nodup_iff.mpr List.nodup_range, fun x hx => List.mem_range.mp (h.mem_iff.mp hx)⟩
theorem rep_dl (Dd : Dl n d) (hn : n ≤ 50) : Rep (tNs d) 50 1 := rep_tNs (fun k hk => Nat.lt_trans (Nat.lt_of_lt_of_le (Dd.lt k hk) hn) (by decide)) (by rw [Dd.len]; exact hn)
theorem eqS_tNs {l m : List Nat} (hl : ∀ x ∈ l, x < 50) (hm : ∀ x ∈ m, x < 50) (h1 : l.length ≤ 50) (h2 : m.length ≤ 50) : eqS st (.v (tNs l)) (.v (tNs m)) = some (decide (l = m)) := by
  have r1 := rep_tNs (w := 50) (fun k hk => Nat.lt_trans (hl k hk) (by decide)) h1
  have r2 := rep_tNs (w := 50) (fun k hk => Nat.lt_trans (hm k hk) (by decide)) h2
  refine (eqT_of (st := st) (shaped_of r1) (shaped_of r2)).trans ?_
  have all : ∀ l m : List Nat, PyData.eqvAll (l.map nI) (m.map nI) = decide (l = m) := fun l => by
    induction l with
    | nil => intro m; cases m <;> simp [PyData.eqvAll]
    | cons x r ih =>
      intro m
      cases m with
      | nil => simp [PyData.eqvAll]
      | cons y s =>
        rw [List.map_cons, List.map_cons, PyData.eqvAll, ih, eqv_nat]
        by_cases e1 : x = y <;> by_cases e2 : r = s <;> simp [e1, e2]
  show some (PyData.eqv (.tuple (l.map nI)) (.tuple (m.map nI))) = _
  rw [PyData.eqv, all]
theorem notIn_ords {L : List (List Nat)} (he : ∀ x ∈ e, x < 50) (h1 : e.length ≤ 50) (hL : ∀ l ∈ L, (∀ x ∈ l, x < 50) ∧ l.length ≤ 50) (hLl : L.length ≤ 200) : notInU (.v (tNs e)) (.v (.list (L.map tNs))) st = .ok (.v (.bool (!decide (e ∈ L)))) st := by
  have r1 := rep_tNs (w := 50) (fun k hk => Nat.lt_trans (he k hk) (by decide)) h1
  have r2 : Rep (.list (L.map tNs)) (200 * (50 + 1)) 2 := rep_list (fun x hx => by
    obtain ⟨l, hl, rfl⟩ := List.mem_map.mp hx
    obtain ⟨a, b⟩ := hL l hl
    exact rep_tNs (fun k hk => Nat.lt_trans (a k hk) (by decide)) b) (by rw [List.length_map]; exact hLl)
  have anyq : ∀ L : List (List Nat), (∀ l ∈ L, (∀ x ∈ l, x < 50) ∧ l.length ≤ 50) → ((L.map tNs).any fun y => PyData.eqv y (tNs e)) = decide (e ∈ L) := fun L => by
    induction L with
    | nil => intro _; simp
    | cons l r ih =>
      intro hL
      rw [List.map_cons, List.any_cons, ih fun l hl => hL l (.tail _ hl)]
      obtain ⟨a, b⟩ := hL l (.head _)
      have := eqS_tNs (st := st) a he b h1
      have h3 : eqS st (.v (tNs l)) (.v (tNs e)) = eqT st (.v (tNs l)) (.v (tNs e)) := rfl
      rw [h3, eqT_of (shaped_of (rep_tNs (w := 50) (fun k hk => Nat.lt_trans (a k hk) (by decide)) b)) (shaped_of r1)] at this
      rw [Option.some.inj this]
      by_cases e1 : l = e
      · subst e1; simp
      · have e2 : ¬ e = l := fun z => e1 z.symm
        simp [e1, e2]
  show (match inS st (.v (tNs e)) (.v (.list (L.map tNs))) with
    | some k => Out.ok (D.v (.bool (!k))) st
    | none => .stuck) = _
  have key : inS st (.v (tNs e)) (.v (.list (L.map tNs))) = some (decide (e ∈ L)) := by
    show (if flatP (tNs e) && (L.map tNs).all flatP then some ((L.map tNs).any fun y => PyData.eqv y (tNs e))
      else if SeqAt.shaped (tNs e) && SeqAt.shaped (.list (L.map tNs)) then some ((L.map tNs).any fun y => PyData.eqv y (tNs e)) else none) = _
    have f : (flatP (tNs e) && (L.map tNs).all flatP) = false := rfl
    rw [f, shaped_of r1, shaped_of r2, anyq L hL]
    rfl
  rw [key]
theorem sort_sq {s : List Nat} (q : Sq n s) : sortN s = List.range n := by
  have h1 := (sortN_perm s).trans q.perm
  exact List.Perm.eq_of_pairwise (le := (· ≤ ·)) (fun a b _ _ h1 h2 => Nat.le_antisymm h1 h2) (sortN_sorted s) List.pairwise_le_range h1
theorem deal_ok {s0 : Src} {rest : Sto} {L : List (List Nat)} {x0 x2 x5 x8 x9 x10 x11 x12 : Option D} (H : Hou rows) (hn : rows.length ≤ 5) (Dd : Dl rows.length d) (memL : ∀ p, p ∈ L ↔ p.Perm (List.range rows.length)) (hLl : L.length ≤ 120) :
    (law_B2 [x0, some (.ref 1), x2, some (.v (hallD rows)), some (.v (nI rows.length)), x5, some (.v (.list (L.map tNs))), some (.v (tNs d)), x8, x9, x10, x11, x12] (s0.sto rest)).Ok
      (fun e2 s2 => s2 = s0.sto rest ∧ ∃ x8 x9 x10 x11 x12, e2 = [x0, some (.ref 1), x2, some (.v (hallD rows)), some (.v (nI rows.length)), x5, some (.v (.list (L.map tNs))), some (.v (tNs d)), x8, x9, x10, x11, x12])
      (fun d st => D.low 0 d = true ∧ d = .v (.bool true)) := by
  have hn50 : rows.length ≤ 50 := by omega
  have small : ∀ {l : List Nat}, Dl rows.length l → (∀ x ∈ l, x < 50) ∧ l.length ≤ 50 := fun {l} D => ⟨fun x hx => by have := D.lt x hx; omega, by rw [D.len]; omega⟩
  unfold law_B2
  simp only [envE, so_seq, so_if, so_ret, so_retN, so_exp, so_nil, so_nx, so_rt, so_asg, so_asgG, so_par2, so_par3, ok_gNm, ok_gMore, ok_gNone, so_asgT, so_sub, so_for, ok_TB, ok_Tru, ok_notT, ok_andT, ok_orT, ok_andV, ok_orV, ok_notV, ok_iteE, ok_frz, ok_new, ok_mfArg, ok_mfBin, ok_lc, ok_M, ok_M0, ok_moNone, ok_moSome, ok_Sl,
  ok_bin, ok_un, ok_arg, ok_cons, ok_nil, ok_call, ok_var, ok_C, ok_ok, ok_stuck, ok_noX, bOf_bool, low_v, iOf_int, addD_int, subD_int, negD_int, ltD_int, leD_int, gtD_int, geD_int, fInt_int, isD_bool, isNotD_bool, tru_bool, List.map_cons, List.map_nil, List.length_cons, List.length_nil, List.replicate_succ, List.replicate_zero, List.cons_append, List.nil_append,
  List.append_nil, List.getElem?_cons_zero, List.getElem?_cons_succ, List.set_cons_zero, List.set_cons_succ, Option.some.injEq, exists_eq_left', exists_eq_left, true_and, and_true, true_implies, false_implies, implies_true, Bool.false_eq_true, reduceCtorEq, false_and, and_false, D.v.injEq, PyData.int.injEq, D.ref.injEq, p1i_int, p2_two, p3_three, decide_true, Bool.not_true, Bool.not_false, decide_eq_true_eq, decide_eq_false_iff_not]
  unfold law_B2_2 law_E1
  simp only [envE, so_seq, so_if, so_ret, so_retN, so_exp, so_nil, so_nx, so_rt, so_asg, so_asgG, so_par2, so_par3, ok_gNm, ok_gMore, ok_gNone, so_asgT, so_sub, so_for, ok_TB, ok_Tru, ok_notT, ok_andT, ok_orT, ok_andV, ok_orV, ok_notV, ok_iteE, ok_frz, ok_new, ok_mfArg, ok_mfBin, ok_lc, ok_M, ok_M0, ok_moNone, ok_moSome, ok_Sl,
  ok_bin, ok_un, ok_arg, ok_cons, ok_nil, ok_call, ok_var, ok_C, ok_ok, ok_stuck, ok_noX, bOf_bool, low_v, iOf_int, addD_int, subD_int, negD_int, ltD_int, leD_int, gtD_int, geD_int, fInt_int, isD_bool, isNotD_bool, tru_bool, List.map_cons, List.map_nil, List.length_cons, List.length_nil, List.replicate_succ, List.replicate_zero, List.cons_append, List.nil_append,
  List.append_nil, List.getElem?_cons_zero, List.getElem?_cons_succ, List.set_cons_zero, List.set_cons_succ, Option.some.injEq, exists_eq_left', exists_eq_left, true_and, and_true, true_implies, false_implies, implies_true, Bool.false_eq_true, reduceCtorEq, false_and, and_false, D.v.injEq, PyData.int.injEq, D.ref.injEq, p1i_int, p2_two, p3_three, decide_true, Bool.not_true, Bool.not_false, decide_eq_true_eq, decide_eq_false_iff_not, ok_seq, seqW_list, List.map_map]
  have gl : ∀ e : List Nat, 0 < (gns rows d e).length := fun e => by rw [gns_len]; exact H.pos
  refine forL_inv (fun j e2 s2 => s2 = s0.sto rest ∧ ∃ b : Bool, (b = true ↔ ∀ p ∈ L.take j, ¬ Btr rows d p) ∧ ∃ x9 x10, e2 = [x0, some (.ref 1), x2, some (.v (hallD rows)), some (.v (nI rows.length)), x5, some (.v (.list (L.map tNs))), some (.v (tNs d)), some (.v (.bool b)), x9, x10, x11, x12]) _ _ _ 0 ?_ ?_ ⟨rfl, true, ⟨(fun _ p z => by rw [List.take_zero] at z; cases z), fun _ => rfl⟩, _, _, rfl⟩
  · rintro j dd env t hd ⟨rfl, b, hb, x9, x10, rfl⟩
    rw [List.getElem?_map] at hd
    obtain ⟨p, hp, rfl⟩ := Option.map_eq_some_iff.mp hd
    have Dp : Dl rows.length p := dl_perm.mpr ((memL p).mp (List.mem_of_getElem? hp))
    refine ⟨trivial, ?_⟩
    unfold law_G1 law_B3
    show (gNm 9 (.one (.v (tNs p))) _ _).Ok _
    have f1 : ∀ s, f_law_gains [.v (hallD rows), .v (tNs d), .v (tNs p)] s = .ok (.v (.list ((gns rows d p).map .int))) s := fun s => gains_eq' H hn50 Dd Dp
    simp only [envE, so_seq, so_if, so_ret, so_retN, so_exp, so_nil, so_nx, so_rt, so_asg, so_asgG, so_par2, so_par3, ok_gNm, ok_gMore, ok_gNone, so_asgT, so_sub, so_for, ok_TB, ok_Tru, ok_notT, ok_andT, ok_orT, ok_andV, ok_orV, ok_notV, ok_iteE, ok_frz, ok_new, ok_mfArg, ok_mfBin, ok_lc, ok_M, ok_M0, ok_moNone, ok_moSome, ok_Sl,
  ok_bin, ok_un, ok_arg, ok_cons, ok_nil, ok_call, ok_var, ok_C, ok_ok, ok_stuck, ok_noX, bOf_bool, low_v, iOf_int, addD_int, subD_int, negD_int, ltD_int, leD_int, gtD_int, geD_int, fInt_int, isD_bool, isNotD_bool, tru_bool, List.map_cons, List.map_nil, List.length_cons, List.length_nil, List.replicate_succ, List.replicate_zero, List.cons_append, List.nil_append,
  List.append_nil, List.getElem?_cons_zero, List.getElem?_cons_succ, List.set_cons_zero, List.set_cons_succ, Option.some.injEq, exists_eq_left', exists_eq_left, true_and, and_true, true_implies, false_implies, implies_true, Bool.false_eq_true, reduceCtorEq, false_and, and_false, D.v.injEq, PyData.int.injEq, D.ref.injEq, p1i_int, p2_two, p3_three, decide_true, Bool.not_true, Bool.not_false, decide_eq_true_eq, decide_eq_false_iff_not, f1]
    unfold law_B3_2
    have m1 : ∀ s, fIntsL lstMin [.v (.list ((gns rows d p).map .int))] s = .ok (.v (.int (lstMin (gns rows d p)))) s := fun s => min_eq (gl p)
    have m2 : ∀ s, fIntsL lstMax [.v (.list ((gns rows d p).map .int))] s = .ok (.v (.int (lstMax (gns rows d p)))) s := fun s => max_eq (gl p)
    simp only [envE, so_seq, so_if, so_ret, so_retN, so_exp, so_nil, so_nx, so_rt, so_asg, so_asgG, so_par2, so_par3, ok_gNm, ok_gMore, ok_gNone, so_asgT, so_sub, so_for, ok_TB, ok_Tru, ok_notT, ok_andT, ok_orT, ok_andV, ok_orV, ok_notV, ok_iteE, ok_frz, ok_new, ok_mfArg, ok_mfBin, ok_lc, ok_M, ok_M0, ok_moNone, ok_moSome, ok_Sl,
  ok_bin, ok_un, ok_arg, ok_cons, ok_nil, ok_call, ok_var, ok_C, ok_ok, ok_stuck, ok_noX, bOf_bool, low_v, iOf_int, addD_int, subD_int, negD_int, ltD_int, leD_int, gtD_int, geD_int, fInt_int, isD_bool, isNotD_bool, tru_bool, List.map_cons, List.map_nil, List.length_cons, List.length_nil, List.replicate_succ, List.replicate_zero, List.cons_append, List.nil_append,
  List.append_nil, List.getElem?_cons_zero, List.getElem?_cons_succ, List.set_cons_zero, List.set_cons_succ, Option.some.injEq, exists_eq_left', exists_eq_left, true_and, and_true, true_implies, false_implies, implies_true, Bool.false_eq_true, reduceCtorEq, false_and, and_false, D.v.injEq, PyData.int.injEq, D.ref.injEq, p1i_int, p2_two, p3_three, decide_true, Bool.not_true, Bool.not_false, decide_eq_true_eq, decide_eq_false_iff_not, m1, m2]
    have nxt : ∀ b2 : Bool, (b2 = true ↔ b = true ∧ ¬ Btr rows d p) → (b2 = true ↔ ∀ q ∈ L.take (0 + j + 1), ¬ Btr rows d q) := fun b2 h => by
      rw [h, hb, Nat.zero_add, List.take_add_one, hp]
      constructor
      · rintro ⟨h1, h2⟩ q hq
        rcases List.mem_append.mp hq with z | z
        · exact h1 q z
        · have : q = p := List.mem_singleton.mp z
          rw [this]; exact h2
      · intro h
        exact ⟨fun q hq => h q (List.mem_append_left _ hq), h p (List.mem_append_right _ (.head _))⟩
    have hB := btr_iff (d := d) (e := p) H
    cases b with
    | false =>
      refine ⟨(fun z => nomatch z), fun _ => ⟨false, nxt false ⟨(fun z => nomatch z), fun z => nomatch z.1⟩, _, _, rfl⟩⟩
    | true =>
      refine ⟨fun _ => ⟨fun h1 => ?_, fun h1 => ?_⟩, (fun z => nomatch z)⟩
      · refine ⟨!decide (lstMax (gns rows d p) > 0), nxt _ ?_, _, _, rfl⟩
        rw [Bool.not_eq_true', decide_eq_false_iff_not]
        constructor
        · intro z
          exact ⟨rfl, fun y => z (hB.mp y).2⟩
        · rintro ⟨_, z⟩ y
          exact z (hB.mpr ⟨by omega, y⟩)
      · refine ⟨!decide (lstMin (gns rows d p) ≥ 0), nxt _ ?_, _, _, rfl⟩
        rw [Bool.not_eq_true', decide_eq_false_iff_not]
        exact ⟨fun _ => ⟨rfl, fun y => h1 (hB.mp y).1⟩, fun _ => h1⟩
  · rintro env t ⟨rfl, b, hb, x9, x10, rfl⟩
    refine ⟨trivial, ?_⟩
    rw [List.length_map, Nat.zero_add, List.take_of_length_le (Nat.le_refl _)] at hb
    have hlean : b = true ↔ Lean' rows d := by
      rw [hb]
      constructor
      · intro h e E
        exact h e ((memL e).mpr (dl_perm.mp E))
      · intro h p hp
        exact h p (dl_perm.mpr ((memL p).mp hp))
    unfold law_B2_3
    simp only [envE, so_seq, so_if, so_ret, so_retN, so_exp, so_nil, so_nx, so_rt, so_asg, so_asgG, so_par2, so_par3, ok_gNm, ok_gMore, ok_gNone, so_asgT, so_sub, so_for, ok_TB, ok_Tru, ok_notT, ok_andT, ok_orT, ok_andV, ok_orV, ok_notV, ok_iteE, ok_frz, ok_new, ok_mfArg, ok_mfBin, ok_lc, ok_M, ok_M0, ok_moNone, ok_moSome, ok_Sl,
  ok_bin, ok_un, ok_arg, ok_cons, ok_nil, ok_call, ok_var, ok_C, ok_ok, ok_stuck, ok_noX, bOf_bool, low_v, iOf_int, addD_int, subD_int, negD_int, ltD_int, leD_int, gtD_int, geD_int, fInt_int, isD_bool, isNotD_bool, tru_bool, List.map_cons, List.map_nil, List.length_cons, List.length_nil, List.replicate_succ, List.replicate_zero, List.cons_append, List.nil_append,
  List.append_nil, List.getElem?_cons_zero, List.getElem?_cons_succ, List.set_cons_zero, List.set_cons_succ, Option.some.injEq, exists_eq_left', exists_eq_left, true_and, and_true, true_implies, false_implies, implies_true, Bool.false_eq_true, reduceCtorEq, false_and, and_false, D.v.injEq, PyData.int.injEq, D.ref.injEq, p1i_int, p2_two, p3_three, decide_true, Bool.not_true, Bool.not_false, decide_eq_true_eq, decide_eq_false_iff_not]
    refine (seq_ok H hn50 Dd).mono ?_
    rintro told _ ⟨rfl, ht⟩
    refine (better_ok H hn50 Dd).mono ?_
    rintro late _ ⟨rfl, hl⟩
    unfold law_B2_4
    have nbb : ∀ (a : Bool) t, neD (.v (.bool a)) (.v (.bool a)) t = .ok (.v (.bool false)) t := fun a t => by cases a <;> rfl
    have nl : ∀ {m : List Nat} {t}, isNotD (.v (tNs m)) (.v .none) t = .ok (.v (.bool true)) t := fun {_ _} => rfl
    have n0 : ∀ t, isNotD (.v .none) (.v .none) t = .ok (.v (.bool false)) t := fun t => rfl
    have il : ∀ {m : List Nat} {t}, isD (.v (tNs m)) (.v .none) t = .ok (.v (.bool false)) t := fun {_ _} => rfl
    have i0 : ∀ t, isD (.v .none) (.v .none) t = .ok (.v (.bool true)) t := fun t => rfl
    rcases ht with ⟨rfl, e, De, Be⟩ | ⟨s, rfl, q, hs⟩
    · have hbf : b = false := by
        cases b with
        | false => rfl
        | true => exact absurd Be (hlean.mp rfl e De)
      subst hbf
      rcases hl with ⟨e2, rfl, De2, Be2⟩ | ⟨rfl, hle⟩
      · simp only [envE, so_seq, so_if, so_ret, so_retN, so_exp, so_nil, so_nx, so_rt, so_asg, so_asgG, so_par2, so_par3, ok_gNm, ok_gMore, ok_gNone, so_asgT, so_sub, so_for, ok_TB, ok_Tru, ok_notT, ok_andT, ok_orT, ok_andV, ok_orV, ok_notV, ok_iteE, ok_frz, ok_new, ok_mfArg, ok_mfBin, ok_lc, ok_M, ok_M0, ok_moNone, ok_moSome, ok_Sl,
  ok_bin, ok_un, ok_arg, ok_cons, ok_nil, ok_call, ok_var, ok_C, ok_ok, ok_stuck, ok_noX, bOf_bool, low_v, iOf_int, addD_int, subD_int, negD_int, ltD_int, leD_int, gtD_int, geD_int, fInt_int, isD_bool, isNotD_bool, tru_bool, List.map_cons, List.map_nil, List.length_cons, List.length_nil, List.replicate_succ, List.replicate_zero, List.cons_append, List.nil_append,
  List.append_nil, List.getElem?_cons_zero, List.getElem?_cons_succ, List.set_cons_zero, List.set_cons_succ, Option.some.injEq, exists_eq_left', exists_eq_left, true_and, and_true, true_implies, false_implies, implies_true, Bool.false_eq_true, reduceCtorEq, false_and, and_false, D.v.injEq, PyData.int.injEq, D.ref.injEq, p1i_int, p2_two, p3_three, decide_true, Bool.not_true, Bool.not_false, decide_eq_true_eq, decide_eq_false_iff_not, n0, il, nbb]
        unfold law_B2_5
        have hm : e2 ∈ L := (memL e2).mpr (dl_perm.mp De2)
        obtain ⟨sm1, sm2⟩ := small De2
        have hin : ∀ t, notInU (.v (tNs e2)) (.v (.list (L.map tNs))) t = .ok (.v (.bool false)) t := fun t => by
          rw [notIn_ords sm1 sm2 (fun l hl => small (dl_perm.mpr ((memL l).mp hl))) (by omega), decide_eq_true hm]
          rfl
        have f1 : ∀ t, f_law_gains [.v (hallD rows), .v (tNs d), .v (tNs e2)] t = .ok (.v (.list ((gns rows d e2).map .int))) t := fun t => gains_eq' H hn50 Dd De2
        have m1 : ∀ t, fIntsL lstMin [.v (.list ((gns rows d e2).map .int))] t = .ok (.v (.int (lstMin (gns rows d e2)))) t := fun t => min_eq (gl e2)
        have m2 : ∀ t, fIntsL lstMax [.v (.list ((gns rows d e2).map .int))] t = .ok (.v (.int (lstMax (gns rows d e2)))) t := fun t => max_eq (gl e2)
        obtain ⟨g1, g2⟩ := (btr_iff (d := d) (e := e2) H).mp Be2
        have l1 : ∀ t, ltD (.v (.int (lstMin (gns rows d e2)))) (.v (.int 0)) t = .ok (.v (.bool false)) t := fun t => by
          rw [ltD_int, decide_eq_false (by omega)]
        have l2 : ∀ t, eqD (.v (.int (lstMax (gns rows d e2)))) (.v (.int 0)) t = .ok (.v (.bool false)) t := fun t => by
          rw [eqD_int, decide_eq_false (by omega)]
        simp only [envE, so_seq, so_if, so_ret, so_retN, so_exp, so_nil, so_nx, so_rt, so_asg, so_asgG, so_par2, so_par3, ok_gNm, ok_gMore, ok_gNone, so_asgT, so_sub, so_for, ok_TB, ok_Tru, ok_notT, ok_andT, ok_orT, ok_andV, ok_orV, ok_notV, ok_iteE, ok_frz, ok_new, ok_mfArg, ok_mfBin, ok_lc, ok_M, ok_M0, ok_moNone, ok_moSome, ok_Sl,
  ok_bin, ok_un, ok_arg, ok_cons, ok_nil, ok_call, ok_var, ok_C, ok_ok, ok_stuck, ok_noX, bOf_bool, low_v, iOf_int, addD_int, subD_int, negD_int, ltD_int, leD_int, gtD_int, geD_int, fInt_int, isD_bool, isNotD_bool, tru_bool, List.map_cons, List.map_nil, List.length_cons, List.length_nil, List.replicate_succ, List.replicate_zero, List.cons_append, List.nil_append,
  List.append_nil, List.getElem?_cons_zero, List.getElem?_cons_succ, List.set_cons_zero, List.set_cons_succ, Option.some.injEq, exists_eq_left', exists_eq_left, true_and, and_true, true_implies, false_implies, implies_true, Bool.false_eq_true, reduceCtorEq, false_and, and_false, D.v.injEq, PyData.int.injEq, D.ref.injEq, p1i_int, p2_two, p3_three, decide_true, Bool.not_true, Bool.not_false, decide_eq_true_eq, decide_eq_false_iff_not, hin, f1, m1, m2, l1, l2]
        exact ⟨_, _, _, _, _, rfl⟩
      · exact absurd Be (hle e De)
    · have hL : Lean' rows d := by rw [← hs]; exact chs_lean H q
      have hbt : b = true := hlean.mpr hL
      subst hbt
      rcases hl with ⟨e2, rfl, De2, Be2⟩ | ⟨rfl, hle⟩
      · exact absurd Be2 (hL e2 De2)
      · simp only [envE, so_seq, so_if, so_ret, so_retN, so_exp, so_nil, so_nx, so_rt, so_asg, so_asgG, so_par2, so_par3, ok_gNm, ok_gMore, ok_gNone, so_asgT, so_sub, so_for, ok_TB, ok_Tru, ok_notT, ok_andT, ok_orT, ok_andV, ok_orV, ok_notV, ok_iteE, ok_frz, ok_new, ok_mfArg, ok_mfBin, ok_lc, ok_M, ok_M0, ok_moNone, ok_moSome, ok_Sl,
  ok_bin, ok_un, ok_arg, ok_cons, ok_nil, ok_call, ok_var, ok_C, ok_ok, ok_stuck, ok_noX, bOf_bool, low_v, iOf_int, addD_int, subD_int, negD_int, ltD_int, leD_int, gtD_int, geD_int, fInt_int, isD_bool, isNotD_bool, tru_bool, List.map_cons, List.map_nil, List.length_cons, List.length_nil, List.replicate_succ, List.replicate_zero, List.cons_append, List.nil_append,
  List.append_nil, List.getElem?_cons_zero, List.getElem?_cons_succ, List.set_cons_zero, List.set_cons_succ, Option.some.injEq, exists_eq_left', exists_eq_left, true_and, and_true, true_implies, false_implies, implies_true, Bool.false_eq_true, reduceCtorEq, false_and, and_false, D.v.injEq, PyData.int.injEq, D.ref.injEq, p1i_int, p2_two, p3_three, decide_true, Bool.not_true, Bool.not_false, decide_eq_true_eq, decide_eq_false_iff_not, nl, i0, nbb]
        unfold law_B2_5
        have ti : ∀ t, isiD "tuple" (.v (tNs s)) t = .ok (.v (.bool true)) t := fun t => isi_tup rfl
        have so : ∀ t, gSortG [.v (tNs s)] t = .ok ((List.range rows.length).map nI) t := fun t => by rw [Sn.sortG_tup, sort_sq q]
        have rr : Rep (.list ((List.range rows.length).map nI)) 50 1 := by
          have r := rep_intsL (is := (List.range rows.length).map fun x : Nat => (x : Int)) (w' := 50) (fun i hi => by
            obtain ⟨a, ha, rfl⟩ := List.mem_map.mp hi
            have := List.mem_range.mp ha
            exact Nat.lt_trans (Nat.lt_of_lt_of_le (show (a : Int).natAbs < 51 by omega) (by decide : 51 ≤ 10 ^ 11)) (by decide)) (by rw [List.length_map, List.length_range]; omega)
          rw [List.map_map] at r
          exact r
        have lc : ∀ t, f_law_chosen [.v (hallD rows), .v (tNs s)] t = .ok (.v (tNs d)) t := fun t => by
          rw [show f_law_chosen _ t = _ from law_chosen_eq H hn50 q, hs]
        simp only [envE, so_seq, so_if, so_ret, so_retN, so_exp, so_nil, so_nx, so_rt, so_asg, so_asgG, so_par2, so_par3, ok_gNm, ok_gMore, ok_gNone, so_asgT, so_sub, so_for, ok_TB, ok_Tru, ok_notT, ok_andT, ok_orT, ok_andV, ok_orV, ok_notV, ok_iteE, ok_frz, ok_new, ok_mfArg, ok_mfBin, ok_lc, ok_M, ok_M0, ok_moNone, ok_moSome, ok_Sl,
  ok_bin, ok_un, ok_arg, ok_cons, ok_nil, ok_call, ok_var, ok_C, ok_ok, ok_stuck, ok_noX, bOf_bool, low_v, iOf_int, addD_int, subD_int, negD_int, ltD_int, leD_int, gtD_int, geD_int, fInt_int, isD_bool, isNotD_bool, tru_bool, List.map_cons, List.map_nil, List.length_cons, List.length_nil, List.replicate_succ, List.replicate_zero, List.cons_append, List.nil_append,
  List.append_nil, List.getElem?_cons_zero, List.getElem?_cons_succ, List.set_cons_zero, List.set_cons_succ, Option.some.injEq, exists_eq_left', exists_eq_left, true_and, and_true, true_implies, false_implies, implies_true, Bool.false_eq_true, reduceCtorEq, false_and, and_false, D.v.injEq, PyData.int.injEq, D.ref.injEq, p1i_int, p2_two, p3_three, decide_true, Bool.not_true, Bool.not_false, decide_eq_true_eq, decide_eq_false_iff_not, ti, so, ok_Rg1]
        refine ⟨rg_ok hn50, ?_⟩
        rw [rg_nats, ne_same rr]
        simp only [envE, so_seq, so_if, so_ret, so_retN, so_exp, so_nil, so_nx, so_rt, so_asg, so_asgG, so_par2, so_par3, ok_gNm, ok_gMore, ok_gNone, so_asgT, so_sub, so_for, ok_TB, ok_Tru, ok_notT, ok_andT, ok_orT, ok_andV, ok_orV, ok_notV, ok_iteE, ok_frz, ok_new, ok_mfArg, ok_mfBin, ok_lc, ok_M, ok_M0, ok_moNone, ok_moSome, ok_Sl,
  ok_bin, ok_un, ok_arg, ok_cons, ok_nil, ok_call, ok_var, ok_C, ok_ok, ok_stuck, ok_noX, bOf_bool, low_v, iOf_int, addD_int, subD_int, negD_int, ltD_int, leD_int, gtD_int, geD_int, fInt_int, isD_bool, isNotD_bool, tru_bool, List.map_cons, List.map_nil, List.length_cons, List.length_nil, List.replicate_succ, List.replicate_zero, List.cons_append, List.nil_append,
  List.append_nil, List.getElem?_cons_zero, List.getElem?_cons_succ, List.set_cons_zero, List.set_cons_succ, Option.some.injEq, exists_eq_left', exists_eq_left, true_and, and_true, true_implies, false_implies, implies_true, Bool.false_eq_true, reduceCtorEq, false_and, and_false, D.v.injEq, PyData.int.injEq, D.ref.injEq, p1i_int, p2_two, p3_three, decide_true, Bool.not_true, Bool.not_false, decide_eq_true_eq, decide_eq_false_iff_not, lc, ne_same (rep_dl Dd hn50)]
        exact ⟨_, _, _, _, _, rfl⟩
theorem law_ok (ns : List Int) (h : ns.length ≤ 63) : ∃ st, f_law [.scr ns] [] = .ok (.v (.bool true)) st := by
  have key : (f_law [.scr ns] []).Ok fun d st => d = .v (.bool true) := by
    refine fnT_ok ?_
    unfold S_law
    simp only [envE, so_seq, so_if, so_ret, so_retN, so_exp, so_nil, so_nx, so_rt, so_asg, so_asgG, so_par2, so_par3, ok_gNm, ok_gMore, ok_gNone, so_asgT, so_sub, so_for, ok_TB, ok_Tru, ok_notT, ok_andT, ok_orT, ok_andV, ok_orV, ok_notV, ok_iteE, ok_frz, ok_new, ok_mfArg, ok_mfBin, ok_lc, ok_M, ok_M0, ok_moNone, ok_moSome, ok_Sl,
  ok_bin, ok_un, ok_arg, ok_cons, ok_nil, ok_call, ok_var, ok_C, ok_ok, ok_stuck, ok_noX, bOf_bool, low_v, iOf_int, addD_int, subD_int, negD_int, ltD_int, leD_int, gtD_int, geD_int, fInt_int, isD_bool, isNotD_bool, tru_bool, List.map_cons, List.map_nil, List.length_cons, List.length_nil, List.replicate_succ, List.replicate_zero, List.cons_append, List.nil_append,
  List.append_nil, List.getElem?_cons_zero, List.getElem?_cons_succ, List.set_cons_zero, List.set_cons_succ, Option.some.injEq, exists_eq_left', exists_eq_left, true_and, and_true, true_implies, false_implies, implies_true, Bool.false_eq_true, reduceCtorEq, false_and, and_false, D.v.injEq, PyData.int.injEq, D.ref.injEq, p1i_int, p2_two, p3_three, decide_true, Bool.not_true, Bool.not_false, decide_eq_true_eq, decide_eq_false_iff_not]
    refine (opensA ns (by omega)).mono ?_
    rintro _ _ ⟨s, rfl, rfl, ok⟩
    unfold S_law_2 law_E3
    simp only [envE, so_seq, so_if, so_ret, so_retN, so_exp, so_nil, so_nx, so_rt, so_asg, so_asgG, so_par2, so_par3, ok_gNm, ok_gMore, ok_gNone, so_asgT, so_sub, so_for, ok_TB, ok_Tru, ok_notT, ok_andT, ok_orT, ok_andV, ok_orV, ok_notV, ok_iteE, ok_frz, ok_new, ok_mfArg, ok_mfBin, ok_lc, ok_M, ok_M0, ok_moNone, ok_moSome, ok_Sl,
  ok_bin, ok_un, ok_arg, ok_cons, ok_nil, ok_call, ok_var, ok_C, ok_ok, ok_stuck, ok_noX, bOf_bool, low_v, iOf_int, addD_int, subD_int, negD_int, ltD_int, leD_int, gtD_int, geD_int, fInt_int, isD_bool, isNotD_bool, tru_bool, List.map_cons, List.map_nil, List.length_cons, List.length_nil, List.replicate_succ, List.replicate_zero, List.cons_append, List.nil_append,
  List.append_nil, List.getElem?_cons_zero, List.getElem?_cons_succ, List.set_cons_zero, List.set_cons_succ, Option.some.injEq, exists_eq_left', exists_eq_left, true_and, and_true, true_implies, false_implies, implies_true, Bool.false_eq_true, reduceCtorEq, false_and, and_false, D.v.injEq, PyData.int.injEq, D.ref.injEq, p1i_int, p2_two, p3_three, decide_true, Bool.not_true, Bool.not_false, decide_eq_true_eq, decide_eq_false_iff_not, ok_R1]
    refine ⟨⟨by decide, by decide⟩, ?_⟩
    refine forL_inv (fun i e st => ∃ (s : Src), st = s.sto [] ∧ s.ok ∧ ∃ x2 x3 x4 x5 x6 x7 x8 x9 x10 x11 x12, e = [some (.scr ns), some (.ref 1), x2, x3, x4, x5, x6, x7, x8, x9, x10, x11, x12]) _ _ _ 0 ?_ ?_ ⟨s, rfl, ok, _, _, _, _, _, _, _, _, _, _, _, rfl⟩
    · rintro i d e st hd ⟨s, rfl, ok, x2, x3, x4, x5, x6, x7, x8, x9, x10, x11, x12, rfl⟩
      obtain ⟨hi, rfl⟩ := rngI_get hd
      refine ⟨trivial, ?_⟩
      rw [Int.zero_add]
      unfold law_G3 law_B1
      simp only [envE, so_seq, so_if, so_ret, so_retN, so_exp, so_nil, so_nx, so_rt, so_asg, so_asgG, so_par2, so_par3, ok_gNm, ok_gMore, ok_gNone, so_asgT, so_sub, so_for, ok_TB, ok_Tru, ok_notT, ok_andT, ok_orT, ok_andV, ok_orV, ok_notV, ok_iteE, ok_frz, ok_new, ok_mfArg, ok_mfBin, ok_lc, ok_M, ok_M0, ok_moNone, ok_moSome, ok_Sl,
  ok_bin, ok_un, ok_arg, ok_cons, ok_nil, ok_call, ok_var, ok_C, ok_ok, ok_stuck, ok_noX, bOf_bool, low_v, iOf_int, addD_int, subD_int, negD_int, ltD_int, leD_int, gtD_int, geD_int, fInt_int, isD_bool, isNotD_bool, tru_bool, List.map_cons, List.map_nil, List.length_cons, List.length_nil, List.replicate_succ, List.replicate_zero, List.cons_append, List.nil_append,
  List.append_nil, List.getElem?_cons_zero, List.getElem?_cons_succ, List.set_cons_zero, List.set_cons_succ, Option.some.injEq, exists_eq_left', exists_eq_left, true_and, and_true, true_implies, false_implies, implies_true, Bool.false_eq_true, reduceCtorEq, false_and, and_false, D.v.injEq, PyData.int.injEq, D.ref.injEq, p1i_int, p2_two, p3_three, decide_true, Bool.not_true, Bool.not_false, decide_eq_true_eq, decide_eq_false_iff_not]
      have hd := draw_ok (rest := []) (most := 5) (by decide) (by decide) ok
      refine hd.mono ?_
      rintro _ _ ⟨rows, s1, rfl, rfl, ok1, H, hn⟩
      have hn50 : rows.length ≤ 50 := by omega
      unfold law_B1_2
      simp only [envE, so_seq, so_if, so_ret, so_retN, so_exp, so_nil, so_nx, so_rt, so_asg, so_asgG, so_par2, so_par3, ok_gNm, ok_gMore, ok_gNone, so_asgT, so_sub, so_for, ok_TB, ok_Tru, ok_notT, ok_andT, ok_orT, ok_andV, ok_orV, ok_notV, ok_iteE, ok_frz, ok_new, ok_mfArg, ok_mfBin, ok_lc, ok_M, ok_M0, ok_moNone, ok_moSome, ok_Sl,
  ok_bin, ok_un, ok_arg, ok_cons, ok_nil, ok_call, ok_var, ok_C, ok_ok, ok_stuck, ok_noX, bOf_bool, low_v, iOf_int, addD_int, subD_int, negD_int, ltD_int, leD_int, gtD_int, geD_int, fInt_int, isD_bool, isNotD_bool, tru_bool, List.map_cons, List.map_nil, List.length_cons, List.length_nil, List.replicate_succ, List.replicate_zero, List.cons_append, List.nil_append,
  List.append_nil, List.getElem?_cons_zero, List.getElem?_cons_succ, List.set_cons_zero, List.set_cons_succ, Option.some.injEq, exists_eq_left', exists_eq_left, true_and, and_true, true_implies, false_implies, implies_true, Bool.false_eq_true, reduceCtorEq, false_and, and_false, D.v.injEq, PyData.int.injEq, D.ref.injEq, p1i_int, p2_two, p3_three, decide_true, Bool.not_true, Bool.not_false, decide_eq_true_eq, decide_eq_false_iff_not, hall0]
      have shuf : ∀ (s : Src), s.ok → (f_law_any_order [.ref 1, .v (.list ((List.range rows.length).map nI))] (s.sto [])).Ok fun d st => ∃ (l : List Nat) (s' : Src), d = .v (lNs l) ∧ st = s'.sto [] ∧ s'.ok ∧ l.Perm (List.range rows.length) := fun s ok => by
        have hsh := shufA s [] (.v (.list ((List.range rows.length).map nI))) ((List.range rows.length).map nI) ok viewS_list (by rw [List.length_map, List.length_range]; omega)
        refine hsh.mono ?_
        rintro _ _ ⟨ys, s', rfl, rfl, ok', hp⟩
        obtain ⟨zs, rfl, hp2⟩ := unmap_nats hp
        exact ⟨zs, s', rfl, rfl, ok', hp2⟩
      unfold law_B1_3
      simp only [envE, so_seq, so_if, so_ret, so_retN, so_exp, so_nil, so_nx, so_rt, so_asg, so_asgG, so_par2, so_par3, ok_gNm, ok_gMore, ok_gNone, so_asgT, so_sub, so_for, ok_TB, ok_Tru, ok_notT, ok_andT, ok_orT, ok_andV, ok_orV, ok_notV, ok_iteE, ok_frz, ok_new, ok_mfArg, ok_mfBin, ok_lc, ok_M, ok_M0, ok_moNone, ok_moSome, ok_Sl,
  ok_bin, ok_un, ok_arg, ok_cons, ok_nil, ok_call, ok_var, ok_C, ok_ok, ok_stuck, ok_noX, bOf_bool, low_v, iOf_int, addD_int, subD_int, negD_int, ltD_int, leD_int, gtD_int, geD_int, fInt_int, isD_bool, isNotD_bool, tru_bool, List.map_cons, List.map_nil, List.length_cons, List.length_nil, List.replicate_succ, List.replicate_zero, List.cons_append, List.nil_append,
  List.append_nil, List.getElem?_cons_zero, List.getElem?_cons_succ, List.set_cons_zero, List.set_cons_succ, Option.some.injEq, exists_eq_left', exists_eq_left, true_and, and_true, true_implies, false_implies, implies_true, Bool.false_eq_true, reduceCtorEq, false_and, and_false, D.v.injEq, PyData.int.injEq, D.ref.injEq, p1i_int, p2_two, p3_three, decide_true, Bool.not_true, Bool.not_false, decide_eq_true_eq, decide_eq_false_iff_not, ok_Rg1]
      refine ⟨rg_ok hn50, ?_⟩
      rw [rg_nats]
      have h1 := shuf s1 ok1
      refine h1.mono ?_
      rintro _ _ ⟨sq, s2, rfl, rfl, ok2, hsq⟩
      have q := Sq.of_perm hsq
      obtain ⟨_, _, _, Dc⟩ := chs_all H q
      have f1 : ∀ t, f_chosen [.v (hallD rows), .v (tNs sq)] t = .ok (.v (tNs (dOf rows.length (chs rows sq [])))) t := fun t => chosen_eq H hn50 q
      have f2 : ∀ t, f_law_chosen [.v (hallD rows), .v (tNs sq)] t = .ok (.v (tNs (dOf rows.length (chs rows sq [])))) t := fun t => law_chosen_eq H hn50 q
      have tl : ∀ (l : List Nat) t, fTuple [.v (lNs l)] t = .ok (.v (tNs l)) t := fun l t => rfl
      rw [tl, ok_ok]
      unfold law_B1_4
      simp only [envE, so_seq, so_if, so_ret, so_retN, so_exp, so_nil, so_nx, so_rt, so_asg, so_asgG, so_par2, so_par3, ok_gNm, ok_gMore, ok_gNone, so_asgT, so_sub, so_for, ok_TB, ok_Tru, ok_notT, ok_andT, ok_orT, ok_andV, ok_orV, ok_notV, ok_iteE, ok_frz, ok_new, ok_mfArg, ok_mfBin, ok_lc, ok_M, ok_M0, ok_moNone, ok_moSome, ok_Sl,
  ok_bin, ok_un, ok_arg, ok_cons, ok_nil, ok_call, ok_var, ok_C, ok_ok, ok_stuck, ok_noX, bOf_bool, low_v, iOf_int, addD_int, subD_int, negD_int, ltD_int, leD_int, gtD_int, geD_int, fInt_int, isD_bool, isNotD_bool, tru_bool, List.map_cons, List.map_nil, List.length_cons, List.length_nil, List.replicate_succ, List.replicate_zero, List.cons_append, List.nil_append,
  List.append_nil, List.getElem?_cons_zero, List.getElem?_cons_succ, List.set_cons_zero, List.set_cons_succ, Option.some.injEq, exists_eq_left', exists_eq_left, true_and, and_true, true_implies, false_implies, implies_true, Bool.false_eq_true, reduceCtorEq, false_and, and_false, D.v.injEq, PyData.int.injEq, D.ref.injEq, p1i_int, p2_two, p3_three, decide_true, Bool.not_true, Bool.not_false, decide_eq_true_eq, decide_eq_false_iff_not, f1, f2, repr_of (rep_dl Dc hn50), neD_str]
      unfold law_B1_5
      simp only [envE, so_seq, so_if, so_ret, so_retN, so_exp, so_nil, so_nx, so_rt, so_asg, so_asgG, so_par2, so_par3, ok_gNm, ok_gMore, ok_gNone, so_asgT, so_sub, so_for, ok_TB, ok_Tru, ok_notT, ok_andT, ok_orT, ok_andV, ok_orV, ok_notV, ok_iteE, ok_frz, ok_new, ok_mfArg, ok_mfBin, ok_lc, ok_M, ok_M0, ok_moNone, ok_moSome, ok_Sl,
  ok_bin, ok_un, ok_arg, ok_cons, ok_nil, ok_call, ok_var, ok_C, ok_ok, ok_stuck, ok_noX, bOf_bool, low_v, iOf_int, addD_int, subD_int, negD_int, ltD_int, leD_int, gtD_int, geD_int, fInt_int, isD_bool, isNotD_bool, tru_bool, List.map_cons, List.map_nil, List.length_cons, List.length_nil, List.replicate_succ, List.replicate_zero, List.cons_append, List.nil_append,
  List.append_nil, List.getElem?_cons_zero, List.getElem?_cons_succ, List.set_cons_zero, List.set_cons_succ, Option.some.injEq, exists_eq_left', exists_eq_left, true_and, and_true, true_implies, false_implies, implies_true, Bool.false_eq_true, reduceCtorEq, false_and, and_false, D.v.injEq, PyData.int.injEq, D.ref.injEq, p1i_int, p2_two, p3_three, decide_true, Bool.not_true, Bool.not_false, decide_eq_true_eq, decide_eq_false_iff_not, Sp.ok_tupRg1]
      refine ⟨rg_ok hn50, ?_⟩
      rw [rg_nats]
      have ho := orders_ok 6 (List.range rows.length) (s2.sto []) (by rw [List.length_range]; omega) (by rw [List.length_range]; omega)
      rw [List.length_range] at ho
      refine Out.Ok.mono (x := r_law_orders 6 [.v (tNs (List.range rows.length))] (s2.sto [])) ho ?_
      rintro _ _ ⟨rfl, L, rfl, hLl, memL⟩
      have hL120 : L.length ≤ 120 := by
        rw [hLl]
        have : rows.length = 0 ∨ rows.length = 1 ∨ rows.length = 2 ∨ rows.length = 3 ∨ rows.length = 4 ∨ rows.length = 5 := by omega
        rcases this with e | e | e | e | e | e <;> rw [e] <;> decide
      unfold law_B1_6 law_E2
      simp only [envE, so_seq, so_if, so_ret, so_retN, so_exp, so_nil, so_nx, so_rt, so_asg, so_asgG, so_par2, so_par3, ok_gNm, ok_gMore, ok_gNone, so_asgT, so_sub, so_for, ok_TB, ok_Tru, ok_notT, ok_andT, ok_orT, ok_andV, ok_orV, ok_notV, ok_iteE, ok_frz, ok_new, ok_mfArg, ok_mfBin, ok_lc, ok_M, ok_M0, ok_moNone, ok_moSome, ok_Sl,
  ok_bin, ok_un, ok_arg, ok_cons, ok_nil, ok_call, ok_var, ok_C, ok_ok, ok_stuck, ok_noX, bOf_bool, low_v, iOf_int, addD_int, subD_int, negD_int, ltD_int, leD_int, gtD_int, geD_int, fInt_int, isD_bool, isNotD_bool, tru_bool, List.map_cons, List.map_nil, List.length_cons, List.length_nil, List.replicate_succ, List.replicate_zero, List.cons_append, List.nil_append,
  List.append_nil, List.getElem?_cons_zero, List.getElem?_cons_succ, List.set_cons_zero, List.set_cons_succ, Option.some.injEq, exists_eq_left', exists_eq_left, true_and, and_true, true_implies, false_implies, implies_true, Bool.false_eq_true, reduceCtorEq, false_and, and_false, D.v.injEq, PyData.int.injEq, D.ref.injEq, p1i_int, p2_two, p3_three, decide_true, Bool.not_true, Bool.not_false, decide_eq_true_eq, decide_eq_false_iff_not, f2, ok_Rg1, Sp.ok_tupRg1, ok_seq]
      refine ⟨rg_ok hn50, ?_⟩
      rw [rg_nats]
      have h2 := shuf s2 ok2
      refine h2.mono ?_
      rintro _ _ ⟨d2, s3, rfl, rfl, ok3, hd2⟩
      have t3 : ∀ {x y z : PyData} {s}, fTup [.v x, .v y, .v z] s = .ok (.v (.tuple [x, y, z])) s := fun {_ _ _ _} => rfl
      rw [tl, ok_ok]
      refine ⟨rg_ok hn50, ?_⟩
      rw [t3, ok_ok, seqW_tup, ok_ok]
      have hds : ∀ x ∈ [dOf rows.length (chs rows sq []), d2, List.range rows.length], Dl rows.length x := fun x hx => by
        simp only [List.mem_cons, List.not_mem_nil, or_false] at hx
        rcases hx with rfl | rfl | rfl
        · exact Dc
        · exact dl_perm.mpr hd2
        · exact dl_perm.mpr (.refl _)
      rw [show [tNs (dOf rows.length (chs rows sq [])), tNs d2, PyData.tuple ((List.range rows.length).map nI)] = [dOf rows.length (chs rows sq []), d2, List.range rows.length].map tNs from rfl, List.map_map]
      generalize [dOf rows.length (chs rows sq []), d2, List.range rows.length] = ds at hds ⊢
      refine forL_inv (fun _ e st => st = s3.sto [] ∧ ∃ x7 x8 x9 x10 x11 x12, e = [some (.scr ns), some (.ref 1), some (.v (.int (i : Int))), some (.v (hallD rows)), some (.v (nI rows.length)), some (.v (tNs sq)), some (.v (.list (L.map tNs))), x7, x8, x9, x10, x11, x12]) _ _ _ 0 ?_ ?_ ⟨rfl, _, _, _, _, _, _, rfl⟩
      · rintro j dd e st hd ⟨rfl, y7, y8, y9, y10, y11, y12, rfl⟩
        rw [List.getElem?_map] at hd
        obtain ⟨dl, hdl, rfl⟩ := Option.map_eq_some_iff.mp hd
        refine ⟨trivial, ?_⟩
        unfold law_G2
        show (gNm 7 (.one (.v (tNs dl))) _ _).Ok _
        simp only [envE, so_seq, so_if, so_ret, so_retN, so_exp, so_nil, so_nx, so_rt, so_asg, so_asgG, so_par2, so_par3, ok_gNm, ok_gMore, ok_gNone, so_asgT, so_sub, so_for, ok_TB, ok_Tru, ok_notT, ok_andT, ok_orT, ok_andV, ok_orV, ok_notV, ok_iteE, ok_frz, ok_new, ok_mfArg, ok_mfBin, ok_lc, ok_M, ok_M0, ok_moNone, ok_moSome, ok_Sl,
  ok_bin, ok_un, ok_arg, ok_cons, ok_nil, ok_call, ok_var, ok_C, ok_ok, ok_stuck, ok_noX, bOf_bool, low_v, iOf_int, addD_int, subD_int, negD_int, ltD_int, leD_int, gtD_int, geD_int, fInt_int, isD_bool, isNotD_bool, tru_bool, List.map_cons, List.map_nil, List.length_cons, List.length_nil, List.replicate_succ, List.replicate_zero, List.cons_append, List.nil_append,
  List.append_nil, List.getElem?_cons_zero, List.getElem?_cons_succ, List.set_cons_zero, List.set_cons_succ, Option.some.injEq, exists_eq_left', exists_eq_left, true_and, and_true, true_implies, false_implies, implies_true, Bool.false_eq_true, reduceCtorEq, false_and, and_false, D.v.injEq, PyData.int.injEq, D.ref.injEq, p1i_int, p2_two, p3_three, decide_true, Bool.not_true, Bool.not_false, decide_eq_true_eq, decide_eq_false_iff_not]
        have hk := deal_ok (s0 := s3) (rest := []) (x0 := some (.scr ns)) (x2 := some (.v (.int (i : Int)))) (x5 := some (.v (tNs sq))) (x8 := y8) (x9 := y9) (x10 := y10) (x11 := y11) (x12 := y12) H hn (hds dl (List.mem_of_getElem? hdl)) memL hL120
        refine hk.mono ?_ ?_
        · rintro _ _ ⟨rfl, z8, z9, z10, z11, z12, rfl⟩
          exact ⟨rfl, _, _, _, _, _, _, rfl⟩
        · exact fun _ _ h => h
      · rintro e st ⟨rfl, y7, y8, y9, y10, y11, y12, rfl⟩
        exact ⟨trivial, s3, rfl, ok3, _, _, _, _, _, _, _, _, _, _, _, rfl⟩
    · rintro e st ⟨s, rfl, ok, x2, x3, x4, x5, x6, x7, x8, x9, x10, x11, x12, rfl⟩
      refine ⟨trivial, ?_⟩
      unfold S_law_3
      simp only [envE, so_seq, so_if, so_ret, so_retN, so_exp, so_nil, so_nx, so_rt, so_asg, so_asgG, so_par2, so_par3, ok_gNm, ok_gMore, ok_gNone, so_asgT, so_sub, so_for, ok_TB, ok_Tru, ok_notT, ok_andT, ok_orT, ok_andV, ok_orV, ok_notV, ok_iteE, ok_frz, ok_new, ok_mfArg, ok_mfBin, ok_lc, ok_M, ok_M0, ok_moNone, ok_moSome, ok_Sl,
  ok_bin, ok_un, ok_arg, ok_cons, ok_nil, ok_call, ok_var, ok_C, ok_ok, ok_stuck, ok_noX, bOf_bool, low_v, iOf_int, addD_int, subD_int, negD_int, ltD_int, leD_int, gtD_int, geD_int, fInt_int, isD_bool, isNotD_bool, tru_bool, List.map_cons, List.map_nil, List.length_cons, List.length_nil, List.replicate_succ, List.replicate_zero, List.cons_append, List.nil_append,
  List.append_nil, List.getElem?_cons_zero, List.getElem?_cons_succ, List.set_cons_zero, List.set_cons_succ, Option.some.injEq, exists_eq_left', exists_eq_left, true_and, and_true, true_implies, false_implies, implies_true, Bool.false_eq_true, reduceCtorEq, false_and, and_false, D.v.injEq, PyData.int.injEq, D.ref.injEq, p1i_int, p2_two, p3_three, decide_true, Bool.not_true, Bool.not_false, decide_eq_true_eq, decide_eq_false_iff_not]
  obtain ⟨d, st, e, rfl⟩ := key.eq
  exact ⟨st, e⟩
end
end Wk37
theorem PySem.Challenge.cw_pairsandprices_k37_whole_choosing_holds : PySem.Challenge.rw_pairsandprices_k37_whole_choosing.Holds := by
  exact Wk37.holds Wk37.law_ok
