import PyProof.Rows.All
import Wide.All
import OpenK.AllK
import Wide.FinOn
import HandS.ForMost
import HandS.ForExc
import HandS.Walk
import HandS.IsInst
import HandS.Property
import HandS.Flow
import HandS.Conv
import HandS.TupAny
import HandS.Deep
import HandS.TupLen
import HandS.CallSlots
import HandS.Style
import KE.GoesMore
import KE.GoesZip
import KE.KTurns
import KE.SortData
import KE.SortLaws
import HandS.WordsDict
import HandS.TupSets
import HandS.More
import KE.KAssignIn
import KE.KEqDict
import HandS.DictComp
import PyProof.FactsAll.dict_2
import PyProof.DictCopy
import PyProof.DictUpdate
import PyProof.DictDisplay
import HandS.ListItems
import PyProof.StrOps2
import HandS.Words
import PySem.Challenge.RW_oldmap_k97_whole_redo_behind_others
section
set_option Elab.async false
set_option linter.all false
set_option maxRecDepth 100000
set_option maxHeartbeats 1000000
/-! The deep layer: closed data D, how heaps bear it, and what expressions and statements do with it. -/
namespace Dl
open PySem L2

inductive D where
  | non | bl (b : Bool) | int (i : Int) | str (x : Str)
  | tup (ds : List D) | lst (ds : List D) | dct (t : Bool) (ks vs : List D)
  | kt (ds : List D) | scr (ds : List D)
  | obj (t : Nat) (fs : List D) | cell (n : Nat) | ref (t : Nat) | ty (n : String)

/-- the classes: their addresses and the names of their fields in the order of storing -/
structure Gh where
  K : PySem.W.Frag
  ct : Nat → Addr
  fn : Nat → List Str

structure Wd where
  F : Hp
  cs : List Addr

def kD : Key → D
  | .inl i => .int i
  | .inr x => .str x

def DcAt (F : Hp) (a : Addr) : Bool → List D → List V → Prop
  | false, ks, ys => ∃ kvs : List (Key × V), Rd F a (.dK kvs) ∧ ks = kvs.map (fun p => kD p.1) ∧ ys = kvs.map (·.2)
  | true, ks, ys => ∃ kvs : List (List Key × V), Rd F a (.dT kvs) ∧ ks = kvs.map (fun p => D.tup (p.1.map kD)) ∧ ys = kvs.map (·.2)

/-- a dict that stands in the heap itself -/
def DcE (H : Hp) (a : Addr) : Bool → List D → List V → Prop
  | false, ks, ys => ∃ kvs : List (Key × V), H a = some (.dK kvs) ∧ ks = kvs.map (fun p => kD p.1) ∧ ys = kvs.map (·.2)
  | true, ks, ys => ∃ kvs : List (List Key × V), H a = some (.dT kvs) ∧ ks = kvs.map (fun p => D.tup (p.1.map kD)) ∧ ys = kvs.map (·.2)
theorem DcE.at {H H' : Hp} {a : Addr} {t : Bool} {ks : List D} {ys : List V} (h : DcE H a t ks ys) (e : H' a = H a) : DcE H' a t ks ys := by
  cases t
  · obtain ⟨kvs, h1, h2⟩ := h; exact ⟨kvs, by rw [e]; exact h1, h2⟩
  · obtain ⟨kvs, h1, h2⟩ := h; exact ⟨kvs, by rw [e]; exact h1, h2⟩
theorem DcE.some {H : Hp} {a : Addr} {t : Bool} {ks : List D} {ys : List V} (h : DcE H a t ks ys) : ∃ o, H a = some o := by
  cases t
  · obtain ⟨_, e, _⟩ := h; exact ⟨_, e⟩
  · obtain ⟨_, e, _⟩ := h; exact ⟨_, e⟩
theorem DcE.toAt {H : Hp} {a : Addr} {t : Bool} {ks : List D} {ys : List V} (h : DcE H a t ks ys) : DcAt H a t ks ys := by
  cases t
  · obtain ⟨k, e, r⟩ := h; exact ⟨k, .inl e, r⟩
  · obtain ⟨k, e, r⟩ := h; exact ⟨k, .inl e, r⟩
/-- a list that the top has written -/
def KLst (K : PySem.W.Frag) (a : Addr) (xs : List V) : Prop := ∃ (o : Obj) (its : Array Value) (n : Nat), K.lookup a = some o ∧ o.cls = .type "list" ∧ o.dict = none ∧ o.data = .seq its n ∧ its.size ≤ sizeLine ∧ Vals xs its.toList
mutual
def Rep (G : Gh) (W : Wd) : D → V → Prop
  | .non, v => v = .non
  | .bl b, v => v = .bl b
  | .int i, v => v = .int i
  | .str x, v => v = .str x
  | .tup ds, v => ∃ a xs, v = .ref a ∧ W.F a = some (.tup xs) ∧ RepL G W ds xs
  | .lst ds, v => ∃ a xs, v = .ref a ∧ W.F a = some (.lst xs) ∧ RepL G W ds xs
  | .kt ds, v => ∃ a xs, v = .ref a ∧ (∃ (o : Obj) (its : Array Value) (n : Nat), G.K.lookup a = some o ∧ o.cls = .type "tuple" ∧ o.data = .seq its n ∧ its.size ≤ sizeLine ∧ Vals xs its.toList) ∧ RepL G W ds xs
  | .scr ds, v => ∃ a xs, v = .ref a ∧ (Rd W.F a (.lst xs) ∨ KLst G.K a xs) ∧ RepL G W ds xs
  | .dct t ks vs, v => ∃ a ys, v = .ref a ∧ DcAt W.F a t ks ys ∧ RepL G W vs ys
  | .obj t fs, v => ∃ a dx ys, v = .ref a ∧ W.F a = some (.ins (G.ct t) dx ((G.fn t).zip ys)) ∧ fs.length ≤ (G.fn t).length ∧ RepL G W fs ys
  | .cell n, v => ∃ a, v = .ref a ∧ W.cs[n]? = some a
  | .ref t, v => v = .ref (G.ct t)
  | .ty n, v => v = .ty n
def RepL (G : Gh) (W : Wd) : List D → List V → Prop
  | [], xs => xs = []
  | d :: ds, xs => ∃ x r, xs = x :: r ∧ Rep G W d x ∧ RepL G W ds r
end

def Plain : HO → Prop
  | .lst _ => True
  | .tup _ => True
  | .ins _ _ _ => True
  | _ => False
structure WLe (W W' : Wd) : Prop where
  rd : ∀ a u, Rd W.F a u → Rd W'.F a u
  ex : ∀ a o, Plain o → W.F a = some o → W'.F a = some o
  cs : ∀ (n : Nat) a, W.cs[n]? = some a → W'.cs[n]? = some a
theorem WLe.rfl' {W : Wd} : WLe W W := ⟨fun _ _ h => h, fun _ _ _ h => h, fun _ _ h => h⟩
theorem WLe.trans {W W1 W2 : Wd} (a : WLe W W1) (b : WLe W1 W2) : WLe W W2 :=
  ⟨fun x u h => b.rd x u (a.rd x u h), fun x o p h => b.ex _ _ p (a.ex _ _ p h), fun n x h => b.cs _ _ (a.cs _ _ h)⟩
theorem WLe.of_F {W W' : Wd} (h : ∀ a o, W.F a = some o → W'.F a = some o) (hc : ∀ (n : Nat) a, W.cs[n]? = some a → W'.cs[n]? = some a) : WLe W W' :=
  ⟨fun a u r => r.elim (fun e => .inl (h _ _ e)) (fun ⟨o, e⟩ => .inr ⟨o, h _ _ e⟩), fun a o _ e => h _ _ e, hc⟩
theorem WLe.dc {W W' : Wd} (e : WLe W W') {a t ks ys} (h : DcAt W.F a t ks ys) : DcAt W'.F a t ks ys := by
  cases t
  · obtain ⟨kvs, h, r⟩ := h; exact ⟨kvs, e.rd _ _ h, r⟩
  · obtain ⟨kvs, h, r⟩ := h; exact ⟨kvs, e.rd _ _ h, r⟩
mutual
theorem Rep.mono {G : Gh} {W W' : Wd} (e : WLe W W') : ∀ (d : D) (v : V), Rep G W d v → Rep G W' d v
  | .non, _, h => h
  | .bl _, _, h => h
  | .int _, _, h => h
  | .str _, _, h => h
  | .tup ds, _, h => by
    obtain ⟨a, xs, h1, h2, h3⟩ := (show ∃ a xs, _ from h)
    exact ⟨a, xs, h1, e.ex _ _ trivial h2, RepL.mono e ds xs h3⟩
  | .lst ds, _, h => by
    obtain ⟨a, xs, h1, h2, h3⟩ := (show ∃ a xs, _ from h)
    exact ⟨a, xs, h1, e.ex _ _ trivial h2, RepL.mono e ds xs h3⟩
  | .kt ds, _, h => by
    obtain ⟨a, xs, h1, h2, h3⟩ := (show ∃ a xs, _ from h)
    exact ⟨a, xs, h1, h2, RepL.mono e ds xs h3⟩
  | .scr ds, _, h => by
    obtain ⟨a, xs, h1, h2, h3⟩ := (show ∃ a xs, _ from h)
    exact ⟨a, xs, h1, h2.imp (e.rd _ _) id, RepL.mono e ds xs h3⟩
  | .dct t ks vs, _, h => by
    obtain ⟨a, xs, h1, h2, h3⟩ := (show ∃ a xs, _ from h)
    exact ⟨a, xs, h1, e.dc h2, RepL.mono e vs xs h3⟩
  | .obj t fs, _, h => by
    obtain ⟨a, dx, ys, h1, h2, h3, h4⟩ := (show ∃ a dx ys, _ from h)
    exact ⟨a, dx, ys, h1, e.ex _ _ trivial h2, h3, RepL.mono e fs ys h4⟩
  | .cell n, _, h => by
    obtain ⟨a, h1, h2⟩ := (show ∃ a, _ from h)
    exact ⟨a, h1, e.cs _ _ h2⟩
  | .ref _, _, h => h
  | .ty _, _, h => h
theorem RepL.mono {G : Gh} {W W' : Wd} (e : WLe W W') : ∀ (ds : List D) (xs : List V), RepL G W ds xs → RepL G W' ds xs
  | [], _, h => h
  | d :: ds, _, h => by
    obtain ⟨x, r, h1, h2, h3⟩ := (show ∃ x r, _ from h)
    exact ⟨x, r, h1, Rep.mono e d x h2, RepL.mono e ds r h3⟩
end
section
variable {G : Gh} {W : Wd}
theorem RepL.length : ∀ {ds : List D} {xs : List V}, RepL G W ds xs → ds.length = xs.length
  | [], _, h => by cases (show _ = [] from h); rfl
  | d :: ds, _, h => by
    obtain ⟨x, r, rfl, _, h3⟩ := (show ∃ x r, _ from h)
    simp [RepL.length h3]
theorem RepL.nil : RepL G W [] [] := by show _ = _; rfl
theorem RepL.cons {d ds x xs} (h : Rep G W d x) (t : RepL G W ds xs) : RepL G W (d :: ds) (x :: xs) := ⟨x, xs, rfl, h, t⟩
theorem RepL.get : ∀ {ds : List D} {xs : List V} {i : Nat} {d : D}, RepL G W ds xs → ds[i]? = some d → ∃ x, xs[i]? = some x ∧ Rep G W d x
  | [], _, _, _, _, e => by simp at e
  | d :: ds, _, 0, _, h, e => by
    obtain ⟨x, r, rfl, h2, h3⟩ := (show ∃ x r, _ from h)
    simp at e; subst e
    exact ⟨x, by simp, h2⟩
  | d :: ds, _, i + 1, d', h, e => by
    obtain ⟨x, r, rfl, h2, h3⟩ := (show ∃ x r, _ from h)
    obtain ⟨y, h4, h5⟩ := RepL.get (i := i) (d := d') h3 (by simpa using e)
    exact ⟨y, by simpa using h4, h5⟩
theorem RepL.get' : ∀ {ds : List D} {xs : List V} {i : Nat} {x : V}, RepL G W ds xs → xs[i]? = some x → ∃ d, ds[i]? = some d ∧ Rep G W d x := fun {ds xs i x} h e => by
  have hl := h.length
  have hi : i < ds.length := by rw [hl]; exact (List.getElem?_eq_some_iff.mp e).1
  obtain ⟨y, h1, h2⟩ := h.get (d := ds[i]) (List.getElem?_eq_getElem hi)
  rw [e] at h1; cases h1
  exact ⟨ds[i], List.getElem?_eq_getElem hi, h2⟩
theorem RepL.append : ∀ {ds es : List D} {xs ys : List V}, RepL G W ds xs → RepL G W es ys → RepL G W (ds ++ es) (xs ++ ys)
  | [], _, _, _, h, t => by cases (show _ = [] from h); exact t
  | d :: ds, _, _, _, h, t => by
    obtain ⟨x, r, rfl, h2, h3⟩ := (show ∃ x r, _ from h)
    exact .cons h2 (RepL.append h3 t)
theorem RepL.take : ∀ {ds : List D} {xs : List V} (n : Nat), RepL G W ds xs → RepL G W (ds.take n) (xs.take n)
  | _, _, 0, _ => by simp; exact .nil
  | [], _, n + 1, h => by cases (show _ = [] from h); exact .nil
  | d :: ds, _, n + 1, h => by
    obtain ⟨x, r, rfl, h2, h3⟩ := (show ∃ x r, _ from h)
    exact .cons h2 (RepL.take n h3)
theorem RepL.drop : ∀ {ds : List D} {xs : List V} (n : Nat), RepL G W ds xs → RepL G W (ds.drop n) (xs.drop n)
  | _, _, 0, h => h
  | [], _, n + 1, h => by cases (show _ = [] from h); exact .nil
  | d :: ds, _, n + 1, h => by
    obtain ⟨x, r, rfl, h2, h3⟩ := (show ∃ x r, _ from h)
    exact RepL.drop n h3
theorem RepL.set {d x} (hd : Rep G W d x) : ∀ {ds : List D} {xs : List V} (n : Nat), RepL G W ds xs → RepL G W (ds.set n d) (xs.set n x)
  | [], _, n, h => by cases (show _ = [] from h); exact .nil
  | _ :: ds, _, 0, h => by
    obtain ⟨x, r, rfl, h2, h3⟩ := (show ∃ x r, _ from h)
    exact .cons hd h3
  | _ :: ds, _, n + 1, h => by
    obtain ⟨x, r, rfl, h2, h3⟩ := (show ∃ x r, _ from h)
    exact .cons h2 (RepL.set hd n h3)
theorem RepL.dropLast {ds : List D} {xs : List V} (h : RepL G W ds xs) : RepL G W ds.dropLast xs.dropLast := by
  rw [List.dropLast_eq_take, List.dropLast_eq_take, h.length]
  exact h.take _
theorem RepL.rev : ∀ {ds : List D} {xs : List V}, RepL G W ds xs → RepL G W ds.reverse xs.reverse
  | [], _, h => by cases (show _ = [] from h); exact .nil
  | d :: ds, _, h => by
    obtain ⟨x, r, rfl, h2, h3⟩ := (show ∃ x r, _ from h)
    simp only [List.reverse_cons]
    exact .append (RepL.rev h3) (.cons h2 .nil)
theorem RepL.erase : ∀ {ds : List D} {xs : List V} (n : Nat), RepL G W ds xs → RepL G W (ds.eraseIdx n) (xs.eraseIdx n)
  | [], _, n, h => by cases (show _ = [] from h); exact .nil
  | _ :: ds, _, 0, h => by
    obtain ⟨x, r, rfl, h2, h3⟩ := (show ∃ x r, _ from h)
    exact h3
  | _ :: ds, _, n + 1, h => by
    obtain ⟨x, r, rfl, h2, h3⟩ := (show ∃ x r, _ from h)
    exact .cons h2 (RepL.erase n h3)
theorem RepL.rep {ds : List D} {xs : List V} (h : RepL G W ds xs) : ∀ k : Nat, RepL G W (List.replicate k ds).flatten (List.replicate k xs).flatten
  | 0 => .nil
  | k + 1 => by
    simp only [List.replicate_succ, List.flatten_cons]
    exact .append h (RepL.rep h k)
theorem RepL.ints : ∀ (ns : List Int), RepL G W (ns.map D.int) (ns.map V.int)
  | [] => .nil
  | n :: ns => .cons rfl (RepL.ints ns)
end

/-! ### slots, cells -/
inductive Sl where
  | un | v (d : D) | ol (ds : List D) | od (t : Bool) (ks vs : List D) | oi (t : Nat) (fs : List D)
inductive Ce where
  | lst (ds : List D) | ins (t : Nat) (fs : List D) | dct (t : Bool) (ks vs : List D) | dead
abbrev Env := List Sl
abbrev Sto := List Ce

def SlAt (G : Gh) (W : Wd) (H : Hp) : Sl → Option V → Prop
  | .un, _ => True
  | .v d, some x => Rep G W d x
  | .ol ds, some (.ref a) => ∃ xs, H a = some (.lst xs) ∧ RepL G W ds xs
  | .od t ks vs, some (.ref a) => ∃ ys, DcE H a t ks ys ∧ RepL G W vs ys
  | .oi t fs, some (.ref a) => ∃ dx ys, H a = some (.ins (G.ct t) dx ((G.fn t).zip ys)) ∧ fs.length ≤ (G.fn t).length ∧ RepL G W fs ys
  | _, _ => False
def IsOwn : Sl → Prop
  | .ol _ => True
  | .od _ _ _ => True
  | .oi _ _ => True
  | _ => False
def CeAt (G : Gh) (W : Wd) (H : Hp) (a : Addr) : Ce → Prop
  | .lst ds => ∃ xs, H a = some (.lst xs) ∧ RepL G W ds xs
  | .ins t fs => ∃ dx ys, H a = some (.ins (G.ct t) dx ((G.fn t).zip ys)) ∧ fs.length ≤ (G.fn t).length ∧ RepL G W fs ys
  | .dct t ks vs => ∃ ys, DcE H a t ks ys ∧ RepL G W vs ys
  | .dead => ∃ o, H a = some o
theorem CeAt.some {G W H a} : ∀ {c : Ce}, CeAt G W H a c → ∃ o, H a = some o
  | .lst _, h => let ⟨_, e, _⟩ := h; ⟨_, e⟩
  | .ins _ _, h => let ⟨_, _, e, _⟩ := h; ⟨_, e⟩
  | .dct _ _ _, ⟨_, h, _⟩ => h.some
  | .dead, h => h
theorem CeAt.mono {G : Gh} {W W' : Wd} {H H' : Hp} {a : Addr} (e : WLe W W') (h : H' a = H a) : ∀ {c : Ce}, CeAt G W H a c → CeAt G W' H' a c
  | .lst ds, ⟨xs, h1, h2⟩ => ⟨xs, h ▸ h1, RepL.mono e _ _ h2⟩
  | .ins t fs, ⟨dx, ys, h1, hl, h2⟩ => ⟨dx, ys, h ▸ h1, hl, RepL.mono e _ _ h2⟩
  | .dct t ks vs, ⟨ys, h1, h2⟩ => ⟨ys, h1.at h, RepL.mono e _ _ h2⟩
  | .dead, ⟨o, h1⟩ => ⟨o, h ▸ h1⟩
theorem SlAt.mono {G : Gh} {W W' : Wd} {H H' : Hp} (e : WLe W W') : ∀ {s : Sl} {x : Option V}, SlAt G W H s x → (∀ a, IsOwn s → x = some (.ref a) → H' a = H a) → SlAt G W' H' s x
  | .un, _, _, _ => True.intro
  | .v d, some x, h, _ => Rep.mono e d x h
  | .v d, none, h, _ => False.elim h
  | .ol ds, some (.ref a), ⟨xs, h1, h2⟩, k => ⟨xs, (k a trivial rfl) ▸ h1, RepL.mono e _ _ h2⟩
  | .od t ks vs, some (.ref a), ⟨ys, h1, h2⟩, k => ⟨ys, h1.at (k a trivial rfl), RepL.mono e _ _ h2⟩
  | .oi t fs, some (.ref a), ⟨dx, ys, h1, hl, h2⟩, k => ⟨dx, ys, (k a trivial rfl) ▸ h1, hl, RepL.mono e _ _ h2⟩
  | .ol ds, none, h, _ => False.elim h
  | .od _ _ _, none, h, _ => False.elim h
  | .oi _ _, none, h, _ => False.elim h
  | .ol ds, some .non, h, _ => False.elim h
  | .ol ds, some (.bl _), h, _ => False.elim h
  | .ol ds, some (.int _), h, _ => False.elim h
  | .ol ds, some (.str _), h, _ => False.elim h
  | .ol ds, some (.byt _), h, _ => False.elim h
  | .ol ds, some (.flt _), h, _ => False.elim h
  | .ol ds, some (.ty _), h, _ => False.elim h
  | .od _ _ _, some .non, h, _ => False.elim h
  | .od _ _ _, some (.bl _), h, _ => False.elim h
  | .od _ _ _, some (.int _), h, _ => False.elim h
  | .od _ _ _, some (.str _), h, _ => False.elim h
  | .od _ _ _, some (.byt _), h, _ => False.elim h
  | .od _ _ _, some (.flt _), h, _ => False.elim h
  | .od _ _ _, some (.ty _), h, _ => False.elim h
  | .oi _ _, some .non, h, _ => False.elim h
  | .oi _ _, some (.bl _), h, _ => False.elim h
  | .oi _ _, some (.int _), h, _ => False.elim h
  | .oi _ _, some (.str _), h, _ => False.elim h
  | .oi _ _, some (.byt _), h, _ => False.elim h
  | .oi _ _, some (.flt _), h, _ => False.elim h
  | .oi _ _, some (.ty _), h, _ => False.elim h
theorem SlAt.own {G : Gh} {W : Wd} {H : Hp} : ∀ {s : Sl} {x : Option V}, SlAt G W H s x → IsOwn s → ∃ a o, x = some (.ref a) ∧ H a = some o
  | .ol ds, some (.ref a), ⟨xs, h1, h2⟩, k => ⟨a, _, rfl, h1⟩
  | .od t ks vs, some (.ref a), ⟨ys, h1, h2⟩, k => let ⟨o, e⟩ := h1.some; ⟨a, o, rfl, e⟩
  | .oi t fs, some (.ref a), ⟨dx, ys, h1, hl, h2⟩, k => ⟨a, _, rfl, h1⟩

structure HpOk (G : Gh) (W : Wd) (H : Hp) (S : Sto) : Prop where
  sub : ∀ a o, W.F a = some o → H a = some o
  nd : W.cs.Nodup
  len : W.cs.length = S.length
  cel : ∀ (k : Nat) a c, W.cs[k]? = some a → S[k]? = some c → (c ≠ .dead → W.F a = none) ∧ CeAt G W H a c
structure Ext (W : Wd) (H : Hp) (W' : Wd) (H' : Hp) : Prop where
  le : WLe W W'
  kp : ∀ a o, H a = some o → a ∉ W.cs → H' a = some o
  nf : ∀ a o, H a = some o → W.F a = none → W'.F a = none
  nc : ∀ a ∈ W'.cs, a ∈ W.cs ∨ H a = none
  st : ∀ a ∈ W.cs, ∀ o, H a = some o → ∃ o', H' a = some o'
theorem Ext.rfl' {W H} : Ext W H W H := ⟨.rfl', fun _ _ h _ => h, fun _ _ _ h => h, fun _ h => .inl h, fun _ _ o h => ⟨o, h⟩⟩
theorem Ext.trans {W H W1 H1 W2 H2} (a : Ext W H W1 H1) (b : Ext W1 H1 W2 H2) : Ext W H W2 H2 := by
  have there : ∀ x o, H x = some o → ∃ o', H1 x = some o' := fun x o h => by
    by_cases hc : x ∈ W.cs
    · exact a.st x hc o h
    · exact ⟨o, a.kp x o h hc⟩
  refine ⟨a.le.trans b.le, fun x o h hc => ?_, fun x o h hf => ?_, fun x hx => ?_, fun x hx o h => ?_⟩
  · refine b.kp x o (a.kp x o h hc) fun h1 => ?_
    rcases a.nc x h1 with z | z
    · exact hc z
    · rw [h] at z; cases z
  · obtain ⟨o', h'⟩ := there x o h
    exact b.nf x o' h' (a.nf x o h hf)
  · rcases b.nc x hx with z | z
    · exact a.nc x z
    · cases q : H x with
      | none => exact .inr rfl
      | some o =>
        obtain ⟨o', h'⟩ := there x o q
        rw [z] at h'; cases h'
  · obtain ⟨o', h'⟩ := a.st x hx o h
    by_cases hc : x ∈ W1.cs
    · exact b.st x hc o' h'
    · exact ⟨o', b.kp x o' h' hc⟩

/-- a value, or a list or dict of the frame's own that is read where it stands -/
def RepB (G : Gh) (W : Wd) (H : Hp) (d : D) (v : V) : Prop := Rep G W d v ∨ ∃ a, v = .ref a ∧ a ∉ W.cs ∧
  ((∃ ds xs, d = .lst ds ∧ H a = some (.lst xs) ∧ RepL G W ds xs) ∨ ∃ t ks vs ys, d = .dct t ks vs ∧ DcE H a t ks ys ∧ RepL G W vs ys)
theorem RepB.ext {G W H W' H' d v} (e : Ext W H W' H') (h : RepB G W H d v) : RepB G W' H' d v := by
  rcases h with h | ⟨a, rfl, hc, h⟩
  · exact .inl (Rep.mono e.le _ _ h)
  · rcases h with ⟨ds, xs, rfl, h1, h2⟩ | ⟨t, ks, vs, ys, rfl, h1, h2⟩
    · exact .inr ⟨a, rfl, fun z => (e.nc a z).elim hc (fun q => nomatch (h1.symm.trans q)), .inl ⟨ds, xs, rfl, e.kp a _ h1 hc, RepL.mono e.le _ _ h2⟩⟩
    · obtain ⟨o, ho⟩ := h1.some
      exact .inr ⟨a, rfl, fun z => (e.nc a z).elim hc (fun q => nomatch (ho.symm.trans q)), .inr ⟨t, ks, vs, ys, rfl, h1.at ((e.kp a _ ho hc).trans ho.symm), RepL.mono e.le _ _ h2⟩⟩
def noLD : D → Bool
  | .lst _ => false
  | .dct _ _ _ => false
  | _ => true
theorem RepB.rep {G W H d v} (h : RepB G W H d v) (hd : noLD d = true) : Rep G W d v := by
  rcases h with h | ⟨a, rfl, hc, ⟨ds, xs, rfl, _⟩ | ⟨t, ks, vs, ys, rfl, _⟩⟩
  · exact h
  · cases hd
  · cases hd
theorem RepB.lst {G W H S ds v} (O : HpOk G W H S) (h : RepB G W H (.lst ds) v) : ∃ a xs, v = .ref a ∧ H a = some (.lst xs) ∧ RepL G W ds xs := by
  rcases h with h | ⟨a, rfl, hc, ⟨ds', xs, e, h1, h2⟩ | ⟨t, ks, vs, ys, e, _⟩⟩
  · obtain ⟨a, xs, rfl, h1, h2⟩ := (show ∃ a xs, _ from h)
    exact ⟨a, xs, rfl, O.sub _ _ h1, h2⟩
  · cases e; exact ⟨a, xs, rfl, h1, h2⟩
  · cases e
theorem DcAt.sub {F H : Hp} {a t ks ys} (hs : ∀ a o, F a = some o → H a = some o) (h : DcAt F a t ks ys) : DcAt H a t ks ys := by
  cases t
  · obtain ⟨kvs, h, r⟩ := h; exact ⟨kvs, h.elim (fun e => .inl (hs _ _ e)) (fun ⟨o, e⟩ => .inr ⟨o, hs _ _ e⟩), r⟩
  · obtain ⟨kvs, h, r⟩ := h; exact ⟨kvs, h.elim (fun e => .inl (hs _ _ e)) (fun ⟨o, e⟩ => .inr ⟨o, hs _ _ e⟩), r⟩
theorem RepB.dct {G W H S t ks vs v} (O : HpOk G W H S) (h : RepB G W H (.dct t ks vs) v) : ∃ a ys, v = .ref a ∧ DcAt H a t ks ys ∧ RepL G W vs ys := by
  rcases h with h | ⟨a, rfl, hc, ⟨ds', xs, e, h1, h2⟩ | ⟨t', ks', vs', ys, e, h1, h2⟩⟩
  · obtain ⟨a, ys, rfl, h1, h2⟩ := (show ∃ a ys, _ from h)
    exact ⟨a, ys, rfl, h1.sub O.sub, h2⟩
  · cases e
  · cases e; exact ⟨a, ys, rfl, h1.toAt, h2⟩
structure Ok (G : Gh) (B : Wd × Hp) (W : Wd) (σ : St) (H : Hp) (ρ : Env) (S : Sto) : Prop where
  hp : HpOk G W H S
  ex : Ext B.1 B.2 W H
  len : ρ.length = σ.length
  slt : ∀ (i : Nat) s, ρ[i]? = some s → SlAt G W H s (σ[i]?.getD none)
  own : ∀ (i : Nat) s a, ρ[i]? = some s → IsOwn s → σ[i]? = some (some (.ref a)) → W.F a = none ∧ B.2 a = none ∧ a ∉ W.cs
  dis : ∀ (i j : Nat) s t a, ρ[i]? = some s → IsOwn s → ρ[j]? = some t → IsOwn t → σ[i]? = some (some (.ref a)) → σ[j]? = some (some (.ref a)) → i = j
section
variable {G : Gh} {B : Wd × Hp} {W W' : Wd} {σ : St} {H H' : Hp} {ρ : Env} {S S' : Sto}
theorem getD_own {σ : St} {i : Nat} {a : Addr} (h : σ[i]?.getD none = some (.ref a)) : σ[i]? = some (some (.ref a)) := by
  cases e : σ[i]? with
  | none => rw [e] at h; cases h
  | some x => rw [e] at h; exact congrArg some h
/-- behind anything that keeps the frame's own things -/
theorem Ok.ext (h : Ok G B W σ H ρ S) (e : Ext W H W' H') (hp : HpOk G W' H' S') : Ok G B W' σ H' ρ S' := by
  refine ⟨hp, h.ex.trans e, h.len, fun i s hs => ?_, fun i s a hs ho hx => ?_, h.dis⟩
  · refine (h.slt i s hs).mono e.le fun a ho hx => ?_
    obtain ⟨a', o, hx', ha⟩ := (h.slt i s hs).own ho
    rw [hx] at hx'; cases hx'
    rw [e.kp a o ha ((h.own i s a hs ho (getD_own hx)).2.2), ha]
  · obtain ⟨h1, h2, h3⟩ := h.own i s a hs ho hx
    have hg : σ[i]?.getD none = some (.ref a) := by rw [hx]; rfl
    obtain ⟨a', o, hx', ha⟩ := (h.slt i s hs).own ho
    rw [hg] at hx'; cases hx'
    refine ⟨e.nf a o ha h1, h2, fun hc => ?_⟩
    rcases e.nc a hc with z | z
    · exact h3 z
    · rw [ha] at z; cases z
/-- the heap and the frozen part grow at free places -/
theorem Ext.grow (hF : ∀ a o, W.F a = some o → W'.F a = some o) (hH : ∀ a o, H a = some o → H' a = some o) (hn : ∀ a o, H a = some o → W.F a = none → W'.F a = none) (hc : W'.cs = W.cs) : Ext W H W' H' :=
  ⟨.of_F hF (by rw [hc]; exact fun _ _ h => h), fun a o h _ => hH a o h, hn, fun a h => .inl (hc ▸ h), fun a _ o h => ⟨o, hH a o h⟩⟩
theorem HpOk.grow (h : HpOk G W H S) (e : Ext W H W' H') (hs : ∀ a o, W'.F a = some o → H' a = some o) (hc : W'.cs = W.cs) (hH : ∀ a o, H a = some o → H' a = some o) : HpOk G W' H' S := by
  refine ⟨hs, hc ▸ h.nd, by rw [hc]; exact h.len, fun k a c h1 h2 => ?_⟩
  rw [hc] at h1
  obtain ⟨hf, hc'⟩ := h.cel k a c h1 h2
  obtain ⟨o, ho⟩ := hc'.some
  exact ⟨fun hd => e.nf a o ho (hf hd), hc'.mono e.le (by rw [hH a o ho, ho])⟩
/-- a new object at p, frozen at once -/
def Wd.put (W : Wd) (p : Addr) (o : HO) : Wd := ⟨upd W.F p o, W.cs⟩
theorem ext_new {p : Addr} {o : HO} (hp : H p = none) (h : HpOk G W H S) : Ext W H (W.put p o) (upd H p o) ∧ HpOk G (W.put p o) (upd H p o) S := by
  have hFp : W.F p = none := by
    cases q : W.F p with
    | none => rfl
    | some u => rw [h.sub p u q] at hp; cases hp
  have hH : ∀ a u, H a = some u → upd H p o a = some u := fun a u e => by rw [upd_ne (ne_of_none e hp)]; exact e
  have hE : Ext W H (W.put p o) (upd H p o) := Ext.grow (fun a u e => by
      show upd W.F p o a = some u
      rw [upd_ne (ne_of_none e hFp)]; exact e) hH (fun a u e hf => by
      show upd W.F p o a = none
      rw [upd_ne (ne_of_none e hp)]; exact hf) rfl
  refine ⟨hE, h.grow hE (fun a u e => ?_) rfl hH⟩
  by_cases ha : a = p
  · subst ha
    have e' : upd W.F a o a = some u := e
    rw [upd_same] at e'; rw [upd_same]; exact e'
  · have e' : upd W.F p o a = some u := e
    rw [upd_ne ha] at e'
    rw [upd_ne ha]; exact h.sub a u e'
theorem put_at {p : Addr} {o : HO} : (W.put p o).F p = some o := upd_same
/-- a new object at p, not frozen -/
theorem ext_new0 {p : Addr} {o : HO} (hp : H p = none) (h : HpOk G W H S) : Ext W H W (upd H p o) ∧ HpOk G W (upd H p o) S := by
  have hH : ∀ a u, H a = some u → upd H p o a = some u := fun a u e => by rw [upd_ne (ne_of_none e hp)]; exact e
  have hE : Ext W H W (upd H p o) := Ext.grow (fun a u e => e) hH (fun a u e hf => hf) rfl
  exact ⟨hE, h.grow hE (fun a u e => hH a u (h.sub a u e)) rfl hH⟩
end

/-! ### results -/
inductive RE where
  | ok (d : D) (S : Sto) | exc (c : Nat) (fs : List D) (S : Sto) | fail
inductive RS where
  | nx (ρ : Env) (S : Sto) | rt (d : D) (S : Sto) | bk (ρ : Env) (S : Sto) | ct (ρ : Env) (S : Sto) | exc (c : Nat) (fs : List D) (ρ : Env) (S : Sto) | fail
inductive RA where
  | ok (ds : List D) (S : Sto) | exc (c : Nat) (fs : List D) (S : Sto) | fail
abbrev FE := Env → Sto → RE
abbrev FA := Env → Sto → RA
abbrev FS := Env → Sto → RS
def RE.bind (r : RE) (k : D → Sto → RE) : RE := match r with
  | .ok d S => k d S
  | .exc c fs S => .exc c fs S
  | .fail => .fail
def RE.ofO : Option D → Sto → RE
  | some d, S => .ok d S
  | none, _ => .fail
/-- what an exception carries -/
def ExcRep (G : Gh) (W : Wd) (H : Hp) (c : Nat) (fs : List D) (cls : Value) (dx : Option Addr) : Prop :=
  cls = .ref (G.ct c) ∧ (fs = [] ∨ ∃ d ys, dx = some d ∧ H d = some (.xd ((G.fn c).zip ys)) ∧ fs.length ≤ (G.fn c).length ∧ RepL G W fs ys)
section
variable (G : Gh) (Wsh : WX) (B : Wd × Hp)
def PE' (σ : St) (W : Wd) (H : Hp) (Q : VK) : RE → Prop
  | .ok d S' => ∀ v W' H', Ext W H W' H' → HpOk G W' H' S' → Rep G W' d v → Q v H'
  | .exc c fs S' => ∀ cls dx W' H', Ext W H W' H' → HpOk G W' H' S' → ExcRep G W' H' c fs cls dx → Wsh cls dx σ H'
  | .fail => False
def PB' (σ : St) (W : Wd) (H : Hp) (Q : VK) : RE → Prop
  | .ok d S' => ∀ v W' H', Ext W H W' H' → HpOk G W' H' S' → RepB G W' H' d v → Q v H'
  | .exc c fs S' => ∀ cls dx W' H', Ext W H W' H' → HpOk G W' H' S' → ExcRep G W' H' c fs cls dx → Wsh cls dx σ H'
  | .fail => False
def PA' (σ : St) (W : Wd) (H : Hp) (Q : List V → Hp → Prop) : RA → Prop
  | .ok ds S' => ∀ vs W' H', Ext W H W' H' → HpOk G W' H' S' → RepL G W' ds vs → Q vs H'
  | .exc c fs S' => ∀ cls dx W' H', Ext W H W' H' → HpOk G W' H' S' → ExcRep G W' H' c fs cls dx → Wsh cls dx σ H'
  | .fail => False
def PS' (W : Wd) (D : Ends) : RS → Prop
  | .nx ρ' S' => ∀ σ' W' H', WLe W W' → Ok G B W' σ' H' ρ' S' → D.nx σ' H'
  | .bk ρ' S' => ∀ σ' W' H', WLe W W' → Ok G B W' σ' H' ρ' S' → D.bk σ' H'
  | .ct ρ' S' => ∀ σ' W' H', WLe W W' → Ok G B W' σ' H' ρ' S' → D.ct σ' H'
  | .rt d S' => ∀ v W' H', Ext B.1 B.2 W' H' → HpOk G W' H' S' → Rep G W' d v → D.rt v H'
  | .exc c fs ρ' S' => ∀ cls dx σ' W' H', Ok G B W' σ' H' ρ' S' → ExcRep G W' H' c fs cls dx → Wsh cls dx σ' H'
  | .fail => False
end
def tE (G : Gh) (Wsh : WX) (f : FE) : TE := fun σ H Q => ∃ B W ρ S, Ok G B W σ H ρ S ∧ PE' G Wsh σ W H Q (f ρ S)
/-- read in place -/
def tB (G : Gh) (Wsh : WX) (f : FE) : TE := fun σ H Q => ∃ B W ρ S, Ok G B W σ H ρ S ∧ PB' G Wsh σ W H Q (f ρ S)
def tA (G : Gh) (Wsh : WX) (f : FA) : TA := fun σ H Q => ∃ B W ρ S, Ok G B W σ H ρ S ∧ PA' G Wsh σ W H Q (f ρ S)
def tT (G : Gh) (Wsh : WX) (f : FE) : TT := fun σ H Q => tE G Wsh f σ H fun v H1 => ∃ c, v = .bl c ∧ Q c H1
def tS (G : Gh) (Wsh : WX) (f : FS) : TS := fun D σ H => ∃ B W ρ S, Ok G B W σ H ρ S ∧ PS' G Wsh B W D (f ρ S)
section
variable {G : Gh} {Wsh : WX} {B : Wd × Hp} {W W1 : Wd} {σ : St} {H H1 : Hp} {ρ : Env} {S : Sto}
theorem PE'.imp {Q Q' : VK} : ∀ {r : RE}, PE' G Wsh σ W H Q r → (∀ v H', Q v H' → Q' v H') → PE' G Wsh σ W H Q' r
  | .ok _ _, h, k => fun v W' H' e o r => k v H' (h v W' H' e o r)
  | .exc _ _ _, h, _ => h
  | .fail, h, _ => h
/-- from a later place -/
theorem PE'.at {Q : VK} (e : Ext W H W1 H1) : ∀ {r : RE}, PE' G Wsh σ W H Q r → PE' G Wsh σ W1 H1 Q r
  | .ok _ _, h => fun v W' H' e' o r => h v W' H' (e.trans e') o r
  | .exc _ _ _, h => fun cls dx W' H' e' o r => h cls dx W' H' (e.trans e') o r
  | .fail, h => h
theorem PA'.at {Q : List V → Hp → Prop} (e : Ext W H W1 H1) : ∀ {r : RA}, PA' G Wsh σ W H Q r → PA' G Wsh σ W1 H1 Q r
  | .ok _ _, h => fun v W' H' e' o r => h v W' H' (e.trans e') o r
  | .exc _ _ _, h => fun cls dx W' H' e' o r => h cls dx W' H' (e.trans e') o r
  | .fail, h => h
/-- the state behind a part -/
structure Mid (G : Gh) (B : Wd × Hp) (W : Wd) (H : Hp) (σ : St) (ρ : Env) (S1 : Sto) (W1 : Wd) (H1 : Hp) : Prop where
  ex : Ext W H W1 H1
  ok : Ok G B W1 σ H1 ρ S1
theorem PE'.bind {Q Q1 : VK} {k : D → Sto → RE} (O : Ok G B W σ H ρ S) : ∀ {r : RE}, PE' G Wsh σ W H Q (r.bind k) →
    (∀ v d S1 W1 H1, r = .ok d S1 → Mid G B W H σ ρ S1 W1 H1 → Rep G W1 d v → PE' G Wsh σ W1 H1 Q (k d S1) → Q1 v H1) → PE' G Wsh σ W H Q1 r
  | .ok d S1, h, q => fun v W' H' e o r => q v d S1 W' H' rfl ⟨e, O.ext e o⟩ r (PE'.at e h)
  | .exc _ _ _, h, _ => h
  | .fail, h, _ => h
theorem PB'.toE {Q : VK} : ∀ {r : RE}, PB' G Wsh σ W H Q r → PE' G Wsh σ W H Q r
  | .ok _ _, h => fun v W' H' e o r => h v W' H' e o (.inl r)
  | .exc _ _ _, h => h
  | .fail, h => h
theorem PB'.bind {Q Q1 : VK} {k : D → Sto → RE} (O : Ok G B W σ H ρ S) : ∀ {r : RE}, PE' G Wsh σ W H Q (r.bind k) →
    (∀ v d S1 W1 H1, r = .ok d S1 → Mid G B W H σ ρ S1 W1 H1 → RepB G W1 H1 d v → PE' G Wsh σ W1 H1 Q (k d S1) → Q1 v H1) → PB' G Wsh σ W H Q1 r
  | .ok d S1, h, q => fun v W' H' e o r => q v d S1 W' H' rfl ⟨e, O.ext e o⟩ r (PE'.at e h)
  | .exc _ _ _, h, _ => h
  | .fail, h, _ => h
theorem PS'.at {D : Ends} (e : WLe W W1) : ∀ {r : RS}, PS' G Wsh B W D r → PS' G Wsh B W1 D r
  | .nx _ _, h => fun σ' W' H' l o => h σ' W' H' (e.trans l) o
  | .bk _ _, h => fun σ' W' H' l o => h σ' W' H' (e.trans l) o
  | .ct _ _, h => fun σ' W' H' l o => h σ' W' H' (e.trans l) o
  | .rt _ _, h => h
  | .exc _ _ _ _, h => h
  | .fail, h => h
end
section
variable {X : Cx} {G : Gh} {Wsh : WX}
theorem _root_.L2.PE.imp {e : Expr} {t t' : TE} (h : PE X e t) (k : ∀ σ H Q, t' σ H Q → t σ H Q) : PE X e t' := ⟨fun pins s σ H Q I q => h.run pins s σ H Q I (k σ H Q q)⟩
theorem _root_.L2.PT.imp {e : Expr} {t t' : TT} (h : PT X e t) (k : ∀ σ H Q, t' σ H Q → t σ H Q) : PT X e t' := ⟨fun pins s σ H Q I q => h.run pins s σ H Q I (k σ H Q q)⟩
theorem _root_.L2.PW.imp {e : Expr} {t t' : TT} (h : PW X e t) (k : ∀ σ H Q, t' σ H Q → t σ H Q) : PW X e t' := ⟨fun wh pins s σ H Q I q => h.run wh pins s σ H Q I (k σ H Q q)⟩
theorem _root_.L2.PA.imp {e : List Expr} {t t' : TA} (h : PA X e t) (k : ∀ σ H Q, t' σ H Q → t σ H Q) : PA X e t' := ⟨fun pos pins s σ H Q I q => h.run pos pins s σ H Q I (k σ H Q q)⟩
theorem _root_.L2.PS.imp {e : Stmt} {t t' : TS} (h : PS X e t) (k : ∀ D σ H, t' D σ H → t D σ H) : PS X e t' := ⟨fun pins s σ H D I q => h.run pins s σ H D I (k D σ H q)⟩
theorem _root_.L2.PSs.imp {e : List Stmt} {t t' : TS} (h : PSs X e t) (k : ∀ D σ H, t' D σ H → t D σ H) : PSs X e t' := ⟨fun pins s σ H D I q => h.run pins s σ H D I (k D σ H q)⟩
/-- a value is read in place, too -/
theorem _root_.L2.PE.b {e : Expr} {f : FE} (h : PE X e (tE G Wsh f)) : PE X e (tB G Wsh f) := h.imp fun σ H Q ⟨B, W, ρ, S, O, q⟩ => ⟨B, W, ρ, S, O, q.toE⟩
end
end Dl
end
section
set_option Elab.async false
set_option linter.all false
set_option maxRecDepth 100000
set_option maxHeartbeats 1000000
/-! The deep layer: expressions. -/
namespace Dl
open PySem L2
theorem nosome {α : Type} {P : Prop} {z : α} {o : Option α} (h : o = some z) (e : o = none) : P := by rw [e] at h; cases h
theorem nofalse {P : Prop} {o : Bool} (h : o = true) (e : o = false) : P := by rw [e] at h; cases h
section
variable {X : Cx} {G : Gh} {Wsh : WX} {a b c e : Expr} {f g h f' : FE} {pos : Pos} {r r' : R2}
variable {B : Wd × Hp} {W W1 : Wd} {σ : L2.St} {H H1 : Hp} {ρ : Env} {S S1 : Sto}

theorem slv {i : Nat} {d : D} (O : Ok G B W σ H ρ S) (h : ρ[i]? = some (.v d)) : ∃ x, σ[i]? = some (some x) ∧ Rep G W d x := by
  have q := O.slt i _ h
  cases e : σ[i]? with
  | none => rw [e] at q; exact q.elim
  | some o =>
    rw [e] at q
    cases o with
    | none => exact q.elim
    | some x => exact ⟨x, rfl, q⟩
/-- a value without a new object -/
theorem PE'.here {Q : VK} {d : D} (h : PE' G Wsh σ W H Q (.ok d S)) (o : HpOk G W H S) {v : V} (r : Rep G W d v) : Q v H := h v W H .rfl' o r
theorem PE'.new {Q : VK} {d : D} (h : PE' G Wsh σ W H Q (.ok d S)) (o : HpOk G W H S) {p : Addr} {u : HO} (hp : H p = none) {v : V} (r : Rep G (W.put p u) d v) : Q v (upd H p u) := by
  obtain ⟨h1, h2⟩ := ext_new (o := u) hp o
  exact h v _ _ h1 h2 r
theorem le_put {p : Addr} {u : HO} (o : HpOk G W H S) (hp : H p = none) : WLe W (W.put p u) := (ext_new (o := u) hp o).1.le

def fV (i : Nat) : FE := fun ρ S => match ρ[i]? with
  | some (.v d) => .ok d S
  | _ => .fail
theorem ce_v (i : Nat) {x : Str} (hN : X.N[i]? = some x := by rfl) (hv : Vis X.env.scope x := by first | exact Or.inl rfl | exact Or.inr (Or.inl rfl) | exact Or.inr (Or.inr rfl)) (hd : (x == ("__debug__" : Str)) = false := by decide)
    (hcd : (x == ("__classdict__" : Str)) = false := by decide) : PE X (.Name x pos) (tE G Wsh (fV i)) := (pv i hN hv hd hcd).imp fun σ H Q ⟨B, W, ρ, S, O, h⟩ => by
  unfold fV at h
  split at h
  · rename_i d e
    obtain ⟨x, h1, h2⟩ := slv O e
    exact ⟨x, h1, h.here O.hp h2⟩
  · exact h.elim
def fC (d : D) : FE := fun _ S => .ok d S
theorem ce_c {v : V} {d : D} (h : PE X e (tC v)) (hr : ∀ W, Rep G W d v) : PE X e (tE G Wsh (fC d)) := h.imp fun σ H Q ⟨B, W, ρ, S, O, q⟩ => q.here O.hp (hr W)
theorem ce_int {i j pos} : PE X (.Constant (.int i) j pos) (tE G Wsh (fC (.int i))) := ce_c pe_int fun _ => rfl
theorem ce_bl {i j pos} : PE X (.Constant (.bool i) j pos) (tE G Wsh (fC (.bl i))) := ce_c pe_bl fun _ => rfl
theorem ce_str {i j pos} : PE X (.Constant (.str i) j pos) (tE G Wsh (fC (.str i))) := ce_c pe_str fun _ => rfl
theorem ce_non {j pos} : PE X (.Constant .none j pos) (tE G Wsh (fC .non)) := ce_c pe_non fun _ => rfl
/-- a constant of the module -/
theorem ce_glob {x : Str} {v : V} {u : Value} {d : D} (hg : Gl X x) (hm : X.mg x = some u) (r : RelV v u) (hr : ∀ W, Rep G W d v) (hd : (x == ("__debug__" : Str)) = false := by decide) : PE X (.Name x pos) (tE G Wsh (fC d)) :=
  ce_c (pe_glob hg hm r hd) hr

/-! ### two operands -/
def OpSem (G : Gh) (r : R2) (g : D → D → Option D) : Prop := ∀ (W : Wd) (H : Hp) (S : Sto) (x y : V) (d e z : D) (Q : VK), HpOk G W H S → RepB G W H d x → RepB G W H e y → g d e = some z →
  (∀ v W' H', Ext W H W' H' → HpOk G W' H' S → Rep G W' z v → Q v H') → r x y H Q
def f2 (k : D → D → Option D) (f g : FE) : FE := fun ρ S => (f ρ S).bind fun d S1 => (g ρ S1).bind fun e S2 => RE.ofO (k d e) S2
theorem two {k : D → D → Option D} (hs : OpSem G r k) {Q : VK} (h : tE G Wsh (f2 k f g) σ H Q) : tOp r (tB G Wsh f) (tB G Wsh g) σ H Q := by
  obtain ⟨B, W, ρ, S, O, h⟩ := h
  refine ⟨B, W, ρ, S, O, PB'.bind O h fun v d S1 W1 H1 _ M hr q => ⟨B, W1, ρ, S1, M.ok, PB'.bind M.ok q fun v2 d2 S2 W2 H2 _ M2 hr2 q2 => ?_⟩⟩
  cases e : k d d2 with
  | none => rw [e] at q2; exact q2.elim
  | some z => rw [e] at q2; exact hs W2 H2 S2 v v2 d d2 z Q M2.ok.hp (hr.ext M2.ex) hr2 e q2
theorem ce_bin {op : Operator} {k : D → D → Option D} (ho : OpR X (binaryOp op) r) (hs : OpSem G r k) (ha : PE X a (tB G Wsh f)) (hb : PE X b (tB G Wsh g)) : PE X (.BinOp a op b pos) (tE G Wsh (f2 k f g)) :=
  (pe_op ho ha hb).imp fun σ H Q h => two hs h
theorem ce_cmp {op : CmpOp} {k : D → D → Option D} (ho : OpR X (compareOp op) r) (hs : OpSem G r k) (ha : PE X a (tB G Wsh f)) (hb : PE X b (tB G Wsh g)) (hm : behindInMarks op b = false) : PE X (.Compare a [op] [b] pos) (tE G Wsh (f2 k f g)) :=
  (pe_cmpR ho ha hb hm).imp fun σ H Q h => two hs h
theorem ct_cmp {op : CmpOp} {k : D → D → Option D} (ho : OpR X (compareOp op) r) (hs : OpSem G r k) (ha : PE X a (tB G Wsh f)) (hb : PE X b (tB G Wsh g)) (hm : behindInMarks op b = false) : PT X (.Compare a [op] [b] pos) (tT G Wsh (f2 k f g)) :=
  (pt_cmpR ho ha hb hm).imp fun σ H Q h => two hs h
/-- a value as a test -/
theorem ct_v (ha : PE X a (tE G Wsh f)) (he : ∀ whole, isTrue a X.env whole = (do let v ← whole; standAt a.pos; holding [v] (truthy v)) := by intro _; rfl) : PT X a (tT G Wsh f) := pt_val ha he

theorem OpSem.or {k k' : D → D → Option D} (h : OpSem G r k) (h' : OpSem G r' k') : OpSem G (fun x y H Q => r x y H Q ∨ r' x y H Q) (fun d e => match k d e with | some z => some z | none => k' d e) := by
  intro W H S x y d e z Q O h1 h2 hz q
  cases e1 : k d e with
  | some z' => simp only [e1] at hz; cases hz; exact .inl (h W H S x y d e z Q O h1 h2 e1 q)
  | none => simp only [e1] at hz; exact .inr (h' W H S x y d e z Q O h1 h2 hz q)

def kI (k : Int → Int → Option D) : D → D → Option D
  | .int i, .int j => k i j
  | _, _ => none
theorem semI {C : Int → Int → Prop} {p : Int → Int → V} {k : Int → Int → Option D} (h : ∀ i j z, k i j = some z → C i j ∧ ∀ W, Rep G W z (p i j)) : OpSem G (rI C p) (kI k) := by
  intro W H S x y d e z Q O h1 h2 hz q
  cases d <;> first | (cases e <;> first | exact nosome hz rfl | skip) | exact nosome hz rfl
  rename_i i j
  cases (show x = V.int i from h1.rep rfl)
  cases (show y = V.int j from h2.rep rfl)
  obtain ⟨c, hr⟩ := h i j z hz
  exact ⟨i, j, rfl, rfl, c, q _ W H .rfl' O (hr W)⟩
theorem semI0 {p : Int → Int → V} {k : Int → Int → D} (h : ∀ i j W, Rep G W (k i j) (p i j)) : OpSem G (rI0 p) (kI fun i j => some (k i j)) := by
  intro W H S x y d e z Q O h1 h2 hz q
  cases d <;> first | (cases e <;> first | exact nosome hz rfl | skip) | exact nosome hz rfl
  rename_i i j
  cases (show x = V.int i from h1.rep rfl)
  cases (show y = V.int j from h2.rep rfl)
  cases hz
  exact ⟨i, j, rfl, rfl, q _ W H .rfl' O (h i j W)⟩
def szOk (n : Nat) : Bool := decide (n ≤ 16777216)
theorem szOk_line {n : Nat} (h : szOk n = true) : n ≤ sizeLine := by rw [sizeLine_eq]; exact of_decide_eq_true h

/-- a + b: ints, texts, tuples, lists -/
def kAdd : D → D → Option D
  | .int i, .int j => some (.int (i + j))
  | .str i, .str j => if szOk (i.length + j.length) then some (.str (i ++ j)) else none
  | .tup xs, .tup ys => if szOk (xs.length + ys.length) then some (.tup (xs ++ ys)) else none
  | .lst xs, .lst ys => if szOk (xs.length + ys.length) then some (.lst (xs ++ ys)) else none
  | _, _ => none
def rAddAll (K : PySem.W.Frag) : R2 := fun x y H Q => (rI0 (fun i j => .int (i + j)) x y H Q ∨ (∃ i j, x = .str i ∧ y = .str j ∧ i.length + j.length ≤ sizeLine ∧ Q (.str (i ++ j)) H)) ∨ (rCatA K x y H Q ∨ rCat x y H Q)
theorem op_addAll : OpR X (binaryOp .Add) (rAddAll X.K) := (op_add.or op_add_str).or (op_catA.or op_cat)
theorem sem_add : OpSem G (rAddAll X.K) kAdd := by
  intro W H S x y d e z Q O h1 h2 hz q
  cases d <;> first | (cases e <;> first | exact nosome hz rfl | skip) | exact nosome hz rfl
  · rename_i i j
    cases (show x = V.int i from h1.rep rfl)
    cases (show y = V.int j from h2.rep rfl)
    cases hz
    exact .inl (.inl ⟨i, j, rfl, rfl, q _ W H .rfl' O rfl⟩)
  · rename_i i j
    cases (show x = V.str i from h1.rep rfl)
    cases (show y = V.str j from h2.rep rfl)
    simp only [kAdd] at hz
    split at hz
    · rename_i hs
      cases hz
      exact .inl (.inr ⟨i, j, rfl, rfl, szOk_line hs, q _ W H .rfl' O rfl⟩)
    · cases hz
  · rename_i ds es
    obtain ⟨p, xs, rfl, e1, l1⟩ := (show ∃ a xs, _ from h1.rep rfl)
    obtain ⟨p2, ys, rfl, e2, l2⟩ := (show ∃ a xs, _ from h2.rep rfl)
    simp only [kAdd] at hz
    split at hz
    · rename_i hs
      cases hz
      have n1 := l1.length
      have n2 := l2.length
      refine .inr (.inl ⟨p, p2, xs, ys, rfl, rfl, .of (O.sub _ _ e1), .of (O.sub _ _ e2), by rw [← n1, ← n2]; exact szOk_line hs, fun z => ?_, fun _ z => ?_, fun _ _ p3 hp => ?_⟩)
      · subst z
        have : ds = [] := List.eq_nil_of_length_eq_zero (by simpa using n1)
        subst this
        exact q _ W H .rfl' O ⟨p2, ys, rfl, e2, l2⟩
      · subst z
        have : es = [] := List.eq_nil_of_length_eq_zero (by simpa using n2)
        subst this
        exact q _ W H .rfl' O (by rw [List.append_nil]; exact ⟨p, xs, rfl, e1, l1⟩)
      · obtain ⟨g1, g2⟩ := ext_new (o := HO.tup (xs ++ ys)) hp O
        exact q _ _ _ g1 g2 ⟨p3, xs ++ ys, rfl, put_at, RepL.mono g1.le _ _ (l1.append l2)⟩
    · cases hz
  · rename_i ds es
    obtain ⟨p, xs, rfl, e1, l1⟩ := h1.lst O
    obtain ⟨p2, ys, rfl, e2, l2⟩ := h2.lst O
    simp only [kAdd] at hz
    split at hz
    · rename_i hs
      cases hz
      have n1 := l1.length
      have n2 := l2.length
      refine .inr (.inr ⟨p, p2, xs, ys, rfl, rfl, e1, e2, by rw [← n1, ← n2]; exact szOk_line hs, fun p3 hp => ?_⟩)
      obtain ⟨g1, g2⟩ := ext_new (o := HO.lst (xs ++ ys)) hp O
      exact q _ _ _ g1 g2 ⟨p3, xs ++ ys, rfl, put_at, RepL.mono g1.le _ _ (l1.append l2)⟩
    · cases hz
theorem ce_add (ha : PE X a (tB G Wsh f)) (hb : PE X b (tB G Wsh g)) : PE X (.BinOp a .Add b pos) (tE G Wsh (f2 kAdd f g)) := ce_bin op_addAll sem_add ha hb

def kSub : D → D → Option D := kI fun i j => some (.int (i - j))
theorem ce_sub (ha : PE X a (tB G Wsh f)) (hb : PE X b (tB G Wsh g)) : PE X (.BinOp a .Sub b pos) (tE G Wsh (f2 kSub f g)) := ce_bin op_sub (semI0 fun _ _ _ => rfl) ha hb
/-- a * b of ints: one factor within 64 bits -/
def kMul : D → D → Option D := kI fun i j => if (-(18446744073709551616) < i ∧ i < 18446744073709551616) ∨ (-(18446744073709551616) < j ∧ j < 18446744073709551616) then some (.int (i * j)) else none
theorem ce_mul (ha : PE X a (tB G Wsh f)) (hb : PE X b (tB G Wsh g)) : PE X (.BinOp a .Mult b pos) (tE G Wsh (f2 kMul f g)) := ce_bin op_mul (semI fun i j z hz => by
  split at hz
  · rename_i hc
    cases hz
    refine ⟨?_, fun _ => rfl⟩
    unfold CMul
    have e : (2 : Int) ^ 64 = 18446744073709551616 := by decide
    rw [e]
    exact hc
  · cases hz) ha hb
def kMod : D → D → Option D := kI fun i j => if 0 < j then some (.int (i % j)) else none
theorem ce_mod (ha : PE X a (tB G Wsh f)) (hb : PE X b (tB G Wsh g)) : PE X (.BinOp a .Mod b pos) (tE G Wsh (f2 kMod f g)) := ce_bin op_mod (semI fun i j z hz => by
  split at hz
  · rename_i hc; cases hz; exact ⟨hc, fun _ => rfl⟩
  · cases hz) ha hb
def kDiv : D → D → Option D := kI fun i j => if 0 < j ∧ j < 1073741824 then some (.int (i / j)) else none
theorem ce_div (ha : PE X a (tB G Wsh f)) (hb : PE X b (tB G Wsh g)) : PE X (.BinOp a .FloorDiv b pos) (tE G Wsh (f2 kDiv f g)) := ce_bin op_fdiv (semI fun i j z hz => by
  split at hz
  · rename_i hc; cases hz; exact ⟨hc, fun _ => rfl⟩
  · cases hz) ha hb
def kPow : D → D → Option D := kI fun i j => if 0 ≤ j ∧ j ≤ 1000000 ∧ i.natAbs < 18446744073709551616 then some (.int (i ^ j.toNat)) else none
theorem ce_pow (ha : PE X a (tB G Wsh f)) (hb : PE X b (tB G Wsh g)) : PE X (.BinOp a .Pow b pos) (tE G Wsh (f2 kPow f g)) := ce_bin op_pow (semI fun i j z hz => by
  split at hz
  · rename_i hc
    cases hz
    refine ⟨?_, fun _ => rfl⟩
    unfold CPow
    have e : (2 : Nat) ^ 64 = 18446744073709551616 := by decide
    rw [e]
    exact hc
  · cases hz) ha hb
theorem ce_neg (ha : PE X a (tE G Wsh f)) : PE X (.UnaryOp .USub a pos) (tE G Wsh (fun ρ S => (f ρ S).bind fun d S1 => match d with | .int i => .ok (.int (-i)) S1 | _ => .fail)) := (pe_un un_neg ha).imp fun σ H Q ⟨B, W, ρ, S, O, h⟩ =>
  ⟨B, W, ρ, S, O, PE'.bind O h fun v d S1 W1 H1 _ M hr q => by
    cases d with
    | int i =>
      cases (show v = V.int i from hr)
      exact ⟨i, rfl, PE'.here q M.ok.hp rfl⟩
    | _ => exact q.elim⟩
/-! ### order of ints -/
def kLt : D → D → Option D := kI fun i j => some (.bl (decide (i < j)))
def kLe : D → D → Option D := kI fun i j => some (.bl (decide (i ≤ j)))
def kGt : D → D → Option D := kI fun i j => some (.bl (decide (j < i)))
def kGe : D → D → Option D := kI fun i j => some (.bl (decide (j ≤ i)))
theorem sem_lt : OpSem G (rI0 fun i j => .bl (decide (i < j))) kLt := semI0 fun _ _ _ => rfl
theorem sem_le : OpSem G (rI0 fun i j => .bl (decide (i ≤ j))) kLe := semI0 fun _ _ _ => rfl
theorem sem_gt : OpSem G (rI0 fun i j => .bl (decide (j < i))) kGt := semI0 fun _ _ _ => rfl
theorem sem_ge : OpSem G (rI0 fun i j => .bl (decide (j ≤ i))) kGe := semI0 fun _ _ _ => rfl
/-- a < b of ints or of texts -/
def kLtA : D → D → Option D
  | .int i, .int j => some (.bl (decide (i < j)))
  | .str i, .str j => some (.bl (decide (i.cps.toList < j.cps.toList)))
  | _, _ => none
theorem op_ltA : OpR X (compareOp .Lt) (fun x y H Q => rI0 (fun i j => .bl (decide (i < j))) x y H Q ∨ (∃ i j, x = .str i ∧ y = .str j ∧ Q (.bl (decide (i.cps.toList < j.cps.toList))) H)) := op_lt.or op_lt_str
theorem sem_ltA : OpSem G (fun x y H Q => rI0 (fun i j => .bl (decide (i < j))) x y H Q ∨ (∃ i j, x = .str i ∧ y = .str j ∧ Q (.bl (decide (i.cps.toList < j.cps.toList))) H)) kLtA := by
  intro W H S x y d e z Q O h1 h2 hz q
  cases d <;> first | (cases e <;> first | exact nosome hz rfl | skip) | exact nosome hz rfl
  · rename_i i j
    cases (show x = V.int i from h1.rep rfl)
    cases (show y = V.int j from h2.rep rfl)
    cases hz
    exact .inl ⟨i, j, rfl, rfl, q _ W H .rfl' O rfl⟩
  · rename_i i j
    cases (show x = V.str i from h1.rep rfl)
    cases (show y = V.str j from h2.rep rfl)
    cases hz
    exact .inr ⟨i, j, rfl, rfl, q _ W H .rfl' O rfl⟩

/-! ### equality of data -/
mutual
def eqD : D → D → Bool
  | .non, .non => true
  | .bl a, .bl b => a == b
  | .int a, .int b => decide (a = b)
  | .str a, .str b => decide (a = b)
  | .tup a, .tup b => eqDs a b
  | .lst a, .lst b => eqDs a b
  | _, _ => false
def eqDs : List D → List D → Bool
  | [], [] => true
  | a :: as, b :: bs => eqD a b && eqDs as bs
  | _, _ => false
end
mutual
/-- data that == compares as eqD does: no bool beside ints -/
def datD : Nat → D → Bool
  | _, .non => true
  | _, .bl _ => true
  | _, .int _ => true
  | _, .str x => x.cps.all (· < 0x110000)
  | 0, _ => false
  | n + 1, .tup ds => datDs n ds
  | n + 1, .lst ds => datDs n ds
  | _, _ => false
def datDs : Nat → List D → Bool
  | _, [] => true
  | n, d :: ds => datD n d && datDs n ds
end
mutual
def pyD : D → PyData
  | .non => .none
  | .bl b => .bool b
  | .int i => .int i
  | .str x => .str x
  | .tup ds => .tuple (pyDs ds)
  | .lst ds => .list (pyDs ds)
  | _ => .none
def pyDs : List D → List PyData
  | [] => []
  | d :: ds => pyD d :: pyDs ds
end
/-- a bool meets an int somewhere -/
def mixB : D → D → Bool
  | .bl _, .int _ => true
  | .int _, .bl _ => true
  | _, _ => false
mutual
def eqP : D → D → Bool
  | .bl a, .int j => (if a then 1 else 0) == j
  | .int i, .bl b => i == (if b then 1 else 0)
  | .non, .non => true
  | .bl a, .bl b => a == b
  | .int a, .int b => a == b
  | .str a, .str b => a == b
  | .tup a, .tup b => eqPs a b
  | .lst a, .lst b => eqPs a b
  | _, _ => false
def eqPs : List D → List D → Bool
  | [], [] => true
  | a :: as, b :: bs => eqP a b && eqPs as bs
  | _, _ => false
end
mutual
theorem eqv_eq : ∀ (n m : Nat) (d e : D), datD n d = true → datD m e = true → PyData.eqv (pyD d) (pyD e) = eqP d e
  | n, m, d, e, h1, h2 => by
    cases d <;> cases e <;> first
      | (simp only [pyD, PyData.eqv, eqP]; done)
      | (cases n <;> exact nofalse h1 rfl)
      | (cases m <;> exact nofalse h2 rfl)
      | skip
    · cases n with
      | zero => exact nofalse h1 rfl
      | succ n =>
        cases m with
        | zero => exact nofalse h2 rfl
        | succ m =>
          rename_i ds es
          simp only [pyD, PyData.eqv, eqP]
          exact eqv_eqs n m ds es h1 h2
    · cases n with
      | zero => exact nofalse h1 rfl
      | succ n =>
        cases m with
        | zero => exact nofalse h2 rfl
        | succ m =>
          rename_i ds es
          simp only [pyD, PyData.eqv, eqP]
          exact eqv_eqs n m ds es h1 h2
theorem eqv_eqs : ∀ (n m : Nat) (ds es : List D), datDs n ds = true → datDs m es = true → PyData.eqvAll (pyDs ds) (pyDs es) = eqPs ds es
  | _, _, [], [], _, _ => by simp [pyDs, PyData.eqvAll, eqPs]
  | _, _, [], _ :: _, _, _ => by simp [pyDs, PyData.eqvAll, eqPs]
  | _, _, _ :: _, [], _, _ => by simp [pyDs, PyData.eqvAll, eqPs]
  | n, m, d :: ds, e :: es, h1, h2 => by
    have h1' : (datD n d && datDs n ds) = true := by rw [datDs] at h1; exact h1
    have h2' : (datD m e && datDs m es) = true := by rw [datDs] at h2; exact h2
    obtain ⟨a1, a2⟩ := Bool.and_eq_true_iff.mp h1'
    obtain ⟨b1, b2⟩ := Bool.and_eq_true_iff.mp h2'
    simp only [pyDs, PyData.eqvAll, eqPs, eqv_eq n m d e a1 b1, eqv_eqs n m ds es a2 b2]
end
end
end Dl
end
section
set_option Elab.async false
set_option linter.all false
set_option maxRecDepth 100000
set_option maxHeartbeats 1000000
/-! The deep layer: equality, in, tests, arguments, displays, subscripts. -/
namespace Dl
open PySem L2
section
variable {X : Cx} {G : Gh} {Wsh : WX} {a b c e : Expr} {es : List Expr} {f g h f' : FE} {fa ga : FA} {pos : Pos} {r r' : R2}
variable {B : Wd × Hp} {W W1 : Wd} {σ : L2.St} {H H1 : Hp} {ρ : Env} {S S1 : Sto}

/-! ### == -/
mutual
theorem dp_of (hK : G.K = X.K) (O : HpOk G W H S) : ∀ (n : Nat) (d : D) (v : V), datD n d = true → Rep G W d v → Dp X.K H v (pyD d)
  | _, .non, _, _, h => by cases (show _ = V.non from h); exact .non
  | _, .bl b, _, _, h => by cases (show _ = V.bl b from h); exact .bl b
  | _, .int i, _, _, h => by cases (show _ = V.int i from h); exact .int i
  | _, .str x, _, _, h => by cases (show _ = V.str x from h); exact .str x
  | 0, .tup ds, _, hd, _ => nofalse hd rfl
  | 0, .lst ds, _, hd, _ => nofalse hd rfl
  | n + 1, .tup ds, _, hd, h => by
    obtain ⟨p, xs, rfl, e, l⟩ := (show ∃ a xs, _ from h)
    exact .tup (.of (O.sub _ _ e)) (dps_of hK O n ds xs (by rw [datD] at hd; exact hd) l)
  | n + 1, .lst ds, _, hd, h => by
    obtain ⟨p, xs, rfl, e, l⟩ := (show ∃ a xs, _ from h)
    exact .lst (.of (O.sub _ _ e)) (dps_of hK O n ds xs (by rw [datD] at hd; exact hd) l)
  | 0, .dct _ _ _, _, hd, _ => nofalse hd rfl
  | 0, .kt _, _, hd, _ => nofalse hd rfl
  | 0, .scr _, _, hd, _ => nofalse hd rfl
  | 0, .obj _ _, _, hd, _ => nofalse hd rfl
  | 0, .cell _, _, hd, _ => nofalse hd rfl
  | 0, .ref _, _, hd, _ => nofalse hd rfl
  | 0, .ty _, _, hd, _ => nofalse hd rfl
  | _ + 1, .dct _ _ _, _, hd, _ => nofalse hd rfl
  | _ + 1, .kt _, _, hd, _ => nofalse hd rfl
  | _ + 1, .scr _, _, hd, _ => nofalse hd rfl
  | _ + 1, .obj _ _, _, hd, _ => nofalse hd rfl
  | _ + 1, .cell _, _, hd, _ => nofalse hd rfl
  | _ + 1, .ref _, _, hd, _ => nofalse hd rfl
  | _ + 1, .ty _, _, hd, _ => nofalse hd rfl
theorem dps_of (hK : G.K = X.K) (O : HpOk G W H S) : ∀ (n : Nat) (ds : List D) (xs : List V), datDs n ds = true → RepL G W ds xs → DpAll X.K H xs (pyDs ds)
  | _, [], _, _, h => by cases (show _ = [] from h); exact .nil
  | n, d :: ds, _, hd, h => by
    obtain ⟨x, r, rfl, h2, h3⟩ := (show ∃ x r, _ from h)
    have hd' : (datD n d && datDs n ds) = true := by rw [datDs] at hd; exact hd
    obtain ⟨a1, a2⟩ := Bool.and_eq_true_iff.mp hd'
    exact .cons (dp_of hK O n d x a1 h2) (dps_of hK O n ds r a2 h3)
end
mutual
theorem lay_of : ∀ (n : Nat) (d : D), datD n d = true → (pyD d).canLay0 = true ∧ (pyD d).depth ≤ n
  | _, .non, _ => by simp [pyD, PyData.canLay0, PyData.depth]
  | _, .bl b, _ => by simp [pyD, PyData.canLay0, PyData.depth]
  | _, .int i, _ => by simp [pyD, PyData.canLay0, PyData.depth]
  | n, .str x, hd => by
    have hd' : x.cps.all (· < 0x110000) = true := by cases n <;> exact hd
    exact ⟨by simp only [pyD, PyData.canLay0, PyData.strOk]; exact hd', by simp [pyD, PyData.depth]⟩
  | 0, .tup ds, hd => nofalse hd rfl
  | 0, .lst ds, hd => nofalse hd rfl
  | n + 1, .tup ds, hd => by
    have q := lays_of n ds (by rw [datD] at hd; exact hd)
    exact ⟨by simp only [pyD, PyData.canLay0]; exact q.1, by simp only [pyD, PyData.depth]; omega⟩
  | n + 1, .lst ds, hd => by
    have q := lays_of n ds (by rw [datD] at hd; exact hd)
    exact ⟨by simp only [pyD, PyData.canLay0]; exact q.1, by simp only [pyD, PyData.depth]; omega⟩
  | 0, .dct _ _ _, hd => nofalse hd rfl
  | 0, .kt _, hd => nofalse hd rfl
  | 0, .scr _, hd => nofalse hd rfl
  | 0, .obj _ _, hd => nofalse hd rfl
  | 0, .cell _, hd => nofalse hd rfl
  | 0, .ref _, hd => nofalse hd rfl
  | 0, .ty _, hd => nofalse hd rfl
  | _ + 1, .dct _ _ _, hd => nofalse hd rfl
  | _ + 1, .kt _, hd => nofalse hd rfl
  | _ + 1, .scr _, hd => nofalse hd rfl
  | _ + 1, .obj _ _, hd => nofalse hd rfl
  | _ + 1, .cell _, hd => nofalse hd rfl
  | _ + 1, .ref _, hd => nofalse hd rfl
  | _ + 1, .ty _, hd => nofalse hd rfl
theorem lays_of : ∀ (n : Nat) (ds : List D), datDs n ds = true → PyData.canLayAll0 (pyDs ds) = true ∧ PyData.depthAll (pyDs ds) ≤ n
  | _, [], _ => by simp [pyDs, PyData.canLayAll0, PyData.depthAll]
  | n, d :: ds, hd => by
    have hd' : (datD n d && datDs n ds) = true := by rw [datDs] at hd; exact hd
    obtain ⟨a1, a2⟩ := Bool.and_eq_true_iff.mp hd'
    have q1 := lay_of n d a1
    have q2 := lays_of n ds a2
    exact ⟨by simp only [pyDs, PyData.canLayAll0, q1.1, q2.1, Bool.and_true], by simp only [pyDs, PyData.depthAll]; omega⟩
end
theorem dpB (hK : G.K = X.K) (O : HpOk G W H S) {n : Nat} {d : D} {v : V} (hd : datD n d = true) (h : RepB G W H d v) : Dp X.K H v (pyD d) := by
  rcases h with h | ⟨a, rfl, hc, ⟨ds, xs, rfl, h1, h2⟩ | ⟨t, ks, vs, ys, rfl, _⟩⟩
  · exact dp_of hK O n d v hd h
  · cases n with
    | zero => exact nofalse hd rfl
    | succ n => exact .lst (.of h1) (dps_of hK O n ds xs (by rw [datD] at hd; exact hd) h2)
  · cases n <;> exact nofalse hd rfl
theorem shaped_of {n : Nat} {d : D} (hn : n ≤ 64) (h : datD n d = true) : SeqAt.shaped (pyD d) = true := by
  have q := lay_of n d h
  unfold SeqAt.shaped
  rw [q.1, Bool.true_and]
  exact decide_eq_true (by omega)
abbrev dat (d : D) : Bool := datD 16 d
def kEq (d e : D) : Option D := if dat d && dat e then some (.bl (eqP d e)) else none
def kNe (d e : D) : Option D := if dat d && dat e then some (.bl (!eqP d e)) else none
theorem sem_eq (hK : G.K = X.K) : OpSem G (rEqD X.K) kEq := by
  intro W H S x y d e z Q O h1 h2 hz q
  unfold kEq at hz
  split at hz
  · rename_i hs
    obtain ⟨a1, a2⟩ := Bool.and_eq_true_iff.mp hs
    cases hz
    exact ⟨pyD d, pyD e, dpB hK O a1 h1, dpB hK O a2 h2, shaped_of (by decide) a1, shaped_of (by decide) a2, q _ W H .rfl' O (by rw [eqv_eq 16 16 d e a1 a2]; rfl)⟩
  · cases hz
theorem sem_ne (hK : G.K = X.K) : OpSem G (rNeD X.K) kNe := by
  intro W H S x y d e z Q O h1 h2 hz q
  unfold kNe at hz
  split at hz
  · rename_i hs
    obtain ⟨a1, a2⟩ := Bool.and_eq_true_iff.mp hs
    cases hz
    exact ⟨pyD d, pyD e, dpB hK O a1 h1, dpB hK O a2 h2, shaped_of (by decide) a1, shaped_of (by decide) a2, q _ W H .rfl' O (by rw [eqv_eq 16 16 d e a1 a2]; rfl)⟩
  · cases hz
/-- is None -/
def nonD : D → Bool
  | .non => true
  | _ => false
def kIsN (d e : D) : Option D := if nonD e then some (.bl (nonD d)) else none
def kNotN (d e : D) : Option D := if nonD e then some (.bl (!nonD d)) else none
theorem rep_non {d : D} {x : V} (h : RepB G W H d x) : decide (x = .non) = nonD d := by
  rcases h with h | ⟨a, rfl, hc, ⟨ds, xs, rfl, h1, h2⟩ | ⟨t, ks, vs, ys, rfl, _⟩⟩ <;> try rfl
  cases d with
  | non => cases (show x = V.non from h); rfl
  | bl b => cases (show x = V.bl b from h); rfl
  | int b => cases (show x = V.int b from h); rfl
  | str b => cases (show x = V.str b from h); rfl
  | ty b => cases (show x = V.ty b from h); rfl
  | ref b => cases (show x = V.ref _ from h); rfl
  | tup ds => obtain ⟨_, _, rfl, _⟩ := (show ∃ a xs, _ from h); rfl
  | lst ds => obtain ⟨_, _, rfl, _⟩ := (show ∃ a xs, _ from h); rfl
  | kt ds => obtain ⟨_, _, rfl, _⟩ := (show ∃ a xs, _ from h); rfl
  | scr ds => obtain ⟨_, _, rfl, _⟩ := (show ∃ a xs, _ from h); rfl
  | dct t ks vs => obtain ⟨_, _, rfl, _⟩ := (show ∃ a xs, _ from h); rfl
  | obj t fs => obtain ⟨_, _, _, rfl, _⟩ := (show ∃ a dx xs, _ from h); rfl
  | cell n => obtain ⟨_, rfl, _⟩ := (show ∃ a, _ from h); rfl
theorem non_of {e : D} {y : V} (h : nonD e = true) (r : RepB G W H e y) : y = .non := by
  cases e <;> first | exact nofalse h rfl | exact r.rep rfl
theorem sem_isN : OpSem G (fun x y H Q => y = .non ∧ Q (.bl (decide (x = .non))) H) kIsN := by
  intro W H S x y d e z Q O h1 h2 hz q
  unfold kIsN at hz
  split at hz
  · rename_i hn
    injection hz with hz
    subst hz
    exact ⟨non_of hn h2, q _ W H .rfl' O (by rw [rep_non h1]; rfl)⟩
  · cases hz
theorem sem_notN : OpSem G (fun x y H Q => y = .non ∧ Q (.bl (!decide (x = .non))) H) kNotN := by
  intro W H S x y d e z Q O h1 h2 hz q
  unfold kNotN at hz
  split at hz
  · rename_i hn
    injection hz with hz
    subst hz
    exact ⟨non_of hn h2, q _ W H .rfl' O (by rw [rep_non h1]; rfl)⟩
  · cases hz
/-! ### in -/
/-- a sign in a text -/
def kInS : D → D → Option D
  | .str x, .str z => match x.cps.toList with
    | [c] => some (.bl (decide (c ∈ z.cps.toList)))
    | _ => none
  | _, _ => none
def kNiS (d e : D) : Option D := match kInS d e with
  | some (.bl b) => some (.bl (!b))
  | _ => none
theorem one_sign {x : Str} {c : Nat} (h : x.cps.toList = [c]) : x = ⟨#[c]⟩ := by
  cases x with
  | mk cps =>
    have : cps = #[c] := by
      apply Array.toList_inj.mp
      exact h
    rw [this]
theorem sem_inS : OpSem G (fun x y H Q => ∃ (c : Nat) (z : Str), x = .str ⟨#[c]⟩ ∧ y = .str z ∧ Q (.bl (decide (c ∈ z.cps.toList))) H) kInS := by
  intro W H S x y d e z Q O h1 h2 hz q
  cases d <;> first | (cases e <;> first | exact nosome hz rfl | skip) | exact nosome hz rfl
  rename_i i j
  cases (show x = V.str i from h1.rep rfl)
  cases (show y = V.str j from h2.rep rfl)
  simp only [kInS] at hz
  split at hz
  · rename_i c hc
    cases hz
    exact ⟨c, j, by rw [one_sign hc], rfl, q _ W H .rfl' O rfl⟩
  · cases hz
theorem sem_niS : OpSem G (fun x y H Q => ∃ (c : Nat) (z : Str), x = .str ⟨#[c]⟩ ∧ y = .str z ∧ Q (.bl (!decide (c ∈ z.cps.toList))) H) kNiS := by
  intro W H S x y d e z Q O h1 h2 hz q
  unfold kNiS at hz
  split at hz
  · rename_i b hb
    cases hz
    have := sem_inS (G := G) W H S x y d e (.bl b) (fun v H' => v = .bl b ∧ H' = H) O h1 h2 hb
    cases d <;> first | (cases e <;> first | exact nosome hb rfl | skip) | exact nosome hb rfl
    rename_i i j
    cases (show x = V.str i from h1.rep rfl)
    cases (show y = V.str j from h2.rep rfl)
    simp only [kInS] at hb
    split at hb
    · rename_i c hc
      cases hb
      exact ⟨c, j, by rw [one_sign hc], rfl, q _ W H .rfl' O rfl⟩
    · cases hb
  · cases hz
/-- x in a list of data -/
def kInL : D → D → Option D
  | d, .lst ds => if dat d && datDs 15 ds then some (.bl (ds.any fun z => eqP z d)) else none
  | _, _ => none
def kNiL : D → D → Option D
  | d, .lst ds => if dat d && datDs 15 ds then some (.bl (!ds.any fun z => eqP z d)) else none
  | _, _ => none
theorem any_eqv {d : D} {n : Nat} (hd : dat d = true) : ∀ {ds : List D}, datDs n ds = true → ((pyDs ds).any fun z => PyData.eqv z (pyD d)) = ds.any fun z => eqP z d
  | [], _ => rfl
  | z :: ds, h => by
    have h' : (datD n z && datDs n ds) = true := by rw [datDs] at h; exact h
    obtain ⟨a1, a2⟩ := Bool.and_eq_true_iff.mp h'
    simp only [pyDs, List.any_cons, eqv_eq n 16 z d a1 hd, any_eqv hd a2]
theorem sem_inL (hK : G.K = X.K) : OpSem G (rInD X.K) kInL := by
  intro W H S x y d e z Q O h1 h2 hz q
  cases e <;> first | exact nosome hz rfl | skip
  rename_i ds
  simp only [kInL] at hz
  split at hz
  · rename_i hs
    obtain ⟨a1, a2⟩ := Bool.and_eq_true_iff.mp hs
    cases hz
    have a3 : datD 16 (.lst ds) = true := by rw [datD]; exact a2
    have p3 := dpB hK O a3 h2
    refine ⟨pyD d, pyDs ds, dpB hK O a1 h1, by simpa only [pyD] using p3, shaped_of (by decide) a1, by have := shaped_of (by decide) a3; simpa only [pyD] using this, q _ W H .rfl' O ?_⟩
    rw [any_eqv a1 a2]
    rfl
  · cases hz
theorem sem_niL (hK : G.K = X.K) : OpSem G (rNotInD X.K) kNiL := by
  intro W H S x y d e z Q O h1 h2 hz q
  cases e <;> first | exact nosome hz rfl | skip
  rename_i ds
  simp only [kNiL] at hz
  split at hz
  · rename_i hs
    obtain ⟨a1, a2⟩ := Bool.and_eq_true_iff.mp hs
    cases hz
    have a3 : datD 16 (.lst ds) = true := by rw [datD]; exact a2
    have p3 := dpB hK O a3 h2
    refine ⟨pyD d, pyDs ds, dpB hK O a1 h1, by simpa only [pyD] using p3, shaped_of (by decide) a1, by have := shaped_of (by decide) a3; simpa only [pyD] using this, q _ W H .rfl' O ?_⟩
    rw [any_eqv a1 a2]
    rfl
  · cases hz

/-! ### and, or, not, chains, a if t else b -/
def bB (r : RE) (k : Bool → Sto → RE) : RE := r.bind fun d S => match d with
  | .bl b => k b S
  | _ => .fail
theorem PE'.bB {Q Q1 : VK} {k : Bool → Sto → RE} (O : Ok G B W σ H ρ S) {r : RE} (h : PE' G Wsh σ W H Q (bB r k))
    (q : ∀ b S1 W1 H1, r = .ok (.bl b) S1 → Mid G B W H σ ρ S1 W1 H1 → PE' G Wsh σ W1 H1 Q (k b S1) → Q1 (.bl b) H1) : PE' G Wsh σ W H Q1 r :=
  PE'.bind O h fun v d S1 W1 H1 e M hr p => by
    cases d with
    | bl b => cases (show v = V.bl b from hr); exact q b S1 W1 H1 e M p
    | _ => exact p.elim
def fAnd (f g : FE) : FE := fun ρ S => bB (f ρ S) fun b S1 => if b then g ρ S1 else .ok (.bl false) S1
def fOr (f g : FE) : FE := fun ρ S => bB (f ρ S) fun b S1 => if b then .ok (.bl true) S1 else g ρ S1
def fNot (f : FE) : FE := fun ρ S => bB (f ρ S) fun b S1 => .ok (.bl (!b)) S1
def fIf (t f g : FE) : FE := fun ρ S => bB (t ρ S) fun b S1 => if b then f ρ S1 else g ρ S1
variable {rest : List Expr}
theorem ce_one {op} (h : PE X a (tE G Wsh f)) : PE X (.BoolOp op [a] pos) (tE G Wsh f) := pe_one h
theorem ce_and (ha : PE X a (tE G Wsh f)) (hb : PE X (.BoolOp .And (b :: rest) pos) (tE G Wsh g)) : PE X (.BoolOp .And (a :: b :: rest) pos) (tE G Wsh (fAnd f g)) :=
  (pe_and ha hb).imp fun σ H Q ⟨B, W, ρ, S, O, h⟩ => ⟨B, W, ρ, S, O, PE'.bB O h fun b S1 W1 H1 _ M q => ⟨b, rfl, by
    cases b with
    | true => exact ⟨B, W1, ρ, S1, M.ok, q⟩
    | false => exact PE'.here q M.ok.hp rfl⟩⟩
theorem ce_or (ha : PE X a (tE G Wsh f)) (hb : PE X (.BoolOp .Or (b :: rest) pos) (tE G Wsh g)) : PE X (.BoolOp .Or (a :: b :: rest) pos) (tE G Wsh (fOr f g)) :=
  (pe_or ha hb).imp fun σ H Q ⟨B, W, ρ, S, O, h⟩ => ⟨B, W, ρ, S, O, PE'.bB O h fun b S1 W1 H1 _ M q => ⟨b, rfl, by
    cases b with
    | false => exact ⟨B, W1, ρ, S1, M.ok, q⟩
    | true => exact PE'.here q M.ok.hp rfl⟩⟩
theorem ce_not (ha : PE X a (tE G Wsh f)) : PE X (.UnaryOp .Not a pos) (tE G Wsh (fNot f)) :=
  (pe_not ha).imp fun σ H Q ⟨B, W, ρ, S, O, h⟩ => ⟨B, W, ρ, S, O, PE'.bB O h fun b S1 W1 H1 _ M q => ⟨b, rfl, PE'.here q M.ok.hp rfl⟩⟩
/-- a test's answer as a bool handed on -/
theorem tT_bB {k : Bool → Sto → RE} {Q : VK} {Q1 : Bool → Hp → Prop} (O : Ok G B W σ H ρ S) (h : PE' G Wsh σ W H Q (bB (f ρ S) k))
    (q : ∀ b S1 W1 H1, Mid G B W H σ ρ S1 W1 H1 → PE' G Wsh σ W1 H1 Q (k b S1) → Q1 b H1) : tT G Wsh f σ H Q1 :=
  ⟨B, W, ρ, S, O, PE'.bB O h fun b S1 W1 H1 _ M p => ⟨b, rfl, q b S1 W1 H1 M p⟩⟩
theorem cw_and1 (h : PT X a (tT G Wsh f)) : PW X (.BoolOp .And [a] pos) (tT G Wsh f) := pw_and1 h
theorem cw_or1 (h : PT X a (tT G Wsh f)) : PW X (.BoolOp .Or [a] pos) (tT G Wsh f) := pw_or1 h
theorem cw_and (ha : PT X a (tT G Wsh f)) (hb : PW X (.BoolOp .And (b :: rest) pos) (tT G Wsh g)) : PW X (.BoolOp .And (a :: b :: rest) pos) (tT G Wsh (fAnd f g)) :=
  (pw_and ha hb).imp fun σ H Q ⟨B, W, ρ, S, O, h⟩ => tT_bB O h fun b S1 W1 H1 M q => by
    cases b with
    | true => exact ⟨B, W1, ρ, S1, M.ok, q⟩
    | false =>
      obtain ⟨c, e, q'⟩ := PE'.here q M.ok.hp (show Rep G W1 (.bl false) (.bl false) from rfl)
      cases e
      exact q'
theorem cw_or (ha : PT X a (tT G Wsh f)) (hb : PW X (.BoolOp .Or (b :: rest) pos) (tT G Wsh g)) : PW X (.BoolOp .Or (a :: b :: rest) pos) (tT G Wsh (fOr f g)) :=
  (pw_or ha hb).imp fun σ H Q ⟨B, W, ρ, S, O, h⟩ => tT_bB O h fun b S1 W1 H1 M q => by
    cases b with
    | false => exact ⟨B, W1, ρ, S1, M.ok, q⟩
    | true =>
      obtain ⟨c, e, q'⟩ := PE'.here q M.ok.hp (show Rep G W1 (.bl true) (.bl true) from rfl)
      cases e
      exact q'
theorem ct_not (ha : PT X a (tT G Wsh f)) : PT X (.UnaryOp .Not a pos) (tT G Wsh (fNot f)) :=
  (pt_not ha).imp fun σ H Q ⟨B, W, ρ, S, O, h⟩ => tT_bB O h fun b S1 W1 H1 M q => by
    obtain ⟨c, e, q'⟩ := PE'.here q M.ok.hp (show Rep G W1 (.bl !b) (.bl !b) from rfl)
    cases e
    exact q'
theorem ce_if (hc : PT X c (tT G Wsh h)) (ha : PE X a (tE G Wsh f)) (hb : PE X b (tE G Wsh g)) : PE X (.IfExp c a b pos) (tE G Wsh (fIf h f g)) :=
  (pe_ifExp hc ha hb).imp fun σ H Q ⟨B, W, ρ, S, O, h⟩ => tT_bB O h fun b S1 W1 H1 M q => by
    cases b with
    | true => exact ⟨B, W1, ρ, S1, M.ok, q⟩
    | false => exact ⟨B, W1, ρ, S1, M.ok, q⟩
/-- a < b < c -/
def fChain (k k' : D → D → Option D) (f g h : FE) : FE := fun ρ S => (f ρ S).bind fun x S1 => (g ρ S1).bind fun y S2 => match k x y with
  | some (.bl true) => (h ρ S2).bind fun z S3 => RE.ofO (k' y z) S3
  | some (.bl false) => .ok (.bl false) S2
  | _ => .fail
theorem chain_ok {k k' : D → D → Option D} (hs : OpSem G r k) (hs' : OpSem G r' k') {Q : VK} (hq : tE G Wsh (fChain k k' f g h) σ H Q) : tChain r r' (tB G Wsh f) (tB G Wsh g) (tB G Wsh h) σ H Q := by
  obtain ⟨B, W, ρ, S, O, hq⟩ := hq
  refine ⟨B, W, ρ, S, O, PB'.bind O hq fun v d S1 W1 H1 _ M hr q => ⟨B, W1, ρ, S1, M.ok, PB'.bind M.ok q fun v2 d2 S2 W2 H2 _ M2 hr2 q2 => ?_⟩⟩
  have hr1 := hr.ext M2.ex
  cases e : k d d2 with
  | none => simp only [e] at q2; exact q2.elim
  | some z =>
    simp only [e] at q2
    refine hs W2 H2 S2 v v2 d d2 z _ M2.ok.hp hr1 hr2 e fun vz W3 H3 g1 g2 g3 => ?_
    have O3 := M2.ok.ext g1 g2
    cases z with
    | bl b =>
      cases (show vz = V.bl b from g3)
      refine ⟨b, rfl, ?_⟩
      cases b with
      | true =>
        have q3 := PE'.at g1 q2
        refine ⟨B, W3, ρ, S2, O3, PB'.bind O3 q3 fun v4 d4 S4 W4 H4 _ M4 hr4 q4 => ?_⟩
        cases e' : k' d2 d4 with
        | none => rw [e'] at q4; exact q4.elim
        | some z4 => rw [e'] at q4; exact hs' W4 H4 S4 v2 v4 d2 d4 z4 Q M4.ok.hp (hr2.ext (g1.trans M4.ex)) hr4 e' q4
      | false => exact PE'.here (PE'.at g1 q2) g2 rfl
    | _ => exact q2.elim
theorem ce_chain {op op' : CmpOp} {k k' : D → D → Option D} (ho : OpR X (compareOp op) r) (hs : OpSem G r k) (ho' : OpR X (compareOp op') r') (hs' : OpSem G r' k') (ha : PE X a (tB G Wsh f)) (hb : PE X b (tB G Wsh g)) (hc : PE X c (tB G Wsh h))
    (hm : lastMarks [op, op'] [b, c] = false := by with_unfolding_all rfl) : PE X (.Compare a [op, op'] [b, c] pos) (tE G Wsh (fChain k k' f g h)) :=
  (pe_chain ho ho' ha hb hc hm).imp fun σ H Q q => chain_ok hs hs' q
theorem ct_chain {op op' : CmpOp} {k k' : D → D → Option D} (ho : OpR X (compareOp op) r) (hs : OpSem G r k) (ho' : OpR X (compareOp op') r') (hs' : OpSem G r' k') (ha : PE X a (tB G Wsh f)) (hb : PE X b (tB G Wsh g)) (hc : PE X c (tB G Wsh h))
    (hm : lastMarks [op, op'] [b, c] = false := by with_unfolding_all rfl) : PT X (.Compare a [op, op'] [b, c] pos) (tT G Wsh (fChain k k' f g h)) :=
  (pt_chain ho ho' ha hb hc hm).imp fun σ H Q q => chain_ok hs hs' q

/-! ### arguments, displays -/
def RE.bindA (r : RE) (k : D → Sto → RA) : RA := match r with
  | .ok d S => k d S
  | .exc c fs S => .exc c fs S
  | .fail => .fail
def RA.bind (r : RA) (k : List D → Sto → RE) : RE := match r with
  | .ok d S => k d S
  | .exc c fs S => .exc c fs S
  | .fail => .fail
def RA.bindA (r : RA) (k : List D → Sto → RA) : RA := match r with
  | .ok d S => k d S
  | .exc c fs S => .exc c fs S
  | .fail => .fail
theorem PE'.bindA {Q : List V → Hp → Prop} {Q1 : VK} {k : D → Sto → RA} (O : Ok G B W σ H ρ S) : ∀ {r : RE}, PA' G Wsh σ W H Q (r.bindA k) →
    (∀ v d S1 W1 H1, Mid G B W H σ ρ S1 W1 H1 → Rep G W1 d v → PA' G Wsh σ W1 H1 Q (k d S1) → Q1 v H1) → PE' G Wsh σ W H Q1 r
  | .ok d S1, h, q => fun v W' H' e o r => q v d S1 W' H' ⟨e, O.ext e o⟩ r (PA'.at e h)
  | .exc _ _ _, h, _ => h
  | .fail, h, _ => h
theorem PA'.bind {Q : VK} {Q1 : List V → Hp → Prop} {k : List D → Sto → RE} (O : Ok G B W σ H ρ S) : ∀ {r : RA}, PE' G Wsh σ W H Q (r.bind k) →
    (∀ vs ds S1 W1 H1, Mid G B W H σ ρ S1 W1 H1 → RepL G W1 ds vs → PE' G Wsh σ W1 H1 Q (k ds S1) → Q1 vs H1) → PA' G Wsh σ W H Q1 r
  | .ok d S1, h, q => fun v W' H' e o r => q v d S1 W' H' ⟨e, O.ext e o⟩ r (PE'.at e h)
  | .exc _ _ _, h, _ => h
  | .fail, h, _ => h
theorem PA'.bindA {Q Q1 : List V → Hp → Prop} {k : List D → Sto → RA} (O : Ok G B W σ H ρ S) : ∀ {r : RA}, PA' G Wsh σ W H Q (r.bindA k) →
    (∀ vs ds S1 W1 H1, Mid G B W H σ ρ S1 W1 H1 → RepL G W1 ds vs → PA' G Wsh σ W1 H1 Q (k ds S1) → Q1 vs H1) → PA' G Wsh σ W H Q1 r
  | .ok d S1, h, q => fun v W' H' e o r => q v d S1 W' H' ⟨e, O.ext e o⟩ r (PA'.at e h)
  | .exc _ _ _, h, _ => h
  | .fail, h, _ => h
def fNil : FA := fun _ S => .ok [] S
def fCons (f : FE) (g : FA) : FA := fun ρ S => (f ρ S).bindA fun d S1 => (g ρ S1).bindA fun ds S2 => .ok (d :: ds) S2
theorem ca_nil : PA X [] (tA G Wsh fNil) := pa_nil.imp fun σ H Q ⟨B, W, ρ, S, O, h⟩ => h [] W H .rfl' O.hp .nil
theorem ca_cons (ha : PE X e (tE G Wsh f)) (hr : PA X es (tA G Wsh fa)) (hs : starEach (e :: es) X.env = (false, eval e X.env) :: starEach es X.env := by rfl) : PA X (e :: es) (tA G Wsh (fCons f fa)) :=
  (pa_cons ha hr hs).imp fun σ H Q ⟨B, W, ρ, S, O, h⟩ => ⟨B, W, ρ, S, O, PE'.bindA O h fun v d S1 W1 H1 M hr q => ⟨B, W1, ρ, S1, M.ok, PA'.bindA M.ok q fun vs ds S2 W2 H2 M2 hr2 q2 =>
    q2 (v :: vs) W2 H2 .rfl' M2.ok.hp (.cons (Rep.mono M2.ex.le _ _ hr) hr2)⟩⟩
def fTup (f : FA) : FE := fun ρ S => (f ρ S).bind fun ds S1 => if szOk ds.length then .ok (.tup ds) S1 else .fail
def fLst (f : FA) : FE := fun ρ S => (f ρ S).bind fun ds S1 => if szOk ds.length then .ok (.lst ds) S1 else .fail
theorem ce_tup {x1} (h : PA X es (tA G Wsh fa)) : PE X (.Tuple es x1 pos) (tE G Wsh (fTup fa)) :=
  (pe_tup h).imp fun σ H Q ⟨B, W, ρ, S, O, h⟩ => ⟨B, W, ρ, S, O, PA'.bind O h fun vs ds S1 W1 H1 M hr q => by
    split at q
    · rename_i hs
      rw [hr.length] at hs
      refine ⟨szOk_line hs, fun p hp => q.new M.ok.hp hp ?_⟩
      exact ⟨p, vs, rfl, put_at, RepL.mono (le_put M.ok.hp hp) _ _ hr⟩
    · exact q.elim⟩
/-- a display of a list, frozen at once -/
theorem ce_lst (h : PA X es (tA G Wsh fa)) : PE X (.List es pos) (tE G Wsh (fLst fa)) :=
  (pe_lst h).imp fun σ H Q ⟨B, W, ρ, S, O, h⟩ => ⟨B, W, ρ, S, O, PA'.bind O h fun vs ds S1 W1 H1 M hr q => by
    split at q
    · rename_i hs
      rw [hr.length] at hs
      refine ⟨szOk_line hs, fun p hp => q.new M.ok.hp hp ?_⟩
      exact ⟨p, vs, rfl, put_at, RepL.mono (le_put M.ok.hp hp) _ _ hr⟩
    · exact q.elim⟩
end
end Dl
end
section
set_option Elab.async false
set_option linter.all false
set_option maxRecDepth 100000
set_option maxHeartbeats 1000000
/-! The deep layer: things of one's own read in place, subscripts, slices, lengths, dicts, fields, calls. -/
namespace Dl
open PySem L2
section
variable {X : Cx} {G : Gh} {Wsh : WX} {a b c e : Expr} {es : List Expr} {f g h f' : FE} {fa ga : FA} {pos : Pos} {r r' : R2}
variable {B : Wd × Hp} {W W1 : Wd} {σ : L2.St} {H H1 : Hp} {ρ : Env} {S S1 : Sto}

/-- a name that holds a list or dict of the frame's own (or a value) -/
def fO (i : Nat) : FE := fun ρ S => match ρ[i]? with
  | some (.v d) => .ok d S
  | some (.ol ds) => .ok (.lst ds) S
  | some (.od t ks vs) => .ok (.dct t ks vs) S
  | _ => .fail
theorem own_at {i : Nat} {s : Sl} (O : Ok G B W σ H ρ S) (h : ρ[i]? = some s) (ho : IsOwn s) : ∃ p o, σ[i]? = some (some (.ref p)) ∧ H p = some o ∧ W.F p = none ∧ B.2 p = none ∧ p ∉ W.cs ∧ SlAt G W H s (some (.ref p)) := by
  have q := O.slt i _ h
  obtain ⟨p, o, e, hp⟩ := q.own ho
  have e' := getD_own e
  obtain ⟨h1, h2, h3⟩ := O.own i s p h ho e'
  exact ⟨p, o, e', hp, h1, h2, h3, by rw [e] at q; exact q⟩
theorem cb_o (i : Nat) {x : Str} (hN : X.N[i]? = some x := by rfl) (hv : Vis X.env.scope x := by first | exact Or.inl rfl | exact Or.inr (Or.inl rfl) | exact Or.inr (Or.inr rfl)) (hd : (x == ("__debug__" : Str)) = false := by decide)
    (hcd : (x == ("__classdict__" : Str)) = false := by decide) : PE X (.Name x pos) (tB G Wsh (fO i)) := (pv i hN hv hd hcd).imp fun σ H Q ⟨B, W, ρ, S, O, h⟩ => by
  unfold fO at h
  split at h
  · rename_i d e
    obtain ⟨x, h1, h2⟩ := slv O e
    exact ⟨x, h1, h x W H .rfl' O.hp (.inl h2)⟩
  · rename_i ds e
    obtain ⟨p, o, h1, hp, _, _, hc, q⟩ := own_at O e trivial
    obtain ⟨xs, h3, h4⟩ := (show ∃ xs, _ from q)
    exact ⟨_, h1, h _ W H .rfl' O.hp (.inr ⟨p, rfl, hc, .inl ⟨ds, xs, rfl, h3, h4⟩⟩)⟩
  · rename_i t ks vs e
    obtain ⟨p, o, h1, hp, _, _, hc, q⟩ := own_at O e trivial
    obtain ⟨ys, h3, h4⟩ := (show ∃ ys, _ from q)
    exact ⟨_, h1, h _ W H .rfl' O.hp (.inr ⟨p, rfl, hc, .inr ⟨t, ks, vs, ys, rfl, h3, h4⟩⟩)⟩
  · exact h.elim

/-! ### sequences -/
def seqD (S : Sto) : D → Option (List D)
  | .lst ds => some ds
  | .tup ds => some ds
  | .kt ds => some ds
  | .scr ds => some ds
  | .cell n => match S[n]? with
    | some (.lst ds) => some ds
    | _ => none
  | _ => none
theorem cell_at {n : Nat} {p : Addr} (O : HpOk G W H S) (h : W.cs[n]? = some p) {c : Ce} (hc : S[n]? = some c) : CeAt G W H p c ∧ (c ≠ .dead → W.F p = none) := ⟨(O.cel n p c h hc).2, (O.cel n p c h hc).1⟩
/-- a list or a tuple, as HandS reads it -/
theorem seq_at (hK : G.K = X.K) (O : HpOk G W H S) {d : D} {v : V} {ds : List D} (h : RepB G W H d v) (hd : seqD S d = some ds) : ∃ p xs, v = .ref p ∧ (SqL X.K H p xs ∨ SqT X.K H p xs) ∧ RepL G W ds xs := by
  cases d <;> first | exact nosome hd rfl | skip
  · cases hd
    obtain ⟨p, xs, rfl, e, l⟩ := (show ∃ a xs, _ from h.rep rfl)
    exact ⟨p, xs, rfl, .inr (.of (O.sub _ _ e)), l⟩
  · cases hd
    obtain ⟨p, xs, rfl, e, l⟩ := h.lst O
    exact ⟨p, xs, rfl, .inl (.of e), l⟩
  · cases hd
    obtain ⟨p, xs, rfl, e, l⟩ := (show ∃ a xs, _ from h.rep rfl)
    exact ⟨p, xs, rfl, .inr (.inr (hK ▸ e)), l⟩
  · cases hd
    obtain ⟨p, xs, rfl, e, l⟩ := (show ∃ a xs, _ from h.rep rfl)
    exact ⟨p, xs, rfl, .inl (e.imp (fun e => e.elim (fun z => .inl (O.sub _ _ z)) (fun ⟨o, z⟩ => .inr ⟨o, O.sub _ _ z⟩)) fun q => hK ▸ q), l⟩
  · rename_i n
    obtain ⟨p, rfl, e⟩ := (show ∃ a, _ from h.rep rfl)
    simp only [seqD] at hd
    split at hd
    · rename_i ds' hs
      cases hd
      obtain ⟨⟨xs, e1, l⟩, _⟩ := cell_at O e hs
      exact ⟨p, xs, rfl, .inl (.of e1), l⟩
    · cases hd
/-- a builtin's operation on two values, by the store -/
def OpSemS (G : Gh) (r : R2) (k : Sto → D → D → Option D) : Prop := ∀ (W : Wd) (H : Hp) (S : Sto) (x y : V) (d e z : D) (Q : VK), HpOk G W H S → RepB G W H d x → RepB G W H e y → k S d e = some z →
  (∀ v W' H', Ext W H W' H' → HpOk G W' H' S → Rep G W' z v → Q v H') → r x y H Q
def f2S (k : Sto → D → D → Option D) (f g : FE) : FE := fun ρ S => (f ρ S).bind fun d S1 => (g ρ S1).bind fun e S2 => RE.ofO (k S2 d e) S2
theorem twoS {k : Sto → D → D → Option D} (hs : OpSemS G r k) {Q : VK} (h : tE G Wsh (f2S k f g) σ H Q) : tOp r (tB G Wsh f) (tB G Wsh g) σ H Q := by
  obtain ⟨B, W, ρ, S, O, h⟩ := h
  refine ⟨B, W, ρ, S, O, PB'.bind O h fun v d S1 W1 H1 _ M hr q => ⟨B, W1, ρ, S1, M.ok, PB'.bind M.ok q fun v2 d2 S2 W2 H2 _ M2 hr2 q2 => ?_⟩⟩
  cases e : k S2 d d2 with
  | none => rw [e] at q2; exact q2.elim
  | some z => rw [e] at q2; exact hs W2 H2 S2 v v2 d d2 z Q M2.ok.hp (hr.ext M2.ex) hr2 e q2
theorem atI_map {α β : Type} {F : α → β → Prop} {xs : List α} {ys : List β} (hl : xs.length = ys.length) (h : ∀ (j : Nat) a, xs[j]? = some a → ∃ b, ys[j]? = some b ∧ F a b) {i : Int} {a : α} (e : atI xs i = some a) : ∃ b, atI ys i = some b ∧ F a b := by
  unfold atI at e ⊢
  rw [← hl]
  cases q : ixN xs.length i with
  | none => rw [q] at e; cases e
  | some j =>
    rw [q] at e
    exact h j a e
theorem atI_rep {ds : List D} {xs : List V} (l : RepL G W ds xs) {i : Int} {d : D} (e : atI ds i = some d) : ∃ x, atI xs i = some x ∧ Rep G W d x :=
  atI_map l.length (fun j a h => l.get h) e
/-- o[i] of a sequence or a text -/
def kIx (S : Sto) : D → D → Option D
  | .str z, .int i => if szOk z.length then (atI z.cps.toList i).map fun c => .str ⟨#[c]⟩ else none
  | d, .int i => (seqD S d).bind fun ds => atI ds i
  | _, _ => none
theorem sem_ix (hK : G.K = X.K) : OpSemS G (rIx X.K) kIx := by
  intro W H S x y d e z Q O h1 h2 hz q
  cases e <;> first | (cases d <;> exact nosome hz rfl) | skip
  rename_i i
  cases (show y = V.int i from h2.rep rfl)
  have gen : ∀ ds, seqD S d = some ds → atI ds i = some z → rIx X.K x (.int i) H Q := fun ds e1 e2 => by
    obtain ⟨p, xs, rfl, hs, l⟩ := seq_at hK O h1 e1
    obtain ⟨v, e3, hv⟩ := atI_rep l e2
    rcases hs with hs | hs
    · exact .inl ⟨p, xs, i, v, rfl, rfl, hs, e3, q _ W H .rfl' O hv⟩
    · exact .inr (.inl ⟨p, xs, i, v, rfl, rfl, hs, e3, q _ W H .rfl' O hv⟩)
  have bind : ∀ (o : Option (List D)), (o.bind fun ds => atI ds i) = some z → ∃ ds, o = some ds ∧ atI ds i = some z := fun o h => by
    cases o with
    | none => cases h
    | some ds => exact ⟨ds, rfl, h⟩
  have hdef : (∀ t, d ≠ .str t) → kIx S d (.int i) = (seqD S d).bind fun ds => atI ds i := fun n => by
    cases d <;> first | rfl | exact absurd rfl (n _)
  by_cases hstr : ∀ t, d ≠ .str t
  · rw [hdef hstr] at hz
    obtain ⟨ds, e1, e2⟩ := bind _ hz
    exact gen ds e1 e2
  cases d with
  | str s =>
    cases (show x = V.str s from h1.rep rfl)
    simp only [kIx] at hz
    split at hz
    · rename_i hs
      cases e1 : atI s.cps.toList i with
      | none => rw [e1] at hz; cases hz
      | some c =>
        rw [e1] at hz
        cases hz
        exact .inr (.inr ⟨s, i, c, rfl, rfl, szOk_line hs, e1, q _ W H .rfl' O rfl⟩)
    · cases hz
  | _ => exact absurd (fun _ z => nomatch z) hstr
theorem ce_ix (hK : G.K = X.K) (ha : PE X a (tB G Wsh f)) (hb : PE X b (tB G Wsh g)) (hs : PlainIx b := by exact fun _ _ => rfl) : PE X (.Subscript a b pos) (tE G Wsh (f2S kIx f g)) :=
  (pe_ix ix_seq ha hb hs).imp fun σ H Q h => twoS (sem_ix hK) h

/-! ### slices -/
def cutD (ds : List D) (lo hi : Option Int) : List D := (ds.drop (HT.sIx ds.length 0 lo)).take (HT.sIx ds.length ds.length hi - HT.sIx ds.length 0 lo)
theorem cut_rep {ds : List D} {xs : List V} (l : RepL G W ds xs) (lo hi : Option Int) : RepL G W (cutD ds lo hi) (cutV xs lo hi) := by
  unfold cutD cutV
  rw [l.length]
  exact (l.drop _).take _
theorem cut_whole {ds : List D} {lo hi : Option Int} (h : HT.sIx ds.length 0 lo = 0 ∧ HT.sIx ds.length ds.length hi = ds.length) : cutD ds lo hi = ds := by
  unfold cutD
  rw [h.1, h.2]
  simp
abbrev FO := Env → Sto → RE
/-- a part of a slice: none or an int -/
def kPart : D → Option (Option Int)
  | .non => some none
  | .int i => some (some i)
  | _ => none
def kSl : D → Option Int → Option Int → Option D
  | .str z, lo, hi => if szOk z.length then some (.str (cutS z lo hi)) else none
  | .tup ds, lo, hi => some (.tup (cutD ds lo hi))
  | .lst ds, lo, hi => some (.lst (cutD ds lo hi))
  | _, _, _ => none
def rSlAll (K : PySem.W.Frag) : V → Option Int → Option Int → Hp → VK → Prop := fun x lo hi H Q => rSlS x lo hi H Q ∨ rSlA K x lo hi H Q ∨ rSlL K x lo hi H Q
theorem sl_all : SlR X (rSlAll X.K) := sl_str.or (sl_tupA.or sl_list)
/-- the parts of a slice -/
structure CO (X : Cx) (G : Gh) (Wsh : WX) (e : Option Expr) (f : FE) : Prop where
  po : PO X e (fun σ H Q => tE G Wsh f σ H fun v H1 => (v = .non ∧ Q none H1) ∨ ∃ i, v = .int i ∧ Q (some i) H1)
theorem PO.imp' {e : Option Expr} {t t' : TO} (h : PO X e t) (k : ∀ σ H Q, t' σ H Q → t σ H Q) : PO X e t' := ⟨fun pins s σ H Q I q => h.run pins s σ H Q I (k σ H Q q)⟩
theorem co_none : CO X G Wsh none (fC .non) := ⟨PO.imp' po_none fun σ H Q ⟨B, W, ρ, S, O, h⟩ => by
  rcases PE'.here h O.hp (show Rep G W .non .non from rfl) with ⟨_, q⟩ | ⟨i, e, _⟩
  · exact q
  · cases e⟩
def fPI (f : FE) : FE := fun ρ S => (f ρ S).bind fun d S1 => match d with
  | .int i => .ok (.int i) S1
  | _ => .fail
theorem co_some (h : PE X e (tE G Wsh f)) : CO X G Wsh (some e) (fPI f) := ⟨PO.imp' (po_some h) fun σ H Q ⟨B, W, ρ, S, O, h⟩ => ⟨B, W, ρ, S, O, PE'.bind O h fun v d S1 W1 H1 _ M hr q => by
  cases d with
  | int i =>
    cases (show v = V.int i from hr)
    rcases PE'.here q M.ok.hp (show Rep G W1 (.int i) (.int i) from rfl) with ⟨e, _⟩ | ⟨j, e, q'⟩
    · cases e
    · cases e; exact ⟨i, rfl, q'⟩
  | _ => exact q.elim⟩⟩
def fSl (f g h : FE) : FE := fun ρ S => (f ρ S).bind fun d S1 => (g ρ S1).bind fun l S2 => match kPart l with
  | some lo => (h ρ S2).bind fun u S3 => match kPart u with
    | some hi => RE.ofO (kSl d lo hi) S3
    | none => .fail
  | none => .fail
theorem part_of {d : D} {v : V} {o : Option Int} (hr : Rep G W d v) (h : kPart d = some o) : (v = .non ∧ o = none) ∨ ∃ i, v = .int i ∧ o = some i := by
  cases d <;> first | exact nosome h rfl | skip
  · cases h; exact .inl ⟨hr, rfl⟩
  · cases h; exact .inr ⟨_, hr, rfl⟩
theorem sl_ok {v : V} {d : D} {lo hi : Option Int} {Q : VK} (O : HpOk G W H S) (hr' : RepB G W H d v) (q3 : PE' G Wsh σ W H Q (RE.ofO (kSl d lo hi) S)) : rSlAll X.K v lo hi H Q := by
  cases d <;> first | exact q3.elim | skip
  · rename_i z
    cases (show v = V.str z from hr'.rep rfl)
    simp only [kSl] at q3
    split at q3
    · rename_i hs
      exact .inl ⟨z, rfl, szOk_line hs, PE'.here q3 O rfl⟩
    · exact q3.elim
  · rename_i ds
    obtain ⟨p, xs, rfl, e5, l⟩ := (show ∃ a xs, _ from hr'.rep rfl)
    refine .inr (.inl ⟨p, xs, rfl, .of (O.sub _ _ e5), fun hw => ?_, fun hw p2 hp => ?_⟩)
    · rw [← l.length] at hw
      exact PE'.here q3 O (by rw [cut_whole hw]; exact ⟨p, xs, rfl, e5, l⟩)
    · exact PE'.new q3 O hp ⟨p2, _, rfl, put_at, RepL.mono (le_put O hp) _ _ (cut_rep l _ _)⟩
  · rename_i ds
    obtain ⟨p, xs, rfl, e5, l⟩ := hr'.lst O
    exact .inr (.inr ⟨p, xs, rfl, .of e5, fun p2 hp => PE'.new q3 O hp ⟨p2, _, rfl, put_at, RepL.mono (le_put O hp) _ _ (cut_rep l _ _)⟩⟩)
theorem ce_slice {lo hi : Option Expr} {p2 : Pos} (hK : G.K = X.K) (he : PE X e (tB G Wsh f)) (hl : CO X G Wsh lo g) (hu : CO X G Wsh hi h) : PE X (.Subscript e (.Slice lo hi none p2) pos) (tE G Wsh (fSl f g h)) :=
  (pe_slice sl_all he hl.po hu.po).imp fun σ H Q ⟨B, W, ρ, S, O, hq⟩ => ⟨B, W, ρ, S, O, PB'.bind O hq fun v d S1 W1 H1 _ M hr q => by
    refine ⟨B, W1, ρ, S1, M.ok, PE'.bind M.ok q fun vl dl S2 W2 H2 _ M2 hr2 q2 => ?_⟩
    cases e1 : kPart dl with
    | none => simp only [e1] at q2; exact q2.elim
    | some lo' =>
      simp only [e1] at q2
      have main : tE G Wsh h σ H2 fun v' H1 => (v' = .non ∧ rSlAll X.K v lo' none H1 Q) ∨ ∃ i, v' = .int i ∧ rSlAll X.K v lo' (some i) H1 Q := by
        refine ⟨B, W2, ρ, S2, M2.ok, PE'.bind M2.ok q2 fun vu du S3 W3 H3 _ M3 hr3 q3 => ?_⟩
        cases e3 : kPart du with
        | none => simp only [e3] at q3; exact q3.elim
        | some hi' =>
          simp only [e3] at q3
          have hr' := (hr.ext M2.ex).ext M3.ex
          rcases part_of hr3 e3 with ⟨rfl, rfl⟩ | ⟨i, rfl, rfl⟩
          · exact .inl ⟨rfl, sl_ok M3.ok.hp hr' q3⟩
          · exact .inr ⟨i, rfl, sl_ok M3.ok.hp hr' q3⟩
      rcases part_of hr2 e1 with ⟨rfl, rfl⟩ | ⟨i, rfl, rfl⟩
      · exact .inl ⟨rfl, main⟩
      · exact .inr ⟨i, rfl, main⟩⟩
end
end Dl
end
section
set_option Elab.async false
set_option linter.all false
set_option maxRecDepth 100000
set_option maxHeartbeats 1000000
/-! The deep layer: dicts read, builtin functions, fields. -/
namespace Dl
open PySem L2
section
variable {X : Cx} {G : Gh} {Wsh : WX} {a b c e o : Expr} {es : List Expr} {f g h f' : FE} {fa ga : FA} {pos p2 p3 : Pos} {r r' : R2}
variable {B : Wd × Hp} {W W1 : Wd} {σ : L2.St} {H H1 : Hp} {ρ : Env} {S S1 : Sto}

/-! ### dicts -/
/-- a key: an int or a text; a tuple of these -/
def key1 : D → Option Key
  | .int i => some (.inl i)
  | .str x => some (.inr x)
  | _ => none
def keys1 : List D → Option (List Key)
  | [] => some []
  | d :: ds => match key1 d, keys1 ds with
    | some k, some ks => some (k :: ks)
    | _, _ => none
inductive DK where
  | one (k : Key) | many (ks : List Key)
  deriving DecidableEq
def keyD : D → Option DK
  | .int i => some (.one (.inl i))
  | .str x => some (.one (.inr x))
  | .tup ds => (keys1 ds).map .many
  | _ => none
/-- equality of keys, computed -/
def eqK1 : D → D → Bool
  | .int a, .int b => decide (a = b)
  | .str a, .str b => decide (a = b)
  | _, _ => false
def eqK1s : List D → List D → Bool
  | [], [] => true
  | a :: as, b :: bs => eqK1 a b && eqK1s as bs
  | _, _ => false
def eqK : D → D → Bool
  | .int a, .int b => decide (a = b)
  | .str a, .str b => decide (a = b)
  | .tup a, .tup b => eqK1s a b
  | _, _ => false
def lookK (k : D) : List D → List D → Option D
  | k' :: ks, v :: vs => if eqK k' k then some v else lookK k ks vs
  | _, _ => none
theorem key1_kD {d : D} {k : Key} (h : key1 d = some k) : d = kD k := by
  cases d <;> first | exact nosome h rfl | skip
  · cases h; rfl
  · cases h; rfl
theorem keys1_kD : ∀ {ds : List D} {ks : List Key}, keys1 ds = some ks → ds = ks.map kD
  | [], ks, h => by cases h; rfl
  | d :: ds, ks, h => by
    rw [keys1] at h
    cases e1 : key1 d with
    | none => rw [e1] at h; cases h
    | some k =>
      cases e2 : keys1 ds with
      | none => rw [e1, e2] at h; cases h
      | some ks' =>
        rw [e1, e2] at h
        cases h
        rw [key1_kD e1, keys1_kD e2]
        rfl
theorem eqK1_kD (a b : Key) : eqK1 (kD a) (kD b) = decide (a = b) := by
  cases a <;> cases b <;> simp [kD, eqK1]
theorem eqK1s_kD : ∀ (a b : List Key), eqK1s (a.map kD) (b.map kD) = decide (a = b)
  | [], [] => by simp [eqK1s]
  | [], _ :: _ => by simp [eqK1s]
  | _ :: _, [] => by simp [eqK1s]
  | a :: as, b :: bs => by simp [eqK1s, eqK1_kD, eqK1s_kD as bs]
theorem eqK_one (a b : Key) : eqK (kD a) (kD b) = decide (a = b) := by
  cases a <;> cases b <;> simp [kD, eqK]
theorem eqK_tup1 (a : List D) (b : Key) : eqK (.tup a) (kD b) = false := by cases b <;> rfl
theorem eqK_1tup (a : List D) (b : Key) : eqK (kD b) (.tup a) = false := by cases b <;> rfl
theorem look_one {k : Key} : ∀ {kvs : List (Key × V)} {vs : List D}, RepL G W vs (kvs.map (·.2)) →
    (match lookK (kD k) (kvs.map fun p => kD p.1) vs, valV kvs k with | some d, some v => Rep G W d v | none, none => True | _, _ => False)
  | [], vs, h => by
    have := h.length
    cases vs with
    | nil => exact trivial
    | cons => simp at this
  | p :: kvs, vs, h => by
    cases vs with
    | nil => have := h.length; simp at this
    | cons d vs =>
      obtain ⟨x, r, e, h2, h3⟩ := (show ∃ x r, _ from h)
      simp only [List.map_cons, List.cons.injEq] at e
      obtain ⟨rfl, rfl⟩ := e
      simp only [List.map_cons, lookK, eqK_one]
      by_cases hk : p.1 = k
      · rw [valV_pos hk, if_pos (by simpa using hk)]; exact h2
      · rw [valV_neg hk, if_neg (by simpa using hk)]; exact look_one h3
theorem look_many {k : List Key} : ∀ {kvs : List (List Key × V)} {vs : List D}, RepL G W vs (kvs.map (·.2)) →
    (match lookK (.tup (k.map kD)) (kvs.map fun p => D.tup (p.1.map kD)) vs, valV kvs k with | some d, some v => Rep G W d v | none, none => True | _, _ => False)
  | [], vs, h => by
    have := h.length
    cases vs with
    | nil => exact trivial
    | cons => simp at this
  | p :: kvs, vs, h => by
    cases vs with
    | nil => have := h.length; simp at this
    | cons d vs =>
      obtain ⟨x, r, e, h2, h3⟩ := (show ∃ x r, _ from h)
      simp only [List.map_cons, List.cons.injEq] at e
      obtain ⟨rfl, rfl⟩ := e
      simp only [List.map_cons, lookK, eqK, eqK1s_kD]
      by_cases hk : p.1 = k
      · rw [valV_pos hk, if_pos (by simpa using hk)]; exact h2
      · rw [valV_neg hk, if_neg (by simpa using hk)]; exact look_many h3
/-- may the key be asked of a dict of that kind (true: tuples) -/
def askK (t : Bool) (k : D) : Bool := match t, keyD k with
  | true, some (.many _) => true
  | false, some (.one _) => true
  | _, _ => false
theorem rep_kV {k : Key} {v : V} (h : Rep G W (kD k) v) : v = kV k := by cases k <;> exact h
theorem rep_kVs : ∀ {ks : List Key} {xs : List V}, RepL G W (ks.map kD) xs → xs = ks.map kV
  | [], _, h => h
  | k :: ks, _, h => by
    obtain ⟨x, r, rfl, h2, h3⟩ := (show ∃ x r, _ from h)
    rw [rep_kV h2, rep_kVs h3]
    rfl
theorem ask_one {d : D} (h : askK false d = true) : ∃ k, d = kD k := by
  unfold askK at h
  cases d <;> first | exact nofalse h rfl | skip
  · rename_i i; exact ⟨.inl i, rfl⟩
  · rename_i i; exact ⟨.inr i, rfl⟩
  · rename_i ds
    simp only [keyD] at h
    cases q : keys1 ds <;> rw [q] at h <;> exact nofalse h rfl
theorem ask_many {d : D} (h : askK true d = true) : ∃ ks : List Key, d = .tup (ks.map kD) := by
  unfold askK at h
  cases d <;> first | exact nofalse h rfl | skip
  rename_i ds
  simp only [keyD] at h
  cases q : keys1 ds with
  | none => rw [q] at h; exact nofalse h rfl
  | some ks => exact ⟨ks, by rw [keys1_kD q]⟩
/-- what HandS says of a look-up -/
theorem dget_of (O : HpOk G W H S) {t : Bool} {ks vs : List D} {d : D} {v y : V} (hd : RepB G W H (.dct t ks vs) v) (hk : Rep G W d y) (ha : askK t d = true) :
    ∃ p r, v = .ref p ∧ DGet H p y r ∧ (match lookK d ks vs, r with | some z, some v => Rep G W z v | none, none => True | _, _ => False) := by
  obtain ⟨p, ys, rfl, h1, h2⟩ := hd.dct O
  cases t
  · obtain ⟨kvs, hr, rfl, rfl⟩ := h1
    obtain ⟨k, rfl⟩ := ask_one ha
    rw [rep_kV hk]
    exact ⟨p, _, rfl, .inl ⟨_, k, hr, rfl, rfl⟩, look_one h2⟩
  · obtain ⟨kvs, hr, rfl, rfl⟩ := h1
    obtain ⟨k, rfl⟩ := ask_many ha
    obtain ⟨b, xs, rfl, hb, l⟩ := (show ∃ a xs, _ from hk)
    have hx := rep_kVs l
    subst hx
    exact ⟨p, _, rfl, .inr ⟨_, k, b, hr, rfl, O.sub _ _ hb, rfl⟩, look_many h2⟩
def kDget : D → D → Option D
  | .dct t ks vs, k => if askK t k then lookK k ks vs else none
  | _, _ => none
def kDin : D → D → Option D
  | k, .dct t ks vs => if askK t k then some (.bl (lookK k ks vs).isSome) else none
  | _, _ => none
def kDni : D → D → Option D
  | k, .dct t ks vs => if askK t k then some (.bl (!(lookK k ks vs).isSome)) else none
  | _, _ => none
theorem ce_dget (hu : X.A.units + 1 < cLine) (ha : PE X a (tB G Wsh f)) (hb : PE X b (tE G Wsh g)) (hs : NoSl b := by exact fun _ _ => rfl) : PE X (.Subscript a b pos) (tE G Wsh (f2 kDget f g)) :=
  (pe_dget hu ha hb hs).imp fun σ H Q ⟨B, W, ρ, S, O, h⟩ => ⟨B, W, ρ, S, O, PB'.bind O h fun v d S1 W1 H1 _ M hr q => ⟨B, W1, ρ, S1, M.ok, PE'.bind M.ok q fun v2 d2 S2 W2 H2 _ M2 hr2 q2 => by
    cases d <;> first | exact q2.elim | skip
    rename_i t ks vs _
    simp only [kDget] at q2
    split at q2
    · rename_i hask
      obtain ⟨p, r, rfl, hg, hl⟩ := dget_of M2.ok.hp (hr.ext M2.ex) hr2 hask
      cases e : lookK d2 ks vs with
      | none => rw [e] at q2; exact q2.elim
      | some z =>
        rw [e] at q2 hl
        cases r with
        | none => exact hl.elim
        | some v3 => exact ⟨p, v3, rfl, hg, PE'.here q2 M2.ok.hp hl⟩
    · exact q2.elim⟩⟩
theorem look_some {z : Option D} {r : Option V} (h : match z, r with | some z, some v => Rep G W z v | none, none => True | _, _ => False) : r.isSome = z.isSome := by
  cases z <;> cases r <;> first | rfl | exact h.elim
theorem din_ok {Q : VK} (h : tE G Wsh (f2 kDin g f) σ H Q) : tDIn (tE G Wsh g) (tB G Wsh f) σ H Q := by
  obtain ⟨B, W, ρ, S, O, h⟩ := h
  refine ⟨B, W, ρ, S, O, PE'.bind O h fun v d S1 W1 H1 _ M hr q => ⟨B, W1, ρ, S1, M.ok, PB'.bind M.ok q fun v2 d2 S2 W2 H2 _ M2 hr2 q2 => ?_⟩⟩
  cases d2 <;> first | exact q2.elim | skip
  rename_i t ks vs _
  simp only [kDin] at q2
  split at q2
  · rename_i hask
    obtain ⟨p, r, rfl, hg, hl⟩ := dget_of M2.ok.hp hr2 (Rep.mono M2.ex.le _ _ hr) hask
    exact ⟨p, r, rfl, hg, PE'.here q2 M2.ok.hp (by rw [look_some hl]; rfl)⟩
  · exact q2.elim
theorem dni_ok {Q : VK} (h : tE G Wsh (f2 kDni g f) σ H Q) : tDNotIn (tE G Wsh g) (tB G Wsh f) σ H Q := by
  obtain ⟨B, W, ρ, S, O, h⟩ := h
  refine ⟨B, W, ρ, S, O, PE'.bind O h fun v d S1 W1 H1 _ M hr q => ⟨B, W1, ρ, S1, M.ok, PB'.bind M.ok q fun v2 d2 S2 W2 H2 _ M2 hr2 q2 => ?_⟩⟩
  cases d2 <;> first | exact q2.elim | skip
  rename_i t ks vs _
  simp only [kDni] at q2
  split at q2
  · rename_i hask
    obtain ⟨p, r, rfl, hg, hl⟩ := dget_of M2.ok.hp hr2 (Rep.mono M2.ex.le _ _ hr) hask
    exact ⟨p, r, rfl, hg, PE'.here q2 M2.ok.hp (by rw [look_some hl]; rfl)⟩
  · exact q2.elim
theorem ce_din (hu : X.A.units + 1 < cLine) (hb : PE X b (tE G Wsh g)) (ha : PE X a (tB G Wsh f)) (hm : behindInMarks .In a = false := by rfl) : PE X (.Compare b [.In] [a] pos) (tE G Wsh (f2 kDin g f)) :=
  (pe_cmp (pc_din hu hb ha) hm).imp fun σ H Q h => din_ok h
theorem ct_din (hu : X.A.units + 1 < cLine) (hb : PE X b (tE G Wsh g)) (ha : PE X a (tB G Wsh f)) (hm : behindInMarks .In a = false := by rfl) : PT X (.Compare b [.In] [a] pos) (tT G Wsh (f2 kDin g f)) :=
  (pt_cmp (pc_din hu hb ha) hm).imp fun σ H Q h => din_ok h
theorem ce_dni (hu : X.A.units + 1 < cLine) (hb : PE X b (tE G Wsh g)) (ha : PE X a (tB G Wsh f)) (hm : behindInMarks .NotIn a = false := by rfl) : PE X (.Compare b [.NotIn] [a] pos) (tE G Wsh (f2 kDni g f)) :=
  (pe_cmp (pc_dnotin hu hb ha) hm).imp fun σ H Q h => dni_ok h
theorem ct_dni (hu : X.A.units + 1 < cLine) (hb : PE X b (tE G Wsh g)) (ha : PE X a (tB G Wsh f)) (hm : behindInMarks .NotIn a = false := by rfl) : PT X (.Compare b [.NotIn] [a] pos) (tT G Wsh (f2 kDni g f)) :=
  (pt_cmp (pc_dnotin hu hb ha) hm).imp fun σ H Q h => dni_ok h
end
end Dl
end
section
set_option Elab.async false
set_option linter.all false
set_option maxRecDepth 100000
set_option maxHeartbeats 1000000
/-! The deep layer: defs, calls, methods, properties, fields, special methods. -/
namespace Dl
open PySem L2
abbrev FD := List D → Sto → RE
/-- a def's promise: its function on closed data -/
def spD (G : Gh) (n : Nat) (F : FD) : Sp := fun vs H Q E => vs.length = n ∧ ∃ W S ds, HpOk G W H S ∧ RepL G W ds vs ∧ PE' G (fun cls dx _ H' => E cls dx H') [] W H Q (F ds S)
theorem PE'.wx {G : Gh} {Wsh Wsh' : WX} {σ σ' : L2.St} {W H Q} : ∀ {r : RE}, PE' G Wsh σ W H Q r → (∀ cls dx H', Wsh cls dx σ H' → Wsh' cls dx σ' H') → PE' G Wsh' σ' W H Q r
  | .ok _ _, h, _ => h
  | .exc _ _ _, h, k => fun cls dx W' H' e o r => k _ _ _ (h cls dx W' H' e o r)
  | .fail, h, _ => h
/-- the slots at a def's start -/
def start0 (nN n : Nat) (ds : List D) : Env := ds.map .v ++ List.replicate (nN - n) .un
def fBody (nN n : Nat) (body : FS) : FD := fun ds S => if ds.length = n then match body (start0 nN n ds) S with
  | .rt d S' => .ok d S'
  | .nx _ S' => .ok .non S'
  | .exc c fs _ S' => .exc c fs S'
  | _ => .fail else .fail
section
variable {P : Program} {w : World} {K : PySem.W.Frag} {mg : Str → Option Value} {base : Heap} {G : Gh}
theorem start_ok {W : Wd} {H : Hp} {S : Sto} {N : List Str} {vs : List V} {ds : List D} (O : HpOk G W H S) (l : RepL G W ds vs) (hn : vs.length ≤ N.length) : Ok G (W, H) W (L2.start N vs) H (start0 N.length ds.length ds) S := by
  have hl := l.length
  have notown : ∀ {i : Nat} {s : Sl}, (start0 N.length ds.length ds)[i]? = some s → IsOwn s → False := fun {i s} h ho => by
    unfold start0 at h
    by_cases hi : i < ds.length
    · rw [List.getElem?_append_left (by simpa using hi), List.getElem?_map] at h
      cases e : ds[i]? with
      | none => rw [e] at h; cases h
      | some d => rw [e] at h; cases h; exact ho
    · rw [List.getElem?_append_right (by simpa using hi), List.getElem?_replicate] at h
      split at h
      · cases h; exact ho
      · cases h
  refine ⟨O, .rfl', ?_, fun i s h => ?_, fun i s a h ho _ => (notown h ho).elim, fun i j s t a h ho _ _ _ _ => (notown h ho).elim⟩
  · unfold L2.start start0
    simp only [List.length_append, List.length_map, List.length_replicate]
    omega
  · unfold start0 at h
    unfold L2.start
    by_cases hi : i < ds.length
    · rw [List.getElem?_append_left (by simpa using hi), List.getElem?_map] at h
      cases e : ds[i]? with
      | none => rw [e] at h; cases h
      | some d =>
        rw [e] at h; cases h
        obtain ⟨x, h1, h2⟩ := l.get e
        rw [List.getElem?_append_left (by simpa [← hl] using hi), List.getElem?_map, h1]
        exact h2
    · rw [List.getElem?_append_right (by simpa using hi), List.getElem?_replicate] at h
      split at h
      · cases h; exact trivial
      · cases h
/-- THE RULE for a def: its body's function -/
theorem def_ok {x qual : Str} {st : Stmt} {f : Addr} {fd : FuncData} {N ps : List Str} {k : Nat} {body : FS} (F : Fun K x qual st f fd) (S : FnScope N ps (defScope st))
    (hbody : ∀ (cdv : Value) (A : Around) (outer : List PySem.Env) (s : Shared) (H : Hp) (E : XK), Room k (A.deeper (PyProof.Rows.envOfC qual (defScope st) s.heap.objs.size f cdv)) →
      PSs (cxOf (L2.CX P w) P w K mg base N qual (defScope st) f cdv A outer s H E) (defBody st) (tS G (fun cls d _ H' => E cls d H') body)) :
    FnOk P w K mg base (L2.CX P w) (k + 1) f fd ps (spD G ps.length (fBody N.length ps.length body)) := by
  have hpn : ps.length ≤ N.length := by have := congrArg List.length S.pre; rw [List.length_take] at this; omega
  refine F.okX S (fun vs H Q E h => h.1) (fun cdv A outer s H vs Q E hr h => ⟨_, hbody cdv A outer s H E hr, ?_⟩)
  obtain ⟨hn, W, S0, ds, O, l, q⟩ := h
  have hl := l.length
  unfold fBody at q
  rw [if_pos (hl.trans hn)] at q
  refine ⟨(W, H), W, start0 N.length ds.length ds, S0, start_ok O l (by omega), ?_⟩
  rw [hl.trans hn]
  generalize body (start0 N.length ps.length ds) S0 = r at q ⊢
  cases r with
  | rt d S' => exact fun v W' H' e o r => q v W' H' e o r
  | nx ρ' S' => exact fun σ' W' H' _ o => q .non W' H' o.ex o.hp rfl
  | exc c fs ρ' S' => exact fun cls dx σ' W' H' o er => q cls dx W' H' o.ex o.hp er
  | bk _ _ => exact q.elim
  | ct _ _ => exact q.elim
  | fail => exact q.elim
/-- what callers know of a def: n written arguments, the defaults dd behind them -/
structure Def (P : Program) (w : World) (K : PySem.W.Frag) (mg : Str → Option Value) (base : Heap) (G : Gh) (k : Nat) (x : Str) (n : Nat) (dd : List D) (F : FD) : Prop where
  ex : ∃ (f : Addr) (fd : FuncData) (ps : List Str) (ds : List Value) (dvs : List V), FnOk P w K mg base (L2.CX P w) k f fd ps (spD G (n + dd.length) F) ∧ mg x = some (.ref f) ∧ PySem.W.keepIn K (.ref f) = true ∧ Binds K fd ps ds ∧ Vals dvs ds ∧ ∀ W, RepL G W dd dvs
theorem Def.mono {j k : Nat} {x n dd F} (d : Def P w K mg base G j x n dd F) (h : j ≤ k) : Def P w K mg base G k x n dd F := by
  obtain ⟨f, fd, ps, ds, dvs, h1, h2⟩ := d.ex
  exact ⟨f, fd, ps, ds, dvs, h1.mono h, h2⟩
/-- the def stands, its function may be said by another -/
theorem Def.congr {k : Nat} {x n dd F F'} (d : Def P w K mg base G k x n dd F) (h : ∀ ds S, F' ds S = .fail ∨ F ds S = F' ds S) : Def P w K mg base G k x n dd F' := by
  obtain ⟨f, fd, ps, ds, dvs, h1, h2⟩ := d.ex
  refine ⟨f, fd, ps, ds, dvs, h1.imp fun vs H Q E ⟨a, W, S, ds, O, l, q⟩ => ⟨a, W, S, ds, O, l, ?_⟩, h2⟩
  rcases h ds S with e | e
  · rw [e] at q; exact q.elim
  · rw [e]; exact q
end
section
variable {X : Cx} {G : Gh} {Wsh : WX} {a b c e o : Expr} {es : List Expr} {f g h f' : FE} {fa ga : FA} {pos p p2 p3 : Pos} {x : Str} {k n : Nat} {dd : List D} {F : FD}
variable {B : Wd × Hp} {W W1 : Wd} {σ : L2.St} {H H1 : Hp} {ρ : Env} {S S1 : Sto}
def fCall (n : Nat) (F : FD) (dd : List D) (fa : FA) : FE := fun ρ S => (fa ρ S).bind fun ds S1 => if ds.length = n then F (ds ++ dd) S1 else .fail
theorem ce_call (d : Def X.prog X.w X.K X.mg X.base G k x n dd F) (hr : Room k X.A) (tk : Takes X Wsh) (hg : Gl X x) (ha : PA X (e :: es) (tA G Wsh fa)) (hdb : (x == ("__debug__" : Str)) = false := by decide)
    (he : starEach (e :: es) X.env = (false, eval e X.env) :: starEach es X.env := by rfl) (hpl : (backTo pos (starEach es X.env)).any (·.1) = false := by rfl) : PE X (.Call (.Name x p) (e :: es) [] pos) (tE G Wsh (fCall n F dd fa)) := by
  obtain ⟨fa', fd, ps, ds, dvs, h1, h2, h3, h4, h5, h6⟩ := d.ex
  refine (pe_callSD h1 hr hg h2 h3 h4 h5 (fun σ => passAt tk σ) ha hdb he hpl).imp fun σ H Q ⟨B, W, ρ, S, O, q⟩ => ⟨B, W, ρ, S, O, PA'.bind O q fun vs ds S1 W1 H1 M hr q => ?_⟩
  split at q
  · rename_i hn
    refine ⟨?_, W1, S1, ds ++ dd, M.ok.hp, hr.append (h6 W1), q.wx fun _ _ _ z => z⟩
    rw [List.length_append, ← hr.length, ← (h6 W1).length, hn]
  · exact q.elim
/-! ### fields -/
/-- the names of a class's fields differ; none of them is an attribute of the class -/
structure ClsOk (K : PySem.W.Frag) (G : Gh) (t : Nat) : Prop where
  cl : Cls K (G.ct t)
  nd : (G.fn t).Nodup
def kFld (t i : Nat) (S : Sto) : D → Option D
  | .obj t' fs => if t' = t then fs[i]? else none
  | .cell n => match S[n]? with
    | some (.ins t' fs) => if t' = t then fs[i]? else none
    | _ => none
  | _ => none
theorem zip_lookup : ∀ {ns : List Str} {ys : List V} {i : Nat} {f : Str} {v : V}, ns.Nodup → ns[i]? = some f → ys[i]? = some v → (ns.zip ys).lookup f = some v
  | [], _, _, _, _, _, h, _ => by simp at h
  | m :: ns, [], _, _, _, _, _, h => by simp at h
  | m :: ns, y :: ys, 0, f, v, _, h1, h2 => by
    simp at h1 h2; subst h1 h2
    simp [List.zip_cons_cons, List.lookup]
  | m :: ns, y :: ys, i + 1, f, v, hn, h1, h2 => by
    have h1' : ns[i]? = some f := by simpa using h1
    have hne : f ≠ m := fun z => by
      subst z
      exact (List.nodup_cons.mp hn).1 (List.mem_of_getElem? h1')
    rw [List.zip_cons_cons, List.lookup_cons]
    have : (f == m) = false := beq_eq_false_iff_ne.mpr hne
    rw [this]
    exact zip_lookup (List.nodup_cons.mp hn).2 h1' (by simpa using h2)
theorem zip_none : ∀ {ns : List Str} {ys : List V} {f : Str}, f ∉ ns → (ns.zip ys).lookup f = none
  | [], _, _, _ => by simp
  | m :: ns, [], _, _ => by simp
  | m :: ns, y :: ys, f, h => by
    rw [List.zip_cons_cons, List.lookup_cons]
    have : (f == m) = false := beq_eq_false_iff_ne.mpr fun z => h (by rw [z]; exact List.mem_cons_self)
    rw [this]
    exact zip_none fun z => h (List.mem_cons_of_mem _ z)
def IsIns (S : Sto) (t : Nat) (d : D) (fs : List D) : Prop := match d with
  | .obj t' fs' => t' = t ∧ fs' = fs
  | .cell n => S[n]? = some (.ins t fs)
  | _ => False
/-- an instance as HandS reads it -/
theorem ins_at (O : HpOk G W H S) {t : Nat} {d : D} {v : V} {fs : List D} (h : Rep G W d v) (hd : IsIns S t d fs) :
    ∃ p dx ys, v = .ref p ∧ H p = some (.ins (G.ct t) dx ((G.fn t).zip ys)) ∧ RepL G W fs ys := by
  cases d <;> first | exact hd.elim | skip
  · obtain ⟨rfl, rfl⟩ := hd
    obtain ⟨p, dx, ys, rfl, e, _, l⟩ := (show ∃ a dx ys, _ from h)
    exact ⟨p, dx, ys, rfl, O.sub _ _ e, l⟩
  · obtain ⟨p, rfl, e⟩ := (show ∃ a, _ from h)
    obtain ⟨⟨dx, ys, e1, _, l⟩, _⟩ := cell_at O e hd
    exact ⟨p, dx, ys, rfl, e1, l⟩
def fFld (t i : Nat) (f : FE) : FE := fun ρ S => (f ρ S).bind fun d S1 => RE.ofO (kFld t i S1 d) S1
theorem fld_of {t i : Nat} {d z : D} (h : kFld t i S d = some z) : ∃ fs, IsIns S t d fs ∧ fs[i]? = some z := by
  cases d <;> first | exact nosome h rfl | skip
  · rename_i t' fs
    simp only [kFld] at h
    split at h
    · rename_i e; exact ⟨fs, ⟨e, rfl⟩, h⟩
    · cases h
  · rename_i n
    simp only [kFld] at h
    split at h
    · rename_i t' fs e
      split at h
      · rename_i e'; subst e'; exact ⟨fs, e, h⟩
      · cases h
    · cases h
theorem ce_fld {fl : Str} (t i : Nat) (C : ClsOk X.K G t) (hi : (G.fn t)[i]? = some fl) (na : NoAttr X.K (G.ct t) fl) (he : PE X e (tE G Wsh f)) (hb : attributeBase e fl X.env (eval e X.env) = eval e X.env := by rfl) : PE X (.Attribute e fl pos) (tE G Wsh (fFld t i f)) :=
  (pe_fld he hb).imp fun σ H Q ⟨B, W, ρ, S, O, q⟩ => ⟨B, W, ρ, S, O, PE'.bind O q fun v d S1 W1 H1 _ M hr q => by
    cases e1 : kFld t i S1 d with
    | none => rw [e1] at q; exact q.elim
    | some z =>
      rw [e1] at q
      obtain ⟨fs, h1, h2⟩ := fld_of e1
      obtain ⟨p, dx, ys, rfl, h3, l⟩ := ins_at M.ok.hp hr h1
      obtain ⟨y, h4, h5⟩ := l.get h2
      exact ⟨p, G.ct t, dx, _, y, rfl, h3, C.cl, na, zip_lookup C.nd hi h4, PE'.here q M.ok.hp h5⟩⟩
/-! ### methods, properties -/
/-- a method: o's promise is that of a def with o ahead -/
structure Met (P : Program) (w : World) (K : PySem.W.Frag) (mg : Str → Option Value) (base : Heap) (G : Gh) (k : Nat) (t : Nat) (m : Str) (n : Nat) (F : FD) : Prop where
  ex : ∃ (f : Addr) (fd : FuncData) (ps : List Str), FnOk P w K mg base (L2.CX P w) k f fd ps (spD G (n + 1) F) ∧ Meth K (G.ct t) m f ∧ Binds K fd ps []
def isT (t : Nat) (S : Sto) : D → Bool
  | .obj t' _ => decide (t' = t)
  | .cell n => match S[n]? with
    | some (.ins t' _) => decide (t' = t)
    | _ => false
  | _ => false
theorem isT_of {t : Nat} {d : D} (h : isT t S d = true) : ∃ fs, IsIns S t d fs := by
  cases d <;> first | exact nofalse h rfl | skip
  · rename_i t' fs
    exact ⟨fs, of_decide_eq_true h, rfl⟩
  · rename_i n
    simp only [isT] at h
    split at h
    · rename_i t' fs e
      have := of_decide_eq_true h
      subst this
      exact ⟨fs, e⟩
    · cases h
def fMeth (t n : Nat) (F : FD) (f : FE) (fa : FA) : FE := fun ρ S => (f ρ S).bind fun d S1 => if isT t S1 d then (fa ρ S1).bind fun ds S2 => if ds.length = n then F (d :: ds) S2 else .fail else .fail
theorem run_meth {pins : List (Addr × Obj)} {s : Shared} {Q : VK} {us : List Value} {vs : List V} {ds : List D} {fi : Addr} {fd : FuncData} {ps : List Str} (h1 : FnOk X.prog X.w X.K X.mg X.base (L2.CX X.prog X.w) k fi fd ps (spD G n F)) (hr : Room k X.A) (tk : Takes X Wsh)
    (hb : Binds X.K fd ps []) (I : Inv X pins σ H s) (O : HpOk G W H S) (r : Vals vs us) (l : RepL G W ds vs) (hn : ds.length = n) (q : PE' G Wsh σ W H Q (F ds S)) : wpAny (model X.prog X.w) X.A (call (.ref fi) us) (EP X pins σ Q) X.xe s := by
  refine run_fnSD h1 hr hb .nil (passAt tk σ) I r ?_
  rw [List.append_nil]
  exact ⟨by rw [← l.length, hn], W, S, ds, O, l, q.wx fun _ _ _ z => z⟩
theorem ce_meth {pl : Sem Bool} {m : Str} {apos : Pos} (t : Nat) (d : Met X.prog X.w X.K X.mg X.base G k t m n F) (C : ClsOk X.K G t) (hm : m ∉ G.fn t) (hr : Room k X.A) (tk : Takes X Wsh) (ho : PE X o (tE G Wsh f)) (ha : PA X (e :: es) (tA G Wsh fa))
    (hst : starEach (e :: es) X.env = (false, eval e X.env) :: starEach es X.env := by rfl) (hpl : (backTo pos (starEach es X.env)).any (·.1) = false := by rfl)
    (ht : eval (.Call (.Attribute o m apos) (e :: es) [] pos) X.env = (do
      let ov ← eval o X.env
      standAt apos.atName
      let (f, first) ← holding [ov] (getMethod ov m pl)
      callWith pos f first (backTo pos (starEach (e :: es) X.env)) (backToKw pos (keywordEach [] X.env))) := by rfl) :
    PE X (.Call (.Attribute o m apos) (e :: es) [] pos) (tE G Wsh (fMeth t n F f fa)) := by
  obtain ⟨fi, fd, ps, h1, h2, h3⟩ := d.ex
  refine ⟨fun pins s σ H Q I ⟨B, W, ρ, S, O, q⟩ => ?_⟩
  refine PySem.W.methodCall_KW (pl := pl) (thn (ho.run pins s σ H (fun x H1 => ∃ p dx fs, x = .ref p ∧ H1 p = some (.ins (G.ct t) dx fs) ∧ fs.lookup m = none ∧ tA G Wsh fa σ H1 fun vs H2 => ∃ W2 S2 ds d, HpOk G W2 H2 S2 ∧ Rep G W2 d x ∧ RepL G W2 ds vs ∧ ds.length = n ∧ PE' G Wsh σ W2 H2 Q (F (d :: ds) S2)) I
    ⟨B, W, ρ, S, O, PE'.bind O q fun v d S1 W1 H1 _ M hr q => ?_⟩) fun u s1 ⟨x, H1, I1, rx, p, dx, fs, ex, ea, hl, q1⟩ => ?_) ht
  · split at q
    · rename_i hT
      obtain ⟨fs, hT⟩ := isT_of hT
      obtain ⟨p, dx, ys, rfl, h4, l⟩ := ins_at M.ok.hp hr hT
      refine ⟨p, dx, _, rfl, h4, zip_none hm, B, W1, ρ, S1, M.ok, PA'.bind M.ok q fun vs ds S2 W2 H2 M2 hr2 q2 => ?_⟩
      split at q2
      · rename_i hn
        exact ⟨W2, S2, ds, d, M2.ok.hp, Rep.mono M2.ex.le _ _ hr, hr2, hn, q2⟩
      · exact q2.elim
    · exact q.elim
  · subst ex
    obtain rfl : u = Value.ref p := rx
    refine getmeth_ok I1 ea C.cl h2 hl ?_
    refine PySem.W.callWith_K (first := [.ref p]) (h₀ := X.base) I.ok.mod.kin h2.kp (thn (ha.run pos pins s1 σ H1 _ I1 q1) fun us s2 ⟨vs, H2, I2, r, W2, S2, ds, d, O2, hd, hds, hn, q2⟩ => ⟨I2.kIn, ?_⟩) hst hpl
    exact run_meth (us := .ref p :: us) (vs := .ref p :: vs) h1 hr tk h3 I2 O2 (.cons rfl r) (.cons hd hds) (by simp [hn]) q2
theorem ce_meth0 {pl : Sem Bool} {m : Str} {apos : Pos} (t : Nat) (d : Met X.prog X.w X.K X.mg X.base G k t m 0 F) (C : ClsOk X.K G t) (hm : m ∉ G.fn t) (hr : Room k X.A) (tk : Takes X Wsh) (ho : PE X o (tE G Wsh f))
    (ht : eval (.Call (.Attribute o m apos) [] [] pos) X.env = (do
      let ov ← eval o X.env
      standAt apos.atName
      let (f, first) ← holding [ov] (getMethod ov m pl)
      callWith pos f first (backTo pos (starEach [] X.env)) (backToKw pos (keywordEach [] X.env))) := by rfl) :
    PE X (.Call (.Attribute o m apos) [] [] pos) (tE G Wsh (fMeth t 0 F f fNil)) := by
  obtain ⟨fi, fd, ps, h1, h2, h3⟩ := d.ex
  refine ⟨fun pins s σ H Q I ⟨B, W, ρ, S, O, q⟩ => ?_⟩
  refine PySem.W.methodCall_KW (pl := pl) (thn (ho.run pins s σ H (fun x H1 => ∃ p dx fs, x = .ref p ∧ H1 p = some (.ins (G.ct t) dx fs) ∧ fs.lookup m = none ∧ ∃ W2 S2 d, HpOk G W2 H1 S2 ∧ Rep G W2 d x ∧ PE' G Wsh σ W2 H1 Q (F [d] S2)) I
    ⟨B, W, ρ, S, O, PE'.bind O q fun v d S1 W1 H1 _ M hr q => ?_⟩) fun u s1 ⟨x, H1, I1, rx, p, dx, fs, ex, ea, hl, W2, S2, d, O2, hd, q1⟩ => ?_) ht
  · split at q
    · rename_i hT
      obtain ⟨fs, hT⟩ := isT_of hT
      obtain ⟨p, dx, ys, rfl, h4, l⟩ := ins_at M.ok.hp hr hT
      exact ⟨p, dx, _, rfl, h4, zip_none hm, W1, S1, d, M.ok.hp, hr, q⟩
    · exact q.elim
  · subst ex
    obtain rfl : u = Value.ref p := rx
    refine getmeth_ok I1 ea C.cl h2 hl ?_
    exact PySem.W.callWith_K0 (first := [.ref p]) I1.kIn h2.kp (run_meth (us := [.ref p]) (vs := [.ref p]) h1 hr tk h3 I1 O2 (.cons rfl .nil) (.cons hd .nil) rfl q1)
end
end Dl
end
section
set_option Elab.async false
set_option linter.all false
set_option maxRecDepth 100000
set_option maxHeartbeats 1000000
/-! The deep layer: properties, special methods. -/
namespace Dl
open PySem L2
section
variable {X : Cx} {G : Gh} {Wsh : WX} {a b c e o : Expr} {es : List Expr} {f g h f' : FE} {fa ga : FA} {pos p p2 p3 : Pos} {x : Str} {k n : Nat} {dd : List D} {F : FD}
variable {B : Wd × Hp} {W W1 : Wd} {σ : L2.St} {H H1 : Hp} {ρ : Env} {S S1 : Sto}
def noX : RE → RE
  | .exc _ _ _ => .fail
  | r => r
theorem noX_pe {Q : VK} {Wsh' : WX} : ∀ {r : RE}, PE' G Wsh σ W H Q (noX r) → PE' G Wsh' σ W H Q r
  | .ok _ _, h => h
  | .exc _ _ _, h => h.elim
  | .fail, h => h
theorem noX_pe' {Q : VK} {σ' : L2.St} {Wsh' : WX} : ∀ {r : RE}, PE' G Wsh σ W H Q (noX r) → PE' G Wsh' σ' W H Q r
  | .ok _ _, h => h
  | .exc _ _ _, h => h.elim
  | .fail, h => h
structure Pro (P : Program) (w : World) (K : PySem.W.Frag) (mg : Str → Option Value) (base : Heap) (G : Gh) (k : Nat) (t : Nat) (m : Str) (F : FD) : Prop where
  ex : ∃ (pa g : Addr) (fd : FuncData) (ps : List Str), FnOk P w K mg base (L2.CX P w) k g fd ps (spD G 1 F) ∧ PropOf K (G.ct t) m pa g ∧ Binds K fd ps []
def fProp (t : Nat) (F : FD) (f : FE) : FE := fun ρ S => (f ρ S).bind fun d S1 => if isT t S1 d then noX (F [d] S1) else .fail
theorem ce_prop {m : Str} (t : Nat) (d : Pro X.prog X.w X.K X.mg X.base G k t m F) (C : ClsOk X.K G t) (hr : Room (k + 1) X.A) (he : PE X e (tE G Wsh f)) (hab : attributeBase e m X.env (eval e X.env) = eval e X.env := by rfl) :
    PE X (.Attribute e m pos) (tE G Wsh (fProp t F f)) := by
  obtain ⟨pa, g, fd, ps, h1, h2, h3⟩ := d.ex
  refine (pe_prop he C.cl h2 h1 hr h3 .nil passL hab).imp fun σ H Q ⟨B, W, ρ, S, O, q⟩ => ⟨B, W, ρ, S, O, PE'.bind O q fun v d S1 W1 H1 _ M hr q => ?_⟩
  split at q
  · rename_i hT
    obtain ⟨fs, hT⟩ := isT_of hT
    obtain ⟨p, dx, ys, rfl, h4, l⟩ := ins_at M.ok.hp hr hT
    exact ⟨p, dx, _, rfl, h4, rfl, W1, S1, [d], M.ok.hp, .cons hr .nil, noX_pe' q⟩
  · exact q.elim
/-- a def's call at its values, nothing raised -/
theorem run_own {A' : Around} {pins : List (Addr × Obj)} {s : Shared} {Q : VK} {us : List Value} {vs : List V} {ds : List D} {fi : Addr} {fd : FuncData} {ps : List Str} {E' : Value → Shared → Prop} (h1 : FnOk X.prog X.w X.K X.mg X.base (L2.CX X.prog X.w) k fi fd ps (spD G n F)) (hr : Room k A')
    (he : Env0 X.prog X.w X.K X.mg X.base A' X.stack s H) (hb : Binds X.K fd ps []) (I : Inv X pins σ H s) (O : HpOk G W H S) (r : Vals vs us) (l : RepL G W ds vs) (hn : ds.length = n) (q : PE' G Wsh σ W H Q (noX (F ds S))) :
    wpAny (model X.prog X.w) A' (call (.ref fi) us) (EP X pins σ Q) E' s := by
  have hsp : spD G n F vs H Q E0 := ⟨by rw [← l.length, hn], W, S, ds, O, l, noX_pe' q⟩
  have hl : us.length = ps.length := by rw [← r.length]; exact h1.len _ _ _ _ hsp
  have b := hb s us I.kIn (by rw [List.append_nil]; exact hl)
  rw [List.append_nil] at b
  refine wpAny_call (codeAny_mono (h1.run A' X.stack s H ⟨us, []⟩ us vs Q E0 hr he b r hsp) fun r s' hq => ?_)
  cases r with
  | error e => exact False.elim (passL (X := X.nox) pins σ H s e s' (I.wish _) hq)
  | ok fl =>
    cases fl with
    | ret u => exact I.after hq
    | next => exact False.elim hq
    | brk => exact False.elim hq
    | cont => exact False.elim hq
/-- a special method that is looked up on the class -/
def kOwn (t : Nat) (F : FD) (S : Sto) (d e : D) : RE := if isT t S d then noX (F [d, e] S) else .fail
/-- x in o, o of an own class -/
def fInO (t : Nat) (F : FD) (f g : FE) : FE := fun ρ S => (f ρ S).bind fun e S1 => (g ρ S1).bind fun d S2 => bB (kOwn t F S2 d e) fun b S3 => .ok (.bl b) S3
def fNiO (t : Nat) (F : FD) (f g : FE) : FE := fun ρ S => (f ρ S).bind fun e S1 => (g ρ S1).bind fun d S2 => bB (kOwn t F S2 d e) fun b S3 => .ok (.bl (!b)) S3
theorem bB_pe {Q : VK} {r : RE} {k : Bool → Sto → RE} {Q' : VK} (h : PE' G Wsh σ W H Q (bB r k)) (q : ∀ b S1 v W1 H1, r = .ok (.bl b) S1 → Ext W H W1 H1 → HpOk G W1 H1 S1 → v = .bl b → PE' G Wsh σ W1 H1 Q (k b S1) → Q' v H1) : PE' G Wsh σ W H Q' r := by
  cases r with
  | ok d S1 =>
    intro v W' H' e o hr
    cases d with
    | bl b => exact q b S1 v W' H' rfl e o hr (PE'.at e h)
    | _ => exact h.elim
  | exc _ _ _ => exact h
  | fail => exact h
theorem op_inO {t : Nat} (d : Met X.prog X.w X.K X.mg X.base G k t "__contains__" 1 F) (hr : Room k X.A) :
    OpR X (compareOp .In) (fun x y H Q => ∃ W S dy dx', HpOk G W H S ∧ Rep G W dy y ∧ Rep G W dx' x ∧ isT t S dy = true ∧ PE' G (fun _ _ _ _ => False) [] W H Q (bB (noX (F [dy, dx'] S)) fun b S3 => .ok (.bl b) S3)) := by
  obtain ⟨fi, fd, ps, h1, h2, h3⟩ := d.ex
  intro pins s σ H x y v u Q I rx ry ⟨W, S, dy, dx', O, hy, hx, hT, q⟩
  obtain ⟨fs, hT⟩ := isT_of hT
  obtain ⟨p, dx, ys, rfl, h4, l⟩ := ins_at O hy hT
  obtain rfl : u = Value.ref p := ry
  obtain ⟨mA, J, _⟩ := ins_get I.hok h4
  obtain ⟨od, J, _⟩ := J.look
  obtain ⟨m, hF⟩ := I.fr
  refine PySem.W.in_K hF I.ok.mod.kin J h2.at_ h2.fn ?_
  have q2 : PE' G (fun _ _ _ _ => False) [] W H (fun z H' => ∃ b, z = .bl b ∧ Q (.bl b) H') (noX (F [dy, dx'] S)) :=
    bB_pe q fun b S1 v W1 H1 _ e o hv q => ⟨b, hv, PE'.here q o rfl⟩
  refine wpAny_mono (run_own (us := [.ref p, v]) (vs := [.ref p, x]) (ds := [dy, dx']) (Wsh := fun _ _ _ _ => False) (σ := σ) h1 hr I.env0 h3 I O (.cons rfl (.cons rx .nil)) (.cons hy (.cons hx .nil)) rfl (noX_pe' (Wsh' := fun _ _ _ _ => False) (by
    cases e : noX (F [dy, dx'] S) with
    | ok d' S' => rw [e] at q2; exact q2
    | exc _ _ _ => rw [e] at q2; cases q3 : F [dy, dx'] S <;> rw [q3] at e <;> cases e
    | fail => rw [e] at q2; exact q2.elim))) (fun r s' hz => ?_) fun _ _ z => z
  obtain ⟨z, H', I', rz, b, ez, q'⟩ := hz
  subst ez
  cases rz
  exact wpAny_truthy_bool ⟨.bl b, H', I', rfl, q'⟩
theorem op_niO {t : Nat} (d : Met X.prog X.w X.K X.mg X.base G k t "__contains__" 1 F) (hr : Room k X.A) :
    OpR X (compareOp .NotIn) (fun x y H Q => ∃ W S dy dx', HpOk G W H S ∧ Rep G W dy y ∧ Rep G W dx' x ∧ isT t S dy = true ∧ PE' G (fun _ _ _ _ => False) [] W H Q (bB (noX (F [dy, dx'] S)) fun b S3 => .ok (.bl (!b)) S3)) := by
  obtain ⟨fi, fd, ps, h1, h2, h3⟩ := d.ex
  intro pins s σ H x y v u Q I rx ry ⟨W, S, dy, dx', O, hy, hx, hT, q⟩
  obtain ⟨fs, hT⟩ := isT_of hT
  obtain ⟨p, dx, ys, rfl, h4, l⟩ := ins_at O hy hT
  obtain rfl : u = Value.ref p := ry
  obtain ⟨mA, J, _⟩ := ins_get I.hok h4
  obtain ⟨od, J, _⟩ := J.look
  obtain ⟨m, hF⟩ := I.fr
  refine PySem.W.notIn_K hF I.ok.mod.kin J h2.at_ h2.fn ?_
  have q2 : PE' G (fun _ _ _ _ => False) [] W H (fun z H' => ∃ b, z = .bl b ∧ Q (.bl (!b)) H') (noX (F [dy, dx'] S)) :=
    bB_pe q fun b S1 v W1 H1 _ e o hv q => ⟨b, hv, PE'.here q o rfl⟩
  refine wpAny_mono (run_own (us := [.ref p, v]) (vs := [.ref p, x]) (ds := [dy, dx']) (Wsh := fun _ _ _ _ => False) (σ := σ) h1 hr I.env0 h3 I O (.cons rfl (.cons rx .nil)) (.cons hy (.cons hx .nil)) rfl (noX_pe' (Wsh' := fun _ _ _ _ => False) (by
    cases e : noX (F [dy, dx'] S) with
    | ok d' S' => rw [e] at q2; exact q2
    | exc _ _ _ => rw [e] at q2; cases q3 : F [dy, dx'] S <;> rw [q3] at e <;> cases e
    | fail => rw [e] at q2; exact q2.elim))) (fun r s' hz => ?_) fun _ _ z => z
  obtain ⟨z, H', I', rz, b, ez, q'⟩ := hz
  subst ez
  cases rz
  exact wpAny_truthy_bool ⟨.bl (!b), H', I', rfl, q'⟩
theorem noX_bB {Q : VK} {r : RE} {k : Bool → Sto → Bool} (h : PE' G Wsh σ W H Q (bB (noX r) fun b S3 => .ok (.bl (k b S3)) S3)) : PE' G (fun _ _ _ _ => False) [] W H Q (bB (noX r) fun b S3 => .ok (.bl (k b S3)) S3) := by
  cases r with
  | ok d S1 => cases d <;> exact h
  | exc _ _ _ => exact h
  | fail => exact h
theorem inO_ok {t : Nat} {kk : Bool → Bool} {Q : VK} (h : tE G Wsh (fun ρ S => (f ρ S).bind fun e S1 => (g ρ S1).bind fun d S2 => bB (kOwn t F S2 d e) fun b S3 => .ok (.bl (kk b)) S3) σ H Q) :
    tOp (fun x y H Q => ∃ W S dy dx', HpOk G W H S ∧ Rep G W dy y ∧ Rep G W dx' x ∧ isT t S dy = true ∧ PE' G (fun _ _ _ _ => False) [] W H Q (bB (noX (F [dy, dx'] S)) fun b S3 => .ok (.bl (kk b)) S3)) (tE G Wsh f) (tE G Wsh g) σ H Q := by
  obtain ⟨B, W, ρ, S, O, h⟩ := h
  refine ⟨B, W, ρ, S, O, PE'.bind O h fun v e S1 W1 H1 _ M hr q => ⟨B, W1, ρ, S1, M.ok, PE'.bind M.ok q fun v2 d S2 W2 H2 _ M2 hr2 q2 => ?_⟩⟩
  unfold kOwn at q2
  split at q2
  · rename_i hT
    exact ⟨W2, S2, d, e, M2.ok.hp, hr2, Rep.mono M2.ex.le _ _ hr, hT, noX_bB (k := fun b _ => kk b) q2⟩
  · exact q2.elim
theorem ce_inO (t : Nat) (d : Met X.prog X.w X.K X.mg X.base G k t "__contains__" 1 F) (hr : Room k X.A) (ha : PE X a (tE G Wsh f)) (hb : PE X b (tE G Wsh g)) (hm : behindInMarks .In b = false := by rfl) : PE X (.Compare a [.In] [b] pos) (tE G Wsh (fInO t F f g)) :=
  (pe_cmpR (op_inO d hr) ha hb hm).imp fun σ H Q h => inO_ok h
theorem ct_inO (t : Nat) (d : Met X.prog X.w X.K X.mg X.base G k t "__contains__" 1 F) (hr : Room k X.A) (ha : PE X a (tE G Wsh f)) (hb : PE X b (tE G Wsh g)) (hm : behindInMarks .In b = false := by rfl) : PT X (.Compare a [.In] [b] pos) (tT G Wsh (fInO t F f g)) :=
  (pt_cmpR (op_inO d hr) ha hb hm).imp fun σ H Q h => inO_ok h
theorem ce_niO (t : Nat) (d : Met X.prog X.w X.K X.mg X.base G k t "__contains__" 1 F) (hr : Room k X.A) (ha : PE X a (tE G Wsh f)) (hb : PE X b (tE G Wsh g)) (hm : behindInMarks .NotIn b = false := by rfl) : PE X (.Compare a [.NotIn] [b] pos) (tE G Wsh (fNiO t F f g)) :=
  (pe_cmpR (op_niO d hr) ha hb hm).imp fun σ H Q h => inO_ok h
theorem ct_niO (t : Nat) (d : Met X.prog X.w X.K X.mg X.base G k t "__contains__" 1 F) (hr : Room k X.A) (ha : PE X a (tE G Wsh f)) (hb : PE X b (tE G Wsh g)) (hm : behindInMarks .NotIn b = false := by rfl) : PT X (.Compare a [.NotIn] [b] pos) (tT G Wsh (fNiO t F f g)) :=
  (pt_cmpR (op_niO d hr) ha hb hm).imp fun σ H Q h => inO_ok h
/-- o[i], o of an own class -/
structure MetG (P : Program) (w : World) (K : PySem.W.Frag) (mg : Str → Option Value) (base : Heap) (G : Gh) (k : Nat) (t : Nat) (F : FD) : Prop where
  ex : ∃ (f : Addr) (fd : FuncData) (ps : List Str), FnOk P w K mg base (L2.CX P w) k f fd ps (spD G 2 F) ∧ Meth K (G.ct t) "__getitem__" f ∧ Binds K fd ps [] ∧ PySem.W.fnIn K f = true
def fIxO (t : Nat) (F : FD) (f g : FE) : FE := fun ρ S => (f ρ S).bind fun d S1 => (g ρ S1).bind fun e S2 => kOwn t F S2 d e
theorem ce_ixO (t : Nat) (d : MetG X.prog X.w X.K X.mg X.base G k t F) (hr : Room (k + 1) X.A) (ha : PE X a (tE G Wsh f)) (hb : PE X b (tE G Wsh g))
    (hsl : ∀ (x : Addr) (i : Value), subscripted b true (.ref x) i = runValue (.builtin "lifetime.subscript" ⟨[.ref x, i], []⟩) := by intros; with_unfolding_all rfl) : PE X (.Subscript a b pos) (tE G Wsh (fIxO t F f g)) := by
  obtain ⟨fi, fd, ps, h1, h2, h3, h4⟩ := d.ex
  refine ⟨fun pins s σ H Q I ⟨B, W, ρ, S, O, q⟩ => ?_⟩
  refine PyProof.Rows.Subscript_ (binT (ta := tE G Wsh f) (tb := tE G Wsh g) (R := fun x y H => ∃ W S d e, HpOk G W H S ∧ Rep G W d x ∧ Rep G W e y ∧ isT t S d = true ∧ PE' G Wsh σ W H Q (noX (F [d, e] S))) ha hb I ⟨B, W, ρ, S, O, PE'.bind O q fun v d S1 W1 H1 _ M hr1 q => ⟨B, W1, ρ, S1, M.ok, PE'.bind M.ok q fun v2 e S2 W2 H2 _ M2 hr2 q2 => ?_⟩⟩
    fun v u s2 x y H2 I2 rx ry ⟨W2, S2, d, e, O2, hd, he, hT, q2⟩ => ?_)
  · unfold kOwn at q2
    split at q2
    · rename_i hT
      exact ⟨W2, S2, d, e, M2.ok.hp, Rep.mono M2.ex.le _ _ hr1, hr2, hT, q2⟩
    · exact q2.elim
  · obtain ⟨fs, hT⟩ := isT_of hT
    obtain ⟨p, dx, ys, rfl, h5, l⟩ := ins_at O2 hd hT
    obtain rfl : v = Value.ref p := rx
    obtain ⟨mA, J, _⟩ := ins_get I2.hok h5
    obtain ⟨od, J, _⟩ := J.look
    obtain ⟨m, hF⟩ := I2.fr
    exact PySem.W.sub_K hF I2.ok.mod.kin J h2.at_ h4 h2.fn (run_own (us := [.ref p, u]) (vs := [.ref p, y]) (ds := [d, e]) h1 hr.in1 I2.env0.in1 h3 I2 O2 (.cons rfl (.cons ry .nil)) (.cons hd (.cons he .nil)) rfl q2) (hsl p u)
end
end Dl
end
section
set_option Elab.async false
set_option linter.all false
set_option maxRecDepth 100000
set_option maxHeartbeats 1000000
/-! The deep layer: statements. -/
namespace Dl
open PySem L2
def RE.bindS (r : RE) (ρ : Env) (k : D → Sto → RS) : RS := match r with
  | .ok d S => k d S
  | .exc c fs S => .exc c fs ρ S
  | .fail => .fail
inductive RN where
  | ok (s : Sl) (S : Sto) | exc (c : Nat) (fs : List D) (S : Sto) | fail
def RN.bindS (r : RN) (ρ : Env) (k : Sl → Sto → RS) : RS := match r with
  | .ok d S => k d S
  | .exc c fs S => .exc c fs ρ S
  | .fail => .fail
abbrev FN := Env → Sto → RN
section
variable {X : Cx} {G : Gh} {Wsh : WX} {a b c e o : Expr} {es : List Expr} {f g h f' : FE} {fa ga : FA} {pos p p2 p3 : Pos} {x : Str} {k n : Nat} {fs gs : FS}
variable {B : Wd × Hp} {W W1 : Wd} {σ : L2.St} {H H1 : Hp} {ρ : Env} {S S1 : Sto} {st : Stmt} {rest : List Stmt}
theorem PE'.bindS {Q1 : VK} {D' : Ends} {k : D → Sto → RS} (O : Ok G B W σ H ρ S) : ∀ {r : RE}, PS' G Wsh B W D' (r.bindS ρ k) →
    (∀ v d S1 W1 H1, r = .ok d S1 → Mid G B W H σ ρ S1 W1 H1 → Rep G W1 d v → PS' G Wsh B W1 D' (k d S1) → Q1 v H1) → PE' G Wsh σ W H Q1 r
  | .ok d S1, h, q => fun v W' H' e o r => q v d S1 W' H' rfl ⟨e, O.ext e o⟩ r (PS'.at e.le h)
  | .exc _ _ _, h, _ => fun cls dx W' H' e o er => h cls dx σ W' H' (O.ext e o) er
  | .fail, h, _ => h.elim
theorem PB'.bindS {Q1 : VK} {D' : Ends} {k : D → Sto → RS} (O : Ok G B W σ H ρ S) : ∀ {r : RE}, PS' G Wsh B W D' (r.bindS ρ k) →
    (∀ v d S1 W1 H1, r = .ok d S1 → Mid G B W H σ ρ S1 W1 H1 → RepB G W1 H1 d v → PS' G Wsh B W1 D' (k d S1) → Q1 v H1) → PB' G Wsh σ W H Q1 r
  | .ok d S1, h, q => fun v W' H' e o r => q v d S1 W' H' rfl ⟨e, O.ext e o⟩ r (PS'.at e.le h)
  | .exc _ _ _, h, _ => fun cls dx W' H' e o er => h cls dx σ W' H' (O.ext e o) er
  | .fail, h, _ => h.elim
/-- what comes next -/
theorem PS'.nx' {D' : Ends} {ρ' : Env} (h : PS' G Wsh B W D' (.nx ρ' S)) {σ' : L2.St} {W' H'} (l : WLe W W') (o : Ok G B W' σ' H' ρ' S) : D'.nx σ' H' := h σ' W' H' l o

/-! ### blocks -/
def fSeq (f g : FS) : FS := fun ρ S => match f ρ S with
  | .nx ρ' S' => g ρ' S'
  | r => r
def fNext : FS := fun ρ S => .nx ρ S
theorem css_nil : PSs X [] (tS G Wsh fNext) := pss_nil.imp fun D' σ H ⟨B, W, ρ, S, O, h⟩ => h σ W H .rfl' O
theorem css_cons (h1 : PS X st (tS G Wsh fs)) (h2 : PSs X rest (tS G Wsh gs)) : PSs X (st :: rest) (tS G Wsh (fSeq fs gs)) :=
  (pss_cons h1 h2).imp fun D' σ H ⟨B, W, ρ, S, O, h⟩ => ⟨B, W, ρ, S, O, by
    unfold fSeq at h
    generalize fs ρ S = r at h ⊢
    cases r with
    | nx ρ' S' => exact fun σ' W' H' l o => ⟨B, W', ρ', S', o, PS'.at l h⟩
    | _ => exact h⟩
theorem css_one (h1 : PS X st (tS G Wsh fs)) : PSs X [st] (tS G Wsh fs) := pss_one h1
/-- a block that is never reached -/
def fDead : FS := fun _ _ => .fail
theorem css_dead {sts : List Stmt} : PSs X sts (tS G Wsh fDead) := pss_never.imp fun D' σ H ⟨B, W, ρ, S, O, h⟩ => h
theorem cs_dead : PS X st (tS G Wsh fDead) := ps_never.imp fun D' σ H ⟨B, W, ρ, S, O, h⟩ => h
theorem cs_pass : PS X (.Pass pos) (tS G Wsh fNext) := ps_pass.imp fun D' σ H ⟨B, W, ρ, S, O, h⟩ => h σ W H .rfl' O
theorem cs_doc {x j p'} : PS X (.Expr (.Constant (.str x) j pos) p') (tS G Wsh fNext) := ps_doc.imp fun D' σ H ⟨B, W, ρ, S, O, h⟩ => h σ W H .rfl' O
def fBreak : FS := fun ρ S => .bk ρ S
def fCont : FS := fun ρ S => .ct ρ S
theorem cs_break : PS X (.Break pos) (tS G Wsh fBreak) := ps_break.imp fun D' σ H ⟨B, W, ρ, S, O, h⟩ => h σ W H .rfl' O
theorem cs_cont : PS X (.Continue pos) (tS G Wsh fCont) := ps_continue.imp fun D' σ H ⟨B, W, ρ, S, O, h⟩ => h σ W H .rfl' O
def fRet (f : FE) : FS := fun ρ S => (f ρ S).bindS ρ fun d S1 => .rt d S1
theorem cs_ret (he : PE X e (tE G Wsh f)) : PS X (.Return (some e) pos) (tS G Wsh (fRet f)) :=
  (ps_ret he).imp fun D' σ H ⟨B, W, ρ, S, O, h⟩ => ⟨B, W, ρ, S, O, PE'.bindS O h fun v d S1 W1 H1 _ M hr q => q v W1 H1 M.ok.ex M.ok.hp hr⟩
theorem cs_retN : PS X (.Return none pos) (tS G Wsh (fun _ S => .rt .non S)) :=
  ps_retN.imp fun D' σ H ⟨B, W, ρ, S, O, h⟩ => h .non W H O.ex O.hp rfl
def fDrop (f : FE) : FS := fun ρ S => (f ρ S).bindS ρ fun _ S1 => .nx ρ S1
theorem cs_expr (he : PE X e (tE G Wsh f)) (hs : swapsWith e none pos.line X.env = pure false := by rfl) : PS X (.Expr e pos) (tS G Wsh (fDrop f)) :=
  (ps_expr he hs).imp fun D' σ H ⟨B, W, ρ, S, O, h⟩ => ⟨B, W, ρ, S, O, PE'.bindS O h fun v d S1 W1 H1 _ M hr q => q.nx' .rfl' M.ok⟩
def fIfS (t : FE) (f g : FS) : FS := fun ρ S => (t ρ S).bindS ρ fun d S1 => match d with
  | .bl true => f ρ S1
  | .bl false => g ρ S1
  | _ => .fail
theorem cs_if {A1 A2 : List Stmt} (hc : PT X c (tT G Wsh f)) (ha : PSs X A1 (tS G Wsh fs)) (hb : PSs X A2 (tS G Wsh gs)) : PS X (.If c A1 A2 pos) (tS G Wsh (fIfS f fs gs)) :=
  (ps_if hc ha hb).imp fun D' σ H ⟨B, W, ρ, S, O, h⟩ => ⟨B, W, ρ, S, O, PE'.bindS O h fun v d S1 W1 H1 _ M hr q => by
    cases d with
    | bl b => cases b with
      | true => exact ⟨true, hr, B, W1, ρ, S1, M.ok, q⟩
      | false => exact ⟨false, hr, B, W1, ρ, S1, M.ok, q⟩
    | _ => exact q.elim⟩

/-! ### slots -/
theorem getD_set_self {σ : L2.St} {i : Nat} {x : V} (h : i < σ.length) : (σ.set i (some x))[i]?.getD none = some x := by
  rw [List.getElem?_set_self h]; rfl
/-- a slot takes a value, or a thing of its own -/
theorem Ok.set (O : Ok G B W σ H ρ S) {i : Nat} {s : Sl} {v : V} (hs : SlAt G W H s (some v)) (hn : IsOwn s → ∀ a, v = .ref a → W.F a = none ∧ B.2 a = none ∧ a ∉ W.cs ∧ ∀ (j : Nat) t, j ≠ i → ρ[j]? = some t → IsOwn t → σ[j]? ≠ some (some (.ref a))) :
    Ok G B W (σ.set i (some v)) H (ρ.set i s) S := by
  refine ⟨O.hp, O.ex, by rw [List.length_set, List.length_set]; exact O.len, fun j t hj => ?_, fun j t a hj ho hx => ?_, fun j l t u a hj ht hl hu h1 h2 => ?_⟩
  · by_cases e : i = j
    · subst e
      have hi : i < ρ.length := by have := (List.getElem?_eq_some_iff.mp hj).1; simpa using this
      rw [List.getElem?_set_self hi] at hj
      cases hj
      rw [getD_set_self (by rw [← O.len]; exact hi)]
      exact hs
    · rw [List.getElem?_set_ne e] at hj
      rw [List.getElem?_set_ne e]
      exact O.slt j t hj
  · by_cases e : i = j
    · subst e
      have hi : i < ρ.length := by have := (List.getElem?_eq_some_iff.mp hj).1; simpa using this
      rw [List.getElem?_set_self hi] at hj
      cases hj
      rw [List.getElem?_set_self (by rw [← O.len]; exact hi)] at hx
      cases hx
      obtain ⟨h1, h2, h3, _⟩ := hn ho a rfl
      exact ⟨h1, h2, h3⟩
    · rw [List.getElem?_set_ne e] at hj hx
      exact O.own j t a hj ho hx
  · by_cases e : i = j
    · subst e
      by_cases e2 : i = l
      · exact e2
      · exfalso
        have hi : i < ρ.length := by have := (List.getElem?_eq_some_iff.mp hj).1; simpa using this
        rw [List.getElem?_set_self hi] at hj
        cases hj
        rw [List.getElem?_set_self (by rw [← O.len]; exact hi)] at h1
        cases h1
        rw [List.getElem?_set_ne e2] at hl h2
        exact (hn ht a rfl).2.2.2 l u (Ne.symm e2) hl hu h2
    · by_cases e2 : i = l
      · exfalso
        subst e2
        have hi : i < ρ.length := by have := (List.getElem?_eq_some_iff.mp hl).1; simpa using this
        rw [List.getElem?_set_self hi] at hl
        cases hl
        rw [List.getElem?_set_self (by rw [← O.len]; exact hi)] at h2
        cases h2
        rw [List.getElem?_set_ne e] at hj h1
        exact (hn hu a rfl).2.2.2 j t (fun z => e z.symm) hj ht h1
      · rw [List.getElem?_set_ne e] at hj h1
        rw [List.getElem?_set_ne e2] at hl h2
        exact O.dis j l t u a hj ht hl hu h1 h2
theorem Ok.setv (O : Ok G B W σ H ρ S) {i : Nat} {d : D} {v : V} (h : Rep G W d v) : Ok G B W (σ.set i (some v)) H (ρ.set i (.v d)) S := O.set h (fun z => z.elim)
/-- free places are free at the entry -/
theorem Ok.free (O : Ok G B W σ H ρ S) {p : Addr} (hp : H p = none) : W.F p = none ∧ B.2 p = none ∧ p ∉ W.cs ∧ ∀ (j : Nat) t, ρ[j]? = some t → IsOwn t → σ[j]? ≠ some (some (.ref p)) := by
  refine ⟨?_, ?_, fun hc => ?_, fun j t hj ht hx => ?_⟩
  · cases q : W.F p with
    | none => rfl
    | some o => rw [O.hp.sub p o q] at hp; cases hp
  · cases q : B.2 p with
    | none => rfl
    | some o =>
      by_cases hc : p ∈ B.1.cs
      · obtain ⟨o', e⟩ := O.ex.st p hc o q
        rw [hp] at e; cases e
      · rw [O.ex.kp p o q hc] at hp; cases hp
  · obtain ⟨n, hn, e⟩ := List.getElem_of_mem hc
    have e1 : W.cs[n]? = some p := by rw [List.getElem?_eq_getElem hn, e]
    have hn2 : n < S.length := by rw [← O.hp.len]; exact hn
    obtain ⟨o, e3⟩ := (O.hp.cel n p S[n] e1 (List.getElem?_eq_getElem hn2)).2.some
    rw [hp] at e3; cases e3
  · obtain ⟨p', o, e1, e2, _⟩ := own_at O hj ht
    rw [hx] at e1; cases e1
    rw [hp] at e2; cases e2
def fSet (i : Nat) (f : FE) : FS := fun ρ S => (f ρ S).bindS ρ fun d S1 => .nx (ρ.set i (.v d)) S1
theorem cs_set {i : Nat} {p' : Pos} (hN : X.N.Nodup) (hi : X.N[i]? = some x) (hx : Loc X.env.scope x) (he : PE X e (tE G Wsh f)) (hs : swapsWith e (some (.Name x p')) pos.line X.env = pure false := by rfl) (hf : X.fn x = true ∨ X.env.scope.names.lookup x = some .local := by first | exact .inl rfl | exact .inr rfl) :
    PS X (.Assign [.Name x p'] e pos) (tS G Wsh (fSet i f)) :=
  (ps_set hN hi hx he hs hf).imp fun D' σ H ⟨B, W, ρ, S, O, h⟩ => ⟨B, W, ρ, S, O, PE'.bindS O h fun v d S1 W1 H1 _ M hr q => q.nx' .rfl' (M.ok.setv hr)⟩

/-! ### new things of one's own -/
/-- s lies at v, new since H -/
def NewAt (G : Gh) (H : Hp) (W' : Wd) (H' : Hp) (s : Sl) (v : V) : Prop := SlAt G W' H' s (some v) ∧ (IsOwn s → ∀ a, v = .ref a → H a = none ∧ W'.F a = none ∧ a ∉ W'.cs)
def PN' (G : Gh) (Wsh : WX) (σ : L2.St) (W : Wd) (H : Hp) (Q : VK) : RN → Prop
  | .ok s S' => ∀ v W' H', Ext W H W' H' → HpOk G W' H' S' → NewAt G H W' H' s v → Q v H'
  | .exc c fs S' => ∀ cls dx W' H', Ext W H W' H' → HpOk G W' H' S' → ExcRep G W' H' c fs cls dx → Wsh cls dx σ H'
  | .fail => False
def tN (G : Gh) (Wsh : WX) (f : FN) : TE := fun σ H Q => ∃ B W ρ S, Ok G B W σ H ρ S ∧ PN' G Wsh σ W H Q (f ρ S)
theorem PN'.bindS {Q1 : VK} {D' : Ends} {k : Sl → Sto → RS} (O : Ok G B W σ H ρ S) : ∀ {r : RN}, PS' G Wsh B W D' (r.bindS ρ k) →
    (∀ v s S1 W1 H1, r = .ok s S1 → Mid G B W H σ ρ S1 W1 H1 → NewAt G H W1 H1 s v → PS' G Wsh B W1 D' (k s S1) → Q1 v H1) → PN' G Wsh σ W H Q1 r
  | .ok d S1, h, q => fun v W' H' e o r => q v d S1 W' H' rfl ⟨e, O.ext e o⟩ r (PS'.at e.le h)
  | .exc _ _ _, h, _ => fun cls dx W' H' e o er => h cls dx σ W' H' (O.ext e o) er
  | .fail, h, _ => h.elim
/-- a slot takes a new thing -/
theorem Ok.setn (O : Ok G B W σ H ρ S) {W1 H1 S1 i s v} (M : Mid G B W H σ ρ S1 W1 H1) (h : NewAt G H W1 H1 s v) : Ok G B W1 (σ.set i (some v)) H1 (ρ.set i s) S1 := by
  refine M.ok.set h.1 fun ho a ha => ?_
  obtain ⟨h1, h2, h3⟩ := h.2 ho a ha
  obtain ⟨_, h5, _, h7⟩ := O.free h1
  exact ⟨h2, h5, h3, fun j t _ hj ht => h7 j t hj ht⟩
def fSetN (i : Nat) (f : FN) : FS := fun ρ S => (f ρ S).bindS ρ fun s S1 => .nx (ρ.set i s) S1
theorem cs_new {i : Nat} {p' : Pos} {f : FN} (hN : X.N.Nodup) (hi : X.N[i]? = some x) (hx : Loc X.env.scope x) (he : PE X e (tN G Wsh f)) (hs : swapsWith e (some (.Name x p')) pos.line X.env = pure false := by rfl) (hf : X.fn x = true ∨ X.env.scope.names.lookup x = some .local := by first | exact .inl rfl | exact .inr rfl) :
    PS X (.Assign [.Name x p'] e pos) (tS G Wsh (fSetN i f)) :=
  (ps_set hN hi hx he hs hf).imp fun D' σ H ⟨B, W, ρ, S, O, h⟩ => ⟨B, W, ρ, S, O, PN'.bindS O h fun v d S1 W1 H1 _ M hr q => q.nx' .rfl' (O.setn M hr)⟩
/-- a value counts as one -/
def fVN (f : FE) : FN := fun ρ S => match f ρ S with
  | .ok d S1 => .ok (.v d) S1
  | .exc c fs S1 => .exc c fs S1
  | .fail => .fail
theorem cn_v (he : PE X e (tE G Wsh f)) : PE X e (tN G Wsh (fVN f)) := he.imp fun σ H Q ⟨B, W, ρ, S, O, h⟩ => ⟨B, W, ρ, S, O, by
  unfold fVN at h
  generalize f ρ S = r at h ⊢
  cases r with
  | ok d S1 => exact fun v W' H' e o r => h v W' H' e o ⟨r, fun z => z.elim⟩
  | exc _ _ _ => exact h
  | fail => exact h⟩
theorem new_at (O : Ok G B W σ H ρ S) (M : Mid G B W H σ ρ S1 W1 H1) {p : Addr} {u : HO} {s : Sl} {Q : VK} (hp : H1 p = none) (hs : SlAt G W1 (upd H1 p u) s (some (.ref p)))
    (q : ∀ v W' H', Ext W H W' H' → HpOk G W' H' S1 → NewAt G H W' H' s v → Q v H') : Q (.ref p) (upd H1 p u) := by
  obtain ⟨g1, g2⟩ := ext_new0 (o := u) hp M.ok.hp
  refine q _ _ _ (M.ex.trans g1) g2 ⟨hs, fun _ a ha => ?_⟩
  cases ha
  obtain ⟨h1, _, h3, _⟩ := M.ok.free hp
  refine ⟨?_, h1, h3⟩
  cases e : H p with
  | none => rfl
  | some o =>
    exfalso
    by_cases hc : p ∈ W.cs
    · obtain ⟨o', e'⟩ := M.ex.st p hc o e
      rw [hp] at e'; cases e'
    · rw [M.ex.kp p o e hc] at hp; cases hp
def fOl (f : FA) : FN := fun ρ S => match f ρ S with
  | .ok ds S1 => if szOk ds.length then .ok (.ol ds) S1 else .fail
  | .exc c fs S1 => .exc c fs S1
  | .fail => .fail
theorem cn_lst (h : PA X es (tA G Wsh fa)) : PE X (.List es pos) (tN G Wsh (fOl fa)) :=
  (pe_lst h).imp fun σ H Q ⟨B, W, ρ, S, O, h⟩ => ⟨B, W, ρ, S, O, by
    unfold fOl at h
    generalize fa ρ S = r at h ⊢
    cases r with
    | ok ds S1 =>
      intro vs W1 H1 e o hr
      dsimp only at h
      split at h
      · rename_i hs
        rw [hr.length] at hs
        exact ⟨szOk_line hs, fun p hp => new_at O ⟨e, O.ext e o⟩ hp (s := .ol ds) ⟨vs, upd_same, hr⟩ h⟩
      · exact h.elim
    | exc _ _ _ => exact h
    | fail => exact h⟩
theorem cn_dK : PE X (.Dict [] [] pos) (tN G Wsh (fun _ S => .ok (.od false [] []) S)) :=
  pe_dnewK.imp fun σ H Q ⟨B, W, ρ, S, O, h⟩ p hp => new_at O ⟨.rfl', O⟩ hp (s := .od false [] []) ⟨[], ⟨[], upd_same, rfl, rfl⟩, .nil⟩ h
theorem cn_dT : PE X (.Dict [] [] pos) (tN G Wsh (fun _ S => .ok (.od true [] []) S)) :=
  pe_dnewT.imp fun σ H Q ⟨B, W, ρ, S, O, h⟩ p hp => new_at O ⟨.rfl', O⟩ hp (s := .od true [] []) ⟨[], ⟨[], upd_same, rfl, rfl⟩, .nil⟩ h
end
end Dl
end
section
set_option Elab.async false
set_option linter.all false
set_option maxRecDepth 100000
set_option maxHeartbeats 1000000
/-! The deep layer: freezing, cells, things of one's own changed, targets. -/
namespace Dl
open PySem L2
section
variable {X : Cx} {G : Gh} {Wsh : WX} {a b c e o : Expr} {es : List Expr} {f g h f' : FE} {fa ga : FA} {pos p p2 p3 apos : Pos} {x : Str} {k n : Nat} {fs gs : FS}
variable {B : Wd × Hp} {W W1 : Wd} {σ : L2.St} {H H1 : Hp} {ρ : Env} {S S1 : Sto} {st : Stmt} {rest : List Stmt}
/-! ### freezing -/
def slD : Sl → Option D
  | .ol ds => some (.lst ds)
  | .od t ks vs => some (.dct t ks vs)
  | .oi t fs => some (.obj t fs)
  | _ => none
theorem slD_own : ∀ {s : Sl} {d : D}, slD s = some d → IsOwn s
  | .ol _, _, _ => trivial
  | .od _ _ _, _, _ => trivial
  | .oi _ _, _, _ => trivial
theorem frz_rep {s : Sl} {d : D} {p : Addr} {o : HO} (hs : SlAt G W H s (some (.ref p))) (hd : slD s = some d) (ho : H p = some o) (hF : W.F p = none) : Rep G (W.put p o) d (.ref p) := by
  have le : WLe W (W.put p o) := .of_F (fun a u e => by
    show upd W.F p o a = some u
    rw [upd_ne (ne_of_none e hF)]; exact e) fun _ _ h => h
  cases s with
  | ol ds =>
    cases hd
    obtain ⟨xs, h1, h2⟩ := (show ∃ xs, _ from hs)
    rw [ho] at h1; cases h1
    exact ⟨p, xs, rfl, put_at, RepL.mono le _ _ h2⟩
  | od t ks vs =>
    cases hd
    obtain ⟨ys, h1, h2⟩ := (show ∃ ys, _ from hs)
    refine ⟨p, ys, rfl, DcE.toAt (h1.at (H' := (W.put p o).F) (by rw [ho]; exact put_at)), RepL.mono le _ _ h2⟩
  | oi t fs =>
    cases hd
    obtain ⟨dx, ys, h1, hl, h2⟩ := (show ∃ dx ys, _ from hs)
    rw [ho] at h1; cases h1
    exact ⟨p, dx, ys, rfl, put_at, hl, RepL.mono le _ _ h2⟩
  | un => cases hd
  | v d => cases hd
theorem Ok.frz (O : Ok G B W σ H ρ S) {i : Nat} {s : Sl} {d : D} (h : ρ[i]? = some s) (hd : slD s = some d) : ∃ W', WLe W W' ∧ Ok G B W' σ H (ρ.set i (.v d)) S := by
  have ho := slD_own hd
  obtain ⟨p, u, e1, e2, e3, e4, e5, q⟩ := own_at O h ho
  have hi : i < ρ.length := (List.getElem?_eq_some_iff.mp h).1
  have hF : ∀ a o, W.F a = some o → (W.put p u).F a = some o := fun a o e => by
    show upd W.F p u a = some o
    rw [upd_ne (ne_of_none e e3)]; exact e
  have le : WLe W (W.put p u) := .of_F hF fun _ _ h => h
  refine ⟨W.put p u, le, ⟨⟨fun a o e => ?_, O.hp.nd, O.hp.len, fun k a c h1 h2 => ?_⟩, ⟨O.ex.le.trans le, O.ex.kp, fun a o e hf => ?_, O.ex.nc, O.ex.st⟩, by rw [List.length_set]; exact O.len, fun j t hj => ?_, fun j t a hj ht hx => ?_, fun j l t t' a hj ht hl ht' h1 h2 => ?_⟩⟩
  · by_cases ha : a = p
    · subst ha
      have e' : upd W.F a u a = some o := e
      rw [upd_same] at e'; cases e'; exact e2
    · have e' : upd W.F p u a = some o := e
      rw [upd_ne ha] at e'
      exact O.hp.sub a o e'
  · obtain ⟨g1, g2⟩ := O.hp.cel k a c h1 h2
    have : a ≠ p := fun z => by subst z; exact e5 (List.mem_of_getElem? h1)
    exact ⟨fun hd => by show upd W.F p u a = none; rw [upd_ne this]; exact g1 hd, g2.mono le rfl⟩
  · have : a ≠ p := fun z => by subst z; rw [e4] at e; cases e
    show upd W.F p u a = none
    rw [upd_ne this]; exact O.ex.nf a o e hf
  · by_cases e : i = j
    · subst e
      rw [List.getElem?_set_self hi] at hj
      cases hj
      have : σ[i]?.getD none = some (.ref p) := by rw [e1]; rfl
      rw [this]
      exact frz_rep q hd e2 e3
    · rw [List.getElem?_set_ne e] at hj
      exact (O.slt j t hj).mono le fun _ _ _ => rfl
  · by_cases e : i = j
    · subst e
      rw [List.getElem?_set_self hi] at hj
      cases hj
      exact ht.elim
    · rw [List.getElem?_set_ne e] at hj
      obtain ⟨h1, h2, h3⟩ := O.own j t a hj ht hx
      have : a ≠ p := fun z => by subst z; exact e (O.dis i j s t a h ho hj ht e1 hx)
      exact ⟨by show upd W.F p u a = none; rw [upd_ne this]; exact h1, h2, h3⟩
  · by_cases e : i = j
    · subst e
      rw [List.getElem?_set_self hi] at hj
      cases hj
      exact ht.elim
    · by_cases e' : i = l
      · subst e'
        rw [List.getElem?_set_self hi] at hl
        cases hl
        exact ht'.elim
      · rw [List.getElem?_set_ne e] at hj
        rw [List.getElem?_set_ne e'] at hl
        exact O.dis j l t t' a hj ht hl ht' h1 h2
/-- ahead of a statement the thing in slot i is frozen (nothing is done) -/
def fFrz (i : Nat) (f : FS) : FS := fun ρ S => match ρ[i]? with
  | some s => match slD s with
    | some d => f (ρ.set i (.v d)) S
    | none => f ρ S
  | none => .fail
theorem cs_frz (i : Nat) (h : PS X st (tS G Wsh fs)) : PS X st (tS G Wsh (fFrz i fs)) := h.imp fun D' σ H ⟨B, W, ρ, S, O, q⟩ => by
  unfold fFrz at q
  split at q
  · rename_i s e
    split at q
    · rename_i d e'
      obtain ⟨W', le, O'⟩ := O.frz e e'
      exact ⟨B, W', _, S, O', PS'.at le q⟩
    · exact ⟨B, W, ρ, S, O, q⟩
  · exact q.elim
/-- a new thing as a value -/
def fNF (f : FN) : FE := fun ρ S => match f ρ S with
  | .ok s S1 => match s with
    | .v d => .ok d S1
    | s => RE.ofO (slD s) S1
  | .exc c fs S1 => .exc c fs S1
  | .fail => .fail
theorem new_frz {s : Sl} {d : D} {v : V} {Q : VK} {W' : Wd} {H' : Hp} (e : Ext W H W' H') (o : HpOk G W' H' S) (hn : NewAt G H W' H' s v) (hd : slD s = some d)
    (q : ∀ v W2 H2, Ext W H W2 H2 → HpOk G W2 H2 S → Rep G W2 d v → Q v H2) : Q v H' := by
  have ho := slD_own hd
  obtain ⟨p, u, hv, e2⟩ := hn.1.own ho
  cases hv
  obtain ⟨e0, e3, e5⟩ := hn.2 ho p rfl
  have hF : ∀ a o, W'.F a = some o → (W'.put p u).F a = some o := fun a o e => by
    show upd W'.F p u a = some o
    rw [upd_ne (ne_of_none e e3)]; exact e
  have le : WLe W' (W'.put p u) := .of_F hF fun _ _ h => h
  refine q _ (W'.put p u) H' ⟨e.le.trans le, e.kp, fun a o' h hf => ?_, e.nc, e.st⟩ ⟨fun a o' h => ?_, o.nd, o.len, fun k a c h1 h2 => ?_⟩ (frz_rep hn.1 hd e2 e3)
  · have : a ≠ p := fun z => by subst z; rw [e0] at h; cases h
    show upd W'.F p u a = none
    rw [upd_ne this]; exact e.nf a o' h hf
  · by_cases ha : a = p
    · subst ha
      have e' : upd W'.F a u a = some o' := h
      rw [upd_same] at e'; cases e'; exact e2
    · have e' : upd W'.F p u a = some o' := h
      rw [upd_ne ha] at e'
      exact o.sub a o' e'
  · obtain ⟨g1, g2⟩ := o.cel k a c h1 h2
    have : a ≠ p := fun z => by subst z; exact e5 (List.mem_of_getElem? h1)
    exact ⟨fun hd => by show upd W'.F p u a = none; rw [upd_ne this]; exact g1 hd, g2.mono le rfl⟩
theorem ce_frzN {f : FN} (h : PE X e (tN G Wsh f)) : PE X e (tE G Wsh (fNF f)) := h.imp fun σ H Q ⟨B, W, ρ, S, O, q⟩ => ⟨B, W, ρ, S, O, by
  unfold fNF at q
  generalize f ρ S = r at q ⊢
  cases r with
  | ok s S1 =>
    intro v W' H' e o hn
    cases s with
    | v d => exact q v W' H' e o hn.1
    | un => exact q.elim
    | ol ds => exact new_frz e o hn rfl q
    | od t ks vs => exact new_frz e o hn rfl q
    | oi t fs => exact new_frz e o hn rfl q
  | exc _ _ _ => exact q
  | fail => exact q⟩
/-! ### cells -/
def slC : Sl → Option Ce
  | .ol ds => some (.lst ds)
  | .od t ks vs => some (.dct t ks vs)
  | .oi t fs => some (.ins t fs)
  | _ => none
theorem slC_own : ∀ {s : Sl} {d : Ce}, slC s = some d → IsOwn s
  | .ol _, _, _ => trivial
  | .od _ _ _, _, _ => trivial
  | .oi _ _, _, _ => trivial
theorem ce_of {s : Sl} {c : Ce} {p : Addr} (hs : SlAt G W H s (some (.ref p))) (hc : slC s = some c) : CeAt G W H p c := by
  cases s <;> first | (cases hc; done) | (cases hc; exact hs)
def Wd.add (W : Wd) (p : Addr) : Wd := ⟨W.F, W.cs ++ [p]⟩
theorem le_add {p : Addr} : WLe W (W.add p) := .of_F (fun _ _ h => h) fun n a h => by
  show (W.cs ++ [p])[n]? = some a
  rw [List.getElem?_append_left (List.getElem?_eq_some_iff.mp h).1]; exact h
theorem add_at {p : Addr} : (W.add p).cs[W.cs.length]? = some p := by
  show (W.cs ++ [p])[W.cs.length]? = some p
  simp
theorem hp_add {p : Addr} {c : Ce} (o : HpOk G W H S) (hF : W.F p = none) (hc : p ∉ W.cs) (h : CeAt G W H p c) : HpOk G (W.add p) H (S ++ [c]) := by
  refine ⟨o.sub, ?_, by show (W.cs ++ [p]).length = _; simp [o.len], fun k a c' h1 h2 => ?_⟩
  · show (W.cs ++ [p]).Nodup
    rw [List.nodup_append]
    exact ⟨o.nd, by simp, fun x hx y hy => by simp at hy; subst hy; exact fun z => hc (z ▸ hx)⟩
  · have h1' : (W.cs ++ [p])[k]? = some a := h1
    by_cases hk : k < W.cs.length
    · rw [List.getElem?_append_left hk] at h1'
      rw [List.getElem?_append_left (by rw [← o.len]; exact hk)] at h2
      obtain ⟨g1, g2⟩ := o.cel k a c' h1' h2
      exact ⟨g1, g2.mono le_add rfl⟩
    · rw [List.getElem?_append_right (by omega)] at h1'
      rw [List.getElem?_append_right (by rw [← o.len]; omega)] at h2
      have e : k - W.cs.length = 0 := by
        have := (List.getElem?_eq_some_iff.mp h1').1
        simp at this; omega
      rw [e] at h1'
      rw [← o.len, e] at h2
      simp at h1' h2
      subst h1' h2
      exact ⟨fun _ => hF, h.mono le_add rfl⟩
/-- a new thing becomes a cell -/
def fNC (f : FN) : FE := fun ρ S => match f ρ S with
  | .ok s S1 => match slC s with
    | some c => .ok (.cell S1.length) (S1 ++ [c])
    | none => .fail
  | .exc c fs S1 => .exc c fs S1
  | .fail => .fail
theorem ce_celN {f : FN} (h : PE X e (tN G Wsh f)) : PE X e (tE G Wsh (fNC f)) := h.imp fun σ H Q ⟨B, W, ρ, S, O, q⟩ => ⟨B, W, ρ, S, O, by
  unfold fNC at q
  generalize f ρ S = r at q ⊢
  cases r with
  | ok s S1 =>
    intro v W' H' e o hn
    dsimp only at q
    split at q
    · rename_i c hc
      have ho := slC_own hc
      obtain ⟨p, u, hv, e2⟩ := hn.1.own ho
      cases hv
      obtain ⟨e0, e3, e5⟩ := hn.2 ho p rfl
      refine q _ (W'.add p) H' ⟨e.le.trans le_add, e.kp, e.nf, fun a ha => ?_, e.st⟩ (hp_add o e3 e5 (ce_of hn.1 hc)) ⟨p, rfl, by rw [← o.len]; exact add_at⟩
      rcases List.mem_append.mp (show a ∈ W'.cs ++ [p] from ha) with z | z
      · exact e.nc a z
      · simp at z; subst z; exact .inr e0
    · exact q.elim
  | exc _ _ _ => exact q
  | fail => exact q⟩
/-- the thing in slot i becomes a cell (nothing is done) -/
theorem Ok.cell (O : Ok G B W σ H ρ S) {i : Nat} {s : Sl} {c : Ce} (h : ρ[i]? = some s) (hd : slC s = some c) : ∃ W', WLe W W' ∧ Ok G B W' σ H (ρ.set i (.v (.cell S.length))) (S ++ [c]) := by
  have ho := slC_own hd
  obtain ⟨p, u, e1, e2, e3, e4, e5, q⟩ := own_at O h ho
  have hi : i < ρ.length := (List.getElem?_eq_some_iff.mp h).1
  refine ⟨W.add p, le_add, ⟨hp_add O.hp e3 e5 (ce_of q hd), ⟨O.ex.le.trans le_add, O.ex.kp, O.ex.nf, fun a ha => ?_, O.ex.st⟩, by rw [List.length_set]; exact O.len, fun j t hj => ?_, fun j t a hj ht hx => ?_, fun j l t t' a hj ht hl ht' h1 h2 => ?_⟩⟩
  · rcases List.mem_append.mp (show a ∈ W.cs ++ [p] from ha) with z | z
    · exact O.ex.nc a z
    · simp at z; subst z; exact .inr e4
  · by_cases e : i = j
    · subst e
      rw [List.getElem?_set_self hi] at hj
      cases hj
      have : σ[i]?.getD none = some (.ref p) := by rw [e1]; rfl
      rw [this]
      exact ⟨p, rfl, by rw [← O.hp.len]; exact add_at⟩
    · rw [List.getElem?_set_ne e] at hj
      exact (O.slt j t hj).mono le_add fun _ _ _ => rfl
  · by_cases e : i = j
    · subst e
      rw [List.getElem?_set_self hi] at hj
      cases hj
      exact ht.elim
    · rw [List.getElem?_set_ne e] at hj
      obtain ⟨h1, h2, h3⟩ := O.own j t a hj ht hx
      refine ⟨h1, h2, fun z => ?_⟩
      rcases List.mem_append.mp (show a ∈ W.cs ++ [p] from z) with z | z
      · exact h3 z
      · simp at z; subst z; exact e (O.dis i j s t a h ho hj ht e1 hx)
  · by_cases e : i = j
    · subst e
      rw [List.getElem?_set_self hi] at hj
      cases hj
      exact ht.elim
    · by_cases e' : i = l
      · subst e'
        rw [List.getElem?_set_self hi] at hl
        cases hl
        exact ht'.elim
      · rw [List.getElem?_set_ne e] at hj
        rw [List.getElem?_set_ne e'] at hl
        exact O.dis j l t t' a hj ht hl ht' h1 h2
def fCel (i : Nat) (f : FS) : FS := fun ρ S => match ρ[i]? with
  | some s => match slC s with
    | some c => f (ρ.set i (.v (.cell S.length))) (S ++ [c])
    | none => .fail
  | none => .fail
theorem cs_cel (i : Nat) (h : PS X st (tS G Wsh fs)) : PS X st (tS G Wsh (fCel i fs)) := h.imp fun D' σ H ⟨B, W, ρ, S, O, q⟩ => by
  unfold fCel at q
  split at q
  · rename_i s e
    split at q
    · rename_i d e'
      obtain ⟨W', le, O'⟩ := O.cell e e'
      exact ⟨B, W', _, _, O', PS'.at le q⟩
    · exact q.elim
  · exact q.elim
/-! ### changing one's own -/
theorem Ok.mut (O : Ok G B W σ H ρ S) {i : Nat} {s s' : Sl} {p : Addr} {o' : HO} (h : ρ[i]? = some s) (ho : IsOwn s) (hx : σ[i]? = some (some (.ref p))) (ho' : IsOwn s') (hs' : SlAt G W (upd H p o') s' (some (.ref p))) :
    Ok G B W σ (upd H p o') (ρ.set i s') S := by
  obtain ⟨p', u, e1, e2, e3, e4, e5, q⟩ := own_at O h ho
  rw [hx] at e1; cases e1
  have hi : i < ρ.length := (List.getElem?_eq_some_iff.mp h).1
  refine ⟨⟨fun a o e => ?_, O.hp.nd, O.hp.len, fun k a c h1 h2 => ?_⟩, ⟨O.ex.le, fun a o e hc => ?_, O.ex.nf, O.ex.nc, fun a ha o e => ?_⟩, by rw [List.length_set]; exact O.len, fun j t hj => ?_, fun j t a hj ht hx' => ?_, fun j l t t' a hj ht hl ht' h1 h2 => ?_⟩
  · rw [upd_ne (ne_of_none e e3)]; exact O.hp.sub a o e
  · obtain ⟨g1, g2⟩ := O.hp.cel k a c h1 h2
    have : a ≠ p := fun z => by subst z; exact e5 (List.mem_of_getElem? h1)
    exact ⟨g1, g2.mono .rfl' (upd_ne this)⟩
  · have : a ≠ p := fun z => by subst z; rw [e4] at e; cases e
    rw [upd_ne this]; exact O.ex.kp a o e hc
  · have : a ≠ p := fun z => by subst z; rw [e4] at e; cases e
    rw [upd_ne this]; exact O.ex.st a ha o e
  · by_cases e : i = j
    · subst e
      rw [List.getElem?_set_self hi] at hj
      cases hj
      have : σ[i]?.getD none = some (.ref p) := by rw [hx]; rfl
      rw [this]
      exact hs'
    · rw [List.getElem?_set_ne e] at hj
      refine (O.slt j t hj).mono .rfl' fun a ht ha => upd_ne fun z => ?_
      subst z
      exact e (O.dis i j s t a h ho hj ht hx (getD_own ha))
  · by_cases e : i = j
    · subst e
      rw [hx] at hx'; cases hx'
      exact ⟨e3, e4, e5⟩
    · rw [List.getElem?_set_ne e] at hj
      exact O.own j t a hj ht hx'
  · have key : ∀ {m : Nat} {t : Sl}, (ρ.set i s')[m]? = some t → IsOwn t → ∃ t', ρ[m]? = some t' ∧ IsOwn t' := fun {m t} hm ht => by
      by_cases e : i = m
      · subst e; exact ⟨s, h, ho⟩
      · rw [List.getElem?_set_ne e] at hm; exact ⟨t, hm, ht⟩
    obtain ⟨u1, k1, k2⟩ := key hj ht
    obtain ⟨u2, k3, k4⟩ := key hl ht'
    exact O.dis j l u1 u2 a k1 k2 k3 k4 h1 h2
/-- a cell is changed -/
theorem Ok.cmut (O : Ok G B W σ H ρ S) {n : Nat} {p : Addr} {c0 c' : Ce} {o' : HO} (hp : W.cs[n]? = some p) (h0 : S[n]? = some c0) (hl : c0 ≠ .dead) (hc : CeAt G W (upd H p o') p c') : Ok G B W σ (upd H p o') ρ (S.set n c') := by
  have hm : p ∈ W.cs := List.mem_of_getElem? hp
  have hn : n < W.cs.length := (List.getElem?_eq_some_iff.mp hp).1
  have hnS : n < S.length := by rw [← O.hp.len]; exact hn
  have hFp : W.F p = none := (O.hp.cel n p c0 hp h0).1 hl
  refine ⟨⟨fun a o e => ?_, O.hp.nd, by rw [List.length_set]; exact O.hp.len, fun k a c h1 h2 => ?_⟩, ⟨O.ex.le, fun a o e hq => ?_, O.ex.nf, O.ex.nc, fun a ha o e => ?_⟩, O.len, fun j t hj => ?_, O.own, O.dis⟩
  · rw [upd_ne (ne_of_none e hFp)]; exact O.hp.sub a o e
  · by_cases e : n = k
    · subst e
      rw [hp] at h1; cases h1
      rw [List.getElem?_set_self hnS] at h2
      cases h2
      exact ⟨fun _ => hFp, hc⟩
    · rw [List.getElem?_set_ne e] at h2
      obtain ⟨g1, g2⟩ := O.hp.cel k a c h1 h2
      have : a ≠ p := fun z => by
        subst z
        have hk := (List.getElem?_eq_some_iff.mp h1)
        have hn' := (List.getElem?_eq_some_iff.mp hp)
        exact e ((List.getElem_inj O.hp.nd).mp (hn'.2.trans hk.2.symm))
      exact ⟨g1, g2.mono .rfl' (upd_ne this)⟩
  · have : a ≠ p := fun z => by
      subst z
      rcases O.ex.nc a hm with z | z
      · exact hq z
      · rw [e] at z; cases z
    rw [upd_ne this]; exact O.ex.kp a o e hq
  · by_cases z : a = p
    · subst z; exact ⟨_, upd_same⟩
    · rw [upd_ne z]; exact O.ex.st a ha o e
  · refine (O.slt j t hj).mono .rfl' fun a ht ha => upd_ne fun z => ?_
    subst z
    exact (O.own j t a hj ht (getD_own ha)).2.2 hm
/-- x.append(e), x a list of one's own -/
def fApp (i : Nat) (f : FE) : FS := fun ρ S => match ρ[i]? with
  | some (.ol ds) => (f ρ S).bindS ρ fun d S1 => if ds.length < 16777216 then .nx (ρ.set i (.ol (ds ++ [d]))) S1 else .fail
  | _ => .fail
theorem mid_own {i : Nat} {s : Sl} (M : Mid G B W H σ ρ S1 W1 H1) (h : ρ[i]? = some s) (ho : IsOwn s) : ∃ p o, σ[i]? = some (some (.ref p)) ∧ H1 p = some o ∧ SlAt G W1 H1 s (some (.ref p)) := by
  obtain ⟨p, o, e1, e2, _, _, _, q⟩ := own_at M.ok h ho
  exact ⟨p, o, e1, e2, q⟩
theorem cs_app (i : Nat) {pn : Pos} {cp : Pos} (hN : X.N[i]? = some x := by rfl) (hv : Vis X.env.scope x := by first | exact Or.inl rfl | exact Or.inr (Or.inl rfl) | exact Or.inr (Or.inr rfl)) (he : PE X e (tE G Wsh f)) (hd : (x == ("__debug__" : Str)) = false := by decide) (hcd : (x == ("__classdict__" : Str)) = false := by decide)
    (hbase : attributeBase (.Name x pn) "append" X.env (eval (.Name x pn) X.env) = eval (.Name x pn) X.env := by rfl)
    (hfew : ((backTo cp (starEach [e] X.env)).all (fun x => !x.1) && (backToKw cp (keywordEach [] X.env)).all (fun x => x.1.isSome)
      && decide (([e] : List Expr).length + ([] : List Keyword).length + (if ([] : List Keyword).isEmpty then 0 else 1) < 30)) = true := by rfl)
    (hline : (apos.endLine == cp.line) = true := by rfl) (hs : starEach [e] X.env = (false, eval e X.env) :: starEach [] X.env := by rfl) (hplain : (backTo cp (starEach [] X.env)).any (·.1) = false := by rfl)
    (hsw : swapsWith (.Call (.Attribute (.Name x pn) "append" apos) [e] [] cp) none pos.line X.env = pure false := by rfl) :
    PS X (.Expr (.Call (.Attribute (.Name x pn) "append" apos) [e] [] cp) pos) (tS G Wsh (fApp i f)) :=
  (ps_expr (pe_bm PySem.F.plainAttrs_list PySem.F.slot_list_append PySem.F.type_list_append mt_append (pv i hN hv hd hcd) (pa_cons he pa_nil hs) hbase hfew hline hs hplain) hsw).imp fun D' σ H ⟨B, W, ρ, S, O, q⟩ => by
    unfold fApp at q
    split at q
    · rename_i ds hi
      obtain ⟨p, o, e1, e2, e3, e4, e5, h1⟩ := own_at O hi trivial
      obtain ⟨xs0, h2, _⟩ := (show ∃ xs, _ from h1)
      refine ⟨.ref p, e1, .inl ⟨rfl, xs0, .of h2⟩, B, W, ρ, S, O, PE'.bindS O q fun v d S1 W1 H1 _ M hr q => ?_⟩
      split at q
      · rename_i hl
        obtain ⟨p', o', e1', e2', h3⟩ := mid_own M hi trivial
        rw [e1] at e1'; cases e1'
        obtain ⟨xs, h4, h5⟩ := (show ∃ xs, _ from h3)
        refine ⟨p, xs, v, rfl, rfl, h4, by rw [sizeLine_eq, ← h5.length]; exact hl, q.nx' .rfl' (M.ok.mut hi trivial e1 trivial ⟨_, upd_same, h5.append (.cons hr .nil)⟩)⟩
      · exact q.elim
    · exact q.elim
/-- x.extend(e) -/
def fExt (i : Nat) (f : FE) : FS := fun ρ S => match ρ[i]? with
  | some (.ol ds) => (f ρ S).bindS ρ fun d S1 => match d with
    | .lst es => if szOk (ds.length + es.length) then .nx (ρ.set i (.ol (ds ++ es))) S1 else .fail
    | _ => .fail
  | _ => .fail
theorem cs_ext (i : Nat) {pn : Pos} {cp : Pos} (hN : X.N[i]? = some x := by rfl) (hv : Vis X.env.scope x := by first | exact Or.inl rfl | exact Or.inr (Or.inl rfl) | exact Or.inr (Or.inr rfl)) (he : PE X e (tE G Wsh f)) (hd : (x == ("__debug__" : Str)) = false := by decide) (hcd : (x == ("__classdict__" : Str)) = false := by decide)
    (hbase : attributeBase (.Name x pn) "extend" X.env (eval (.Name x pn) X.env) = eval (.Name x pn) X.env := by rfl)
    (hfew : ((backTo cp (starEach [e] X.env)).all (fun x => !x.1) && (backToKw cp (keywordEach [] X.env)).all (fun x => x.1.isSome)
      && decide (([e] : List Expr).length + ([] : List Keyword).length + (if ([] : List Keyword).isEmpty then 0 else 1) < 30)) = true := by rfl)
    (hline : (apos.endLine == cp.line) = true := by rfl) (hs : starEach [e] X.env = (false, eval e X.env) :: starEach [] X.env := by rfl) (hplain : (backTo cp (starEach [] X.env)).any (·.1) = false := by rfl)
    (hsw : swapsWith (.Call (.Attribute (.Name x pn) "extend" apos) [e] [] cp) none pos.line X.env = pure false := by rfl) :
    PS X (.Expr (.Call (.Attribute (.Name x pn) "extend" apos) [e] [] cp) pos) (tS G Wsh (fExt i f)) :=
  (ps_expr (pe_bm PySem.F.plainAttrs_list PySem.F.slot_list_extend PySem.F.type_list_extend mt_extend (pv i hN hv hd hcd) (pa_cons he pa_nil hs) hbase hfew hline hs hplain) hsw).imp fun D' σ H ⟨B, W, ρ, S, O, q⟩ => by
    unfold fExt at q
    split at q
    · rename_i ds hi
      obtain ⟨p, o, e1, e2, e3, e4, e5, h1⟩ := own_at O hi trivial
      obtain ⟨xs0, h2, _⟩ := (show ∃ xs, _ from h1)
      refine ⟨.ref p, e1, .inl ⟨rfl, xs0, .of h2⟩, B, W, ρ, S, O, PE'.bindS O q fun v d S1 W1 H1 _ M hr q => ?_⟩
      cases d <;> first | exact q.elim | skip
      rename_i es' _
      dsimp only at q
      split at q
      · rename_i hl
        obtain ⟨p', o', e1', e2', h3⟩ := mid_own M hi trivial
        rw [e1] at e1'; cases e1'
        obtain ⟨xs, h4, h5⟩ := (show ∃ xs, _ from h3)
        obtain ⟨b, zs, rfl, hb, h6⟩ := (show ∃ a xs, _ from hr)
        refine ⟨p, b, xs, zs, rfl, rfl, h4, M.ok.hp.sub _ _ hb, by rw [← h5.length, ← h6.length]; exact szOk_line hl, q.nx' .rfl' (M.ok.mut hi trivial e1 trivial ⟨_, upd_same, h5.append h6⟩)⟩
      · exact q.elim
    · exact q.elim
end
end Dl
end
section
set_option Elab.async false
set_option linter.all false
set_option maxRecDepth 100000
set_option maxHeartbeats 1000000
/-! The deep layer: targets, loops, comprehensions. -/
namespace Dl
open PySem L2
section
variable {X : Cx} {G : Gh} {Wsh : WX} {a b c e o : Expr} {es : List Expr} {f g h f' : FE} {fa ga : FA} {pos p p2 p3 apos : Pos} {x y : Str} {k n : Nat} {fs gs : FS}
variable {B : Wd × Hp} {W W1 : Wd} {σ : L2.St} {H H1 : Hp} {ρ : Env} {S S1 : Sto} {st : Stmt} {rest : List Stmt} {tg : Expr}

/-! ### targets -/
abbrev GD := D → Env → Sto → Option (Env × Sto)
abbrev GDs := List D → Env → Sto → Option (Env × Sto)
def tG (G : Gh) (g : GD) : TG := fun v σ H Q => ∃ B W ρ S d, Ok G B W σ H ρ S ∧ Rep G W d v ∧ match g d ρ S with
  | some (ρ', S') => ∀ σ' W' H', WLe W W' → Ok G B W' σ' H' ρ' S' → Q σ' H'
  | none => False
def tGs (G : Gh) (g : GDs) : TGs := fun vs σ H Q => ∃ B W ρ S ds, Ok G B W σ H ρ S ∧ RepL G W ds vs ∧ match g ds ρ S with
  | some (ρ', S') => ∀ σ' W' H', WLe W W' → Ok G B W' σ' H' ρ' S' → Q σ' H'
  | none => False
theorem _root_.L2.PG.imp {e : Expr} {t t' : TG} (h : PG X e t) (k : ∀ v σ H Q, t' v σ H Q → t v σ H Q) : PG X e t' := ⟨fun pins s σ H v u Q I r q => h.run pins s σ H v u Q I r (k v σ H Q q)⟩
theorem _root_.L2.PGs.imp {e : List Expr} {t t' : TGs} (h : PGs X e t) (k : ∀ v σ H Q, t' v σ H Q → t v σ H Q) : PGs X e t' := ⟨fun pins s σ H v u Q I r q => h.run pins s σ H v u Q I r (k v σ H Q q)⟩
def gV (i : Nat) : GD := fun d ρ S => some (ρ.set i (.v d), S)
theorem cg_name {i : Nat} (hN : X.N.Nodup) (hi : X.N[i]? = some x) (hx : Loc X.env.scope x) (hf : X.fn x = true ∨ X.env.scope.names.lookup x = some .local := by first | exact .inl rfl | exact .inr rfl) : PG X (.Name x pos) (tG G (gV i)) :=
  (pg_name hN hi hx hf).imp fun v σ H Q ⟨B, W, ρ, S, d, O, hr, q⟩ => q _ W H .rfl' (O.setv hr)
def gNilD : GDs := fun ds ρ S => match ds with
  | [] => some (ρ, S)
  | _ => none
def gConsD (g : GD) (gs : GDs) : GDs := fun ds ρ S => match ds with
  | d :: ds => match g d ρ S with
    | some (ρ', S') => gs ds ρ' S'
    | none => none
  | [] => none
theorem cgs_nil : PGs X [] (tGs G gNilD) := pgs_nil.imp fun v σ H Q ⟨B, W, ρ, S, ds, O, hr, q⟩ => by
  cases ds with
  | nil => exact ⟨hr, q σ W H .rfl' O⟩
  | cons d ds => exact q.elim
theorem cgs_cons {t : Expr} {ts : List Expr} {g : GD} {gs : GDs} (h1 : PG X t (tG G g)) (h2 : PGs X ts (tGs G gs)) (hs : (assignEach (t :: ts) X.env).map (·.2) = assign t X.env :: (assignEach ts X.env).map (·.2) := by rfl) : PGs X (t :: ts) (tGs G (gConsD g gs)) :=
  (pgs_cons h1 h2 hs).imp fun v σ H Q ⟨B, W, ρ, S, ds, O, hr, q⟩ => by
    cases ds with
    | nil => exact q.elim
    | cons d ds =>
      obtain ⟨x, r, rfl, hx, hr⟩ := (show ∃ x r, _ from hr)
      refine ⟨x, r, rfl, B, W, ρ, S, d, O, hx, ?_⟩
      simp only [gConsD] at q
      cases e : g d ρ S with
      | none => rw [e] at q; exact q.elim
      | some p =>
        obtain ⟨ρ', S'⟩ := p
        simp only [e] at q ⊢
        intro σ' W' H' l o
        refine ⟨B, W', ρ', S', ds, o, RepL.mono l _ _ hr, ?_⟩
        cases e2 : gs ds ρ' S' with
        | none => rw [e2] at q; exact q.elim
        | some p2 =>
          obtain ⟨ρ2, S2⟩ := p2
          simp only [e2] at q ⊢
          exact fun σ2 W2 H2 l2 o2 => q σ2 W2 H2 (l.trans l2) o2
def gTupD (n : Nat) (gs : GDs) : GD := fun d ρ S => match d with
  | .tup ds => if ds.length = n then gs ds ρ S else none
  | .kt ds => if ds.length = n then gs ds ρ S else none
  | _ => none
theorem cg_tup {ts : List Expr} {kk n : Nat} {gs : GDs} (hK : G.K = X.K) (hc : X.calm = true) (h : PGs X ts (tGs G gs)) (hn : (assignEach ts X.env).length = n := by rfl) (hst : (assignEach ts X.env).findIdx? (·.1) = none := by rfl) : PG X (.Tuple ts kk pos) (tG G (gTupD n gs)) :=
  (pg_tup hc h hn hst).imp fun v σ H Q ⟨B, W, ρ, S, d, O, hr, q⟩ => by
    cases d <;> first | exact q.elim | skip
    · rename_i ds
      obtain ⟨p, xs, rfl, e1, l⟩ := (show ∃ a xs, _ from hr)
      simp only [gTupD] at q
      by_cases hl : ds.length = n
      · rw [if_pos hl] at q
        exact ⟨p, xs, rfl, .of (O.hp.sub _ _ e1), l.length.symm.trans hl, B, W, ρ, S, ds, O, l, q⟩
      · rw [if_neg hl] at q; exact q.elim
    · rename_i ds
      obtain ⟨p, xs, rfl, e1, l⟩ := (show ∃ a xs, _ from hr)
      simp only [gTupD] at q
      by_cases hl : ds.length = n
      · rw [if_pos hl] at q
        exact ⟨p, xs, rfl, .inr (hK ▸ e1), l.length.symm.trans hl, B, W, ρ, S, ds, O, l, q⟩
      · rw [if_neg hl] at q; exact q.elim
/-- target = value -/
def fAsg (g : GD) (f : FE) : FS := fun ρ S => (f ρ S).bindS ρ fun d S1 => match g d ρ S1 with
  | some (ρ', S') => .nx ρ' S'
  | none => .fail
theorem asg_ok {D' : Ends} {g : GD} {v : V} {d : D} {k : Sto → RS} (O : Ok G B W σ H ρ S) (hr : Rep G W d v) (q : PS' G Wsh B W D' (match g d ρ S with | some (ρ', S') => .nx ρ' S' | none => .fail)) : tG G g v σ H D'.nx := by
  refine ⟨B, W, ρ, S, d, O, hr, ?_⟩
  cases e : g d ρ S with
  | none => rw [e] at q; exact q.elim
  | some p =>
    obtain ⟨ρ', S'⟩ := p
    simp only [e] at q ⊢
    exact fun σ' W' H' l o => q σ' W' H' l o
theorem cs_asg {g : GD} (hg : PG X tg (tG G g)) (he : PE X e (tE G Wsh f)) (hs : swapsWithSole [tg] e pos.line X.env = pure false := by rfl) (hw : swappedStores [tg] e X.env = pure none := by rfl) (h1 : (assignEach [tg] X.env).map (·.2) = [assign tg X.env] := by rfl) :
    PS X (.Assign [tg] e pos) (tS G Wsh (fAsg g f)) :=
  (ps_asg he hg hs hw h1).imp fun D' σ H ⟨B, W, ρ, S, O, q⟩ => ⟨B, W, ρ, S, O, PE'.bindS O q fun v d S1 W1 H1 _ M hr q => asg_ok (k := fun _ => .fail) M.ok hr q⟩

/-! ### what is walked -/
/-- the walk J gives the items ds, while W's things stand -/
structure IterOk (G : Gh) (J : It) (W : Wd) (ds : List D) : Prop where
  w : Walk J ds.length (fun H => ∃ W' S', HpOk G W' H S' ∧ WLe W W') (fun i H x H' => ∀ d, ds[i]? = some d → ∀ W' S', HpOk G W' H S' → WLe W W' → ∃ W2, Ext W' H W2 H' ∧ HpOk G W2 H' S' ∧ Rep G W2 d x)
def PI' (G : Gh) (Wsh : WX) (σ : L2.St) (W : Wd) (H : Hp) (R : It → Hp → Prop) : RA → Prop
  | .ok ds S' => ∀ J W' H', Ext W H W' H' → HpOk G W' H' S' → IterOk G J W' ds → R J H'
  | .exc c fs S' => ∀ cls dx W' H', Ext W H W' H' → HpOk G W' H' S' → ExcRep G W' H' c fs cls dx → Wsh cls dx σ H'
  | .fail => False
def tI (G : Gh) (Wsh : WX) (f : FA) : TI := fun σ H R => ∃ B W ρ S, Ok G B W σ H ρ S ∧ PI' G Wsh σ W H R (f ρ S)
/-- for every turn, what the body does -/
def forD (g : GD) (body : FS) : List D → FS
  | [], ρ, S => .nx ρ S
  | d :: ds, ρ, S => match g d ρ S with
    | some (ρ1, S1) => match body ρ1 S1 with
      | .nx ρ2 S2 => forD g body ds ρ2 S2
      | .ct ρ2 S2 => forD g body ds ρ2 S2
      | .bk ρ2 S2 => .nx ρ2 S2
      | r => r
    | none => .fail
def RA.bindS (r : RA) (ρ : Env) (k : List D → Sto → RS) : RS := match r with
  | .ok d S => k d S
  | .exc c fs S => .exc c fs ρ S
  | .fail => .fail
def fFor (fi : FA) (g : GD) (body : FS) : FS := fun ρ S => (fi ρ S).bindS ρ fun ds S1 => forD g body ds ρ S1
theorem PI'.bindS {D' : Ends} {R : It → Hp → Prop} {k : List D → Sto → RS} (O : Ok G B W σ H ρ S) : ∀ {r : RA}, PS' G Wsh B W D' (r.bindS ρ k) →
    (∀ J ds S1 W1 H1, Mid G B W H σ ρ S1 W1 H1 → IterOk G J W1 ds → PS' G Wsh B W1 D' (k ds S1) → R J H1) → PI' G Wsh σ W H R r
  | .ok ds S1, h, q => fun J W' H' e o i => q J ds S1 W' H' ⟨e, O.ext e o⟩ i (PS'.at e.le h)
  | .exc _ _ _, h, _ => fun cls dx W' H' e o er => h cls dx σ W' H' (O.ext e o) er
  | .fail, h, _ => h.elim
theorem cs_for {iter : Expr} {body : List Stmt} {g : GD} {fi : FA} (hp : PassesOwn (model X.prog X.w) X.A X.env X.xe) (hc : X.calm = true) (hi : PI X tg iter (tI G Wsh fi)) (hg : PG X tg (tG G g)) (hb : PSs X body (tS G Wsh fs))
    (hs : ∀ x, foldedSetIterable iter X.env x = pure x := by intro _; rfl) : PS X (.For tg iter body [] pos) (tS G Wsh (fFor fi g fs)) :=
  (ps_for hp hc hi hg hb hs).imp fun D' σ H ⟨B, W, ρ, S, O, q⟩ => ⟨B, W, ρ, S, O, PI'.bindS O q fun J ds S1 W1 H1 M io q => by
    refine for_it io.w (fun i σ H => ∃ W ρ S, Ok G B W σ H ρ S ∧ WLe W1 W ∧ PS' G Wsh B W1 D' (forD g fs (ds.drop i) ρ S)) ⟨W1, ρ, S1, M.ok, .rfl', q⟩ (fun i σ H _ ⟨W, ρ, S, O, l, _⟩ => ⟨W, S, O.hp, l⟩)
      (fun i x σ H H' hi ⟨W, ρ, S, O, l, q⟩ hy => ?_) (fun σ H ⟨W, ρ, S, O, l, q⟩ => ?_)
    · have e : ds.drop i = ds[i] :: ds.drop (i + 1) := (List.getElem_cons_drop (h := hi)).symm
      rw [e] at q
      obtain ⟨W2, e2, o2, r2⟩ := hy ds[i] (List.getElem?_eq_getElem hi) W S O.hp l
      have O2 := O.ext e2 o2
      refine ⟨B, W2, ρ, S, ds[i], O2, r2, ?_⟩
      rw [forD] at q
      cases eg : g ds[i] ρ S with
      | none => simp only [eg] at q; exact q.elim
      | some pr =>
        obtain ⟨ρ1, S3⟩ := pr
        simp only [eg] at q ⊢
        intro σ3 W3 H3 l3 O3
        refine ⟨B, W3, ρ1, S3, O3, ?_⟩
        have l13 : WLe W1 W3 := (l.trans e2.le).trans l3
        generalize fs ρ1 S3 = r at q ⊢
        cases r with
        | nx ρ4 S4 => exact fun σ4 W4 H4 l4 O4 => ⟨W4, ρ4, S4, O4, l13.trans l4, q⟩
        | ct ρ4 S4 => exact fun σ4 W4 H4 l4 O4 => ⟨W4, ρ4, S4, O4, l13.trans l4, q⟩
        | bk ρ4 S4 => exact fun σ4 W4 H4 l4 O4 => q σ4 W4 H4 (l13.trans l4) O4
        | rt d S4 => exact q
        | exc c fs ρ4 S4 => exact q
        | fail => exact q
    · rw [List.drop_length] at q
      exact q σ W H l O⟩
/-- while -/
def whileD (c : FE) (body : FS) : Nat → FS
  | 0, _, _ => .fail
  | n + 1, ρ, S => (c ρ S).bindS ρ fun d S1 => match d with
    | .bl true => match body ρ S1 with
      | .nx ρ2 S2 => whileD c body n ρ2 S2
      | .ct ρ2 S2 => whileD c body n ρ2 S2
      | .bk ρ2 S2 => .nx ρ2 S2
      | r => r
    | .bl false => .nx ρ S1
    | _ => .fail
theorem cs_while (m : Nat) {body : List Stmt} (hp : PassesOwn (model X.prog X.w) X.A X.env X.xe) (hc : PT X c (tT G Wsh f)) (hb : PSs X body (tS G Wsh fs)) : PS X (.While c body [] pos) (tS G Wsh (whileD f fs m)) :=
  (ps_while hp hc hb).imp fun D' σ H ⟨B, W, ρ, S, O, q⟩ => by
    refine ⟨fun m σ H => ∃ W1 ρ S, Ok G B W1 σ H ρ S ∧ WLe W W1 ∧ PS' G Wsh B W1 D' (whileD f fs m ρ S), ⟨m, W, ρ, S, O, .rfl', q⟩, fun m σ H ⟨W1, ρ, S, O, l, q⟩ => ?_⟩
    cases m with
    | zero => exact q.elim
    | succ m =>
      rw [whileD] at q
      refine ⟨B, W1, ρ, S, O, PE'.bindS O q fun v d S1 W2 H2 _ M hr q => ?_⟩
      cases d with
      | bl bb =>
        refine ⟨bb, hr, ?_⟩
        have l2 : WLe W W2 := l.trans M.ex.le
        cases bb with
        | true =>
          refine iteT ⟨fun σ H => ∃ W1 ρ S, Ok G B W1 σ H ρ S ∧ WLe W W1 ∧ PS' G Wsh B W1 D' (whileD f fs m ρ S), fun σ' H' h => ⟨m, Nat.lt_succ_self m, h⟩, B, W2, ρ, S1, M.ok, ?_⟩
          dsimp only at q
          generalize fs ρ S1 = r at q ⊢
          cases r with
          | nx ρ4 S4 => exact fun σ4 W4 H4 l4 O4 => ⟨W4, ρ4, S4, O4, l2.trans l4, PS'.at l4 q⟩
          | ct ρ4 S4 => exact fun σ4 W4 H4 l4 O4 => ⟨W4, ρ4, S4, O4, l2.trans l4, PS'.at l4 q⟩
          | bk ρ4 S4 => exact fun σ4 W4 H4 l4 O4 => q σ4 W4 H4 l4 O4
          | rt d S4 => exact q
          | exc c fs ρ4 S4 => exact q
          | fail => exact q
        | false =>
          exact iteF (q σ W2 H2 .rfl' M.ok)
      | _ => exact q.elim
end
end Dl
end
section
set_option Elab.async false
set_option linter.all false
set_option maxRecDepth 100000
set_option maxHeartbeats 1000000
/-! The deep layer: what is walked: lists, tuples, texts, ranges; enumerate and zip over any of them. -/
namespace PySem
open Sem (wp)
set_option maxHeartbeats 1000000 in
theorem dl_meets_enum {v : Value} {o : Obj} {H : Heap → Prop} (B : Begins v o H) :
    Meets (Builtin.«enumerate.__new__» ⟨[.type "enumerate", v], []⟩) (fun _ R s => H s.heap ∧
      R (.ok (.ret (.ref (s.heap.push o).objs.size))) { s with heap := (s.heap.push o).push { cls := .type "enumerate", data := .fields #[.none, .bool false, .ref s.heap.objs.size, rawInt 0, .none, .none] } }) :=
  .of_wp fun prog w A R s h => by
    obtain ⟨hp, g, d, tk, os⟩ := s; obtain ⟨h1, h⟩ := h
    have hsub := sub_enumerate
    have q1 : ∀ {A' : Around} {E : Value → Shared → Prop} {Q : Value → Shared → Prop}, Q (.ref hp.objs.size) ⟨hp.push o, g, d, tk, os⟩ → wpAny (model prog w) A' (pyIter v) Q E ⟨hp, g, d, tk, os⟩ :=
      fun q => B.iter prog w _ _ ⟨hp, g, d, tk, os⟩ _ h1 q
    wp_walk using q1
    refine wpAny_stack_any fun st => wpAny_pure ?_
    split
    · rename_i c _ _ _ _ _
      cases (c == Value.type "enumerate")
      · wp_walk using q1
        exact ⟨_, rfl, h⟩
      · wp_walk using q1
        exact ⟨_, rfl, h⟩
    · wp_walk using q1
      exact ⟨_, rfl, h⟩
theorem dl_enum_begins {prog : Program} {w : World} {A : Around} {E : Value → Shared → Prop} {s : Shared} {v : Value} {o : Obj} {H : Heap → Prop} {Q : Value → Shared → Prop} (B : Begins v o H) (h1 : H s.heap)
    (h : ∀ h', IsEnum h' (s.heap.objs.size + 1) s.heap.objs.size 0 .none → h'.get? s.heap.objs.size = some o → h'.objs.size = s.heap.objs.size + 2 →
      (∀ b o, s.heap.get? b = some o → h'.get? b = some o) → Q (.ref (s.heap.objs.size + 1)) { s with heap := h' }) :
    wpAny (model prog w) A (call (.type "enumerate") [v]) Q E s := by
  refine callType_new F.called_enumerate (by decide) (F.typeCall_enumerate_1 _) (F.newCall_enumerate_1 _) (fun obj => F.args_object_init_2 obj _) F.entry_enumerate_new
    (dl_meets_enum B) ⟨h1, ?_⟩
  have hz : (s.heap.push o).objs.size = s.heap.objs.size + 1 := Heap.size_push ..
  show _ ∧ _
  rw [hz]
  have he : IsEnum ((s.heap.push o).push { cls := .type "enumerate", data := .fields #[.none, .bool false, .ref s.heap.objs.size, rawInt 0, .none, .none] }) (s.heap.objs.size + 1) s.heap.objs.size 0 .none := by
    have := Heap.get?_push_size (s.heap.push o) (o := { cls := .type "enumerate", data := .fields #[.none, .bool false, .ref s.heap.objs.size, rawInt 0, .none, .none] }) rfl
    rw [hz] at this; exact this
  refine ⟨⟨_, he, rfl⟩, h _ he (Heap.get?_push_of_some _ (Heap.get?_push_size _ B.free)) (by rw [Heap.size_push, hz]) fun b o x => Heap.get?_push_of_some _ (Heap.get?_push_of_some _ x)⟩
end PySem
namespace Dl
open PySem L2
/-- a thing to walk -/
inductive Sk where
  | ls (a : Addr) | tp (a : Addr) | tx (x : Str) (t : Tok)
def Sk.v : Sk → Value
  | .ls a => .ref a
  | .tp a => .ref a
  | .tx x t => .str x t
def SkAt (K : PySem.W.Frag) (H : Hp) : Sk → List V → Prop
  | .ls a, xs => SqL K H a xs
  | .tp a, xs => SqT K H a xs
  | .tx x _, xs => xs = x.cps.toList.map fun c => V.str ⟨#[c]⟩
def SkSt : Sk → Addr → Nat → Heap → Prop
  | .ls a, it, i, h => h.IsListIter it a i
  | .tp a, it, i, h => h.IsTupleIter it a i
  | .tx x t, it, i, h => h.IsStrIter it (strIterType x) x t i
def Sk.ob : Sk → Obj
  | .ls a => { cls := .type "list_iterator", data := .fields #[.ref a, .int 0 0] }
  | .tp a => { cls := .type "tuple_iterator", data := .fields #[.ref a, .int 0 0] }
  | .tx x t => { cls := .type (strIterType x), data := .fields #[.str x t, .int 0 0] }
/-- b is not the thing -/
def SkOut : Sk → Addr → Prop
  | .ls a, b => b ≠ a
  | .tp a, b => b ≠ a
  | .tx _ _, _ => True
section
variable {X : Cx} {pins : List (Addr × Obj)} {σ : L2.St} {H : Hp} {s : Shared} {k : Sk} {xs ys : List V}
theorem SkSt.obj {k : Sk} {it : Addr} {i : Nat} {h : Heap} (st : SkSt k it i h) : ∃ o, h.get? it = some o ∧ ∀ v, o.data ≠ .cell v := by
  cases k with
  | ls a => obtain ⟨o, e, c, d⟩ := (show ∃ o, _ from st); exact ⟨o, e, fun v z => by rw [d] at z; cases z⟩
  | tp a => obtain ⟨o, e, c, d⟩ := (show ∃ o, _ from st); exact ⟨o, e, fun v z => by rw [d] at z; cases z⟩
  | tx x t => obtain ⟨o, e, c, d⟩ := (show ∃ o, _ from st); exact ⟨o, e, fun v z => by rw [d] at z; cases z⟩
theorem SkSt.at {k : Sk} {it : Addr} {i : Nat} {h h' : Heap} (st : SkSt k it i h) (q : ∀ o, h.get? it = some o → h'.get? it = some o) : SkSt k it i h' := by
  cases k with
  | ls a => obtain ⟨o, e, r⟩ := (show ∃ o, _ from st); exact ⟨o, q o e, r⟩
  | tp a => obtain ⟨o, e, r⟩ := (show ∃ o, _ from st); exact ⟨o, q o e, r⟩
  | tx x t => obtain ⟨o, e, r⟩ := (show ∃ o, _ from st); exact ⟨o, q o e, r⟩
theorem SkAt.inj (I : Inv X pins σ H s) (h : SkAt X.K H k xs) (h' : SkAt X.K H k ys) : xs = ys := by
  cases k with
  | ls a => exact I.list_inj h h'
  | tp a => exact I.tuple_inj h h'
  | tx x t => exact (show xs = _ from h).trans (show ys = _ from h').symm
theorem vals_get' {xs : List V} {us : List Value} {i : Nat} {u : Value} (r : Vals xs us) (e : us[i]? = some u) : ∃ x, xs[i]? = some x ∧ RelV x u := by
  have hi : i < xs.length := by rw [r.length]; exact (List.getElem?_eq_some_iff.mp e).1
  obtain ⟨u', h1, h2⟩ := r.get (List.getElem?_eq_getElem hi)
  rw [e] at h1; cases h1
  exact ⟨_, List.getElem?_eq_getElem hi, h2⟩
/-- what its iterator draws -/
theorem SkAt.draws {A : Around} (hh : A.handled = none) (I : Inv X pins σ H s) (h : SkAt X.K H k xs) {it : Addr} (ho : SkOut k it) :
    ∃ (fp : List Addr) (P : Nat → Value → Prop) (St : Nat → Heap → Prop), Draws X.prog X.w A it fp xs.length P St ∧ (∀ i v, P i v → ∃ x, xs[i]? = some x ∧ RelV x v) ∧ (∀ i, SkSt k it i s.heap → St i s.heap) ∧
      (∀ i h, St i h → SkSt k it i h) ∧ it ∈ fp ∧ ∀ b ∈ fp, b = it ∨ ¬ SkOut k b := by
  cases k with
  | ls a =>
    obtain ⟨its, rv, p, hz⟩ := I.list h
    have hl : its.toArray.size = xs.length := by rw [rv.length]; simp
    refine ⟨[it, a], _, _, hl ▸ Draws.list hh it a (Ne.symm ho) its.toArray, fun i v hv => ?_, fun i st => ⟨st, p.isList⟩, fun i h st => st.1, by simp, fun b hb => ?_⟩
    · exact vals_get' rv (by simpa using hv)
    · have e : b = it ∨ b = a := by simpa using hb
      exact e.imp id fun z q => q z
  | tp a =>
    obtain ⟨its, rv, p, hz⟩ := I.tuple h
    have hl : its.toArray.size = xs.length := by rw [rv.length]; simp
    refine ⟨[it, a], _, _, hl ▸ Draws.tuple hh it a (Ne.symm ho) its.toArray, fun i v hv => ?_, fun i st => ⟨st, p⟩, fun i h st => st.1, by simp, fun b hb => ?_⟩
    · exact vals_get' rv (by simpa using hv)
    · have e : b = it ∨ b = a := by simpa using hb
      exact e.imp id fun z q => q z
  | tx x t =>
    have h : xs = _ := h
    subst h
    have hl : x.cps.size = (x.cps.toList.map fun c => V.str ⟨#[c]⟩).length := by simp
    refine ⟨[it], _, _, hl ▸ Draws.text hh it x t, fun i v hv => ?_, fun i st => st, fun i h st => st, by simp, fun b hb => .inl (by simpa using hb)⟩
    obtain ⟨c, u, e, rfl⟩ := hv
    exact ⟨.str ⟨#[c]⟩, by simp [e], ⟨u, rfl⟩⟩
theorem SkAt.begins (I : Inv X pins σ H s) (h : SkAt X.K H k xs) : ∃ Hh, Begins k.v k.ob Hh ∧ Hh s.heap := by
  cases k with
  | ls a => obtain ⟨its, rv, p, hz⟩ := I.list h; exact ⟨_, begins_list a its.toArray, p.isList⟩
  | tp a => obtain ⟨its, rv, p, hz⟩ := I.tuple h; exact ⟨_, begins_tuple a its.toArray, p⟩
  | tx x t => exact ⟨_, begins_text x t, trivial⟩
theorem SkAt.lt (I : Inv X pins σ H s) (h : SkAt X.K H k xs) {b : Addr} (hb : s.heap.objs.size ≤ b) : SkOut k b := by
  cases k with
  | ls a =>
    obtain ⟨its, rv, p, hz⟩ := I.list h
    exact fun e => absurd p.lt (by rw [← e]; exact Nat.not_lt.mpr hb)
  | tp a =>
    obtain ⟨its, rv, p, hz⟩ := I.tuple h
    obtain ⟨o, ho, _⟩ := id p
    exact fun e => absurd (Heap.lt_size ho) (by rw [← e]; exact Nat.not_lt.mpr hb)
  | tx x t => trivial
theorem sk_ob {h : Heap} {it : Addr} (e : h.get? it = some k.ob) : SkSt k it 0 h := by
  cases k with
  | ls a => exact ⟨_, e, rfl, rfl⟩
  | tp a => exact ⟨_, e, rfl, rfl⟩
  | tx x t => exact ⟨_, e, rfl, rfl⟩
end
/-! ### enumerate -/
def ItE (K : PySem.W.Frag) (k : Sk) : It :=
  ⟨fun i H => ∃ (xs : List V) (x : V), SkAt K H k xs ∧ xs[i]? = some x, fun i H v H' => ∃ T x, v = .ref T ∧ H T = none ∧ H' = upd H T (.tup [.int (i : Nat), x]) ∧ ∀ xs, SkAt K H k xs → xs[i]? = some x, fun i H => ∃ xs : List V, SkAt K H k xs ∧ xs.length = i⟩
theorem turn_enumS {P : Program} {w : World} {K : PySem.W.Frag} {elts : List Expr} {kk : Nat} {tpos : Pos} (k : Sk) (e it : Addr) :
    Turn P w K (.Tuple elts kk tpos) (ItE K k) [e, it] e (fun i h => (∃ old, IsEnum h e it ((i : Nat) : Int) old) ∧ SkSt k it i h ∧ e ≠ it ∧ SkOut k e ∧ SkOut k it) where
  mem := by simp
  obj := fun i h st b hb => by
    obtain ⟨⟨old, he⟩, hi, _⟩ := st
    have e' : b = e ∨ b = it := by simpa using hb
    rcases e' with z | z
    · rw [z]; exact ⟨_, he, fun v q => nomatch q⟩
    · rw [z]; exact hi.obj
  keep := fun i h h' st k => let ⟨⟨old, he⟩, hi, hne⟩ := st; ⟨⟨old, k e (by simp) _ he⟩, hi.at fun o q => k it (by simp) o q, hne⟩
  item := by
    intro X hP hw hK hc i pins s σ H E I hf st hg
    subst hP hw hK
    obtain ⟨⟨old, he⟩, hit, hne, oe, oi⟩ := st
    obtain ⟨xs, x, hq, hx⟩ := hg
    obtain ⟨fp, P, St, D, hP, hS, hS', hm, hfp⟩ := hq.draws (A := X.A.in1) (I.ok.hd hc) I oi
    have hel : e < s.heap.objs.size := Heap.lt_size he
    have hil : it < s.heap.objs.size := by obtain ⟨_, q, _⟩ := hit.obj; exact Heap.lt_size q
    have hef : e ∉ fp := fun z => (hfp e z).elim hne fun q => q oe
    refine wpAny_pyNext_enum_itemD D he (hS i hit) (List.getElem?_eq_some_iff.mp hx).1 hne hef fun u h' tk hu ho hit' hT hsz hk => ?_
    obtain ⟨x', hx', ru⟩ := hP i u hu
    rw [hx] at hx'; cases hx'
    refine ⟨_, rfl, wpAny_letOwnedTupleGo_enum (s := { s with heap := h', toks := tk + 1 }) ho fun h'' he' sb => ?_⟩
    have hT2 : h''.get? s.heap.objs.size = some { cls := .type "tuple", data := .seq #[.int i tk, u] } := (sb.2 _ (Nat.ne_of_gt hel)).trans hT
    have new : ObjOk X.prog X.w (upd H s.heap.objs.size (.tup [.int (i : Nat), x])) h'' s.heap.objs.size (.tup [.int (i : Nat), x]) :=
      ⟨by show 2 ≤ sizeLine; decide, [.int i tk, u], .cons ⟨_, rfl⟩ (.cons ru .nil), ⟨_, hT2, rfl, _, rfl⟩⟩
    have I1 : Inv X pins σ (upd H s.heap.objs.size (.tup [.int (i : Nat), x])) { s with heap := h'', toks := tk + 1 } :=
      I.turnedNew (ch := [e, it]) (fun b ob hb q => (sb.2 b (fun z => hb (by simp [z]))).trans (hk b ob (fun z => hb (by simp [z])) (fun z => hb (by simp [z])) q)) hf (Nat.le_refl _) new
    refine ⟨.ref s.heap.objs.size, _, I1, rfl, ⟨_, x, rfl, I.hok.fresh (Nat.le_refl _), rfl, fun ys hy => by rw [SkAt.inj I hy hq]; exact hx⟩, ⟨⟨u, ?_⟩, (hS' _ _ hit').at fun o q => (sb.2 it (Ne.symm hne)).trans q, hne, oe, oi⟩, fun b hb => ?_⟩
    · have e1 : ((i + 1 : Nat) : Int) = (i : Int) + 1 := by omega
      rw [e1]; exact he'
    · have hb' : b < s.heap.objs.size := by
        have e' : b = e ∨ b = it := by simpa using hb
        rcases e' with z | z
        · rw [z]; exact hel
        · rw [z]; exact hil
      rw [upd_ne (Nat.ne_of_lt hb')]
      exact (hf b hb).1
  done := by
    intro X hP hw hK hc i pins s σ H E I hf st hg
    subst hP hw hK
    obtain ⟨⟨old, he⟩, hit, hne, oe, oi⟩ := st
    obtain ⟨xs, hq, hx⟩ := hg
    obtain ⟨fp, P, St, D, hP, hS, hS', hm, hfp⟩ := hq.draws (A := X.A.in1) (I.ok.hd hc) I oi
    obtain ⟨f0, f1, f2, f3, f4, f5⟩ := hf it (by simp)
    exact wpAny_pyNext_enum_endD D he (hx ▸ hS i hit) fun h' eb => ⟨rfl, I.turned (t' := s.toks) (fun b o hb q => eb b o hb q) f0 f1 f3 f4 f5⟩
  self := fun A i s Q E st h => let ⟨⟨_, he⟩, _⟩ := st; wpAny_pyIter_enum he h
def iEnumS (K : PySem.W.Frag) (ta : TA) : TI := fun σ H R => ta σ H fun vs H1 => ∃ v, vs = [v] ∧ ∀ u, RelV v u → ∃ k xs, u = Sk.v k ∧ SkAt K H1 k xs ∧ R (ItE K k) H1
theorem pi_enumS {X : Cx} {e : Expr} {ta : TA} {p pos tpos : Pos} {elts : List Expr} {kk : Nat} (hg : Gl X "enumerate") (hm : X.mg "enumerate" = none) (ha : PA X [e] ta) (hs : starEach [e] X.env = [(false, eval e X.env)] := by rfl) :
    PI X (.Tuple elts kk tpos) (.Call (.Name "enumerate" p) [e] [] pos) (iEnumS X.K ta) := by
  refine ⟨fun pins s σ H R I h => ?_⟩
  refine PyProof.Rows.Call_ (ld_blt I hg hm PyProof.Rows.boot_enumerate (PyProof.Rows.callWith_type1 (thn (ha.run pos pins s σ H _ I h) fun us s1 ⟨vs, H1, I1, r1, q1⟩ => ?_) hs rfl))
  obtain ⟨v, ex, q⟩ := q1
  subst ex
  cases r1 with
  | cons r rr =>
    cases rr
    obtain ⟨k, xs, rfl, hq, q⟩ := q _ r
    obtain ⟨Hh, hb, hh⟩ := hq.begins I1
    refine dl_enum_begins hb hh fun h' he hit hsz hk => wpAny_pyIter_enum he ?_
    have I2 : Inv X pins σ H1 { s1 with heap := h' } := I1.kept (t' := s1.toks) hk
    refine ⟨s1.heap.objs.size + 1, [s1.heap.objs.size + 1, s1.heap.objs.size], _, _, H1, rfl, I2, turn_enumS k (s1.heap.objs.size + 1) s1.heap.objs.size, ⟨⟨.none, he⟩, sk_ob hit, Nat.succ_ne_self _, hq.lt I1 (Nat.le_succ _), hq.lt I1 (Nat.le_refl _)⟩, fun b hb => ?_, q⟩
    have e' : b = s1.heap.objs.size + 1 ∨ b = s1.heap.objs.size := by simpa using hb
    have hle : s1.heap.objs.size ≤ b := by
      rcases e' with z | z
      · rw [z]; exact Nat.le_add_right _ _
      · rw [z]; exact Nat.le_refl _
    exact I1.fpOk hle (I1.hok.fresh hle)
theorem walk_enumS {K : PySem.W.Frag} {k : Sk} {xs : List V} : Walk (ItE K k) xs.length (fun H => SkAt K H k xs) (YPair (fun i => some (.int (i : Nat))) (fun i => xs[i]?)) := by
  refine ⟨fun i _ hi q => ⟨xs, xs[i], q, by simp [hi]⟩, fun _ q => ⟨xs, q, rfl⟩, fun i H v H' _ q y => ?_⟩
  obtain ⟨T, x, h1, h2, h3, h4⟩ := y
  exact ⟨T, .int (i : Nat), x, h1, h2, h3, rfl, h4 xs q⟩
/-! ### zip -/
def ItZ (K : PySem.W.Frag) (k l : Sk) : It :=
  ⟨fun i H => ∃ (xs ys : List V) (x y : V), SkAt K H k xs ∧ SkAt K H l ys ∧ xs[i]? = some x ∧ ys[i]? = some y,
    fun i H v H' => ∃ T x y, v = .ref T ∧ H T = none ∧ H' = upd H T (.tup [x, y]) ∧ (∀ xs, SkAt K H k xs → xs[i]? = some x) ∧ ∀ ys, SkAt K H l ys → ys[i]? = some y,
    fun i H => ∃ xs ys : List V, SkAt K H k xs ∧ SkAt K H l ys ∧ i ≤ xs.length ∧ i ≤ ys.length ∧ (i = xs.length ∨ i = ys.length)⟩
theorem turn_zipS {P : Program} {w : World} {K : PySem.W.Frag} {elts : List Expr} {kk : Nat} {tpos : Pos} (k l : Sk) (z TI TO i1 i2 : Addr) :
    Turn P w K (.Tuple elts kk tpos) (ItZ K k l) [z, TI, TO, i1, i2] z (fun i h => IsZip h z TI TO .none ∧ IsTupOf2 h TI (.ref i1) (.ref i2) ∧ (∃ x y, IsTupOf2 h TO x y) ∧ SkSt k i1 i h ∧ SkSt l i2 i h ∧
      (TI ≠ z ∧ TO ≠ z ∧ TI ≠ TO ∧ TI ≠ i1 ∧ TI ≠ i2 ∧ z ≠ i1 ∧ z ≠ i2 ∧ TO ≠ i1 ∧ TO ≠ i2 ∧ i1 ≠ i2) ∧ (∀ b ∈ [z, TI, TO, i1, i2], SkOut k b ∧ SkOut l b)) where
  mem := by simp
  obj := fun i h st c hc => by
    obtain ⟨hz, hTI, ⟨x, y, hTO⟩, h1, h2, _⟩ := st
    have e' : c = z ∨ c = TI ∨ c = TO ∨ c = i1 ∨ c = i2 := by simpa using hc
    rcases e' with q | q | q | q | q
    · rw [q]; exact ⟨_, hz, fun v q => nomatch q⟩
    · rw [q]; exact ⟨_, hTI, fun v q => nomatch q⟩
    · rw [q]; exact ⟨_, hTO, fun v q => nomatch q⟩
    · rw [q]; exact h1.obj
    · rw [q]; exact h2.obj
  keep := fun i h h' st k => by
    obtain ⟨hz, hTI, ⟨x, y, hTO⟩, h1, h2, r⟩ := st
    exact ⟨k z (by simp) _ hz, k TI (by simp) _ hTI, ⟨x, y, k TO (by simp) _ hTO⟩, h1.at fun o q => k i1 (by simp) o q, h2.at fun o q => k i2 (by simp) o q, r⟩
  item := by
    intro X hP hw hK hc i pins s σ H E I hf st hg
    subst hP hw hK
    obtain ⟨hz, hTI, ⟨x0, y0, hTO⟩, h1, h2, ⟨n1, n2, n3, n4, n5, n6, n7, n8, n9, n10⟩, hout⟩ := st
    obtain ⟨xs, ys, x, y, hqx, hqy, hx, hy⟩ := hg
    have o1 := hout i1 (by simp)
    have o2 := hout i2 (by simp)
    obtain ⟨fp1, P1, St1, D1, hP1, hS1, hS1', hm1, hfp1⟩ := hqx.draws (A := X.A.in1) (I.ok.hd hc) I o1.1
    obtain ⟨fp2, P2, St2, D2, hP2, hS2, hS2', hm2, hfp2⟩ := hqy.draws (A := X.A.in1) (I.ok.hd hc) I o2.2
    have nf1 : ∀ b ∈ [z, TI, TO, i1, i2], b ≠ i1 → b ∉ fp1 := fun b hb hne q => (hfp1 b q).elim hne fun r => r (hout b hb).1
    have nf2 : ∀ b ∈ [z, TI, TO, i1, i2], b ≠ i2 → b ∉ fp2 := fun b hb hne q => (hfp2 b q).elim hne fun r => r (hout b hb).2
    have D : ZipSep2 z TI TO i1 i2 fp1 fp2 := ⟨n1, n2, n3, n4, hm1, nf1 z (by simp) n6, nf1 TO (by simp) n8, n5, hm2, nf2 z (by simp) n7, nf2 TO (by simp) n9, nf2 i1 (by simp) n10, nf1 i2 (by simp) n10.symm⟩
    have hzl : z < s.heap.objs.size := Heap.lt_size hz
    refine wpAny_pyNext_zipD2_item D D1 D2 hz hTI hTO (hS1 i h1) (hS2 i h2) (List.getElem?_eq_some_iff.mp hx).1 (List.getElem?_eq_some_iff.mp hy).1 fun u u2 h' tk hu hu2 z' TO' h1' h2' hT hsz hk => ?_
    obtain ⟨x', hx', ru⟩ := hP1 i u hu
    obtain ⟨y', hy', ru2⟩ := hP2 i u2 hu2
    rw [hx] at hx'; cases hx'
    rw [hy] at hy'; cases hy'
    refine ⟨_, rfl, wpAny_letOwnedTupleGo_zip (s := { s with heap := h', toks := tk }) z' fun h'' z'' sb => ?_⟩
    have hT2 : h''.get? s.heap.objs.size = some { cls := .type "tuple", data := .seq #[u, u2] } := (sb.2 _ (Nat.ne_of_gt hzl)).trans hT
    have new : ObjOk X.prog X.w (upd H s.heap.objs.size (.tup [x, y])) h'' s.heap.objs.size (.tup [x, y]) :=
      ⟨by show 2 ≤ sizeLine; decide, [u, u2], .cons ru (.cons ru2 .nil), ⟨_, hT2, rfl, _, rfl⟩⟩
    have I1 : Inv X pins σ (upd H s.heap.objs.size (.tup [x, y])) { s with heap := h'', toks := tk } :=
      I.turnedNew (t' := tk) (ch := [z, TI, TO, i1, i2]) (fun c o hb q => (sb.2 c (fun q' => hb (by simp [q']))).trans (hk c o (fun q' => hb (by simp [q'])) (fun q' => hb (by simp [q'])) (fun q' => hb (by simp [q'])) (fun q' => hb (by simp [q'])) q)) hf (Nat.le_refl _) new
    refine ⟨.ref s.heap.objs.size, _, I1, rfl, ⟨_, x, y, rfl, I.hok.fresh (Nat.le_refl _), rfl, fun l hl => by rw [SkAt.inj I hl hqx]; exact hx, fun l hl => by rw [SkAt.inj I hl hqy]; exact hy⟩, ⟨z'', ?_, ⟨u, u2, ?_⟩, ?_, ?_, ⟨n1, n2, n3, n4, n5, n6, n7, n8, n9, n10⟩, hout⟩, fun c hcm => ?_⟩
    · exact (sb.2 _ n1).trans (hk _ _ n1 n3 n4 n5 hTI)
    · exact (sb.2 _ n2).trans TO'
    · exact (hS1' _ _ h1').at fun o q => (sb.2 _ n6.symm).trans q
    · exact (hS2' _ _ h2').at fun o q => (sb.2 _ n7.symm).trans q
    · have hlt : c < s.heap.objs.size := by
        have e' : c = z ∨ c = TI ∨ c = TO ∨ c = i1 ∨ c = i2 := by simpa using hcm
        rcases e' with q | q | q | q | q
        · rw [q]; exact hzl
        · rw [q]; exact Heap.lt_size hTI
        · rw [q]; exact Heap.lt_size hTO
        · rw [q]; obtain ⟨_, e1, _⟩ := h1.obj; exact Heap.lt_size e1
        · rw [q]; obtain ⟨_, e2, _⟩ := h2.obj; exact Heap.lt_size e2
      rw [upd_ne (Nat.ne_of_lt hlt)]
      exact (hf c hcm).1
  done := by
    intro X hP hw hK hc i pins s σ H E I hf st hg
    subst hP hw hK
    obtain ⟨hz, hTI, ⟨x0, y0, hTO⟩, h1, h2, ⟨n1, n2, n3, n4, n5, n6, n7, n8, n9, n10⟩, hout⟩ := st
    obtain ⟨xs, ys, hqx, hqy, l1, l2, hend⟩ := hg
    have o1 := hout i1 (by simp)
    have o2 := hout i2 (by simp)
    obtain ⟨fp1, P1, St1, D1, hP1, hS1, hS1', hm1, hfp1⟩ := hqx.draws (A := X.A.in1) (I.ok.hd hc) I o1.1
    obtain ⟨fp2, P2, St2, D2, hP2, hS2, hS2', hm2, hfp2⟩ := hqy.draws (A := X.A.in1) (I.ok.hd hc) I o2.2
    have nf1 : ∀ b ∈ [z, TI, TO, i1, i2], b ≠ i1 → b ∉ fp1 := fun b hb hne q => (hfp1 b q).elim hne fun r => r (hout b hb).1
    have nf2 : ∀ b ∈ [z, TI, TO, i1, i2], b ≠ i2 → b ∉ fp2 := fun b hb hne q => (hfp2 b q).elim hne fun r => r (hout b hb).2
    have D : ZipSep2 z TI TO i1 i2 fp1 fp2 := ⟨n1, n2, n3, n4, hm1, nf1 z (by simp) n6, nf1 TO (by simp) n8, n5, hm2, nf2 z (by simp) n7, nf2 TO (by simp) n9, nf2 i1 (by simp) n10, nf1 i2 (by simp) n10.symm⟩
    exact wpAny_pyNext_zipD2_end D D1 D2 hz hTI hTO (hS1 i h1) (hS2 i h2) l1 l2 hend fun h' tk hk => ⟨rfl, I.turnedL (t' := tk) (ch := [z, TI, TO, i1, i2]) (fun c o hb q =>
      hk c o (fun q' => hb (by simp [q'])) (fun q' => hb (by simp [q'])) (fun q' => hb (by simp [q'])) (fun q' => hb (by simp [q'])) q) hf⟩
  self := fun A i s Q E st h => wpAny_pyIter_zip st.1 h
theorem ne_of_lt' {a b : Nat} (h : a < b) : a ≠ b := Nat.ne_of_lt h
def iZipS (K : PySem.W.Frag) (ta : TA) : TI := fun σ H R => ta σ H fun vs H1 => ∃ v v', vs = [v, v'] ∧ ∀ u u', RelV v u → RelV v' u' → ∃ k l xs ys, u = Sk.v k ∧ u' = Sk.v l ∧ SkAt K H1 k xs ∧ SkAt K H1 l ys ∧ R (ItZ K k l) H1
theorem pi_zipS {X : Cx} {e e2 : Expr} {ta : TA} {p pos tpos : Pos} {elts : List Expr} {kk : Nat} (hg : Gl X "zip") (hm : X.mg "zip" = none) (ha : PA X [e, e2] ta)
    (hs : starEach [e, e2] X.env = (false, eval e X.env) :: starEach [e2] X.env := by rfl) (hpl : (backTo pos (starEach [e2] X.env)).any (·.1) = false := by rfl) :
    PI X (.Tuple elts kk tpos) (.Call (.Name "zip" p) [e, e2] [] pos) (iZipS X.K ta) := by
  refine ⟨fun pins s σ H R I h => ?_⟩
  refine PyProof.Rows.Call_ (ld_blt I hg hm PyProof.Rows.boot_zip (PyProof.Rows.callWith_type1 (thn (ha.run pos pins s σ H _ I h) fun us s1 ⟨vs, H1, I1, r1, q1⟩ => ?_) hs hpl))
  obtain ⟨v, v', ex, q⟩ := q1
  subst ex
  cases r1 with
  | cons r rr =>
    cases rr with
    | cons r' rr =>
      cases rr
      obtain ⟨k, l, xs, ys, rfl, rfl, hqx, hqy, q⟩ := q _ _ r r'
      obtain ⟨Hh, hb, hh⟩ := hqx.begins I1
      obtain ⟨Hh2, hb2, hh2⟩ := hqy.begins I1
      refine zip_begins2 hb hb2 hh hh2 fun h' hz hTI hTO h1 h2 hsz hk => wpAny_pyIter_zip hz ?_
      have I2 : Inv X pins σ H1 { s1 with heap := h' } := I1.kept (t' := s1.toks) hk
      have fr : ∀ c, c ∈ [s1.heap.objs.size + 4, s1.heap.objs.size + 2, s1.heap.objs.size + 3, s1.heap.objs.size, s1.heap.objs.size + 1] → s1.heap.objs.size ≤ c := fun c hcm => by
        have e' : c = s1.heap.objs.size + 4 ∨ c = s1.heap.objs.size + 2 ∨ c = s1.heap.objs.size + 3 ∨ c = s1.heap.objs.size ∨ c = s1.heap.objs.size + 1 := by simpa using hcm
        omega
      exact ⟨s1.heap.objs.size + 4, [s1.heap.objs.size + 4, s1.heap.objs.size + 2, s1.heap.objs.size + 3, s1.heap.objs.size, s1.heap.objs.size + 1], _, _, H1, rfl, I2, turn_zipS k l _ _ _ _ _, ⟨hz, hTI, ⟨_, _, hTO⟩, sk_ob h1, sk_ob h2, ⟨ne_of_lt' (by omega), ne_of_lt' (by omega), ne_of_lt' (by omega), Ne.symm (ne_of_lt' (by omega)), Ne.symm (ne_of_lt' (by omega)), Ne.symm (ne_of_lt' (by omega)), Ne.symm (ne_of_lt' (by omega)), Ne.symm (ne_of_lt' (by omega)), Ne.symm (ne_of_lt' (by omega)), ne_of_lt' (by omega)⟩, fun b hb => ⟨hqx.lt I1 (fr b hb), hqy.lt I1 (fr b hb)⟩⟩, fun c hcm => I1.fpOk (fr c hcm) (I1.hok.fresh (fr c hcm)), q⟩
theorem walk_zipS {K : PySem.W.Frag} {k l : Sk} {xs ys : List V} {n : Nat} (hn : n = min xs.length ys.length) : Walk (ItZ K k l) n (fun H => SkAt K H k xs ∧ SkAt K H l ys) (YPair (fun i => xs[i]?) (fun i => ys[i]?)) := by
  subst hn
  refine ⟨fun i _ hi q => ?_, fun _ q => ⟨xs, ys, q.1, q.2, by omega, by omega, by omega⟩, fun i H v H' _ q y => ?_⟩
  · have h1 : i < xs.length := by omega
    have h2 : i < ys.length := by omega
    exact ⟨xs, ys, xs[i], ys[i], q.1, q.2, by simp [h1], by simp [h2]⟩
  · obtain ⟨T, x, z, h1, h2, h3, h4, h5⟩ := y
    exact ⟨T, x, z, h1, h2, h3, h4 xs q.1, h5 ys q.2⟩
end Dl
end
section
set_option Elab.async false
set_option linter.all false
set_option maxRecDepth 100000
set_option maxHeartbeats 1000000
/-! The deep layer: what is walked, told by closed data; list comprehensions. -/
namespace Dl
open PySem L2
def ItS (K : PySem.W.Frag) : Sk → It
  | .ls a => Itl K a
  | .tp a => Itt K a
  | .tx x _ => Its x
theorem walk_any {K : PySem.W.Frag} {k : Sk} {xs : List V} : Walk (ItS K k) xs.length (fun H => SkAt K H k xs) (YAt xs) := by
  cases k with
  | ls a => exact walk_list
  | tp a => exact walk_tup
  | tx x t =>
    refine ⟨fun i H hi q => ?_, fun H q => ?_, fun i H v H' hi q y => ?_⟩
    · have q : xs = _ := q
      subst q
      show i < x.cps.size
      simpa using hi
    · have q : xs = _ := q
      subst q
      show x.cps.size ≤ _
      simp
    · have q : xs = _ := q
      subst q
      obtain ⟨rfl, c, hc, rfl⟩ := y
      exact ⟨rfl, by simp [hc]⟩
def iAny (K : PySem.W.Frag) (te : TE) : TI := fun σ H R => te σ H fun v H1 => ∀ u, RelV v u → ∃ k xs, u = Sk.v k ∧ SkAt K H1 k xs ∧ R (ItS K k) H1
theorem pi_any {X : Cx} {tg e : Expr} {te : TE} (he : PE X e te) : PI X tg e (iAny X.K te) := by
  refine ⟨fun pins s σ H R I h => ?_⟩
  refine thn (he.run pins s σ H _ I h) fun v s1 ⟨y, H1, I1, r1, q⟩ => ?_
  obtain ⟨k, xs, rfl, hq, q⟩ := q _ r1
  cases k with
  | ls a =>
    obtain ⟨its, rv, p, hz⟩ := I1.list hq
    exact wpAny_pyIter_list p.isList (pi_one (tk := s1.toks) I1 _ (turn_list a _) ⟨_, Heap.get?_push_size _ rfl, rfl, rfl⟩ q)
  | tp a =>
    obtain ⟨its, rv, p, hz⟩ := I1.tuple hq
    exact wpAny_pyIter_tuple (show s1.heap.IsTuple a its.toArray from p) (pi_one (tk := s1.toks) I1 _ (turn_tuple a _) ⟨_, Heap.get?_push_size _ rfl, rfl, rfl⟩ q)
  | tx x t =>
    cases ha : x.cps.all (· < 128)
    · exact wpAny_pyIter_wide ha (pi_one (tk := s1.toks) I1 _ (turn_str _ x t "str_iterator" (.inr rfl)) ⟨_, Heap.get?_push_size _ rfl, rfl, rfl⟩ q)
    · exact wpAny_pyIter_ascii ha (pi_one (tk := s1.toks) I1 _ (turn_str _ x t "str_ascii_iterator" (.inl rfl)) ⟨_, Heap.get?_push_size _ rfl, rfl, rfl⟩ q)
def signD (c : Nat) : D := .str ⟨#[c]⟩
/-- the items of a thing that is walked -/
def seqS : D → Option (List D)
  | .tup ds => some ds
  | .kt ds => some ds
  | .lst ds => some ds
  | .scr ds => some ds
  | .str x => some (x.cps.toList.map signD)
  | _ => none
def SkIn (G : Gh) (W : Wd) : Sk → List V → Prop
  | .ls a, xs => Rd W.F a (.lst xs) ∨ KLst G.K a xs
  | .tp a, xs => W.F a = some (.tup xs) ∨ ∃ (o : Obj) (its : Array Value) (n : Nat), G.K.lookup a = some o ∧ o.cls = .type "tuple" ∧ o.data = .seq its n ∧ its.size ≤ sizeLine ∧ Vals xs its.toList
  | .tx x _, xs => xs = x.cps.toList.map fun c => V.str ⟨#[c]⟩
section
variable {X : Cx} {G : Gh} {Wsh : WX} {a b c e o : Expr} {es : List Expr} {f g h f' : FE} {fa ga : FA} {pos p p2 p3 apos tpos : Pos} {x y : Str} {n : Nat} {fs gs : FS} {elts : List Expr} {kk : Nat}
variable {B : Wd × Hp} {W W1 W' : Wd} {σ : L2.St} {H H1 H' : Hp} {ρ : Env} {S S1 S' : Sto} {st : Stmt} {rest : List Stmt} {tg : Expr} {k l : Sk} {xs ys : List V} {ds : List D}
theorem SkIn.mono (e : WLe W W') (h : SkIn G W k xs) : SkIn G W' k xs := by
  cases k with
  | ls a => exact h.imp (e.rd _ _) _root_.id
  | tp a => exact h.imp (fun q => e.ex _ _ trivial q) id
  | tx x t => exact h
theorem SkIn.at (hK : G.K = X.K) (O : HpOk G W H S) (h : SkIn G W k xs) : SkAt X.K H k xs := by
  cases k with
  | ls a => exact h.imp (fun h => h.elim (fun q => .inl (O.sub _ _ q)) fun ⟨o, q⟩ => .inr ⟨o, O.sub _ _ q⟩) fun q => hK ▸ q
  | tp a => exact h.imp (fun q => .of (O.sub _ _ q)) fun q => hK ▸ q
  | tx x t => exact h
theorem signs_rep : ∀ {cs : List Nat}, RepL G W (cs.map signD) (cs.map fun c => V.str ⟨#[c]⟩)
  | [] => .nil
  | c :: cs => .cons rfl signs_rep
theorem sk_of {d : D} {v : V} {u : Value} (h : Rep G W d v) (hd : seqS d = some ds) (r : RelV v u) : ∃ k xs, u = Sk.v k ∧ SkIn G W k xs ∧ RepL G W ds xs := by
  cases d <;> first | exact nosome hd rfl | skip
  · rename_i x
    cases hd
    obtain rfl : v = V.str x := h
    obtain ⟨t, rfl⟩ := r
    exact ⟨.tx x t, _, rfl, rfl, signs_rep⟩
  · rename_i ds'
    cases hd
    obtain ⟨p, xs, rfl, e1, l⟩ := (show ∃ a xs, _ from h)
    exact ⟨.tp p, xs, r, .inl e1, l⟩
  · rename_i ds'
    cases hd
    obtain ⟨p, xs, rfl, e1, l⟩ := (show ∃ a xs, _ from h)
    exact ⟨.ls p, xs, r, .inl (.inl e1), l⟩
  · rename_i ds'
    cases hd
    obtain ⟨p, xs, rfl, e1, l⟩ := (show ∃ a xs, _ from h)
    exact ⟨.tp p, xs, r, .inr e1, l⟩
  · rename_i ds'
    cases hd
    obtain ⟨p, xs, rfl, e1, l⟩ := (show ∃ a xs, _ from h)
    exact ⟨.ls p, xs, r, e1, l⟩
theorem iter_any (hK : G.K = X.K) (hi : SkIn G W k xs) (l : RepL G W ds xs) : IterOk G (ItS X.K k) W ds := ⟨by
  rw [l.length]
  refine walk_any.mono (fun H ⟨W', S', O, le⟩ => (hi.mono le).at hK O) fun i H x H' hi' hG ⟨e, hx⟩ d hd W' S' O le => ?_
  subst e
  obtain ⟨y, h1, h2⟩ := l.get hd
  rw [hx] at h1; cases h1
  exact ⟨W', .rfl', O, Rep.mono le _ _ h2⟩⟩
theorem PE'.bindI {Q1 : VK} {R : It → Hp → Prop} {k : D → Sto → RA} (O : Ok G B W σ H ρ S) : ∀ {r : RE}, PI' G Wsh σ W H R (r.bindA k) →
    (∀ v d S1 W1 H1, Mid G B W H σ ρ S1 W1 H1 → Rep G W1 d v → PI' G Wsh σ W1 H1 R (k d S1) → Q1 v H1) → PE' G Wsh σ W H Q1 r
  | .ok d S1, h, q => fun v W' H' e o r => q v d S1 W' H' ⟨e, O.ext e o⟩ r (by
      have h : PI' G Wsh σ W H R (k d S1) := h
      revert h
      generalize k d S1 = r
      intro h
      cases r with
      | ok ds S2 => exact fun J W2 H2 e2 o2 i => h J W2 H2 (e.trans e2) o2 i
      | exc _ _ _ => exact fun cls dx W2 H2 e2 o2 er => h cls dx W2 H2 (e.trans e2) o2 er
      | fail => exact h)
  | .exc _ _ _, h, _ => h
  | .fail, h, _ => h
theorem PA'.bindI {Q1 : List V → Hp → Prop} {R : It → Hp → Prop} {k : List D → Sto → RA} (O : Ok G B W σ H ρ S) : ∀ {r : RA}, PI' G Wsh σ W H R (r.bindA k) →
    (∀ vs ds S1 W1 H1, Mid G B W H σ ρ S1 W1 H1 → RepL G W1 ds vs → PI' G Wsh σ W1 H1 R (k ds S1) → Q1 vs H1) → PA' G Wsh σ W H Q1 r
  | .ok d S1, h, q => fun v W' H' e o r => q v d S1 W' H' ⟨e, O.ext e o⟩ r (by
      have h : PI' G Wsh σ W H R (k d S1) := h
      revert h
      generalize k d S1 = r
      intro h
      cases r with
      | ok ds S2 => exact fun J W2 H2 e2 o2 i => h J W2 H2 (e.trans e2) o2 i
      | exc _ _ _ => exact fun cls dx W2 H2 e2 o2 er => h cls dx W2 H2 (e.trans e2) o2 er
      | fail => exact h)
  | .exc _ _ _, h, _ => h
  | .fail, h, _ => h
theorem PI'.here {R : It → Hp → Prop} {J : It} (h : PI' G Wsh σ W H R (.ok ds S)) (o : HpOk G W H S) (i : IterOk G J W ds) : R J H := h J W H .rfl' o i
def RA.ofO : Option (List D) → Sto → RA
  | some ds, S => .ok ds S
  | none, _ => .fail
def fSeqA (f : FE) : FA := fun ρ S => (f ρ S).bindA fun d S1 => RA.ofO (seqS d) S1
theorem ci_any (hK : G.K = X.K) (he : PE X e (tE G Wsh f)) : PI X tg e (tI G Wsh (fSeqA f)) := ⟨fun pins s σ H R I ⟨B, W, ρ, S, O, q⟩ => (pi_any he).run pins s σ H R I ⟨B, W, ρ, S, O, PE'.bindI O q fun v d S1 W1 H1 M hr q u ru => by
  cases e : seqS d with
  | none => rw [e] at q; exact q.elim
  | some ds =>
    rw [e] at q
    obtain ⟨k, xs, h1, h2, h3⟩ := sk_of hr e ru
    exact ⟨k, xs, h1, h2.at hK M.ok.hp, q.here M.ok.hp (iter_any hK h2 h3)⟩⟩⟩
/-! enumerate, zip -/
def enumD : Nat → List D → List D
  | _, [] => []
  | i, d :: ds => .tup [.int (i : Nat), d] :: enumD (i + 1) ds
theorem enumD_length : ∀ {i : Nat} {ds : List D}, (enumD i ds).length = ds.length
  | _, [] => rfl
  | i, d :: ds => by simp [enumD, enumD_length]
theorem enumD_get : ∀ {i : Nat} {ds : List D} {j : Nat}, (enumD i ds)[j]? = ds[j]?.map fun d => .tup [.int ((i + j : Nat) : Int), d]
  | _, [], _ => by simp [enumD]
  | i, d :: ds, 0 => by simp [enumD]
  | i, d :: ds, j + 1 => by
    simp only [enumD, List.getElem?_cons_succ]
    rw [enumD_get]
    have : i + 1 + j = i + (j + 1) := by omega
    rw [this]
theorem pair_at {x y : V} {d e : D} {T : Addr} (O : HpOk G W H S) (hT : H T = none) (h1 : Rep G W d x) (h2 : Rep G W e y) : ∃ W2, Ext W H W2 (upd H T (.tup [x, y])) ∧ HpOk G W2 (upd H T (.tup [x, y])) S ∧ Rep G W2 (.tup [d, e]) (.ref T) := by
  obtain ⟨g1, g2⟩ := ext_new (o := .tup [x, y]) hT O
  exact ⟨_, g1, g2, T, [x, y], rfl, put_at, .cons (Rep.mono g1.le _ _ h1) (.cons (Rep.mono g1.le _ _ h2) .nil)⟩
theorem iter_enum (hK : G.K = X.K) (hi : SkIn G W k xs) (l : RepL G W ds xs) : IterOk G (ItE X.K k) W (enumD 0 ds) := ⟨by
  rw [enumD_length, l.length]
  refine walk_enumS.mono (fun H ⟨W', S', O, le⟩ => (hi.mono le).at hK O) fun i H v H' hi' hG ⟨T, x, y, e1, e2, e3, e4, e5⟩ d hd W' S' O le => ?_
  subst e1 e3
  cases e4
  rw [enumD_get] at hd
  cases e : ds[i]? with
  | none => rw [e] at hd; cases hd
  | some d' =>
    rw [e] at hd
    cases hd
    obtain ⟨y', h1, h2⟩ := l.get e
    have e5 : xs[i]? = some y := e5
    rw [e5] at h1; cases h1
    show ∃ W2, _ ∧ _ ∧ Rep G W2 (D.tup [D.int ((0 + i : Nat) : Int), d']) _
    rw [Nat.zero_add]
    exact pair_at O e2 rfl (Rep.mono le _ _ h2)⟩
def zipD : List D → List D → List D
  | a :: as, b :: bs => .tup [a, b] :: zipD as bs
  | _, _ => []
theorem zipD_length : ∀ {as bs : List D}, (zipD as bs).length = min as.length bs.length
  | [], bs => by simp [zipD]
  | a :: as, [] => by simp [zipD]
  | a :: as, b :: bs => by simp only [zipD, List.length_cons, zipD_length]; omega
theorem zipD_get : ∀ {as bs : List D} {j : Nat} {d : D}, (zipD as bs)[j]? = some d → ∃ a b, as[j]? = some a ∧ bs[j]? = some b ∧ d = .tup [a, b]
  | [], bs, _, _, h => by simp [zipD] at h
  | a :: as, [], _, _, h => by simp [zipD] at h
  | a :: as, b :: bs, 0, d, h => by simp [zipD] at h; exact ⟨a, b, rfl, rfl, h.symm⟩
  | a :: as, b :: bs, j + 1, d, h => by
    simp only [zipD, List.getElem?_cons_succ] at h ⊢
    exact zipD_get h
theorem iter_zip {es : List D} (hK : G.K = X.K) (hi : SkIn G W k xs) (hl : SkIn G W l ys) (r : RepL G W ds xs) (r' : RepL G W es ys) : IterOk G (ItZ X.K k l) W (zipD ds es) := ⟨by
  refine (walk_zipS (xs := xs) (ys := ys) (by rw [zipD_length, r.length, r'.length])).mono (fun H ⟨W', S', O, le⟩ => ⟨(hi.mono le).at hK O, (hl.mono le).at hK O⟩) fun i H v H' hi' hG ⟨T, x, y, e1, e2, e3, e4, e5⟩ d hd W' S' O le => ?_
  subst e1 e3
  obtain ⟨d1, d2, h1, h2, rfl⟩ := zipD_get hd
  obtain ⟨x', h3, h4⟩ := r.get h1
  obtain ⟨y', h5, h6⟩ := r'.get h2
  have e4 : xs[i]? = some x := e4
  have e5 : ys[i]? = some y := e5
  rw [e4] at h3; cases h3
  rw [e5] at h5; cases h5
  exact pair_at O e2 (Rep.mono le _ _ h4) (Rep.mono le _ _ h6)⟩
def fEnumA (fa : FA) : FA := fun ρ S => (fa ρ S).bindA fun ds S1 => match ds with
  | [d] => RA.ofO ((seqS d).map (enumD 0)) S1
  | _ => .fail
theorem ci_enum (hK : G.K = X.K) (hg : Gl X "enumerate") (hm : X.mg "enumerate" = none) (ha : PA X [e] (tA G Wsh fa)) (hs : starEach [e] X.env = [(false, eval e X.env)] := by rfl) :
    PI X (.Tuple elts kk tpos) (.Call (.Name "enumerate" p) [e] [] pos) (tI G Wsh (fEnumA fa)) := ⟨fun pins s σ H R I ⟨B, W, ρ, S, O, q⟩ => (pi_enumS hg hm ha hs).run pins s σ H R I ⟨B, W, ρ, S, O, PA'.bindI O q fun vs ds S1 W1 H1 M hr q => by
  match ds, hr, q with
  | [], _, q => exact q.elim
  | _ :: _ :: _, _, q => exact q.elim
  | [d], hr, q =>
    obtain ⟨v, r, rfl, h1, h2⟩ := (show ∃ x r, _ from hr)
    cases (show r = [] from h2)
    refine ⟨v, rfl, fun u ru => ?_⟩
    dsimp only at q
    cases e : seqS d with
    | none => rw [e] at q; exact q.elim
    | some ds =>
      rw [e] at q
      obtain ⟨k, xs, h1, h2, h3⟩ := sk_of h1 e ru
      exact ⟨k, xs, h1, h2.at hK M.ok.hp, PI'.here q M.ok.hp (iter_enum hK h2 h3)⟩⟩⟩
def fZipA (fa : FA) : FA := fun ρ S => (fa ρ S).bindA fun ds S1 => match ds with
  | [d, e] => match seqS d, seqS e with
    | some as, some bs => .ok (zipD as bs) S1
    | _, _ => .fail
  | _ => .fail
theorem ci_zip (hK : G.K = X.K) (hg : Gl X "zip") (hm : X.mg "zip" = none) (ha : PA X [a, b] (tA G Wsh fa))
    (hs : starEach [a, b] X.env = (false, eval a X.env) :: starEach [b] X.env := by rfl) (hpl : (backTo pos (starEach [b] X.env)).any (·.1) = false := by rfl) :
    PI X (.Tuple elts kk tpos) (.Call (.Name "zip" p) [a, b] [] pos) (tI G Wsh (fZipA fa)) := ⟨fun pins s σ H R I ⟨B, W, ρ, S, O, q⟩ => (pi_zipS hg hm ha hs hpl).run pins s σ H R I ⟨B, W, ρ, S, O, PA'.bindI O q fun vs ds S1 W1 H1 M hr q => by
  match ds, hr, q with
  | [], _, q => exact q.elim
  | [_], _, q => exact q.elim
  | _ :: _ :: _ :: _, _, q => exact q.elim
  | [d, d'], hr, q =>
    obtain ⟨v, r, rfl, h1, h2⟩ := (show ∃ x r, _ from hr)
    obtain ⟨v', r, rfl, h1', h2⟩ := (show ∃ x r, _ from h2)
    cases (show r = [] from h2)
    refine ⟨v, v', rfl, fun u u' ru ru' => ?_⟩
    dsimp only at q
    cases e : seqS d with
    | none => rw [e] at q; exact q.elim
    | some ds =>
      cases e' : seqS d' with
      | none => rw [e, e'] at q; exact q.elim
      | some ds' =>
        rw [e, e'] at q
        obtain ⟨k, xs, h1, h2, h3⟩ := sk_of h1 e ru
        obtain ⟨l, ys, h1', h2', h3'⟩ := sk_of h1' e' ru'
        exact ⟨k, l, xs, ys, h1, h1', h2.at hK M.ok.hp, h2'.at hK M.ok.hp, PI'.here q M.ok.hp (iter_zip hK h2 h2' h3 h3')⟩⟩⟩
/-! range -/
def rngD (lo : Int) : Nat → List D
  | 0 => []
  | n + 1 => .int lo :: rngD (lo + 1) n
theorem rngD_length : ∀ {lo : Int} {n : Nat}, (rngD lo n).length = n
  | _, 0 => rfl
  | lo, n + 1 => by simp [rngD, rngD_length]
theorem rngD_get : ∀ {lo : Int} {n i : Nat} {d : D}, (rngD lo n)[i]? = some d → d = .int (lo + i)
  | _, 0, _, _, h => by simp [rngD] at h
  | lo, n + 1, 0, d, h => by simp [rngD] at h; rw [← h]; simp
  | lo, n + 1, i + 1, d, h => by
    simp only [rngD, List.getElem?_cons_succ] at h
    rw [rngD_get h]
    have : lo + 1 + (i : Int) = lo + ((i + 1 : Nat) : Int) := by omega
    rw [this]
theorem iter_range {lo : Int} {n : Nat} : IterOk G (Itr lo n) W (rngD lo n) := ⟨by
  rw [rngD_length]
  refine walk_range.mono (fun _ _ => trivial) fun i H x H' hi _ ⟨e1, e2⟩ d hd W' S' O le => ?_
  subst e1 e2
  rw [rngD_get hd]
  exact ⟨W', .rfl', O, rfl⟩⟩
def fRng1 (fa : FA) : FA := fun ρ S => (fa ρ S).bindA fun ds S1 => match ds with
  | [.int j] => if -4611686018427387904 ≤ j ∧ j < 4611686018427387904 then .ok (rngD 0 j.toNat) S1 else .fail
  | _ => .fail
theorem ci_range1 (hg : Gl X "range") (hm : X.mg "range" = none) (ha : PA X [a] (tA G Wsh fa)) (hs : starEach [a] X.env = [(false, eval a X.env)] := by rfl) : PI X tg (.Call (.Name "range" p) [a] [] pos) (tI G Wsh (fRng1 fa)) :=
  ⟨fun pins s σ H R I ⟨B, W, ρ, S, O, q⟩ => (pi_range1 hg hm ha hs).run pins s σ H R I ⟨B, W, ρ, S, O, PA'.bindI O q fun vs ds S1 W1 H1 M hr q => by
    split at q
    · rename_i j
      obtain ⟨v, r, rfl, h1, h2⟩ := (show ∃ x r, _ from hr)
      cases (show r = [] from h2)
      cases (show v = V.int j from h1)
      split at q
      · rename_i hj
        exact ⟨j, rfl, hj.1, hj.2, PI'.here q M.ok.hp iter_range⟩
      · exact q.elim
    · exact q.elim⟩⟩
def fRng2 (fa : FA) : FA := fun ρ S => (fa ρ S).bindA fun ds S1 => match ds with
  | [.int i, .int j] => if (-4611686018427387904 ≤ i ∧ i < 4611686018427387904) ∧ -4611686018427387904 ≤ j ∧ j < 4611686018427387904 then .ok (rngD i (j - i).toNat) S1 else .fail
  | _ => .fail
theorem ci_range2 (hg : Gl X "range") (hm : X.mg "range" = none) (ha : PA X [a, b] (tA G Wsh fa)) (hs : starEach [a, b] X.env = [(false, eval a X.env), (false, eval b X.env)] := by rfl) (hs2 : starEach [b] X.env = [(false, eval b X.env)] := by rfl) : PI X tg (.Call (.Name "range" p) [a, b] [] pos) (tI G Wsh (fRng2 fa)) :=
  ⟨fun pins s σ H R I ⟨B, W, ρ, S, O, q⟩ => (pi_range2 hg hm ha hs hs2).run pins s σ H R I ⟨B, W, ρ, S, O, PA'.bindI O q fun vs ds S1 W1 H1 M hr q => by
    split at q
    · rename_i i j
      obtain ⟨v, r, rfl, h1, h2⟩ := (show ∃ x r, _ from hr)
      obtain ⟨v', r, rfl, h1', h2⟩ := (show ∃ x r, _ from h2)
      cases (show r = [] from h2)
      cases (show v = V.int i from h1)
      cases (show v' = V.int j from h1')
      split at q
      · rename_i hj
        exact ⟨i, j, rfl, ⟨hj.1.1, hj.1.2, hj.2.1, hj.2.2⟩, PI'.here q M.ok.hp iter_range⟩
      · exact q.elim
    · exact q.elim⟩⟩
end
end Dl
end
section
set_option Elab.async false
set_option linter.all false
set_option maxRecDepth 100000
set_option maxHeartbeats 1000000
/-! The deep layer: list comprehensions. -/
namespace Dl
open PySem L2
abbrev W0 : WX := fun _ _ _ _ => False
section
variable {X : Cx} {G : Gh} {Wsh : WX} {a b c e o elt iter : Expr} {es ifs : List Expr} {f g h f' t : FE} {fa ga : FA} {pos p p2 p3 apos tpos spos py : Pos} {x y : Str} {n : Nat} {fs gs : FS} {elts : List Expr} {kk : Nat}
variable {B : Wd × Hp} {W W1 W' : Wd} {σ : L2.St} {H H1 H' : Hp} {ρ : Env} {S S1 S' : Sto} {st : Stmt} {rest : List Stmt} {tg : Expr} {ds : List D} {vs : List Nat}
/-! ### a clause's target: names of the block only -/
def tGw (G : Gh) (vs : List Nat) (g : GD) : TG := fun v σ H Q => ∃ B W ρ S d, Ok G B W σ H ρ S ∧ Rep G W d v ∧ match g d ρ S with
  | some (ρ', S') => ∀ σ', wipe σ' vs = wipe σ vs → Ok G B W σ' H ρ' S' → Q σ' H
  | none => False
def tGsw (G : Gh) (vs : List Nat) (g : GDs) : TGs := fun xs σ H Q => ∃ B W ρ S ds, Ok G B W σ H ρ S ∧ RepL G W ds xs ∧ match g ds ρ S with
  | some (ρ', S') => ∀ σ', wipe σ' vs = wipe σ vs → Ok G B W σ' H ρ' S' → Q σ' H
  | none => False
theorem wipe_set {i : Nat} {x : Option V} : ∀ {vs : List Nat} {σ : L2.St}, i ∈ vs → wipe (σ.set i x) vs = wipe σ vs
  | v :: vs, σ, h => by
    unfold wipe
    by_cases e : i ∈ vs
    · rw [wipe_set e]
    · have e2 : i = v := (List.mem_cons.mp h).resolve_right e
      subst e2
      apply List.ext_getElem?
      intro j
      by_cases hj : i = j
      · subst hj
        by_cases hl : i < σ.length
        · rw [List.getElem?_set_self (by rw [wipe_length, List.length_set]; exact hl), List.getElem?_set_self (by rw [wipe_length]; exact hl)]
        · rw [List.getElem?_eq_none (by rw [List.length_set, wipe_length, List.length_set]; omega), List.getElem?_eq_none (by rw [List.length_set, wipe_length]; omega)]
      · rw [List.getElem?_set_ne hj, List.getElem?_set_ne hj]
        by_cases hv : j ∈ vs
        · have key : ∀ (σ : L2.St), j < σ.length → (wipe σ vs)[j]? = some none := fun σ hl => by
            have hl' : j < (wipe σ vs).length := by rw [wipe_length]; exact hl
            cases q : (wipe σ vs)[j]? with
            | none => rw [List.getElem?_eq_getElem hl'] at q; cases q
            | some z => cases z with
              | none => rfl
              | some z => exact absurd hv (wipe_some q).2
          by_cases hl : j < σ.length
          · rw [key σ hl, key _ (by rw [List.length_set]; exact hl)]
          · rw [List.getElem?_eq_none (by rw [wipe_length, List.length_set]; omega), List.getElem?_eq_none (by rw [wipe_length]; omega)]
        · rw [wipe_out hv, wipe_out hv, List.getElem?_set_ne hj]
theorem wipe_wipe {vs : List Nat} {σ : L2.St} : wipe (wipe σ vs) vs = wipe σ vs := by
  suffices h : ∀ us : List Nat, (∀ u ∈ us, u ∈ vs) → wipe (wipe σ us) vs = wipe σ vs from h vs fun _ h => h
  intro us
  induction us with
  | nil => intro _; rfl
  | cons u us ih =>
    intro h
    show wipe ((wipe σ us).set u none) vs = _
    rw [wipe_set (h u List.mem_cons_self)]
    exact ih fun v hv => h v (List.mem_cons_of_mem _ hv)
theorem cgw_name {i : Nat} (hN : X.N.Nodup) (hi : X.N[i]? = some x) (hx : Loc X.env.scope x) (hv : i ∈ vs) (hf : X.fn x = true ∨ X.env.scope.names.lookup x = some .local := by first | exact .inl rfl | exact .inr rfl) : PG X (.Name x pos) (tGw G vs (gV i)) :=
  (pg_name hN hi hx hf).imp fun v σ H Q ⟨B, W, ρ, S, d, O, hr, q⟩ => q _ (wipe_set hv) (O.setv hr)
theorem cgsw_nil : PGs X [] (tGsw G vs gNilD) := pgs_nil.imp fun v σ H Q ⟨B, W, ρ, S, ds, O, hr, q⟩ => by
  cases ds with
  | nil => exact ⟨hr, q σ rfl O⟩
  | cons d ds => exact q.elim
theorem cgsw_cons {t : Expr} {ts : List Expr} {g : GD} {gs : GDs} (h1 : PG X t (tGw G vs g)) (h2 : PGs X ts (tGsw G vs gs)) (hs : (assignEach (t :: ts) X.env).map (·.2) = assign t X.env :: (assignEach ts X.env).map (·.2) := by rfl) : PGs X (t :: ts) (tGsw G vs (gConsD g gs)) :=
  (pgs_cons h1 h2 hs).imp fun v σ H Q ⟨B, W, ρ, S, ds, O, hr, q⟩ => by
    cases ds with
    | nil => exact q.elim
    | cons d ds =>
      obtain ⟨x, r, rfl, hx, hr⟩ := (show ∃ x r, _ from hr)
      refine ⟨x, r, rfl, B, W, ρ, S, d, O, hx, ?_⟩
      simp only [gConsD] at q
      cases e : g d ρ S with
      | none => rw [e] at q; exact q.elim
      | some p =>
        obtain ⟨ρ', S'⟩ := p
        simp only [e] at q ⊢
        intro σ' hw o
        refine ⟨B, W, ρ', S', ds, o, hr, ?_⟩
        cases e2 : gs ds ρ' S' with
        | none => rw [e2] at q; exact q.elim
        | some p2 =>
          obtain ⟨ρ2, S2⟩ := p2
          simp only [e2] at q ⊢
          exact fun σ2 hw2 o2 => q σ2 (hw2.trans hw) o2
theorem cgw_tup {ts : List Expr} {kk n : Nat} {gs : GDs} (hK : G.K = X.K) (hc : X.calm = true) (h : PGs X ts (tGsw G vs gs)) (hn : (assignEach ts X.env).length = n := by rfl) (hst : (assignEach ts X.env).findIdx? (·.1) = none := by rfl) : PG X (.Tuple ts kk pos) (tGw G vs (gTupD n gs)) :=
  (pg_tup hc h hn hst).imp fun v σ H Q ⟨B, W, ρ, S, d, O, hr, q⟩ => by
    cases d <;> first | exact q.elim | skip
    · rename_i ds
      obtain ⟨p, xs, rfl, e1, l⟩ := (show ∃ a xs, _ from hr)
      simp only [gTupD] at q
      by_cases hl : ds.length = n
      · rw [if_pos hl] at q
        exact ⟨p, xs, rfl, .of (O.hp.sub _ _ e1), l.length.symm.trans hl, B, W, ρ, S, ds, O, l, q⟩
      · rw [if_neg hl] at q; exact q.elim
    · rename_i ds
      obtain ⟨p, xs, rfl, e1, l⟩ := (show ∃ a xs, _ from hr)
      simp only [gTupD] at q
      by_cases hl : ds.length = n
      · rw [if_pos hl] at q
        exact ⟨p, xs, rfl, .inr (hK ▸ e1), l.length.symm.trans hl, B, W, ρ, S, ds, O, l, q⟩
      · rw [if_neg hl] at q; exact q.elim
/-! ### tests of a clause -/
def fYes : FE := fun _ S => .ok (.bl true) S
theorem cts_nil : PTs X [] (tT G Wsh fYes) := ⟨fun pins s σ H Q I ⟨B, W, ρ, S, O, q⟩ => pts_nil.run pins s σ H Q I (by
  obtain ⟨c, e, q⟩ := PE'.here q O.hp (v := .bl true) rfl
  cases e; exact q)⟩
theorem cts_one {c : Expr} (h : PT X c (tT G Wsh t)) : PTs X [c] (tT G Wsh t) := pts_one h
/-! ### what is walked, a cell's list within -/
inductive RI where
  | ok (ds : List D) (c : Sto → Bool) (S : Sto) | exc (c : Nat) (fs : List D) (S : Sto) | fail
abbrev FI := Env → Sto → RI
structure IterC (G : Gh) (J : It) (W : Wd) (c : Sto → Bool) (ds : List D) : Prop where
  w : Walk J ds.length (fun H => ∃ W' S', HpOk G W' H S' ∧ WLe W W' ∧ c S' = true) (fun i H x H' => ∀ d, ds[i]? = some d → ∀ W' S', HpOk G W' H S' → WLe W W' → c S' = true → ∃ W2, Ext W' H W2 H' ∧ HpOk G W2 H' S' ∧ Rep G W2 d x)
theorem IterOk.toC {J : It} {k : Sto → Bool} (h : IterOk G J W ds) : IterC G J W k ds := ⟨h.w.mono (fun H ⟨W', S', O, l, _⟩ => ⟨W', S', O, l⟩) fun i H x H' _ _ q d hd W' S' O l _ => q d hd W' S' O l⟩
def PIC' (G : Gh) (Wsh : WX) (σ : L2.St) (W : Wd) (H : Hp) (R : It → Hp → Prop) : RI → Prop
  | .ok ds c S' => ∀ J W' H', Ext W H W' H' → HpOk G W' H' S' → IterC G J W' c ds → R J H'
  | .exc c fs S' => ∀ cls dx W' H', Ext W H W' H' → HpOk G W' H' S' → ExcRep G W' H' c fs cls dx → Wsh cls dx σ H'
  | .fail => False
def tIC (G : Gh) (Wsh : WX) (f : FI) : TI := fun σ H R => ∃ B W ρ S, Ok G B W σ H ρ S ∧ PIC' G Wsh σ W H R (f ρ S)
def fIC (fa : FA) : FI := fun ρ S => match fa ρ S with
  | .ok ds S1 => .ok ds (fun _ => true) S1
  | .exc c fs S1 => .exc c fs S1
  | .fail => .fail
theorem ci_c (h : PI X tg e (tI G Wsh fa)) : PI X tg e (tIC G Wsh (fIC fa)) := ⟨fun pins s σ H R I ⟨B, W, ρ, S, O, q⟩ => h.run pins s σ H R I ⟨B, W, ρ, S, O, by
  unfold fIC at q
  generalize fa ρ S = r at q ⊢
  cases r with
  | ok ds S1 => exact fun J W' H' e o i => q J W' H' e o i.toC
  | exc _ _ _ => exact q
  | fail => exact q⟩⟩
/-- a cell's list -/
noncomputable def chkL (n : Nat) (ds : List D) (S : Sto) : Bool := @decide (S[n]? = some (.lst ds)) (Classical.propDecidable _)
theorem chkL_of {n : Nat} (h : chkL n ds S = true) : S[n]? = some (.lst ds) := @of_decide_eq_true _ (Classical.propDecidable _) h
theorem chkL_ok {n : Nat} (h : S[n]? = some (.lst ds)) : chkL n ds S = true := @decide_eq_true _ (Classical.propDecidable _) h
noncomputable def fICell (f : FE) : FI := fun ρ S => match f ρ S with
  | .ok (.cell n) S1 => match S1[n]? with
    | some (.lst ds) => .ok ds (chkL n ds) S1
    | _ => .fail
  | .ok _ _ => .fail
  | .exc c fs S1 => .exc c fs S1
  | .fail => .fail
theorem ci_cell (he : PE X e (tE G Wsh f)) : PI X tg e (tIC G Wsh (fICell f)) := ⟨fun pins s σ H R I ⟨B, W, ρ, S, O, q⟩ => (pi_list he).run pins s σ H R I ⟨B, W, ρ, S, O, by
  unfold fICell at q
  generalize f ρ S = r at q ⊢
  cases r with
  | ok d S1 =>
    intro v W1 H1 e o hr
    cases d <;> first | exact q.elim | skip
    rename_i n
    dsimp only at q
    split at q
    · rename_i ds hS
      obtain ⟨p, rfl, hp⟩ := (show ∃ a, _ from hr)
      obtain ⟨⟨xs, h1, h2⟩, _⟩ := cell_at o hp hS
      refine ⟨p, rfl, ⟨xs, .inl (.of h1)⟩, q _ W1 H1 e o ⟨?_⟩⟩
      rw [h2.length]
      have at' : ∀ H W' S', HpOk G W' H S' → WLe W1 W' → chkL n ds S' = true → ∃ ys, SqL X.K H p ys ∧ RepL G W' ds ys := fun H W' S' o' l c => by
        obtain ⟨⟨ys, h3, h4⟩, _⟩ := cell_at o' (l.cs _ _ hp) (chkL_of c)
        exact ⟨ys, .inl (.of h3), h4⟩
      refine ⟨fun i H hi ⟨W', S', o', l, c⟩ => ?_, fun H ⟨W', S', o', l, c⟩ => ?_, fun i H x H' hi _ y d hd W' S' o' l c => ?_⟩
      · obtain ⟨ys, h3, h4⟩ := at' H W' S' o' l c
        have hl : i < ys.length := by rw [← h4.length, h2.length]; exact hi
        exact ⟨ys, ys[i], h3, by simp [hl]⟩
      · obtain ⟨ys, h3, h4⟩ := at' H W' S' o' l c
        exact ⟨ys, h3, by rw [← h4.length, h2.length]; exact Nat.le_refl _⟩
      · obtain ⟨ys, h3, h4⟩ := at' H W' S' o' l c
        obtain ⟨rfl, y⟩ := y
        obtain ⟨z, h5, h6⟩ := h4.get hd
        rw [y ys h3] at h5; cases h5
        exact ⟨W', .rfl', o', h6⟩
    · exact q.elim
  | exc _ _ _ => exact q
  | fail => exact q⟩⟩
/-! ### wiping -/
def wipeE (ρ : Env) : List Nat → Env
  | [] => ρ
  | v :: vs => (wipeE ρ vs).set v .un
theorem Ok.unset (O : Ok G B W σ H ρ S) {i : Nat} : Ok G B W (σ.set i none) H (ρ.set i .un) S := by
  have key : ∀ {j : Nat} {s : Sl}, (ρ.set i .un)[j]? = some s → IsOwn s → ρ[j]? = some s ∧ i ≠ j := fun {j s} hj ho => by
    by_cases e : i = j
    · subst e
      have hi : i < ρ.length := by have := (List.getElem?_eq_some_iff.mp hj).1; simpa using this
      rw [List.getElem?_set_self hi] at hj
      cases hj
      exact ho.elim
    · rw [List.getElem?_set_ne e] at hj; exact ⟨hj, e⟩
  refine ⟨O.hp, O.ex, by rw [List.length_set, List.length_set]; exact O.len, fun j s hj => ?_, fun j s a hj ho hx => ?_, fun j l s t a hj ho hl ho' h1 h2 => ?_⟩
  · by_cases e : i = j
    · subst e
      have hi : i < ρ.length := by have := (List.getElem?_eq_some_iff.mp hj).1; simpa using this
      rw [List.getElem?_set_self hi] at hj
      cases hj
      exact trivial
    · rw [List.getElem?_set_ne e] at hj
      rw [List.getElem?_set_ne e]
      exact O.slt j s hj
  · obtain ⟨h1, h2⟩ := key hj ho
    rw [List.getElem?_set_ne h2] at hx
    exact O.own j s a h1 ho hx
  · obtain ⟨k1, k2⟩ := key hj ho
    obtain ⟨k3, k4⟩ := key hl ho'
    rw [List.getElem?_set_ne k2] at h1
    rw [List.getElem?_set_ne k4] at h2
    exact O.dis j l s t a k1 ho k3 ho' h1 h2
theorem Ok.wipe (O : Ok G B W σ H ρ S) : ∀ {vs : List Nat}, Ok G B W (L2.wipe σ vs) H (wipeE ρ vs) S
  | [] => O
  | _ :: _ => (O.wipe).unset
theorem fresh_mut {D : Addr} {u : HO} (h : HpOk G W H S) (hF : W.F D = none) (hc : D ∉ W.cs) : HpOk G W (upd H D u) S := by
  refine ⟨fun a o e => ?_, h.nd, h.len, fun k a c h1 h2 => ?_⟩
  · rw [upd_ne (ne_of_none e hF)]; exact h.sub a o e
  · obtain ⟨g1, g2⟩ := h.cel k a c h1 h2
    have : a ≠ D := fun z => by subst z; exact hc (List.mem_of_getElem? h1)
    exact ⟨g1, g2.mono .rfl' (upd_ne this)⟩
theorem fresh_ext {D : Addr} {u : HO} (h : Ext W H W' H') (hD : H D = none) : Ext W H W' (upd H' D u) := by
  refine ⟨h.le, fun a o e hc => ?_, h.nf, h.nc, fun a ha o e => ?_⟩
  · rw [upd_ne (ne_of_none e hD)]; exact h.kp a o e hc
  · rw [upd_ne (ne_of_none e hD)]; exact h.st a ha o e
/-! ### the comprehension -/
def lcD (c : Sto → Bool) (g : GD) (t f : FE) (ρ : Env) : List D → Sto → List D → Option (List D × Sto)
  | [], S, acc => if c S then some (acc, S) else none
  | d :: ds, S, acc => if c S then match g d ρ S with
    | some (ρ1, S1) => match t ρ1 S1 with
      | .ok (.bl true) S2 => match f ρ1 S2 with
        | .ok y S3 => if acc.length < 16777216 then lcD c g t f ρ ds S3 (acc ++ [y]) else none
        | _ => none
      | .ok (.bl false) S2 => lcD c g t f ρ ds S2 acc
      | _ => none
    | none => none else none
def fLc (fi : FI) (vs : List Nat) (g : GD) (t f : FE) : FN := fun ρ S => match fi ρ S with
  | .ok ds c S1 => match lcD c g t f (wipeE ρ vs) ds S1 [] with
    | some (acc, S2) => .ok (.ol acc) S2
    | none => .fail
  | .exc c fs S1 => .exc c fs S1
  | .fail => .fail
theorem lc_ok {fi : FI} {g : GD} {Q : VK} (hq : tN G Wsh (fLc fi vs g t f) σ H Q) : tLc (tIC G Wsh fi) (tGw G vs g) (tT G W0 t) (tE G W0 f) vs σ H Q := by
  obtain ⟨B, W, ρ, S, O, hq⟩ := hq
  refine ⟨B, W, ρ, S, O, ?_⟩
  unfold fLc at hq
  generalize fi ρ S = r at hq ⊢
  cases r with
  | exc _ _ _ => exact hq
  | fail => exact hq
  | ok ds c S1 =>
    intro J W1 H1 e1 o1 io D hD
    dsimp only at hq
    have O1 : Ok G B W1 σ H1 ρ S1 := O.ext e1 o1
    obtain ⟨hDF, _, hDc, _⟩ := O1.free hD
    have hDH : H D = none := by
      cases q : H D with
      | none => rfl
      | some o =>
        exfalso
        by_cases hc : D ∈ W.cs
        · obtain ⟨o', e'⟩ := e1.st D hc o q
          rw [hD] at e'; cases e'
        · rw [e1.kp D o q hc] at hD; cases hD
    refine lc_it io.w (fun i Hi => ∃ W2 S2 acc xs, Ext W1 H1 W2 Hi ∧ HpOk G W2 Hi S2 ∧ Hi D = some (.lst xs) ∧ W2.F D = none ∧ D ∉ W2.cs ∧ RepL G W2 acc xs ∧ c S2 = true ∧ (match lcD c g t f (wipeE ρ vs) (ds.drop i) S2 acc with
      | some (acc', S3) => ∀ v W' H', Ext W H W' H' → HpOk G W' H' S3 → NewAt G H W' H' (.ol acc') v → Q v H'
      | none => False)) ?_ (fun i Hi _ ⟨W2, S2, acc, xs, h1, h2, h3, h4, h5, h6, h7, h8⟩ => ⟨W2, S2, h2, h1.le, h7⟩) (fun i x Hi H' hi ⟨W2, S2, acc, xs, h1, h2, h3, h4, h5, h6, h7, h8⟩ hy => ?_) (fun Hi ⟨W2, S2, acc, xs, h1, h2, h3, h4, h5, h6, h7, h8⟩ => ?_)
    · have hcS : c S1 = true := by
        cases q : c S1 with
        | true => rfl
        | false =>
          exfalso
          have : lcD c g t f (wipeE ρ vs) ds S1 [] = none := by cases ds <;> simp [lcD, q]
          rw [this] at hq; exact hq
      refine ⟨W1, S1, [], [], fresh_ext .rfl' hD, fresh_mut o1 hDF hDc, upd_same, hDF, hDc, .nil, hcS, ?_⟩
      rw [List.drop_zero]
      generalize lcD c g t f (wipeE ρ vs) ds S1 [] = r at hq ⊢
      cases r with
      | none => exact hq
      | some pr => exact hq
    · have e : ds.drop i = ds[i] :: ds.drop (i + 1) := (List.getElem_cons_drop (h := hi)).symm
      rw [e, lcD, if_pos h7] at h8
      obtain ⟨W3, e3, o3, r3⟩ := hy ds[i] (List.getElem?_eq_getElem hi) W2 S2 h2 h1.le h7
      have O3 : Ok G B W3 σ H' ρ S2 := (O1.ext h1 h2).ext e3 o3
      refine ⟨B, W3, wipeE ρ vs, S2, ds[i], O3.wipe, r3, ?_⟩
      cases eg : g ds[i] (wipeE ρ vs) S2 with
      | none => rw [eg] at h8; exact h8.elim
      | some pr =>
        obtain ⟨ρ1, S4⟩ := pr
        simp only [eg] at h8 ⊢
        intro σ2 hw O4
        refine ⟨hw.trans wipe_wipe, B, W3, ρ1, S4, O4, ?_⟩
        have k3 : H' D = some (.lst xs) := e3.kp D _ h3 h5
        have kF : W3.F D = none := e3.nf D _ h3 h4
        have kc : D ∉ W3.cs := fun z => (e3.nc D z).elim h5 fun q => by rw [h3] at q; cases q
        generalize t ρ1 S4 = rt at h8 ⊢
        cases rt with
        | exc _ _ _ => exact h8.elim
        | fail => exact h8.elim
        | ok d S5 =>
          intro v W5 H5 e5 o5 hr5
          cases d <;> first | exact h8.elim | skip
          rename_i bb
          refine ⟨bb, hr5, ?_⟩
          have k5 : H5 D = some (.lst xs) := e5.kp D _ k3 kc
          have kF5 : W5.F D = none := e5.nf D _ k3 kF
          have kc5 : D ∉ W5.cs := fun z => (e5.nc D z).elim kc fun q => by rw [k3] at q; cases q
          have E5 : Ext W1 H1 W5 H5 := (h1.trans e3).trans e5
          have cS : ∀ {S' : Sto} {acc' : List Dl.D}, (match lcD c g t f (wipeE ρ vs) (ds.drop (i + 1)) S' acc' with
            | some (acc', S3) => ∀ v W' H', Ext W H W' H' → HpOk G W' H' S3 → NewAt G H W' H' (.ol acc') v → Q v H'
            | none => False) → c S' = true := fun {S' acc'} hm => by
            cases q : c S' with
            | true => rfl
            | false =>
              exfalso
              have : lcD c g t f (wipeE ρ vs) (ds.drop (i + 1)) S' acc' = none := by cases ds.drop (i + 1) <;> simp [lcD, q]
              rw [this] at hm; exact hm
          cases bb with
          | false =>
            show ite (false = true) _ _
            rw [if_neg Bool.false_ne_true]
            dsimp only at h8
            exact ⟨W5, S5, acc, xs, E5, o5, k5, kF5, kc5, RepL.mono (e3.le.trans e5.le) _ _ h6, cS h8, h8⟩
          | true =>
            show ite (true = true) _ _
            rw [if_pos rfl]
            dsimp only at h8
            have O5 := O4.ext e5 o5
            refine ⟨B, W5, ρ1, S5, O5, ?_⟩
            generalize f ρ1 S5 = rf at h8 ⊢
            cases rf with
            | exc _ _ _ => exact h8.elim
            | fail => exact h8.elim
            | ok y S6 =>
              intro v6 W6 H6 e6 o6 hr6
              dsimp only at h8
              have k6 : H6 D = some (.lst xs) := e6.kp D _ k5 kc5
              have kF6 : W6.F D = none := e6.nf D _ k5 kF5
              have kc6 : D ∉ W6.cs := fun z => (e6.nc D z).elim kc5 fun q => by rw [k5] at q; cases q
              by_cases hlt : acc.length < 16777216
              · rw [if_pos hlt] at h8
                exact ⟨xs, k6, by rw [sizeLine_eq, ← h6.length]; exact hlt, W6, S6, acc ++ [y], xs ++ [v6], fresh_ext (E5.trans e6) hD, fresh_mut o6 kF6 kc6, upd_same, kF6, kc6,
                  (RepL.mono (e3.le.trans (e5.le.trans e6.le)) _ _ h6).append (.cons hr6 .nil), cS h8, h8⟩
              · rw [if_neg hlt] at h8; exact h8.elim
    · rw [List.drop_length, lcD, if_pos h7] at h8
      exact h8 _ W2 Hi (e1.trans h1) h2 ⟨⟨xs, h3, h6⟩, fun _ a ha => by cases ha; exact ⟨hDH, h4, h5⟩⟩
theorem cn_lc {scope : Scope} {own : List (Str × Nat)} {fi : FI} {g : GD} (hc : X.calm = true) (hN : X.N.Nodup) (hi : PI X tg iter (tIC G Wsh fi)) (ok : BlkOk X.N X.env.scope scope own)
    (hg : ∀ (s : Shared) (H : Hp) (C : Addr) (cl : List (Str × Addr)) (fp : List Addr), PG (X.blk s H scope (compEnvC scope cl C X.env) fp) tg (tGw G (own.map (·.2)) g)) (ht : ∀ (s : Shared) (H : Hp) (C : Addr) (cl : List (Str × Addr)) (fp : List Addr), PTs (X.blk s H scope (compEnvC scope cl C X.env) fp) ifs (tT G W0 t))
    (he : ∀ (s : Shared) (H : Hp) (C : Addr) (cl : List (Str × Addr)) (fp : List Addr), PE (X.blk s H scope (compEnvC scope cl C X.env) fp) elt (tE G W0 f)) (hs : ∀ x, foldedSetIterable iter X.env x = pure x := by intro _; rfl) :
    PE X (.ListComp elt [⟨tg, iter, ifs, 0⟩] scope pos) (tN G Wsh (fLc fi (own.map (·.2)) g t f)) := (pe_lc hc hN hi ok hg ht he hs).imp fun σ H Q q => lc_ok q
theorem cs_lc {i : Nat} {scope : Scope} {own : List (Str × Nat)} {fi : FI} {g : GD} (hc : X.calm = true) (hN : X.N.Nodup) (hy : X.N[i]? = some y) (hyl : X.env.scope.names.lookup y = some .local)
    (hsw : swapsWith (.ListComp elt [⟨tg, iter, ifs, 0⟩] scope pos) (some (.Name y py)) spos.line X.env = pure true) (hi : PI X tg iter (tIC G Wsh fi)) (ok : BlkOk X.N X.env.scope scope own)
    (hg : ∀ (s : Shared) (H : Hp) (C : Addr) (cl : List (Str × Addr)) (fp : List Addr), PG (X.blk s H scope (compEnvC scope cl C X.env) fp) tg (tGw G (own.map (·.2)) g)) (ht : ∀ (s : Shared) (H : Hp) (C : Addr) (cl : List (Str × Addr)) (fp : List Addr), PTs (X.blk s H scope (compEnvC scope cl C X.env) fp) ifs (tT G W0 t))
    (he : ∀ (s : Shared) (H : Hp) (C : Addr) (cl : List (Str × Addr)) (fp : List Addr), PE (X.blk s H scope (compEnvC scope cl C X.env) fp) elt (tE G W0 f)) (hs : ∀ x, foldedSetIterable iter X.env x = pure x := by intro _; rfl) :
    PS X (.Assign [.Name y py] (.ListComp elt [⟨tg, iter, ifs, 0⟩] scope pos) spos) (tS G Wsh (fSetN i (fLc fi (own.map (·.2)) g t f))) :=
  (ps_setLc hc hN hy hyl hsw hi ok hg ht he hs).imp fun D' σ H ⟨B, W, ρ, S, O, q⟩ => lc_ok (Q := fun x H1 => D'.nx (σ.set i (some x)) H1) ⟨B, W, ρ, S, O, PN'.bindS O q fun v s S1 W1 H1 _ M hr q => q.nx' .rfl' (O.setn M hr)⟩
end
end Dl
end
section
set_option Elab.async false
set_option linter.all false
set_option maxRecDepth 100000
set_option maxHeartbeats 1000000
/-! The deep layer: builtin functions. -/
namespace Dl
open PySem L2
/-! ### arguments read in place -/
def RepBL (G : Gh) (W : Wd) (H : Hp) : List D → List V → Prop
  | [], xs => xs = []
  | d :: ds, xs => ∃ x r, xs = x :: r ∧ RepB G W H d x ∧ RepBL G W H ds r
section
variable {X : Cx} {G : Gh} {Wsh : WX} {a b c e o : Expr} {es : List Expr} {f g h f' : FE} {fa ga : FA} {pos p p2 p3 apos tpos : Pos} {x y id : Str} {n : Nat} {fs gs : FS} {T : String}
variable {B : Wd × Hp} {W W1 W' : Wd} {σ : L2.St} {H H1 H' : Hp} {ρ : Env} {S S1 S' : Sto} {ds : List D} {vs : List V}
theorem RepL.toB : ∀ {ds : List D} {vs : List V}, RepL G W ds vs → RepBL G W H ds vs
  | [], _, h => h
  | d :: ds, _, h => by
    obtain ⟨x, r, rfl, h2, h3⟩ := (show ∃ x r, _ from h)
    exact ⟨x, r, rfl, .inl h2, RepL.toB h3⟩
theorem RepBL.ext (e : Ext W H W' H') : ∀ {ds : List D} {vs : List V}, RepBL G W H ds vs → RepBL G W' H' ds vs
  | [], _, h => h
  | d :: ds, _, h => by
    obtain ⟨x, r, rfl, h2, h3⟩ := (show ∃ x r, _ from h)
    exact ⟨x, r, rfl, h2.ext e, RepBL.ext e h3⟩
theorem RepBL.one {d : D} (h : RepBL G W H [d] vs) : ∃ v, vs = [v] ∧ RepB G W H d v := by
  obtain ⟨x, r, rfl, h2, h3⟩ := (show ∃ x r, _ from h)
  cases (show r = [] from h3)
  exact ⟨x, rfl, h2⟩
theorem RepBL.two {d d' : D} (h : RepBL G W H [d, d'] vs) : ∃ v v', vs = [v, v'] ∧ RepB G W H d v ∧ RepB G W H d' v' := by
  obtain ⟨x, r, rfl, h2, h3⟩ := (show ∃ x r, _ from h)
  obtain ⟨x', rfl, h4⟩ := h3.one
  exact ⟨x, x', rfl, h2, h4⟩
def PAB' (G : Gh) (Wsh : WX) (σ : L2.St) (W : Wd) (H : Hp) (Q : List V → Hp → Prop) : RA → Prop
  | .ok ds S' => ∀ vs W' H', Ext W H W' H' → HpOk G W' H' S' → RepBL G W' H' ds vs → Q vs H'
  | .exc c fs S' => ∀ cls dx W' H', Ext W H W' H' → HpOk G W' H' S' → ExcRep G W' H' c fs cls dx → Wsh cls dx σ H'
  | .fail => False
def tAB (G : Gh) (Wsh : WX) (f : FA) : TA := fun σ H Q => ∃ B W ρ S, Ok G B W σ H ρ S ∧ PAB' G Wsh σ W H Q (f ρ S)
theorem ca_b (h : PA X es (tA G Wsh fa)) : PA X es (tAB G Wsh fa) := h.imp fun σ H Q ⟨B, W, ρ, S, O, q⟩ => ⟨B, W, ρ, S, O, by
  generalize fa ρ S = r at q ⊢
  cases r with
  | ok ds S1 => exact fun vs W' H' e o r => q vs W' H' e o r.toB
  | exc _ _ _ => exact q
  | fail => exact q⟩
theorem PAB'.at {Q : List V → Hp → Prop} (e : Ext W H W1 H1) : ∀ {r : RA}, PAB' G Wsh σ W H Q r → PAB' G Wsh σ W1 H1 Q r
  | .ok _ _, h => fun v W' H' e' o r => h v W' H' (e.trans e') o r
  | .exc _ _ _, h => fun cls dx W' H' e' o r => h cls dx W' H' (e.trans e') o r
  | .fail, h => h
theorem cab_nil : PA X [] (tAB G Wsh fNil) := ca_b ca_nil
theorem cab_cons (ha : PE X e (tB G Wsh f)) (hr : PA X es (tAB G Wsh fa)) (hs : starEach (e :: es) X.env = (false, eval e X.env) :: starEach es X.env := by rfl) : PA X (e :: es) (tAB G Wsh (fCons f fa)) :=
  (pa_cons ha hr hs).imp fun σ H Q ⟨B, W, ρ, S, O, h⟩ => ⟨B, W, ρ, S, O, by
    unfold fCons at h
    generalize f ρ S = r at h ⊢
    cases r with
    | exc _ _ _ => exact h
    | fail => exact h
    | ok d S1 =>
      intro v W1 H1 e1 o1 r1
      refine ⟨B, W1, ρ, S1, O.ext e1 o1, ?_⟩
      have h : PAB' G Wsh σ W H Q ((fa ρ S1).bindA fun ds S2 => .ok (d :: ds) S2) := h
      generalize fa ρ S1 = r2 at h ⊢
      cases r2 with
      | exc _ _ _ => exact PAB'.at (r := .exc _ _ _) e1 h
      | fail => exact h
      | ok ds S2 => exact fun vs W2 H2 e2 o2 r2 => h (v :: vs) W2 H2 (e1.trans e2) o2 ⟨v, vs, rfl, r1.ext e2, r2⟩⟩
/-- what a builtin function does with closed data -/
def CSem (G : Gh) (r : List V → Hp → VK → Prop) (k : Sto → List D → Option D) : Prop := ∀ (W : Wd) (H : Hp) (S : Sto) (xs : List V) (ds : List D) (z : D) (Q : VK), HpOk G W H S → RepBL G W H ds xs → k S ds = some z →
  (∀ v W' H', Ext W H W' H' → HpOk G W' H' S → Rep G W' z v → Q v H') → r xs H Q
def fCB (k : Sto → List D → Option D) (fa : FA) : FE := fun ρ S => (fa ρ S).bind fun ds S1 => RE.ofO (k S1 ds) S1
theorem cb_ok {r : List V → Hp → VK → Prop} {k : Sto → List D → Option D} (hs : CSem G r k) {Q : VK} (h : tE G Wsh (fCB k fa) σ H Q) : tCB r (tAB G Wsh fa) σ H Q := by
  obtain ⟨B, W, ρ, S, O, h⟩ := h
  refine ⟨B, W, ρ, S, O, ?_⟩
  unfold fCB at h
  generalize fa ρ S = ra at h ⊢
  cases ra with
  | exc _ _ _ => exact h
  | fail => exact h
  | ok ds S1 =>
    intro vs W1 H1 e1 o1 r1
    have h : PE' G Wsh σ W H Q (RE.ofO (k S1 ds) S1) := h
    cases ez : k S1 ds with
    | none => rw [ez] at h; exact h.elim
    | some z =>
      rw [ez] at h
      exact hs W1 H1 S1 vs ds z Q o1 r1 ez fun v W' H' e o r => h v W' H' (e1.trans e) o r
theorem ce_callB {id : String} {r : List V → Hp → VK → Prop} {k : Sto → List D → Option D} (hc : CallR X (.builtin id) r) (hs : CSem G r k) (hg : Gl X x) (hm : X.mg x = none) (ha : PA X (e :: es) (tAB G Wsh fa)) (hv : bootBuiltins x = some (.builtin id) := by decide +kernel) (hn : x ≠ "__name__" := by decide) (hdb : (x == ("__debug__" : Str)) = false := by decide)
    (he : starEach (e :: es) X.env = (false, eval e X.env) :: starEach es X.env := by rfl) (hpl : (backTo pos (starEach es X.env)).any (·.1) = false := by rfl) : PE X (.Call (.Name x p) (e :: es) [] pos) (tE G Wsh (fCB k fa)) :=
  (pe_callB hc hg hm hv ha hn hdb he hpl).imp fun σ H Q h => cb_ok hs h
theorem ce_callTy {r : List V → Hp → VK → Prop} {k : Sto → List D → Option D} (hc : CallR X (.type T) r) (hs : CSem G r k) (hg : Gl X x) (hm : X.mg x = none) (ha : PA X (e :: es) (tAB G Wsh fa)) (hv : bootBuiltins x = some (.type T) := by decide +kernel) (hn : x ≠ "__name__" := by decide) (hdb : (x == ("__debug__" : Str)) = false := by decide)
    (he : starEach (e :: es) X.env = (false, eval e X.env) :: starEach es X.env := by rfl) (hpl : (backTo pos (starEach es X.env)).any (·.1) = false := by rfl) : PE X (.Call (.Name x p) (e :: es) [] pos) (tE G Wsh (fCB k fa)) :=
  (pe_callTy hc hg hm hv ha hn hdb he hpl).imp fun σ H Q h => cb_ok hs h
theorem ce_ty {u : String} (hg : Gl X x) (hm : X.mg x = none) (hv : bootBuiltins x = some (.type u) := by decide +kernel) (hn : x ≠ "__name__" := by decide) (hd : (x == ("__debug__" : Str)) = false := by decide) : PE X (.Name x pos) (tE G Wsh fun _ S => .ok (.ty u) S) :=
  (pe_bltn hg hm hv (v := .ty u) rfl hn hd).imp fun σ H Q ⟨B, W, ρ, S, O, q⟩ => q _ W H .rfl' O.hp rfl
/-! ### len, int, abs, max, min -/
def kLen : Sto → List D → Option D
  | _, [.str x] => if szOk x.length then some (.int x.length) else none
  | _, [.tup ds] => some (.int ds.length)
  | _, [.lst ds] => some (.int ds.length)
  | _, [.kt ds] => some (.int ds.length)
  | _, [.scr ds] => some (.int ds.length)
  | S, [.cell n] => match S[n]? with
    | some (.lst ds) => some (.int ds.length)
    | _ => none
  | _, [.dct false ks _] => some (.int ks.length)
  | _, _ => none
def rLen (K : PySem.W.Frag) : List V → Hp → VK → Prop := fun xs H Q => (∃ x n, xs = [x] ∧ LenV K x H n ∧ Q (.int n) H) ∨ ∃ a kvs, xs = [V.ref a] ∧ Rd H a (.dK kvs) ∧ Q (.int kvs.length) H
theorem call_lenAll : CallR X (.builtin "len") (rLen X.K) := by
  intro pins s σ H xs us Q I r h
  rcases h with h | ⟨a, kvs, rfl, ha, q⟩
  · exact call_len pins s σ H xs us Q I r h
  · obtain ⟨u, rfl, ru⟩ := vals1 r
    cases ru
    exact d_len I ha fun t s' I' => ⟨.int kvs.length, H, I', ⟨t, rfl⟩, q⟩
theorem sem_len (hK : G.K = X.K) : CSem G (rLen X.K) kLen := by
  intro W H S xs ds z Q O hr hz q
  unfold kLen at hz
  split at hz
  · rename_i x
    obtain ⟨v, rfl, h⟩ := hr.one
    split at hz
    · rename_i hsz
      cases hz
      cases (show v = V.str x from h.rep rfl)
      exact .inl ⟨_, x.length, rfl, ⟨szOk_line hsz, rfl⟩, q _ W H .rfl' O rfl⟩
    · cases hz
  · rename_i ds
    obtain ⟨v, rfl, h⟩ := hr.one
    cases hz
    obtain ⟨p, xs, rfl, e1, l⟩ := (show ∃ a xs, _ from h.rep rfl)
    exact .inl ⟨_, ds.length, rfl, .inr ⟨xs, .of (O.sub _ _ e1), l.length⟩, q _ W H .rfl' O rfl⟩
  · rename_i ds
    obtain ⟨v, rfl, h⟩ := hr.one
    cases hz
    obtain ⟨p, xs, rfl, e1, l⟩ := h.lst O
    exact .inl ⟨_, ds.length, rfl, .inl ⟨xs, .inl (.of e1), l.length⟩, q _ W H .rfl' O rfl⟩
  · rename_i ds
    obtain ⟨v, rfl, h⟩ := hr.one
    cases hz
    obtain ⟨p, xs, rfl, e1, l⟩ := (show ∃ a xs, _ from h.rep rfl)
    exact .inl ⟨_, ds.length, rfl, .inr ⟨xs, .inr (hK ▸ e1), l.length⟩, q _ W H .rfl' O rfl⟩
  · rename_i ds
    obtain ⟨v, rfl, h⟩ := hr.one
    cases hz
    obtain ⟨p, xs, rfl, e1, l⟩ := (show ∃ a xs, _ from h.rep rfl)
    exact .inl ⟨_, ds.length, rfl, .inl ⟨xs, e1.imp (fun e1 => e1.elim (fun e => .inl (O.sub _ _ e)) fun ⟨o, e⟩ => .inr ⟨o, O.sub _ _ e⟩) (fun q => hK ▸ q), l.length⟩, q _ W H .rfl' O rfl⟩
  · rename_i n
    obtain ⟨v, rfl, h⟩ := hr.one
    split at hz
    · rename_i ds hS
      cases hz
      obtain ⟨p, rfl, hp⟩ := (show ∃ a, _ from h.rep rfl)
      obtain ⟨⟨xs, e1, l⟩, _⟩ := cell_at O hp hS
      exact .inl ⟨_, ds.length, rfl, .inl ⟨xs, .inl (.of e1), l.length⟩, q _ W H .rfl' O rfl⟩
    · cases hz
  · rename_i ks vs
    obtain ⟨v, rfl, h⟩ := hr.one
    cases hz
    obtain ⟨p, ys, rfl, ⟨kvs, h1, rfl, rfl⟩, l⟩ := h.dct O
    exact .inr ⟨p, kvs, rfl, h1, q _ W H .rfl' O (by rw [List.length_map]; rfl)⟩
  · cases hz
def kInt1 : Sto → List D → Option D
  | _, [.int i] => some (.int i)
  | _, [.bl b] => some (.int (if b then 1 else 0))
  | _, _ => none
theorem sem_int1 : CSem G (fun xs H Q => (∃ i, xs = [.int i] ∧ Q (.int i) H) ∨ ∃ k, xs = [.bl k] ∧ Q (.int (if k then 1 else 0)) H) kInt1 := by
  intro W H S xs ds z Q O hr hz q
  unfold kInt1 at hz
  split at hz
  · rename_i i
    obtain ⟨v, rfl, h⟩ := hr.one
    cases hz
    cases (show v = V.int i from h.rep rfl)
    exact .inl ⟨i, rfl, q _ W H .rfl' O rfl⟩
  · rename_i b
    obtain ⟨v, rfl, h⟩ := hr.one
    cases hz
    cases (show v = V.bl b from h.rep rfl)
    exact .inr ⟨b, rfl, q _ W H .rfl' O rfl⟩
  · cases hz
def kAbs : Sto → List D → Option D
  | _, [.int i] => some (.int (if i < 0 then -i else i))
  | _, _ => none
theorem sem_abs : CSem G (fun xs H Q => ∃ i, xs = [.int i] ∧ Q (.int (if i < 0 then -i else i)) H) kAbs := by
  intro W H S xs ds z Q O hr hz q
  unfold kAbs at hz
  split at hz
  · rename_i i
    obtain ⟨v, rfl, h⟩ := hr.one
    cases hz
    cases (show v = V.int i from h.rep rfl)
    exact ⟨i, rfl, q _ W H .rfl' O rfl⟩
  · cases hz
def kMax : Sto → List D → Option D
  | _, [.int i, .int j] => some (.int (if j > i then j else i))
  | _, _ => none
def kMin : Sto → List D → Option D
  | _, [.int i, .int j] => some (.int (if j < i then j else i))
  | _, _ => none
theorem sem_max : CSem G (fun xs H Q => ∃ i j, xs = [.int i, .int j] ∧ Q (.int (if j > i then j else i)) H) kMax := by
  intro W H S xs ds z Q O hr hz q
  unfold kMax at hz
  split at hz
  · rename_i i j
    obtain ⟨v, v', rfl, h, h'⟩ := hr.two
    cases hz
    cases (show v = V.int i from h.rep rfl)
    cases (show v' = V.int j from h'.rep rfl)
    exact ⟨i, j, rfl, q _ W H .rfl' O rfl⟩
  · cases hz
theorem sem_min : CSem G (fun xs H Q => ∃ i j, xs = [.int i, .int j] ∧ Q (.int (if j < i then j else i)) H) kMin := by
  intro W H S xs ds z Q O hr hz q
  unfold kMin at hz
  split at hz
  · rename_i i j
    obtain ⟨v, v', rfl, h, h'⟩ := hr.two
    cases hz
    cases (show v = V.int i from h.rep rfl)
    cases (show v' = V.int j from h'.rep rfl)
    exact ⟨i, j, rfl, q _ W H .rfl' O rfl⟩
  · cases hz
/-! ### all -/
def blsD : List D → Option (List Bool)
  | [] => some []
  | .bl b :: ds => (blsD ds).map (b :: ·)
  | _ => none
theorem bls_rep : ∀ {ds : List D} {bs : List Bool} {xs : List V}, blsD ds = some bs → RepL G W ds xs → xs = bs.map V.bl
  | [], bs, xs, h, r => by cases h; exact r
  | d :: ds, bs, xs, h, r => by
    obtain ⟨x, xs, rfl, h2, h3⟩ := (show ∃ x r, _ from r)
    cases d <;> first | exact nosome h rfl | skip
    rename_i b
    simp only [blsD] at h
    cases e : blsD ds with
    | none => rw [e] at h; cases h
    | some bs' =>
      rw [e] at h; cases h
      rw [bls_rep e h3]
      cases (show x = V.bl b from h2)
      rfl
def kAll : Sto → List D → Option D
  | _, [.lst ds] => (blsD ds).map fun bs => .bl (bs.all _root_.id)
  | _, _ => none
theorem sem_all : CSem G (rAll X.K) kAll := by
  intro W H S xs ds z Q O hr hz q
  unfold kAll at hz
  split at hz
  · rename_i ds
    obtain ⟨v, rfl, h⟩ := hr.one
    cases e : blsD ds with
    | none => rw [e] at hz; cases hz
    | some bs =>
      rw [e] at hz; cases hz
      obtain ⟨p, xs, rfl, e1, l⟩ := h.lst O
      exact ⟨p, bs, rfl, .inl (.of (bls_rep e l ▸ e1)), q _ W H .rfl' O rfl⟩
  · cases hz
end
end Dl
end
section
set_option Elab.async false
set_option linter.all false
set_option maxRecDepth 100000
set_option maxHeartbeats 1000000
/-! The deep layer: sorting, sets. -/
namespace Dl
open PySem L2
/-! ### a sort that the kernel runs -/
section
variable {α β : Type} {le : α → α → Bool}
def insBy (le : α → α → Bool) (a : α) : List α → List α
  | [] => [a]
  | b :: l => if le a b = true then a :: b :: l else b :: insBy le a l
def isort (le : α → α → Bool) : List α → List α
  | [] => []
  | a :: l => insBy le a (isort le l)
theorem insBy_perm (a : α) : ∀ l : List α, (insBy le a l).Perm (a :: l)
  | [] => .refl _
  | b :: l => by
    unfold insBy
    split
    · exact .refl _
    · exact ((insBy_perm a l).cons b).trans (.swap a b l)
theorem isort_perm : ∀ l : List α, (isort le l).Perm l
  | [] => .refl _
  | a :: l => (insBy_perm a _).trans ((isort_perm l).cons a)
theorem insBy_sorted (h : PySem.W.TotalLe le) (a : α) : ∀ l : List α, l.Pairwise (fun x y => le x y = true) → (insBy le a l).Pairwise (fun x y => le x y = true)
  | [], _ => by simp [insBy]
  | b :: l, hl => by
    obtain ⟨h1, h2⟩ := List.pairwise_cons.mp hl
    unfold insBy
    split
    · rename_i hab
      refine List.pairwise_cons.mpr ⟨fun c hc => ?_, hl⟩
      rcases List.mem_cons.mp hc with rfl | hc
      · exact hab
      · exact h.trans _ _ _ hab (h1 c hc)
    · rename_i hab
      refine List.pairwise_cons.mpr ⟨fun c hc => ?_, insBy_sorted h a l h2⟩
      rcases List.mem_cons.mp ((insBy_perm a l).mem_iff.mp hc) with rfl | hc
      · exact (h.total b c).elim _root_.id fun z => absurd z hab
      · exact h1 c hc
theorem isort_sorted (h : PySem.W.TotalLe le) : ∀ l : List α, (isort le l).Pairwise (fun x y => le x y = true)
  | [] => by simp [isort]
  | a :: l => insBy_sorted h a _ (isort_sorted h l)
theorem insBy_filter (h : PySem.W.TotalLe le) (c a : α) : ∀ l : List α, l.Pairwise (fun x y => le x y = true) → (insBy le a l).filter (PySem.W.sameRank le c) = (a :: l).filter (PySem.W.sameRank le c)
  | [], _ => rfl
  | b :: l, hl => by
    obtain ⟨h1, h2⟩ := List.pairwise_cons.mp hl
    unfold insBy
    split
    · rfl
    · rename_i hab
      rw [List.filter_cons, insBy_filter h c a l h2, List.filter_cons, List.filter_cons, List.filter_cons]
      by_cases ha : PySem.W.sameRank le c a = true
      · by_cases hb : PySem.W.sameRank le c b = true
        · exfalso
          unfold PySem.W.sameRank at ha hb
          rw [Bool.and_eq_true] at ha hb
          exact hab (h.trans _ _ _ ha.2 hb.1)
        · rw [if_neg hb, if_pos ha, if_pos ha, if_neg hb]
      · rw [if_neg ha, if_neg ha]
theorem isort_eq (h : PySem.W.TotalLe le) (l : List α) : isort le l = l.mergeSort le := by
  refine PySem.W.sort_unique h (isort_sorted h l) fun c => ?_
  induction l with
  | nil => rfl
  | cons a l ih =>
    show (insBy le a (isort le l)).filter _ = _
    rw [insBy_filter h c a _ (isort_sorted h l), List.filter_cons, List.filter_cons, ih]
theorem insBy_map {f : α → β} {le' : β → β → Bool} (h : ∀ a b, le a b = le' (f a) (f b)) (a : α) : ∀ l : List α, (insBy le a l).map f = insBy le' (f a) (l.map f)
  | [] => rfl
  | b :: l => by
    simp only [insBy, List.map_cons, ← h]
    split
    · rfl
    · rw [List.map_cons, insBy_map h a l]
theorem isort_map {f : α → β} {le' : β → β → Bool} (h : ∀ a b, le a b = le' (f a) (f b)) : ∀ l : List α, (isort le l).map f = isort le' (l.map f)
  | [] => rfl
  | a :: l => by
    show (insBy le a (isort le l)).map f = insBy le' (f a) (isort le' (l.map f))
    rw [insBy_map h, isort_map h l]
/-- two lists in strict order with the same items are one -/
theorem strict_unique {r : α → α → Prop} (hr : ∀ a b, r a b → ¬ r b a) : ∀ l m : List α, l.Pairwise r → m.Pairwise r → (∀ a, a ∈ l ↔ a ∈ m) → l = m
  | [], [], _, _, _ => rfl
  | [], b :: m, _, _, h => absurd ((h b).mpr List.mem_cons_self) (by simp)
  | a :: l, [], _, _, h => absurd ((h a).mp List.mem_cons_self) (by simp)
  | a :: l, b :: m, hl, hm, h => by
    obtain ⟨l1, l2⟩ := List.pairwise_cons.mp hl
    obtain ⟨m1, m2⟩ := List.pairwise_cons.mp hm
    have e : a = b := by
      rcases List.mem_cons.mp ((h a).mp List.mem_cons_self) with e | ha
      · exact e
      · rcases List.mem_cons.mp ((h b).mpr List.mem_cons_self) with e | hb
        · exact e.symm
        · exact absurd (m1 a ha) (hr _ _ (l1 b hb))
    subst e
    have irr : ∀ {k : List α}, (∀ x ∈ k, r a x) → a ∉ k := fun hk hm => hr a a (hk a hm) (hk a hm)
    congr 1
    refine strict_unique hr l m l2 m2 fun x => ⟨fun hx => ?_, fun hx => ?_⟩
    · rcases List.mem_cons.mp ((h x).mp (List.mem_cons_of_mem _ hx)) with e | q
      · subst e; exact absurd hx (irr l1)
      · exact q
    · rcases List.mem_cons.mp ((h x).mpr (List.mem_cons_of_mem _ hx)) with e | q
      · subst e; exact absurd hx (irr m1)
      · exact q
end
/-! ### sorted(list), any data that can be compared -/
def leP (a b : PyData) : Bool := PySem.W.dataLe false (fun d : PyData => d) a b
def leD (a b : D) : Bool := leP (pyD a) (pyD b)
def srtD (ds : List D) : List D := isort leD ds
def isTupP : PyData → Bool
  | .tuple (_ :: _) => true
  | _ => false
def isAtP : PyData → Bool
  | .tuple _ => false
  | .none => false
  | _ => true
def srtOk (ds : List D) : Bool := datDs 15 ds && ((ds.all fun d => isTupP (pyD d)) || (ds.all fun d => isAtP (pyD d))) && (ds.all fun d => ds.all fun e => PySem.W.alike (pyD d) (pyD e)) && szOk ds.length
theorem total_leP : PySem.W.TotalLe leP := PySem.W.sortLe_total (PyProof.Rows.listOrd PyProof.Rows.itemOrd) false fun d => PySem.W.keyToks d
theorem pyDs_map : ∀ ds : List D, pyDs ds = ds.map pyD
  | [] => by simp [pyDs]
  | d :: ds => by simp [pyDs, pyDs_map ds]
def leVD (p q : V × D) : Bool := leP (pyD p.2) (pyD q.2)
theorem total_leVD : PySem.W.TotalLe leVD := PySem.W.sortLe_total (PyProof.Rows.listOrd PyProof.Rows.itemOrd) false _
def rSrt (K : PySem.W.Frag) : List V → Hp → VK → Prop := fun vs H Q => ∃ a xs ds, vs = [V.ref a] ∧ SqL K H a xs ∧ DpAll K H xs (pyDs ds) ∧ xs.length = ds.length ∧ srtOk ds = true ∧ ∀ p, H p = none → Q (.ref p) (upd H p (.lst ((isort leVD (xs.zip ds)).map Prod.fst)))
section
variable {X : Cx} {G : Gh} {Wsh : WX} {a b c e o : Expr} {es : List Expr} {f g h f' : FE} {fa ga : FA} {pos p p2 p3 apos tpos : Pos} {x y id : Str} {n : Nat} {fs gs : FS} {T : String}
variable {B : Wd × Hp} {W W1 W' : Wd} {σ : L2.St} {H H1 H' : Hp} {ρ : Env} {S S1 S' : Sto} {ds : List D} {vs : List V} {xs : List V} {s : Shared} {pins : List (Addr × Obj)}
theorem srt_parts (h : srtOk ds = true) : datDs 15 ds = true ∧ PySem.W.AllAlike (pyDs ds) ∧ PySem.W.Sortable (pyDs ds) ∧ ds.length ≤ sizeLine := by
  unfold srtOk at h
  rw [Bool.and_eq_true, Bool.and_eq_true, Bool.and_eq_true] at h
  obtain ⟨⟨⟨h1, h2⟩, h3⟩, h4⟩ := h
  refine ⟨h1, fun d hd d' hd' => ?_, ?_, szOk_line h4⟩
  · rw [pyDs_map] at hd hd'
    obtain ⟨a, ha, rfl⟩ := List.mem_map.mp hd
    obtain ⟨b, hb, rfl⟩ := List.mem_map.mp hd'
    exact List.all_eq_true.mp (List.all_eq_true.mp h3 a ha) b hb
  · rw [Bool.or_eq_true] at h2
    refine h2.imp (fun q d hd => ?_) fun q d hd => ?_
    · rw [pyDs_map] at hd
      obtain ⟨a, ha, rfl⟩ := List.mem_map.mp hd
      have := List.all_eq_true.mp q a ha
      generalize pyD a = z at this ⊢
      unfold isTupP at this
      split at this
      · exact ⟨_, _, rfl⟩
      · cases this
    · rw [pyDs_map] at hd
      obtain ⟨a, ha, rfl⟩ := List.mem_map.mp hd
      have := List.all_eq_true.mp q a ha
      generalize pyD a = z at this ⊢
      exact ⟨fun e => (by rw [e] at this; exact nofalse this rfl), fun xs e => (by rw [e] at this; exact nofalse this rfl)⟩
theorem zip_eachIs (I : Inv X pins σ H s) : ∀ {xs : List V} {us : List Value} {ds : List D}, Vals xs us → DpAll X.K H xs (pyDs ds) →
    PySem.W.EachIs (fun u p => RelV p.1 u) us (xs.zip ds) ∧ PySem.W.EachIs (fun u (p : V × D) => ∃ as, Reads s.heap u (pyD p.2) as) us (xs.zip ds)
  | [], _, ds, .nil, h => by
    cases ds with
    | nil => exact ⟨.nil, .nil⟩
    | cons d ds => rw [pyDs] at h; cases h
  | x :: xs, u :: us, [], .cons r t, h => by rw [pyDs] at h; cases h
  | x :: xs, u :: us, d :: ds, .cons r t, h => by
    rw [pyDs] at h
    cases h with
    | cons h1 h2 =>
      obtain ⟨g1, g2⟩ := zip_eachIs I t h2
      exact ⟨.cons r g1, .cons (Dp.reads I _ _ _ h1 r) g2⟩
theorem each_vals : ∀ {us : List Value} {ps : List (V × D)}, PySem.W.EachIs (fun u p => RelV p.1 u) us ps → Vals (ps.map Prod.fst) us
  | _, _, .nil => .nil
  | _, _, .cons r t => .cons r (each_vals t)
theorem call_srt (hu : X.A.units + 32 < cLine) : CallR X (.builtin "sorted") (rSrt X.K) := by
  intro pins s σ H vs us Q I r h
  obtain ⟨a, xs, ds, rfl, hs, hd, hlen, hok, q⟩ := h
  obtain ⟨h1, h2, h3, h4⟩ := srt_parts hok
  obtain ⟨its, rv, hl, hz⟩ := I.list hs
  rw [Vals.ref1 r]
  obtain ⟨g1, g2⟩ := zip_eachIs I rv hd
  have hm : (xs.zip ds).map (fun p => pyD p.2) = pyDs ds := by
    rw [pyDs_map]
    have : (xs.zip ds).map (fun p => pyD p.2) = ((xs.zip ds).map Prod.snd).map pyD := by rw [List.map_map]; rfl
    rw [this, List.map_snd_zip (by omega)]
  refine PySem.W.sorted_data (enc := fun p : V × D => pyD p.2) (bs := xs.zip ds) hl.isList g1 g2 (by rw [hm]; exact h2) (by rw [hm]; exact h3) (by rw [List.length_zip]; omega) (fun p hp => ?_) fun out ho eo => ?_
  · have hd2 : p.2 ∈ ds := (List.of_mem_zip hp).2
    have key : ∀ {ds : List D} {d : D}, d ∈ ds → datDs 15 ds = true → (pyD d).depth ≤ 15 := fun {ds d} hm hq => by
      induction ds with
      | nil => cases hm
      | cons z ds ih =>
        have hq' : (datD 15 z && datDs 15 ds) = true := by rw [datDs] at hq; exact hq
        obtain ⟨a1, a2⟩ := Bool.and_eq_true_iff.mp hq'
        rcases List.mem_cons.mp hm with rfl | hm
        · exact (lay_of 15 _ a1).2
        · exact ih hm a2
    have := key hd2 h1
    show X.A.units + 2 + (pyD p.2).depth < cLine
    omega
  · obtain ⟨ep, he'⟩ := PyProof.Rows.sortedAll_at s.heap its (List.toArray out)
    have e1 : (xs.zip ds).mergeSort (PySem.W.dataLe false fun p => pyD p.2) = isort leVD (xs.zip ds) := (isort_eq total_leVD _).symm
    rw [e1] at eo
    have hl2 : ((isort leVD (xs.zip ds)).map Prod.fst).length ≤ sizeLine := by rw [List.length_map, (isort_perm _).length_eq, List.length_zip]; omega
    exact ⟨.ref _, upd H (s.heap.objs.size + 1) (.lst ((isort leVD (xs.zip ds)).map Prod.fst)), I.laid (t' := s.toks) (fun _ _ => PyProof.Rows.sortedAll_old) (Nat.le_succ _) ⟨hl2, out, ep, each_vals eo, by simpa using he'⟩, rfl, q _ (I.hok.fresh (Nat.le_succ _))⟩
theorem rep_pairs : ∀ {ps : List (V × D)}, (∀ p ∈ ps, Rep G W p.2 p.1) → RepL G W (ps.map Prod.snd) (ps.map Prod.fst)
  | [], _ => .nil
  | p :: ps, h => .cons (h p List.mem_cons_self) (rep_pairs fun q hq => h q (List.mem_cons_of_mem _ hq))
theorem rep_zip : ∀ {ds : List D} {xs : List V}, RepL G W ds xs → ∀ p ∈ xs.zip ds, Rep G W p.2 p.1
  | [], _, h, p, hp => by cases (show _ = [] from h); simp at hp
  | d :: ds, _, h, p, hp => by
    obtain ⟨x, r, rfl, h2, h3⟩ := (show ∃ x r, _ from h)
    rcases List.mem_cons.mp (by simpa using hp : p ∈ (x, d) :: r.zip ds) with rfl | hp
    · exact h2
    · exact rep_zip h3 p hp
def kSrt : Sto → List D → Option D
  | _, [.lst ds] => if srtOk ds then some (.lst (srtD ds)) else none
  | _, _ => none
theorem sem_srt (hK : G.K = X.K) : CSem G (rSrt X.K) kSrt := by
  intro W H S xs ds z Q O hr hz q
  unfold kSrt at hz
  split at hz
  · rename_i ds
    obtain ⟨v, rfl, h⟩ := hr.one
    split at hz
    · rename_i hok
      cases hz
      obtain ⟨p, xs, rfl, e1, l⟩ := h.lst O
      refine ⟨p, xs, ds, rfl, .inl (.of e1), dps_of hK O 15 ds xs (srt_parts hok).1 l, l.length.symm, hok, fun a ha => ?_⟩
      obtain ⟨g1, g2⟩ := ext_new (o := .lst ((isort leVD (xs.zip ds)).map Prod.fst)) ha O
      refine q _ _ _ g1 g2 ⟨a, _, rfl, put_at, ?_⟩
      have e2 : srtD ds = (isort leVD (xs.zip ds)).map Prod.snd := by
        rw [isort_map (le := leVD) (f := Prod.snd) (le' := leD) (fun _ _ => rfl), List.map_snd_zip (by rw [l.length]; exact Nat.le_refl _)]
        rfl
      rw [e2]
      exact RepL.mono g1.le _ _ (rep_pairs fun p hp => rep_zip l p ((isort_perm _).mem_iff.mp hp))
    · cases hz
  · cases hz
/-! ### sorted(set(list of tuples of ints)) -/
def intsD : List D → Option (List Int)
  | [] => some []
  | .int i :: ds => (intsD ds).map (i :: ·)
  | _ => none
def tupI : D → Option (List Int)
  | .tup ds => intsD ds
  | _ => none
def tupIs : List D → Option (List (List Int))
  | [] => some []
  | d :: ds => match tupI d, tupIs ds with
    | some n, some ns => some (n :: ns)
    | _, _ => none
def dedupI : List (List Int) → List (List Int)
  | [] => []
  | n :: ns => if (dedupI ns).contains n then dedupI ns else n :: dedupI ns
def leC (B : Int) (n m : List Int) : Bool := decide (TS.code B n ≤ TS.code B m)
def srtC (B : Int) (ns : List (List Int)) : List (List Int) := isort (leC B) (dedupI ns)
def tupOf (n : List Int) : D := .tup (n.map .int)
def setOk (d : Nat) (B : Int) (ns : List (List Int)) : Bool := decide (ns.length < 64) && decide (1 ≤ d) && (ns.all fun n => decide (n.length = d) && n.all fun i => decide (0 ≤ i) && decide (i < B))
theorem intsD_eq : ∀ {ds : List D} {n : List Int}, intsD ds = some n → ds = n.map .int
  | [], n, h => by cases h; rfl
  | d :: ds, n, h => by
    cases d <;> first | exact nosome h rfl | skip
    rename_i i
    simp only [intsD] at h
    cases e : intsD ds with
    | none => rw [e] at h; cases h
    | some m => rw [e] at h; cases h; rw [intsD_eq e]; rfl
theorem tupI_eq {d : D} {n : List Int} (h : tupI d = some n) : d = tupOf n := by
  cases d <;> first | exact nosome h rfl | skip
  rw [tupI] at h
  rw [intsD_eq h]; rfl
theorem tupIs_eq : ∀ {ds : List D} {ns : List (List Int)}, tupIs ds = some ns → ds = ns.map tupOf
  | [], ns, h => by cases h; rfl
  | d :: ds, ns, h => by
    rw [tupIs] at h
    cases e1 : tupI d with
    | none => rw [e1] at h; cases h
    | some n =>
      cases e2 : tupIs ds with
      | none => rw [e1, e2] at h; cases h
      | some m => rw [e1, e2] at h; cases h; rw [tupI_eq e1, tupIs_eq e2]; rfl
theorem mem_dedupI {n : List Int} : ∀ {ns : List (List Int)}, n ∈ dedupI ns ↔ n ∈ ns
  | [] => by simp [dedupI]
  | m :: ns => by
    unfold dedupI
    split
    · rename_i h
      rw [mem_dedupI]
      refine ⟨fun q => List.mem_cons_of_mem _ q, fun q => ?_⟩
      rcases List.mem_cons.mp q with rfl | q
      · exact mem_dedupI.mp (by simpa using h)
      · exact q
    · rw [List.mem_cons, List.mem_cons, mem_dedupI]
theorem nodup_dedupI : ∀ {ns : List (List Int)}, (dedupI ns).Nodup
  | [] => by simp [dedupI]
  | m :: ns => by
    unfold dedupI
    split
    · exact nodup_dedupI
    · rename_i h
      exact List.nodup_cons.mpr ⟨fun z => h (by simpa using z), nodup_dedupI⟩
theorem code_inj {B : Int} : ∀ {n m : List Int}, n.length = m.length → TS.Bd B n → TS.Bd B m → TS.code B n = TS.code B m → n = m
  | [], [], _, _, _, _ => rfl
  | d :: r, e :: q, hl, hn, hm, h => by
    have hl' : r.length = q.length := by simpa using hl
    rcases Int.lt_trichotomy d e with c | c | c
    · exact absurd h (Int.ne_of_lt (TS.code_lt hl' hn.tail hm.tail c))
    · subst c
      have : TS.code B r = TS.code B q := by
        have h' : d * B ^ r.length + TS.code B r = d * B ^ q.length + TS.code B q := h
        rw [hl'] at h'
        omega
      rw [code_inj hl' hn.tail hm.tail this]
    · exact absurd h.symm (Int.ne_of_lt (TS.code_lt hl'.symm hm.tail hn.tail c))
theorem ts_rep : ∀ {ns : List (List Int)} {xs : List V}, RepL G W (ns.map tupOf) xs → ∃ ks : List (Addr × List Int), ks.map (·.2) = ns ∧ xs = ks.map (fun p => V.ref p.1) ∧ ∀ p ∈ ks, W.F p.1 = some (.tup (p.2.map V.int))
  | [], xs, h => by cases (show xs = [] from h); exact ⟨[], rfl, rfl, by simp⟩
  | n :: ns, xs, h => by
    obtain ⟨x, r, rfl, h2, h3⟩ := (show ∃ x r, _ from h)
    obtain ⟨a, ys, rfl, h4, h5⟩ := (show ∃ a xs, _ from h2)
    obtain ⟨ks, e1, e2, e3⟩ := ts_rep h3
    have e4 : ys = n.map V.int := by
      have : ∀ {n : List Int} {ys : List V}, RepL G W (n.map D.int) ys → ys = n.map V.int := fun {n} => by
        induction n with
        | nil => intro ys h; exact h
        | cons i n ih =>
          intro ys h
          obtain ⟨x, r, rfl, h2, h3⟩ := (show ∃ x r, _ from h)
          rw [ih h3]
          cases (show x = V.int i from h2)
          rfl
      exact this h5
    subst e4
    refine ⟨(a, n) :: ks, by simp [e1], by simp [e2], fun p hp => ?_⟩
    rcases List.mem_cons.mp hp with rfl | hp
    · exact h4
    · exact e3 p hp
def fSrtSet (d : Nat) (B : Int) (f : FE) : FE := fun ρ S => (f ρ S).bind fun z S1 => match z with
  | .lst ds => match tupIs ds with
    | some ns => if setOk d B ns then .ok (.lst ((srtC B ns).map tupOf)) S1 else .fail
    | none => .fail
  | _ => .fail
theorem ce_sortedSet {p4 : Pos} (d : Nat) (Bd : Int) (hK : G.K = X.K) (hc : X.calm = true) (hu : X.A.units + 64 < cLine) (hg : Gl X "sorted") (hm : X.mg "sorted" = none) (hg2 : Gl X "set") (hm2 : X.mg "set" = none) (he : PE X e (tB G Wsh f))
    (hst : starEach [e] X.env = (false, eval e X.env) :: starEach [] X.env := by rfl)
    (hst2 : starEach [Expr.Call (.Name "set" p2) [e] [] p3] X.env = (false, eval (Expr.Call (.Name "set" p2) [e] [] p3) X.env) :: starEach [] X.env := by rfl)
    (hpl : (backTo p3 (starEach [] X.env)).any (·.1) = false := by rfl) (hpl2 : (backTo p4 (starEach [] X.env)).any (·.1) = false := by rfl) :
    PE X (.Call (.Name "sorted" p) [.Call (.Name "set" p2) [e] [] p3] [] p4) (tE G Wsh (fSrtSet d Bd f)) := by
  refine (pe_callB (cr_sortedT hc) hg hm (by decide +kernel) (pa_cons (pe_callTy (cr_setOfT hc hu) hg2 hm2 (by decide +kernel) (pa_cons he pa_nil hst) (by decide) (by decide) hst hpl) pa_nil hst2) (by decide) (by decide) hst2 hpl2).imp fun σ H Q ⟨B, W, ρ, S, O, h⟩ => ?_
  refine ⟨B, W, ρ, S, O, PB'.bind O h fun v z S1 W1 H1 _ M hr q => ?_⟩
  cases z <;> first | exact q.elim | skip
  rename_i ds
  dsimp only at q
  split at q
  · rename_i ns hns
    split at q
    · rename_i hok
      unfold setOk at hok
      rw [Bool.and_eq_true, Bool.and_eq_true] at hok
      obtain ⟨⟨k1, k2⟩, k3⟩ := hok
      have k3 : ∀ n ∈ ns, n.length = d ∧ TS.Bd Bd n := fun n hn => by
        have := List.all_eq_true.mp k3 n hn
        rw [Bool.and_eq_true] at this
        refine ⟨of_decide_eq_true this.1, fun i hi => ?_⟩
        have := List.all_eq_true.mp this.2 i hi
        rw [Bool.and_eq_true] at this
        exact ⟨of_decide_eq_true this.1, of_decide_eq_true this.2⟩
      obtain ⟨l, xs, rfl, e1, l1⟩ := hr.lst M.ok.hp
      rw [tupIs_eq hns] at l1
      obtain ⟨ks, e2, e3, e4⟩ := ts_rep l1
      subst e2 e3
      refine ⟨l, ks, rfl, .inl (.of e1), fun p hp => .inl (.of (M.ok.hp.sub _ _ (e4 p hp))), by have := of_decide_eq_true k1; simpa using this, fun a L ha hL1 hL2 => ?_⟩
      obtain ⟨g1, g2⟩ := ext_new0 (o := SetTO X.prog X.w a L) ha M.ok.hp
      refine ⟨a, L, d, Bd, rfl, upd_same, fun p hp => .inl (.of (g2.sub _ _ (e4 p (hL1 p hp)))), of_decide_eq_true k2, fun p hp => k3 p.2 (List.mem_map.mpr ⟨p, hL1 p hp, rfl⟩), fun L' p hperm hnd _ hpw hp => ?_⟩
      obtain ⟨g3, g4⟩ := ext_new (o := .lst (L'.map fun q => V.ref q.1)) hp g2
      refine q _ _ _ (g1.trans g3) g4 ⟨p, _, rfl, put_at, ?_⟩
      have hin : ∀ q ∈ L', q ∈ ks := fun q hq => hL1 q (hperm.mem_iff.mp hq)
      have e5 : srtC Bd (ks.map (·.2)) = L'.map (·.2) := by
        have hd : ∀ n ∈ ks.map (·.2), n.length = d ∧ TS.Bd Bd n := k3
        have str : ∀ {m : List (List Int)}, m.Nodup → (∀ n ∈ m, n ∈ ks.map (·.2)) → m.Pairwise (fun n k => TS.code Bd n ≤ TS.code Bd k) → m.Pairwise (fun n k => TS.code Bd n < TS.code Bd k) := fun {m} h1 h2 h3 => by
          refine List.Pairwise.imp_of_mem (fun {n k} hn hk hh => ?_) (h3.and h1)
          have a1 := hd n (h2 n hn)
          have a2 := hd k (h2 k hk)
          rcases Int.lt_or_eq_of_le hh.1 with z | z
          · exact z
          · exact absurd (code_inj (a1.1.trans a2.1.symm) a1.2 a2.2 z) hh.2
        have tot : PySem.W.TotalLe (leC Bd) := ⟨fun a b c h1 h2 => by unfold leC at *; have := of_decide_eq_true h1; have := of_decide_eq_true h2; exact decide_eq_true (by omega), fun a b => by unfold leC; rcases Int.le_total (TS.code Bd a) (TS.code Bd b) with z | z; exact .inl (decide_eq_true z); exact .inr (decide_eq_true z)⟩
        refine strict_unique (r := fun n k => TS.code Bd n < TS.code Bd k) (fun a b h1 h2 => by omega) _ _ (str ((isort_perm _).nodup_iff.mpr nodup_dedupI) (fun n hn => mem_dedupI.mp ((isort_perm _).mem_iff.mp hn)) ((isort_sorted tot _).imp fun hh => of_decide_eq_true hh)) (str hnd (fun n hn => ?_) (List.pairwise_map.mpr hpw)) fun n => ?_
        · obtain ⟨q, hq, rfl⟩ := List.mem_map.mp hn
          exact List.mem_map.mpr ⟨q, hin q hq, rfl⟩
        · unfold srtC
          rw [(isort_perm _).mem_iff, mem_dedupI]
          refine ⟨fun hn => ?_, fun hn => ?_⟩
          · obtain ⟨q, hq, rfl⟩ := List.mem_map.mp hn
            exact (hperm.map (·.2)).mem_iff.mpr (hL2 q hq)
          · obtain ⟨q, hq, rfl⟩ := List.mem_map.mp hn
            exact List.mem_map.mpr ⟨q, hin q hq, rfl⟩
      rw [e5]
      have : ∀ {L : List (Addr × List Int)}, (∀ q ∈ L, q ∈ ks) → RepL G W1 ((L.map (·.2)).map tupOf) (L.map fun q => V.ref q.1) := fun {L} => by
        induction L with
        | nil => exact fun _ => .nil
        | cons q L ih => exact fun hh => .cons ⟨q.1, _, rfl, e4 q (hh q List.mem_cons_self), RepL.ints q.2⟩ (ih fun r hr => hh r (List.mem_cons_of_mem _ hr))
      exact RepL.mono (g1.le.trans g3.le) _ _ (this hin)
    · exact q.elim
  · exact q.elim
end
end Dl
end
section
set_option Elab.async false
set_option linter.all false
set_option maxRecDepth 100000
set_option maxHeartbeats 1000000
/-! The deep layer: fields stored, instances made. -/
namespace Dl
open PySem L2
section
variable {X : Cx} {G : Gh} {Wsh : WX} {a b c e o : Expr} {es : List Expr} {f g h f' : FE} {fa ga : FA} {pos pos' p p2 p3 apos tpos : Pos} {x y id fl : Str} {n k : Nat} {fs gs : FS} {T : String}
variable {B : Wd × Hp} {W W1 W' : Wd} {σ : L2.St} {H H1 H' : Hp} {ρ : Env} {S S1 S' : Sto} {ds : List D} {vs : List V} {xs : List V} {s : Shared} {pins : List (Addr × Obj)} {F : FD}
theorem putF_set : ∀ {ns : List Str} {ys : List V} {i : Nat} {f : Str} {y : V}, ns.Nodup → ns[i]? = some f → i < ys.length → putF f y (ns.zip ys) = ns.zip (ys.set i y)
  | [], _, _, _, _, _, h, _ => by simp at h
  | m :: ns, [], _, _, _, _, _, h => by simp at h
  | m :: ns, z :: ys, 0, f, y, _, h, _ => by
    simp at h; subst h
    simp [putF]
  | m :: ns, z :: ys, i + 1, f, y, hn, h, hl => by
    have h' : ns[i]? = some f := by simpa using h
    have hne : m ≠ f := fun e => by subst e; exact (List.nodup_cons.mp hn).1 (List.mem_of_getElem? h')
    rw [List.zip_cons_cons, List.set_cons_succ, List.zip_cons_cons]
    show (if m = f then _ else _) = _
    rw [if_neg hne, putF_set (List.nodup_cons.mp hn).2 h' (by simpa using hl)]
theorem putF_new : ∀ {ns : List Str} {ys : List V} {f : Str} {y : V}, ns.Nodup → ns[ys.length]? = some f → putF f y (ns.zip ys) = ns.zip (ys ++ [y])
  | [], _, _, _, _, h => by simp at h
  | m :: ns, [], f, y, _, h => by simp at h; subst h; simp [putF]
  | m :: ns, z :: ys, f, y, hn, h => by
    have h' : ns[ys.length]? = some f := by simpa using h
    have hne : m ≠ f := fun e => by subst e; exact (List.nodup_cons.mp hn).1 (List.mem_of_getElem? h')
    rw [List.zip_cons_cons, List.cons_append, List.zip_cons_cons]
    show (if m = f then _ else _) = _
    rw [if_neg hne, putF_new (List.nodup_cons.mp hn).2 h']
/-- the cell's fields behind a store -/
def putD (i : Nat) (d : D) (fs : List D) : Option (List D) := if i < fs.length then some (fs.set i d) else if i = fs.length then some (fs ++ [d]) else none
def stoF (t i : Nat) (d : D) (o : D) (S : Sto) : Option Sto := match o with
  | .cell n => match S[n]? with
    | some (.ins t' fs) => if t' = t then (putD i d fs).map fun fs' => S.set n (.ins t fs') else none
    | _ => none
  | _ => none
theorem sto_at (O : Ok G B W σ H ρ S) {t i : Nat} {d od : D} {v y : V} (C : ClsOk X.K G t) (hi : (G.fn t)[i]? = some fl) (hn : (G.fn t).length ≤ 500) (ho : Rep G W od v) (hd : Rep G W d y) (e : stoF t i d od S = some S') :
    ∃ p dx zs, v = .ref p ∧ H p = some (.ins (G.ct t) dx zs) ∧ zs.length < 1000 ∧ Ok G B W σ (upd H p (.ins (G.ct t) dx (putF fl y zs))) ρ S' := by
  unfold stoF at e
  split at e
  · rename_i n
    split at e
    · rename_i t' fs hS
      split at e
      · rename_i ht
        subst ht
        obtain ⟨p, rfl, hp⟩ := (show ∃ a, _ from ho)
        obtain ⟨⟨dx, ys, h1, h2, h3⟩, _⟩ := cell_at O.hp hp hS
        refine ⟨p, dx, _, rfl, h1, by rw [List.length_zip]; omega, ?_⟩
        have hlt : i < (G.fn t').length := (List.getElem?_eq_some_iff.mp hi).1
        unfold putD at e
        split at e
        · rename_i h4
          cases e
          refine O.cmut hp hS (by exact fun z => by cases z) ⟨dx, ys.set i y, by rw [upd_same, putF_set C.nd hi (by rw [← h3.length]; exact h4)], by rw [List.length_set]; exact h2, h3.set hd i⟩
        · split at e
          · rename_i h4
            cases e
            subst h4
            rw [h3.length] at hi
            refine O.cmut hp hS (by exact fun z => by cases z) ⟨dx, ys ++ [y], by rw [upd_same, putF_new C.nd hi], by rw [List.length_append]; exact hlt, h3.append (.cons hd .nil)⟩
          · cases e
      · cases e
    · cases e
  · cases e
/-- o.f = e -/
def fFst (t i : Nat) (fo fe : FE) : FS := fun ρ S => (fe ρ S).bindS ρ fun d S1 => (fo ρ S1).bindS ρ fun od S2 => match stoF t i d od S2 with
  | some S3 => .nx ρ S3
  | none => .fail
theorem cs_fst (t i : Nat) (C : ClsOk X.K G t) (hi : (G.fn t)[i]? = some fl) (hn : (G.fn t).length ≤ 500) (na : NoAttr X.K (G.ct t) fl) (ho : PE X o (tE G Wsh f)) (he : PE X e (tE G Wsh g)) (hs : swapsWith e (some (.Attribute o fl pos')) pos.line X.env = pure false := by rfl) :
    PS X (.Assign [.Attribute o fl pos'] e pos) (tS G Wsh (fFst t i f g)) :=
  (ps_fld ho he hs).imp fun D' σ H ⟨B, W, ρ, S, O, q⟩ => ⟨B, W, ρ, S, O, PE'.bindS O q fun v d S1 W1 H1 _ M hr q => ⟨B, W1, ρ, S1, M.ok, PE'.bindS M.ok q fun v2 od S2 W2 H2 _ M2 hr2 q2 => by
    cases e : stoF t i d od S2 with
    | none => rw [e] at q2; exact q2.elim
    | some S3 =>
      rw [e] at q2
      obtain ⟨p, dx, zs, rfl, h1, h2, O3⟩ := sto_at M2.ok C hi hn hr2 (Rep.mono M2.ex.le _ _ hr) e
      exact ⟨p, G.ct t, dx, zs, rfl, h1, C.cl, na, h2, q2.nx' .rfl' O3⟩⟩⟩
def gFld (t i : Nat) (f : FE) : GD := fun d ρ S => match f ρ S with
  | .ok od S1 => (stoF t i d od S1).map fun S2 => (ρ, S2)
  | _ => none
/-- the target o.f -/
theorem cg_fld (t i : Nat) (C : ClsOk X.K G t) (hi : (G.fn t)[i]? = some fl) (hn : (G.fn t).length ≤ 500) (na : NoAttr X.K (G.ct t) fl) (ho : PE X o (tE G Wsh f)) : PG X (.Attribute o fl pos) (tG G (gFld t i f)) := ⟨fun pins s σ H v u Q I r ⟨B, W, ρ, S, d, O, hd, q⟩ => by
  refine PySem.W.kas_attr (thn (ho.run pins s σ H (fun w H1 => ∃ p dx zs, w = .ref p ∧ H1 p = some (.ins (G.ct t) dx zs) ∧ zs.length < 1000 ∧ Q σ (upd H1 p (.ins (G.ct t) dx (putF fl v zs)))) I ⟨B, W, ρ, S, O, ?_⟩) fun ov s2 ⟨x, H2, I2, rx, p, dx, zs, ex, ea, l, q2⟩ => ?_)
  · revert q
    unfold gFld
    generalize f ρ S = rf
    intro q
    cases rf with
    | exc _ _ _ => exact q.elim
    | fail => exact q.elim
    | ok od S1 =>
      intro w W1 H1 e1 o1 r1
      dsimp only at q
      cases e : stoF t i d od S1 with
      | none => rw [e] at q; exact q.elim
      | some S2 =>
        rw [e] at q
        obtain ⟨p, dx, zs, rfl, h1, h2, O3⟩ := sto_at (O.ext e1 o1) C hi hn r1 (Rep.mono e1.le _ _ hd) e
        exact ⟨p, dx, zs, rfl, h1, h2, q σ W1 _ e1.le O3⟩
  · subst ex
    obtain rfl : ov = Value.ref p := rx
    exact setattr_ok I2 ea C.cl na l r fun s3 I3 => ⟨σ, _, I3, q2⟩⟩
/-! ### instances made -/
/-- a class whose __init__ is a def of its own with n parameters behind self -/
structure Cla (P : Program) (w : World) (K : PySem.W.Frag) (mg : Str → Option Value) (base : Heap) (G : Gh) (k : Nat) (x : Str) (t n : Nat) (dd : List D) (F : FD) : Prop where
  ex : ∃ (f : Addr) (fd : FuncData) (ps : List Str) (ds : List Value) (dvs : List V), FnOk P w K mg base (L2.CX P w) k f fd ps (spD G (n + dd.length + 1) F) ∧ Mk K (G.ct t) f ∧ mg x = some (.ref (G.ct t)) ∧ Binds K fd ps ds ∧ Vals dvs ds ∧ ∀ W, RepL G W dd dvs
theorem run_makeS {fi C : Addr} {fd : FuncData} {ps : List Str} {sp : Sp} {dvs : List V} {dss : List Value} {E : XK} {Q : VK} {us : List Value} (M : Mk X.K C fi) (F : FnOk X.prog X.w X.K X.mg X.base (L2.CX X.prog X.w) k fi fd ps sp) (hr : Room (k + 1) X.A) (hb : Binds X.K fd ps dss) (hd : Vals dvs dss)
    (hx : PassesAt (L2.CX X.prog X.w) X σ E) (I : Inv X pins σ H s) (r : Vals vs us)
    (h : ∀ x dx, H x = none → H dx = none → dx ≠ x → sp (.ref x :: (vs ++ dvs)) (upd (upd H dx (.own x)) x (.ins C dx [])) (fun v H2 => v = .non ∧ Q (.ref x) H2) E) :
    wpAny (model X.prog X.w) X.A (call (.ref C) us) (EP X pins σ Q) X.xe s := by
  have hq := h (s.heap.objs.size + 1) s.heap.objs.size (I.hok.fresh (Nat.le_succ _)) (I.hok.fresh (Nat.le_refl _)) (Nat.ne_of_lt (Nat.lt_succ_self _))
  have I2 := Inv.made (C := C) I
  have r2 : Vals (V.ref (s.heap.objs.size + 1) :: (vs ++ dvs)) (Value.ref (s.heap.objs.size + 1) :: (us ++ dss)) := .cons rfl (r.append hd)
  have hl : (Value.ref (s.heap.objs.size + 1) :: us ++ dss).length = ps.length := by
    have e := r2.length
    rw [F.len _ _ _ _ hq] at e
    exact e.symm
  refine wpAny_call (make_map (f := fi) I.kIn M.makes M.init (beq_iff_eq.mp M.fn) (codeAny_mono (F.run _ X.stack _ _ ⟨Value.ref (s.heap.objs.size + 1) :: us, []⟩ (Value.ref (s.heap.objs.size + 1) :: (us ++ dss)) _ _ E (hr.make C us [])
    (I2.env0.make C us []) (hb _ (Value.ref (s.heap.objs.size + 1) :: us) I2.kIn hl) r2 hq) fun r s' hq' => ?_))
  cases r with
  | error e => exact hx pins _ _ e s' I2 hq'
  | ok fl =>
    cases fl with
    | ret u =>
      obtain ⟨v, H', I3, rv, ev, q3⟩ := I2.after hq'
      subst ev
      exact ⟨rv, ⟨V.ref (s.heap.objs.size + 1), H', I3, rfl, q3⟩⟩
    | next => exact False.elim hq'
    | brk => exact False.elim hq'
    | cont => exact False.elim hq'
def makeR (t n : Nat) (F : FD) (dd ds : List D) (S1 : Sto) (fin : Sto → RE) : RE := if ds.length = n then match F (.cell S1.length :: (ds ++ dd)) (S1 ++ [.ins t []]) with
  | .ok .non S2 => fin S2
  | .ok _ _ => .fail
  | .exc c fs S2 => .exc c fs S2
  | .fail => .fail else .fail
/-- the new instance as a cell -/
def fMakeC (t n : Nat) (F : FD) (dd : List D) (fa : FA) : FE := fun ρ S => (fa ρ S).bind fun ds S1 => makeR t n F dd ds S1 fun S2 => .ok (.cell S1.length) S2
/-- the new instance, frozen; its cell is dead -/
def frzS (t n : Nat) (S2 : Sto) : RE := match S2[n]? with
  | some (.ins t' fs) => if t' = t then .ok (.obj t fs) (S2.set n .dead) else .fail
  | _ => .fail
def fMakeO (t n : Nat) (F : FD) (dd : List D) (fa : FA) : FE := fun ρ S => (fa ρ S).bind fun ds S1 => makeR t n F dd ds S1 fun S2 => frzS t S1.length S2
theorem make_of {fin : Sto → RE} {Q : VK} {dd : List D} {dvs : List V} {t n : Nat} {q p : Addr} (O : Ok G B W1 σ H1 ρ S1) (l : RepL G W1 ds vs) (l2 : RepL G W1 dd dvs) (hp : H1 p = none) (hq : H1 q = none) (hne : q ≠ p)
    (hf : ∀ S2 W' H', Ext W1 H1 W' H' → HpOk G W' H' S2 → W'.cs[S1.length]? = some p → PE' G Wsh σ W1 H1 Q (fin S2) → Q (.ref p) H') (h : PE' G Wsh σ W1 H1 Q (makeR t n F dd ds S1 fin)) :
    spD G (n + dd.length + 1) F (.ref p :: (vs ++ dvs)) (upd (upd H1 q (.own p)) p (.ins (G.ct t) q [])) (fun v H2 => v = .non ∧ Q (.ref p) H2) (WE Wsh σ) := by
  unfold makeR at h
  split at h
  · rename_i hn
    obtain ⟨e1, o1⟩ := ext_new0 (o := .own p) hq O.hp
    have hp' : upd H1 q (.own p) p = none := by rw [upd_ne (Ne.symm hne)]; exact hp
    obtain ⟨e2, o2⟩ := ext_new0 (o := .ins (G.ct t) q []) hp' o1
    obtain ⟨f1, _, f3, _⟩ := O.free hp
    have o3 : HpOk G (W1.add p) (upd (upd H1 q (.own p)) p (.ins (G.ct t) q [])) (S1 ++ [.ins t []]) := hp_add o2 f1 f3 ⟨q, [], by rw [upd_same, List.zip_nil_right], Nat.zero_le _, .nil⟩
    have e12 := e1.trans e2
    have e3 : Ext W1 H1 (W1.add p) (upd (upd H1 q (.own p)) p (.ins (G.ct t) q [])) := ⟨le_add, e12.kp, e12.nf, fun a ha => by
      rcases List.mem_append.mp (show a ∈ W1.cs ++ [p] from ha) with z | z
      · exact .inl z
      · simp at z; subst z; exact .inr hp, e12.st⟩
    have hc : (W1.add p).cs[S1.length]? = some p := by rw [← O.hp.len]; exact add_at
    refine ⟨by simp [← l.length, ← l2.length, hn], W1.add p, _, .cell S1.length :: (ds ++ dd), o3, .cons ⟨p, rfl, hc⟩ ((RepL.mono le_add _ _ l).append (RepL.mono le_add _ _ l2)), ?_⟩
    generalize F (.cell S1.length :: (ds ++ dd)) (S1 ++ [.ins t []]) = r at h ⊢
    cases r with
    | fail => exact h
    | exc c fs S2 => exact fun cls dx W' H' e o er => h cls dx W' H' (e3.trans e) o er
    | ok d S2 =>
      intro v W' H' e o rv
      cases d <;> first | exact h.elim | skip
      exact ⟨rv, hf S2 W' H' (e3.trans e) o (e.le.cs _ _ hc) h⟩
  · exact h.elim
theorem ce_makeC {t : Nat} {dd : List D} (d : Cla X.prog X.w X.K X.mg X.base G k x t n dd F) (hr : Room (k + 1) X.A) (tk : Takes X Wsh) (hg : Gl X x) (ha : PA X (e :: es) (tA G Wsh fa)) (hdb : (x == ("__debug__" : Str)) = false := by decide)
    (he : starEach (e :: es) X.env = (false, eval e X.env) :: starEach es X.env := by rfl) (hpl : (backTo pos (starEach es X.env)).any (·.1) = false := by rfl) : PE X (.Call (.Name x p) (e :: es) [] pos) (tE G Wsh (fMakeC t n F dd fa)) := by
  obtain ⟨fi, fd, ps, dss, dvs, h1, M, hm, h4, h5, h6⟩ := d.ex
  refine ⟨fun pins s σ H Q I ⟨B, W, ρ, S, O, q⟩ => ?_⟩
  refine wpAny_Call_Name_kw (ld_glob I hg hm ?_ hdb)
  refine PySem.W.callWith_K (h₀ := X.base) I.ok.mod.kin M.kp (thn (ha.run pos pins s σ H (fun vs H1 => ∃ W1 S1 ds, Ok G B W1 σ H1 ρ S1 ∧ RepL G W1 ds vs ∧ PE' G Wsh σ W1 H1 Q (makeR t n F dd ds S1 fun S2 => .ok (.cell S1.length) S2)) I ⟨B, W, ρ, S, O, PA'.bind O q fun vs ds S1 W1 H1 M hr q => ⟨W1, S1, ds, M.ok, hr, q⟩⟩)
    fun us s1 ⟨vs, H1, I1, r, W1, S1, ds, O1, l, q1⟩ => ⟨I1.kIn, ?_⟩) he hpl
  refine run_makeS M h1 hr h4 h5 (passAt tk σ) I1 r fun p q hp hq hne => make_of O1 l (h6 W1) hp hq hne (fun S2 W' H' e o hc q2 => ?_) q1
  exact q2 _ W' H' e o ⟨p, rfl, hc⟩
theorem ce_makeO {t : Nat} {dd : List D} (d : Cla X.prog X.w X.K X.mg X.base G k x t n dd F) (hr : Room (k + 1) X.A) (tk : Takes X Wsh) (hg : Gl X x) (ha : PA X (e :: es) (tA G Wsh fa)) (hdb : (x == ("__debug__" : Str)) = false := by decide)
    (he : starEach (e :: es) X.env = (false, eval e X.env) :: starEach es X.env := by rfl) (hpl : (backTo pos (starEach es X.env)).any (·.1) = false := by rfl) : PE X (.Call (.Name x p) (e :: es) [] pos) (tE G Wsh (fMakeO t n F dd fa)) := by
  obtain ⟨fi, fd, ps, dss, dvs, h1, M, hm, h4, h5, h6⟩ := d.ex
  refine ⟨fun pins s σ H Q I ⟨B, W, ρ, S, O, q⟩ => ?_⟩
  refine wpAny_Call_Name_kw (ld_glob I hg hm ?_ hdb)
  refine PySem.W.callWith_K (h₀ := X.base) I.ok.mod.kin M.kp (thn (ha.run pos pins s σ H (fun vs H1 => ∃ W1 S1 ds, Ok G B W1 σ H1 ρ S1 ∧ RepL G W1 ds vs ∧ PE' G Wsh σ W1 H1 Q (makeR t n F dd ds S1 fun S2 => frzS t S1.length S2)) I ⟨B, W, ρ, S, O, PA'.bind O q fun vs ds S1 W1 H1 M hr q => ⟨W1, S1, ds, M.ok, hr, q⟩⟩)
    fun us s1 ⟨vs, H1, I1, r, W1, S1, ds, O1, l, q1⟩ => ⟨I1.kIn, ?_⟩) he hpl
  refine run_makeS M h1 hr h4 h5 (passAt tk σ) I1 r fun p q hp hq hne => make_of O1 l (h6 W1) hp hq hne (fun S2 W' H' e o hc q2 => ?_) q1
  unfold frzS at q2
  split at q2
  · rename_i t' fs hS
    split at q2
    · rename_i ht
      subst ht
      obtain ⟨⟨dx, ys, e1, e2, e3⟩, e4⟩ := cell_at o hc hS
      have e4 := e4 (fun z => by cases z)
      have hF : ∀ a u, W'.F a = some u → upd W'.F p (.ins (G.ct t') dx ((G.fn t').zip ys)) a = some u := fun a u z => by rw [upd_ne (ne_of_none z e4)]; exact z
      have le : WLe W' (W'.put p (.ins (G.ct t') dx ((G.fn t').zip ys))) := .of_F hF fun _ _ h => h
      refine q2 _ (W'.put p (.ins (G.ct t') dx ((G.fn t').zip ys))) H' ⟨e.le.trans le, e.kp, fun a u h hf => ?_, e.nc, e.st⟩ ⟨fun a u z => ?_, o.nd, by rw [List.length_set]; exact o.len, fun k a c h1 h2 => ?_⟩ ⟨p, dx, ys, rfl, put_at, e2, RepL.mono le _ _ e3⟩
      · show upd W'.F p _ a = none
        rw [upd_ne (ne_of_none h hp)]; exact e.nf a u h hf
      · by_cases ha : a = p
        · subst ha
          have z' : upd W'.F a (.ins (G.ct t') dx ((G.fn t').zip ys)) a = some u := z
          rw [upd_same] at z'; cases z'; exact e1
        · have z' : upd W'.F p (.ins (G.ct t') dx ((G.fn t').zip ys)) a = some u := z
          rw [upd_ne ha] at z'; exact o.sub a u z'
      · have h1' : W'.cs[k]? = some a := h1
        by_cases hk : S1.length = k
        · subst hk
          rw [hc] at h1'; cases h1'
          have hl : S1.length < S2.length := (List.getElem?_eq_some_iff.mp hS).1
          rw [List.getElem?_set_self hl] at h2
          cases h2
          exact ⟨fun z => absurd rfl z, ⟨_, e1⟩⟩
        · rw [List.getElem?_set_ne hk] at h2
          obtain ⟨g1, g2⟩ := o.cel k a c h1' h2
          have hap : a ≠ p := fun z => by
            subst z
            have k1 := List.getElem?_eq_some_iff.mp h1'
            have k2 := List.getElem?_eq_some_iff.mp hc
            exact hk ((List.getElem_inj o.nd).mp (k2.2.trans k1.2.symm))
          exact ⟨fun hd => by show upd W'.F p _ a = none; rw [upd_ne hap]; exact g1 hd, g2.mono le rfl⟩
    · exact q2.elim
  · exact q2.elim
end
end Dl
end
section
set_option Elab.async false
set_option linter.all false
set_option maxRecDepth 100000
set_option maxHeartbeats 1000000
/-! The deep layer: lists that are cells; is it empty; a, b = .. -/
namespace Dl
open PySem L2
section
variable {X : Cx} {G : Gh} {Wsh : WX} {a b c e o : Expr} {es : List Expr} {f g h f' fo : FE} {fa ga : FA} {pos pos' p p2 p3 apos tpos cp : Pos} {x y z id fl : Str} {n k : Nat} {fs gs : FS} {T : String}
variable {B : Wd × Hp} {W W1 W' : Wd} {σ : L2.St} {H H1 H' : Hp} {ρ : Env} {S S1 S' : Sto} {ds : List D} {vs : List V} {xs : List V} {s : Shared} {pins : List (Addr × Obj)} {F : FD}
/-! ### lists that are cells -/
theorem cmut_ext {q : Addr} {u : HO} (hq : q ∈ W.cs) : Ext W H W (upd H q u) := by
  refine ⟨.rfl', fun a o e hc => ?_, fun a o e h => h, fun a h => .inl h, fun a ha o e => ?_⟩
  · have : a ≠ q := fun z => by subst z; exact hc hq
    rw [upd_ne this]; exact e
  · by_cases z : a = q
    · subst z; exact ⟨_, upd_same⟩
    · rw [upd_ne z]; exact ⟨o, e⟩
def lstC (S : Sto) : D → Option (Nat × List D)
  | .cell n => match S[n]? with
    | some (.lst ds) => some (n, ds)
    | _ => none
  | _ => none
theorem lstC_at (O : HpOk G W H S) {d : D} {v : V} (h : Rep G W d v) (e : lstC S d = some (n, ds)) : ∃ q xs, v = .ref q ∧ W.cs[n]? = some q ∧ S[n]? = some (.lst ds) ∧ H q = some (.lst xs) ∧ RepL G W ds xs ∧ d = .cell n := by
  unfold lstC at e
  split at e
  · split at e
    · rename_i hS
      cases e
      obtain ⟨q, rfl, hq⟩ := (show ∃ a, _ from h)
      obtain ⟨⟨xs, h1, h2⟩, _⟩ := cell_at O hq hS
      exact ⟨q, xs, rfl, hq, hS, h1, h2, rfl⟩
    · cases e
  · cases e
def fAppC (fo f : FE) : FS := fun ρ S => (fo ρ S).bindS ρ fun od S1 => match lstC S1 od with
  | some _ => (f ρ S1).bindS ρ fun d S2 => match lstC S2 od with
    | some (n, ds) => if ds.length < 16777216 then .nx ρ (S2.set n (.lst (ds ++ [d]))) else .fail
    | none => .fail
  | none => .fail
theorem cs_appC (ho : PE X o (tE G Wsh fo)) (he : PE X e (tE G Wsh f))
    (hbase : attributeBase o "append" X.env (eval o X.env) = eval o X.env := by rfl)
    (hfew : ((backTo cp (starEach [e] X.env)).all (fun x => !x.1) && (backToKw cp (keywordEach [] X.env)).all (fun x => x.1.isSome)
      && decide (([e] : List Expr).length + ([] : List Keyword).length + (if ([] : List Keyword).isEmpty then 0 else 1) < 30)) = true := by rfl)
    (hline : (apos.endLine == cp.line) = true := by rfl) (hs : starEach [e] X.env = (false, eval e X.env) :: starEach [] X.env := by rfl) (hplain : (backTo cp (starEach [] X.env)).any (·.1) = false := by rfl)
    (hsw : swapsWith (.Call (.Attribute o "append" apos) [e] [] cp) none pos.line X.env = pure false := by rfl) :
    PS X (.Expr (.Call (.Attribute o "append" apos) [e] [] cp) pos) (tS G Wsh (fAppC fo f)) :=
  (ps_expr (pe_bm PySem.F.plainAttrs_list PySem.F.slot_list_append PySem.F.type_list_append mt_append ho (pa_cons he pa_nil hs) hbase hfew hline hs hplain) hsw).imp fun D' σ H ⟨B, W, ρ, S, O, q⟩ => ⟨B, W, ρ, S, O, PE'.bindS O q fun v od S1 W1 H1 _ M hr q => by
    cases e1 : lstC S1 od with
    | none => rw [e1] at q; exact q.elim
    | some nd =>
      obtain ⟨n, ds⟩ := nd
      rw [e1] at q
      obtain ⟨p1, xs, rfl, g1, g2, g3, g4, rfl⟩ := lstC_at M.ok.hp hr e1
      refine ⟨.inl ⟨rfl, xs, .of g3⟩, B, W1, ρ, S1, M.ok, PE'.bindS M.ok q fun v2 d S2 W2 H2 _ M2 hr2 q2 => ?_⟩
      cases e2 : lstC S2 (.cell n) with
      | none => rw [e2] at q2; exact q2.elim
      | some nd =>
        obtain ⟨n', ds'⟩ := nd
        rw [e2] at q2
        dsimp only at q2
        obtain ⟨p2, ys, e3, k1, k2, k3, k4, e4⟩ := lstC_at M2.ok.hp (Rep.mono M2.ex.le _ _ hr) e2
        cases e3
        cases e4
        split at q2
        · rename_i hl
          refine ⟨p1, ys, v2, rfl, rfl, k3, by rw [sizeLine_eq, ← k4.length]; exact hl, q2.nx' .rfl' (M2.ok.cmut k1 k2 (by exact fun z => by cases z) ⟨ys ++ [v2], upd_same, k4.append (.cons hr2 .nil)⟩)⟩
        · exact q2.elim⟩
def fPopC (fo : FE) : FE := fun ρ S => (fo ρ S).bind fun od S1 => match lstC S1 od with
  | some (n, ds) => match ds[ds.length - 1]? with
    | some d => .ok d (S1.set n (.lst ds.dropLast))
    | none => .fail
  | none => .fail
theorem ce_popC (ho : PE X o (tE G Wsh fo)) (hbase : attributeBase o "pop" X.env (eval o X.env) = eval o X.env := by rfl) (hline : (apos.endLine == cp.line) = true := by rfl) :
    PE X (.Call (.Attribute o "pop" apos) [] [] cp) (tE G Wsh (fPopC fo)) :=
  (pe_bm0 PySem.F.plainAttrs_list PySem.F.slot_list_pop PySem.F.type_list_pop mt_pop ho hbase hline).imp fun σ H Q ⟨B, W, ρ, S, O, q⟩ => ⟨B, W, ρ, S, O, PE'.bind O q fun v od S1 W1 H1 _ M hr q => by
    cases e1 : lstC S1 od with
    | none => rw [e1] at q; exact q.elim
    | some nd =>
      obtain ⟨n, ds⟩ := nd
      rw [e1] at q
      dsimp only at q
      obtain ⟨p1, xs, rfl, g1, g2, g3, g4, rfl⟩ := lstC_at M.ok.hp hr e1
      split at q
      · rename_i d hd
        obtain ⟨y, h1, h2⟩ := g4.get hd
        rw [g4.length] at h1
        refine ⟨.inl ⟨rfl, xs, .of g3⟩, p1, xs, y, rfl, rfl, g3, h1, ?_⟩
        have O3 := M.ok.cmut (o' := .lst xs.dropLast) g1 g2 (by exact fun z => by cases z) (c' := .lst ds.dropLast) ⟨xs.dropLast, upd_same, g4.dropLast⟩
        exact q y W1 _ (cmut_ext (List.mem_of_getElem? g1)) O3.hp h2
      · exact q.elim⟩
/-! ### x == [], x != [], x != {} -/
def emptL (S : Sto) (d : D) : Option Bool := (seqD S d).map List.isEmpty
def rEmpL (K : PySem.W.Frag) (neg : Bool) : R2 := fun x y H Q => ∃ a b xs, x = .ref a ∧ y = .ref b ∧ SqL K H a xs ∧ SqL K H b [] ∧ Q (.bl (xs.isEmpty != neg)) H
theorem op_eqEmp (hu : X.A.units + 64 < cLine) : OpR X (compareOp .Eq) (rEmpL X.K false) := by
  intro pins s σ H x y v u Q I rx ry ⟨a, b, xs, e1, e2, h1, h2, q⟩
  subst e1 e2
  cases xs with
  | nil => exact op_eqD hu pins s σ H _ _ _ _ Q I rx ry ⟨.list [], .list [], .lst h1 .nil, .lst h2 .nil, by decide, by decide, by simpa [PyData.eqv, PyData.eqvAll] using q⟩
  | cons z xs =>
    obtain ⟨its, rv, pl, hz⟩ := I.list h1
    obtain ⟨its2, rv2, pl2, hz2⟩ := I.list h2
    cases rx
    cases ry
    refine PySem.SeqAt.eq_list_lengthsAt pl.isList pl2.isList ?_ (by omega) ⟨.bl false, H, I, rfl, by simpa using q⟩
    have k1 := rv.length
    have k2 := rv2.length
    simp only [List.size_toArray, ← k1, ← k2]
    rfl
theorem op_neEmp (hu : X.A.units + 64 < cLine) : OpR X (compareOp .NotEq) (rEmpL X.K true) := by
  intro pins s σ H x y v u Q I rx ry ⟨a, b, xs, e1, e2, h1, h2, q⟩
  subst e1 e2
  cases xs with
  | nil => exact op_neD hu pins s σ H _ _ _ _ Q I rx ry ⟨.list [], .list [], .lst h1 .nil, .lst h2 .nil, by decide, by decide, by simpa [PyData.eqv, PyData.eqvAll] using q⟩
  | cons z xs =>
    obtain ⟨its, rv, pl, hz⟩ := I.list h1
    obtain ⟨its2, rv2, pl2, hz2⟩ := I.list h2
    cases rx
    cases ry
    refine PySem.SeqAt.RcNeAt.lists_lengths pl.isList pl2.isList ?_ (by omega) X.prog X.w _ _ ⟨.bl true, H, I, rfl, by simpa using q⟩
    have k1 := rv.length
    have k2 := rv2.length
    simp only [List.size_toArray, ← k1, ← k2]
    rfl
def fEmp (neg : Bool) (f : FE) : FE := fun ρ S => (f ρ S).bind fun d S1 => match d with
  | .lst ds => .ok (.bl (ds.isEmpty != neg)) S1
  | .cell n => match S1[n]? with
    | some (.lst ds) => .ok (.bl (ds.isEmpty != neg)) S1
    | _ => .fail
  | _ => .fail
theorem emp_ok (hK : G.K = X.K) {neg : Bool} {Q : VK} (h : tE G Wsh (fEmp neg f) σ H Q) : tOp (rEmpL X.K neg) (tB G Wsh f) (tLst tNil) σ H Q := by
  obtain ⟨B, W, ρ, S, O, h⟩ := h
  refine ⟨B, W, ρ, S, O, PB'.bind O h fun v d S1 W1 H1 _ M hr q => ?_⟩
  have key : ∀ {ds : List D} {p : Addr} {xs : List V}, v = .ref p → H1 p = some (.lst xs) → RepL G W1 ds xs → PE' G Wsh σ W1 H1 Q (.ok (.bl (ds.isEmpty != neg)) S1) → tLst tNil σ H1 (fun y H2 => rEmpL X.K neg v y H2 Q) := fun {ds p xs} hv h1 h2 q => by
    subst hv
    refine ⟨Nat.zero_le _, fun l hl => ⟨p, l, xs, rfl, rfl, .inl (.of ?_), .inl (.of upd_same), ?_⟩⟩
    · rw [upd_ne (ne_of_none h1 hl)]; exact h1
    · obtain ⟨g1, g2⟩ := ext_new0 (o := .lst []) hl M.ok.hp
      have e : xs.isEmpty = ds.isEmpty := by
        have := h2.length
        cases ds <;> cases xs <;> simp_all
      rw [e]
      exact q _ W1 _ g1 g2 rfl
  cases d <;> first | exact q.elim | skip
  · obtain ⟨p, xs, rfl, h1, h2⟩ := hr.lst M.ok.hp
    exact key rfl h1 h2 q
  · rename_i n
    dsimp only at q
    split at q
    · rename_i ds hS
      obtain ⟨p, rfl, hp⟩ := (show ∃ a, _ from hr.rep rfl)
      obtain ⟨⟨xs, h1, h2⟩, _⟩ := cell_at M.ok.hp hp hS
      exact key rfl h1 h2 q
    · exact q.elim
theorem ce_eqEmp (hK : G.K = X.K) (hu : X.A.units + 64 < cLine) (ha : PE X a (tB G Wsh f)) (hm : behindInMarks .Eq (.List [] p) = false := by rfl) : PE X (.Compare a [.Eq] [.List [] p] pos) (tE G Wsh (fEmp false f)) :=
  (pe_cmpR (op_eqEmp hu) ha (pe_lst pa_nil) hm).imp fun σ H Q h => emp_ok hK h
theorem ct_eqEmp (hK : G.K = X.K) (hu : X.A.units + 64 < cLine) (ha : PE X a (tB G Wsh f)) (hm : behindInMarks .Eq (.List [] p) = false := by rfl) : PT X (.Compare a [.Eq] [.List [] p] pos) (tT G Wsh (fEmp false f)) :=
  (pt_cmpR (op_eqEmp hu) ha (pe_lst pa_nil) hm).imp fun σ H Q h => emp_ok hK h
theorem ce_neEmp (hK : G.K = X.K) (hu : X.A.units + 64 < cLine) (ha : PE X a (tB G Wsh f)) (hm : behindInMarks .NotEq (.List [] p) = false := by rfl) : PE X (.Compare a [.NotEq] [.List [] p] pos) (tE G Wsh (fEmp true f)) :=
  (pe_cmpR (op_neEmp hu) ha (pe_lst pa_nil) hm).imp fun σ H Q h => emp_ok hK h
theorem ct_neEmp (hK : G.K = X.K) (hu : X.A.units + 64 < cLine) (ha : PE X a (tB G Wsh f)) (hm : behindInMarks .NotEq (.List [] p) = false := by rfl) : PT X (.Compare a [.NotEq] [.List [] p] pos) (tT G Wsh (fEmp true f)) :=
  (pt_cmpR (op_neEmp hu) ha (pe_lst pa_nil) hm).imp fun σ H Q h => emp_ok hK h
/-- a dict against {} -/
def rEmpD (neg : Bool) : R2 := fun x y H Q => ∃ a b kvs, x = .ref a ∧ y = .ref b ∧ Rd H a (.dK kvs) ∧ Rd H b (.dK []) ∧ Q (.bl (kvs.isEmpty != neg)) H
theorem op_neEmpD (hu : X.A.units < cLine) : OpR X (compareOp .NotEq) (rEmpD true) := by
  intro pins s σ H x y v u Q I rx ry ⟨a, b, kvs, e1, e2, h1, h2, q⟩
  subst e1 e2
  obtain rfl : v = Value.ref a := rx
  obtain rfl : u = Value.ref b := ry
  obtain ⟨_, ya, va, ra, da⟩ := dk_rd I.hok h1
  obtain ⟨_, yb, vb, rb, db⟩ := dk_rd I.hok h2
  have l1 := ra.length
  have l2 := rb.length
  cases kvs with
  | nil =>
    cases ra
    cases rb
    refine PySem.W.keq_ne (knd := mixKind X.prog X.w) (r := true) ya yb da db hu (fun _ => .nil) ?_
    exact ⟨.bl false, H, I, rfl, q⟩
  | cons z kvs =>
    cases rb
    refine PySem.W.keq_ne (knd := mixKind X.prog X.w) (r := false) ya yb da db hu (fun z => ?_) ?_
    · simp at l1; simp at z; subst z; simp at l1
    · rw [Bool.and_false]; exact ⟨.bl true, H, I, rfl, q⟩
def fEmpD (neg : Bool) (f : FE) : FE := fun ρ S => (f ρ S).bind fun d S1 => match d with
  | .dct false ks vs => .ok (.bl (ks.isEmpty != neg)) S1
  | _ => .fail
theorem empD_ok {neg : Bool} {Q : VK} (h : tE G Wsh (fEmpD neg f) σ H Q) : tOp (rEmpD neg) (tB G Wsh f) tDNewK σ H Q := by
  obtain ⟨B, W, ρ, S, O, h⟩ := h
  refine ⟨B, W, ρ, S, O, PB'.bind O h fun v d S1 W1 H1 _ M hr q => ?_⟩
  split at q
  · rename_i ks vs
    obtain ⟨p, ys, rfl, ⟨kvs, h1, rfl, rfl⟩, l⟩ := hr.dct M.ok.hp
    intro b hb
    obtain ⟨g1, g2⟩ := ext_new0 (o := .dK []) hb M.ok.hp
    refine ⟨p, b, kvs, rfl, rfl, ?_, .inl upd_same, ?_⟩
    · exact h1.elim (fun e => .inl (by rw [upd_ne (ne_of_none e hb)]; exact e)) fun ⟨o, e⟩ => .inr ⟨o, by rw [upd_ne (ne_of_none e hb)]; exact e⟩
    · have q' := q _ W1 _ g1 g2 rfl
      have e : (List.map (fun p : Key × V => kD p.1) kvs).isEmpty = kvs.isEmpty := by cases kvs <;> rfl
      rw [← e]; exact q'
  · exact q.elim
theorem ce_neEmpD (hu : X.A.units < cLine) (ha : PE X a (tB G Wsh f)) (hm : behindInMarks .NotEq (.Dict [] [] p) = false := by rfl) : PE X (.Compare a [.NotEq] [.Dict [] [] p] pos) (tE G Wsh (fEmpD true f)) :=
  (pe_cmpR (op_neEmpD hu) ha pe_dnewK hm).imp fun σ H Q h => empD_ok h
theorem ct_neEmpD (hu : X.A.units < cLine) (ha : PE X a (tB G Wsh f)) (hm : behindInMarks .NotEq (.Dict [] [] p) = false := by rfl) : PT X (.Compare a [.NotEq] [.Dict [] [] p] pos) (tT G Wsh (fEmpD true f)) :=
  (pt_cmpR (op_neEmpD hu) ha pe_dnewK hm).imp fun σ H Q h => empD_ok h
end
end Dl
end
section
set_option Elab.async false
set_option linter.all false
set_option maxRecDepth 100000
set_option maxHeartbeats 1000000
/-! The deep layer: a, b = x, y. -/
namespace Dl
open PySem L2
inductive RAN where
  | ok (ss : List Sl) (S : Sto) | exc (c : Nat) (fs : List D) (S : Sto) | fail
abbrev FAN := Env → Sto → RAN
def RAN.bindS (r : RAN) (ρ : Env) (k : List Sl → Sto → RS) : RS := match r with
  | .ok d S => k d S
  | .exc c fs S => .exc c fs ρ S
  | .fail => .fail
/-- new things, each at its own place -/
def NewL (G : Gh) (H : Hp) (W' : Wd) (H' : Hp) : List Sl → List V → Prop
  | [], vs => vs = []
  | s :: ss, vs => ∃ v r, vs = v :: r ∧ NewAt G H W' H' s v ∧ NewL G H W' H' ss r ∧ (IsOwn s → ∀ (j : Nat) t, ss[j]? = some t → IsOwn t → r[j]? ≠ some v)
section
variable {X : Cx} {G : Gh} {Wsh : WX} {a b c e o : Expr} {es : List Expr} {f g h f' fo : FE} {fn fm : FN} {fa ga : FAN} {pos pos' p p2 p3 apos tpos cp px py pz pt : Pos} {x y z id fl : Str} {n k : Nat} {fs gs : FS} {T : String}
variable {B : Wd × Hp} {W W1 W2 W' : Wd} {σ : L2.St} {H H1 H2 H' : Hp} {ρ : Env} {S S1 S' : Sto} {ds : List D} {vs : List V} {ss : List Sl} {xs : List V}
def PAN' (G : Gh) (Wsh : WX) (σ : L2.St) (W : Wd) (H : Hp) (Q : List V → Hp → Prop) : RAN → Prop
  | .ok ss S' => ∀ vs W' H', Ext W H W' H' → HpOk G W' H' S' → NewL G H W' H' ss vs → Q vs H'
  | .exc c fs S' => ∀ cls dx W' H', Ext W H W' H' → HpOk G W' H' S' → ExcRep G W' H' c fs cls dx → Wsh cls dx σ H'
  | .fail => False
def tAN (G : Gh) (Wsh : WX) (f : FAN) : TA := fun σ H Q => ∃ B W ρ S, Ok G B W σ H ρ S ∧ PAN' G Wsh σ W H Q (f ρ S)
def fNilN : FAN := fun _ S => .ok [] S
theorem can_nil : PA X [] (tAN G Wsh fNilN) := pa_nil.imp fun σ H Q ⟨B, W, ρ, S, O, h⟩ => h [] W H .rfl' O.hp rfl
theorem ext_none {a : Addr} (e : Ext W H W1 H1) (h : H1 a = none) : H a = none := by
  cases q : H a with
  | none => rfl
  | some o =>
    by_cases hc : a ∈ W.cs
    · obtain ⟨o', e'⟩ := e.st a hc o q
      rw [h] at e'; cases e'
    · rw [e.kp a o q hc] at h; cases h
theorem NewAt.ext {s : Sl} {v : V} (h : NewAt G H W1 H1 s v) (e : Ext W1 H1 W2 H2) : NewAt G H W2 H2 s v := by
  refine ⟨h.1.mono e.le fun a ho ha => ?_, fun ho a ha => ?_⟩
  · obtain ⟨a', o, e1, e2⟩ := h.1.own ho
    cases e1; cases ha
    obtain ⟨_, _, h3⟩ := h.2 ho a rfl
    rw [e.kp a o e2 h3, e2]
  · obtain ⟨h1, h2, h3⟩ := h.2 ho a ha
    subst ha
    obtain ⟨a', o, e1, e2⟩ := h.1.own ho
    cases e1
    exact ⟨h1, e.nf a o e2 h2, fun z => (e.nc a z).elim h3 fun q => by rw [e2] at q; cases q⟩
theorem NewAt.back {s : Sl} {v : V} (e : Ext W H W1 H1) (h : NewAt G H1 W2 H2 s v) : NewAt G H W2 H2 s v := ⟨h.1, fun ho a ha => let ⟨h1, h2, h3⟩ := h.2 ho a ha; ⟨ext_none e h1, h2, h3⟩⟩
theorem NewL.back (e : Ext W H W1 H1) : ∀ {ss : List Sl} {vs : List V}, NewL G H1 W2 H2 ss vs → NewL G H W2 H2 ss vs
  | [], _, h => h
  | s :: ss, _, h => by
    obtain ⟨v, r, rfl, h1, h2, h3⟩ := (show ∃ v r, _ from h)
    exact ⟨v, r, rfl, h1.back e, NewL.back e h2, h3⟩
theorem NewL.get : ∀ {ss : List Sl} {vs : List V} {j : Nat} {s : Sl} {v : V}, NewL G H W2 H2 ss vs → ss[j]? = some s → vs[j]? = some v → NewAt G H W2 H2 s v
  | [], _, _, _, _, _, h, _ => by simp at h
  | s :: ss, _, 0, _, _, h, h1, h2 => by
    obtain ⟨v, r, rfl, k1, k2, k3⟩ := (show ∃ v r, _ from h)
    simp at h1 h2; subst h1 h2; exact k1
  | s :: ss, _, j + 1, _, _, h, h1, h2 => by
    obtain ⟨v, r, rfl, k1, k2, k3⟩ := (show ∃ v r, _ from h)
    exact NewL.get k2 (by simpa using h1) (by simpa using h2)
def fConsN (f : FN) (g : FAN) : FAN := fun ρ S => match f ρ S with
  | .ok s S1 => match g ρ S1 with
    | .ok ss S2 => .ok (s :: ss) S2
    | r => r
  | .exc c fs S1 => .exc c fs S1
  | .fail => .fail
theorem can_cons (ha : PE X e (tN G Wsh fn)) (hr : PA X es (tAN G Wsh fa)) (hs : starEach (e :: es) X.env = (false, eval e X.env) :: starEach es X.env := by rfl) : PA X (e :: es) (tAN G Wsh (fConsN fn fa)) :=
  (pa_cons ha hr hs).imp fun σ H Q ⟨B, W, ρ, S, O, h⟩ => ⟨B, W, ρ, S, O, by
    unfold fConsN at h
    generalize fn ρ S = r at h ⊢
    cases r with
    | exc _ _ _ => exact h
    | fail => exact h
    | ok s S1 =>
      intro v W1 H1 e1 o1 r1
      refine ⟨B, W1, ρ, S1, O.ext e1 o1, ?_⟩
      dsimp only at h
      generalize fa ρ S1 = r2 at h ⊢
      cases r2 with
      | exc _ _ _ => exact fun cls dx W' H' e o er => h cls dx W' H' (e1.trans e) o er
      | fail => exact h
      | ok ss S2 =>
        intro vs W2 H2 e2 o2 r2
        refine h (v :: vs) W2 H2 (e1.trans e2) o2 ⟨v, vs, rfl, r1.ext e2, r2.back e1, fun ho j t hj ht z => ?_⟩
        obtain ⟨p, o, ep, eo⟩ := r1.1.own ho
        cases ep
        obtain ⟨h1, _⟩ := (r2.get hj z).2 ht p rfl
        rw [eo] at h1; cases h1⟩
theorem PAN'.bindS {Q1 : List V → Hp → Prop} {D' : Ends} {k : List Sl → Sto → RS} (O : Ok G B W σ H ρ S) : ∀ {r : RAN}, PS' G Wsh B W D' (r.bindS ρ k) →
    (∀ vs ss S1 W1 H1, r = .ok ss S1 → Mid G B W H σ ρ S1 W1 H1 → NewL G H W1 H1 ss vs → PS' G Wsh B W1 D' (k ss S1) → Q1 vs H1) → PAN' G Wsh σ W H Q1 r
  | .ok d S1, h, q => fun v W' H' e o r => q v d S1 W' H' rfl ⟨e, O.ext e o⟩ r (PS'.at e.le h)
  | .exc _ _ _, h, _ => fun cls dx W' H' e o er => h cls dx σ W' H' (O.ext e o) er
  | .fail, h, _ => h.elim
/-- a new thing is in no slot that stood at H -/
theorem NewAt.apart (O : Ok G B W σ H ρ S) {s : Sl} {v : V} (h : NewAt G H W1 H1 s v) (ho : IsOwn s) : ∀ (j : Nat) t, ρ[j]? = some t → IsOwn t → σ[j]? ≠ some (some v) := by
  obtain ⟨p, o, e1, e2⟩ := h.1.own ho
  cases e1
  obtain ⟨h1, _, _⟩ := h.2 ho p rfl
  exact (O.free h1).2.2.2
def fPar2 (i j : Nat) (f : FAN) : FS := fun ρ S => (f ρ S).bindS ρ fun ss S1 => match ss with
  | [s, t] => .nx ((ρ.set i s).set j t) S1
  | _ => .fail
theorem set_own {i j : Nat} {s t : Sl} {v w : V} (hij : i ≠ j) (h : (ρ.set i s)[j]? = some t) : ρ[j]? = some t := by rw [List.getElem?_set_ne hij] at h; exact h
/-- one more new thing behind those in the slots done -/
theorem Ok.set_new {σ' : L2.St} {ρ' : Env} {i : Nat} {s : Sl} {v : V} (O0 : Ok G B W σ H ρ S) (M : Ok G B W1 σ' H1 ρ' S1) (h : NewAt G H W1 H1 s v)
    (hd : IsOwn s → ∀ (j : Nat) t, j ≠ i → ρ'[j]? = some t → IsOwn t → σ'[j]? = some (some v) → ρ[j]? = some t ∧ σ[j]? = some (some v)) : Ok G B W1 (σ'.set i (some v)) H1 (ρ'.set i s) S1 := by
  refine M.set h.1 fun ho a ha => ?_
  subst ha
  obtain ⟨h1, h2, h3⟩ := h.2 ho a rfl
  obtain ⟨_, h5, _, h7⟩ := O0.free h1
  refine ⟨h2, h5, h3, fun j t hj ht hto hx => ?_⟩
  obtain ⟨k1, k2⟩ := hd ho j t hj ht hto hx
  exact h7 j t k1 hto k2
theorem cs_par2 {i j : Nat} {kt k2 pt2} (hc : X.calm = true) (hN : X.N.Nodup) (hi : X.N[i]? = some x) (hj : X.N[j]? = some y) (hij : i ≠ j)
    (hx : X.env.scope.names.lookup x = some .local) (hy : X.env.scope.names.lookup y = some .local) (ha : PA X [a, b] (tAN G Wsh fa))
    (hw : swappedStores [.Tuple [.Name x px, .Name y py] kt pt] (.Tuple [a, b] k2 pt2) X.env = pure (some [x, y]) := by rfl)
    (hs : swapsWithSole [.Tuple [.Name x px, .Name y py] kt pt] (.Tuple [a, b] k2 pt2) pos.line X.env = pure false := by rfl) :
    PS X (.Assign [.Tuple [.Name x px, .Name y py] kt pt] (.Tuple [a, b] k2 pt2) pos) (tS G Wsh (fPar2 i j fa)) :=
  (ps_par hc hN hi hj hij hx hy ha hw hs).imp fun D' σ H ⟨B, W, ρ, S, O, q⟩ => ⟨B, W, ρ, S, O, PAN'.bindS O q fun vs ss S1 W1 H1 _ M hr q => by
    match ss, hr, q with
    | [], _, q => exact q.elim
    | [_], _, q => exact q.elim
    | _ :: _ :: _ :: _, _, q => exact q.elim
    | [s, t], hr, q =>
      obtain ⟨v, r, rfl, k1, hr, k2⟩ := (show ∃ v r, _ from hr)
      obtain ⟨w, r, rfl, k3, hr, _⟩ := (show ∃ v r, _ from hr)
      cases (show r = [] from hr)
      refine ⟨v, w, rfl, q.nx' .rfl' ?_⟩
      have O1 : Ok G B W1 (σ.set i (some v)) H1 (ρ.set i s) S1 := Ok.set_new O M.ok k1 fun ho l u _ hl hu hx => ⟨hl, hx⟩
      refine Ok.set_new O O1 k3 fun ho l u hlj hl hu hx => ?_
      by_cases e : i = l
      · subst e
        exfalso
        have hlt : i < ρ.length := by have := (List.getElem?_eq_some_iff.mp hl).1; simpa using this
        rw [List.getElem?_set_self hlt] at hl
        cases hl
        rw [List.getElem?_set_self (by rw [← O.len]; exact hlt)] at hx
        cases hx
        exact k2 hu 0 t rfl ho rfl
      · rw [List.getElem?_set_ne e] at hl hx
        exact ⟨hl, hx⟩⟩
def fPar3 (i j l : Nat) (f : FAN) : FS := fun ρ S => (f ρ S).bindS ρ fun ss S1 => match ss with
  | [s, t, u] => .nx (((ρ.set i s).set j t).set l u) S1
  | _ => .fail
theorem cs_par3 {i j l : Nat} {kt k2 pt2} (hc : X.calm = true) (hN : X.N.Nodup) (hi : X.N[i]? = some x) (hj : X.N[j]? = some y) (hl : X.N[l]? = some z) (hij : i ≠ j) (hil : i ≠ l) (hjl : j ≠ l)
    (hx : X.env.scope.names.lookup x = some .local) (hy : X.env.scope.names.lookup y = some .local) (hz : X.env.scope.names.lookup z = some .local) (ha : PA X [a, b, c] (tAN G Wsh fa))
    (hw : swappedStores [.Tuple [.Name x px, .Name y py, .Name z pz] kt pt] (.Tuple [a, b, c] k2 pt2) X.env = pure (some [x, y, z]) := by rfl)
    (hs : swapsWithSole [.Tuple [.Name x px, .Name y py, .Name z pz] kt pt] (.Tuple [a, b, c] k2 pt2) pos.line X.env = pure false := by rfl) :
    PS X (.Assign [.Tuple [.Name x px, .Name y py, .Name z pz] kt pt] (.Tuple [a, b, c] k2 pt2) pos) (tS G Wsh (fPar3 i j l fa)) :=
  (ps_par3 hc hN hi hj hl hij hil hjl hx hy hz ha hw hs).imp fun D' σ H ⟨B, W, ρ, S, O, q⟩ => ⟨B, W, ρ, S, O, PAN'.bindS O q fun vs ss S1 W1 H1 _ M hr q => by
    match ss, hr, q with
    | [], _, q => exact q.elim
    | [_], _, q => exact q.elim
    | [_, _], _, q => exact q.elim
    | _ :: _ :: _ :: _ :: _, _, q => exact q.elim
    | [s, t, u], hr, q =>
      obtain ⟨v, r, rfl, k1, hr, k2⟩ := (show ∃ v r, _ from hr)
      obtain ⟨w, r, rfl, k3, hr, k4⟩ := (show ∃ v r, _ from hr)
      obtain ⟨w', r, rfl, k5, hr, _⟩ := (show ∃ v r, _ from hr)
      cases (show r = [] from hr)
      refine ⟨v, w, w', rfl, q.nx' .rfl' ?_⟩
      have O1 : Ok G B W1 (σ.set i (some v)) H1 (ρ.set i s) S1 := Ok.set_new O M.ok k1 fun ho l u _ hl hu hx => ⟨hl, hx⟩
      have key : ∀ {ρ0 : Env} {σ0 : L2.St} {i : Nat} {s t : Sl} {v w : V} {m : Nat} {u : Sl}, ρ0.length = σ0.length → (IsOwn s → w ≠ v) → (ρ0.set i s)[m]? = some u → IsOwn u → (σ0.set i (some v))[m]? = some (some w) → ρ0[m]? = some u ∧ σ0[m]? = some (some w) := fun {ρ0 σ0 i s t v w m u} hlen hne hl hu hx => by
        by_cases e : i = m
        · subst e
          exfalso
          have hlt : i < ρ0.length := by have := (List.getElem?_eq_some_iff.mp hl).1; simpa using this
          rw [List.getElem?_set_self hlt] at hl
          cases hl
          rw [List.getElem?_set_self (by rw [← hlen]; exact hlt)] at hx
          cases hx
          exact hne hu rfl
        · rw [List.getElem?_set_ne e] at hl hx
          exact ⟨hl, hx⟩
      have O2 : Ok G B W1 ((σ.set i (some v)).set j (some w)) H1 ((ρ.set i s).set j t) S1 := Ok.set_new O O1 k3 fun ho m u' _ hl hu hx => key (t := t) O.len (fun hs z => k2 hs 0 t rfl ho (by rw [z]; rfl)) hl hu hx
      refine Ok.set_new O O2 k5 fun ho m u' _ hl hu hx => ?_
      obtain ⟨g1, g2⟩ := key (t := t) O1.len (fun ht z => k4 ht 0 u rfl ho (by rw [z]; rfl)) hl hu hx
      exact key (t := t) O.len (fun hs z => k2 hs 1 u rfl ho (by rw [z]; rfl)) g1 hu g2⟩
end
end Dl
end
section
set_option Elab.async false
set_option linter.all false
set_option maxRecDepth 100000
set_option maxHeartbeats 1000000
/-! The deep layer: dicts made and changed. -/
namespace PySem
open Sem (wp)
section
variable {prog : Program} {w : World} {K : Type} [DecidableEq K] {knd : KeyKind prog w K} {A : Around} {E : Value → Shared → Prop} {s : Shared}
theorem dl_copyOf {id : String} {d : Addr} {kvs : List (K × Value)} {Q : Value → Shared → Prop} (hd : (d == sysModules) = false) (hm : s.heap.DictOf knd d kvs) (hsz : kvs.length ≤ sizeLine)
    (h : ∀ h', h'.DictOf knd s.heap.objs.size kvs → (∀ b o, s.heap.get? b = some o → h'.get? b = some o) → Q (.ref s.heap.objs.size) { s with heap := h' }) :
    wpAny (model prog w) A (Builtin.Dict.copyOf id (.ref d)) Q E s := by
  obtain ⟨o, es, ep, ho, hc, hdat, hk, hp, hn⟩ := _root_.id hm
  have hes : es.size ≤ sizeLine + 1 := by
    have e1 := hp.length
    have e2 : es.toList.length = es.size := by simp
    omega
  unfold Builtin.Dict.copyOf
  refine wpAny_bind (wpAny_pure ?_)
  unfold Builtin.Dict.showsAll
  rw [if_neg (by rw [hd]; exact Bool.false_ne_true)]
  refine wpAny_bind (wpAny_pure ?_)
  refine wpAny_bind (wpAny_dictEntries ho hdat ?_)
  have fin : ∀ es' : Array DictEntry, es' = es → Q (.ref s.heap.objs.size) { s with heap := s.heap.push { cls := .type "dict", data := .dict es' } } := by
    rintro es' rfl
    exact h _ ⟨_, es', 0, Heap.get?_push_size _ rfl, ⟨rfl, rfl, rfl⟩, rfl, hk, hp, hn⟩ fun b o' e => Heap.get?_push_of_some _ e
  by_cases hemp : es.isEmpty = true
  · rw [if_pos hemp]
    exact wpAny_bind (wpAny_rule (wpAny_newObj_type (fin #[] (Array.isEmpty_iff.mp hemp).symm)))
  · rw [if_neg hemp]
    refine wpAny_bind ?_
    unfold Builtin.Dict.readDirectly
    refine wpAny_bind (wpAny_isInstance hm.typeIs isSubtype_dict_dict ?_)
    simp only [Bool.not_true, Bool.false_eq_true, if_false]
    refine wpAny_bind (wpAny_specialOf hm.typeIs F.slot_dict_iter.lookup (wpAny_pure ?_))
    simp only [beq_self_eq_true, if_true]
    exact wpAny_bind (wpAny_entriesForEmpty (knd := knd) ho hdat hk (wpAny_newObj_type (fin es rfl) hes))
theorem dl_dict_or {a b : Addr} {kvs more : List (K × Value)} {Q : Value → Shared → Prop} (ha : (a == sysModules) = false) (hb : (b == sysModules) = false) (da : s.heap.DictOf knd a kvs) (db : s.heap.DictOf knd b more) (hsz : kvs.length + more.length ≤ sizeLine)
    (h : ∀ h', h'.DictOf knd s.heap.objs.size (merged kvs more) → (∀ c o, s.heap.get? c = some o → h'.get? c = some o) → Q (.ref s.heap.objs.size) { s with heap := h' }) :
    wpAny (model prog w) A (binaryOp .BitOr (.ref a) (.ref b)) Q E s := by
  refine wpAny_binaryOp_same (T := "dict") (id := "dict.__or__") da.typeIs db.typeIs PySem.F.fills_dict_or PySem.F.slot_dict_or (wpAny_call_entry PySem.F.slot_dict_or da.typeIs PySem.F.entry_dict_or ?_ (PySem.F.args_dict_or_2 _ _))
  show wpAny _ _ (Builtin.Dict.dictSlotArgs "__or__" ⟨[.ref a, .ref b], []⟩ >>= _) _ _ s
  refine wpAny_bind ?_
  unfold Builtin.Dict.dictSlotArgs
  refine wpAny_bind (wpAny_notOrdered_dict da.typeIs ?_)
  show wpAny _ _ (pure (Value.ref a, Value.ref b)) _ _ s
  refine wpAny_pure ?_
  show wpAny _ _ ((isInstance (.ref a) (.type "dict") <&&> isInstance (.ref b) (.type "dict")) >>= _) _ _ s
  refine wpAny_bind ?_
  refine wpAny_bind (wpAny_isInstance (T := "dict") da.typeIs PySem.F.sub_dict_dict ?_)
  refine wpAny_isInstance (T := "dict") db.typeIs PySem.F.sub_dict_dict ?_
  show wpAny _ _ (Builtin.Dict.copyOf "dict.__or__" (.ref a) >>= _) _ _ s
  refine wpAny_bind (dl_copyOf ha da (by omega) fun h1 d1 k1 => ?_)
  have db1 : h1.DictOf knd b more := let ⟨o, es, ep, ho, r⟩ := db; ⟨o, es, ep, k1 _ _ ho, r⟩
  have hne : s.heap.objs.size ≠ b := by
    obtain ⟨_, _, _, hg, _⟩ := db
    exact fun e => absurd (Heap.lt_size hg) (by rw [e]; exact Nat.lt_irrefl _)
  refine wpAny_bind (wpAny_pure (wpAny_holding ?_))
  show wpAny _ _ (Builtin.Dict.updateFrom "dict.__or__" s.heap.objs.size (.ref b) [] (.ref s.heap.objs.size)) _ _ _
  unfold Builtin.Dict.updateFrom
  refine wpAny_bind (wpAny_typeOf db1.typeIs ?_)
  rw [if_neg (by decide)]
  refine wpAny_bind ?_
  unfold Builtin.Dict.merge
  refine wpAny_bind ?_
  unfold Builtin.Dict.readDirectly
  refine wpAny_bind (wpAny_isInstance db1.typeIs isSubtype_dict_dict ?_)
  simp only [Bool.not_true, Bool.false_eq_true, if_false]
  refine wpAny_bind (wpAny_specialOf db1.typeIs F.slot_dict_iter.lookup (wpAny_pure ?_))
  simp only [beq_self_eq_true, if_true]
  refine wpAny_bind (wpAny_pure ?_)
  refine wpAny_mergeDict (hsz := hsz) hne hb d1 db1 fun h' hd' _ hs' => ?_
  show wpAny _ _ (Builtin.Dict.addKeywords s.heap.objs.size [] >>= _) _ _ _
  refine wpAny_bind (wpAny_pure (wpAny_pure ⟨_, rfl, (fun z => nomatch z), h h' hd' fun c o e => ?_⟩))
  exact (hs'.2 c (Nat.ne_of_lt (Heap.lt_size e))).trans (k1 c o e)
end
end PySem

namespace Dl
open PySem L2
section
variable {X : Cx} {G : Gh} {Wsh : WX} {a b c e o : Expr} {es : List Expr} {f g h f' fo fk fv : FE} {fn fm : FN} {fa ga : FA} {pos pos' p p2 p3 apos tpos cp cpos px py pz pt : Pos} {x y z id fl : Str} {n k : Nat} {fs gs : FS} {T : String}
variable {B : Wd × Hp} {W W1 W2 W' : Wd} {σ : L2.St} {H H1 H2 H' : Hp} {ρ : Env} {S S1 S' : Sto} {ds : List D} {vs : List V} {ss : List Sl} {xs : List V} {s : Shared}
/-! ### d | e -/
def rOrD : R2 := fun x y H Q => ∃ a b ks ls, x = .ref a ∧ y = .ref b ∧ Rd H a (.dK ks) ∧ Rd H b (.dK ls) ∧ ks.length + ls.length ≤ sizeLine ∧ ∀ p, H p = none → Q (.ref p) (upd H p (.dK (mergeK ks ls)))
theorem op_orD : OpR X (binaryOp .BitOr) rOrD := by
  intro pins s σ H x y v u Q I rx ry ⟨a, b, ks, ls, e1, e2, h1, h2, hz, q⟩
  subst e1 e2
  obtain rfl : v = Value.ref a := rx
  obtain rfl : u = Value.ref b := ry
  obtain ⟨_, ya, va, ra, da⟩ := dk_rd I.hok h1
  obtain ⟨_, yb, vb, rb, db⟩ := dk_rd I.hok h2
  have l1 := ra.length
  have l2 := rb.length
  have hn := I.hok.fresh (Nat.le_refl s.heap.objs.size)
  refine dl_dict_or (knd := mixKind X.prog X.w) ya yb da db (by omega) fun h' hd hk => ?_
  have hm := KV.merge rb ra
  have hz2 : (mergeK ks ls).length ≤ sizeLine := by have := length_mergeK ls ks; omega
  have hs0 : (s.heap.objs.size == sysModules) = false := beq_eq_false_iff_ne.mpr (Ne.symm (Nat.ne_of_lt I.big))
  exact ⟨.ref s.heap.objs.size, _, I.laid (t' := s.toks) hk (Nat.le_refl _) (dk_new hz2 hs0 hm hd), rfl, q _ hn⟩
/-- a key put into the pairs of a dict -/
def mapK (k v : D) : List D → List D → List D
  | k' :: ks, v' :: vs => (if eqK k' k then v else v') :: mapK k v ks vs
  | _, _ => []
def putP (k v : D) (ks vs : List D) : List D × List D := if (ks.any fun k' => eqK k' k) = true then (ks, mapK k v ks vs) else (ks ++ [k], vs ++ [v])
theorem put_gen {κ : Type} [DecidableEq κ] {enc : κ → D} (henc : ∀ a b, eqK (enc a) (enc b) = decide (a = b)) {k : κ} {v : D} {y : V} (hv : Rep G W v y) {kvs : List (κ × V)} {vs : List D} (h : RepL G W vs (kvs.map (·.2))) :
    (putP (enc k) v (kvs.map fun p => enc p.1) vs).1 = (putK kvs k y).map (fun p => enc p.1) ∧ RepL G W (putP (enc k) v (kvs.map fun p => enc p.1) vs).2 ((putK kvs k y).map (·.2)) := by
  have e1 : ((kvs.map fun p => enc p.1).any fun k' => eqK k' (enc k)) = kvs.any fun kv => decide (kv.1 = k) := by
    rw [List.any_map]
    congr 1
    funext p
    exact henc p.1 k
  have hm : ∀ {kvs : List (κ × V)} {vs : List D}, RepL G W vs (kvs.map (·.2)) → RepL G W (mapK (enc k) v (kvs.map fun p => enc p.1) vs) ((kvs.map fun kv => if kv.1 = k then (kv.1, y) else kv).map (·.2)) := fun {kvs} => by
    induction kvs with
    | nil =>
      intro vs h
      have := h.length
      cases vs with
      | nil => exact .nil
      | cons => simp at this
    | cons p kvs ih =>
      intro vs h
      cases vs with
      | nil => have := h.length; simp at this
      | cons d vs =>
        obtain ⟨x, r, e, h2, h3⟩ := (show ∃ x r, _ from h)
        simp only [List.map_cons, List.cons.injEq] at e
        obtain ⟨rfl, rfl⟩ := e
        simp only [List.map_cons, mapK, henc]
        refine .cons ?_ (ih h3)
        by_cases hk : p.1 = k
        · rw [if_pos hk, if_pos (by simpa using hk)]; exact hv
        · rw [if_neg hk, if_neg (by simpa using hk)]; exact h2
  unfold putP putK
  rw [e1]
  by_cases hk : (kvs.any fun kv => decide (kv.1 = k)) = true
  · rw [if_pos hk, if_pos hk]
    refine ⟨?_, hm h⟩
    rw [List.map_map]
    refine List.map_congr_left fun p _ => ?_
    show enc p.1 = enc (if p.1 = k then (p.1, y) else p).1
    split <;> rfl
  · rw [if_neg hk, if_neg hk]
    exact ⟨by simp, by rw [List.map_append]; exact h.append (.cons hv .nil)⟩
theorem putP_one {k : Key} {v : D} {y : V} (hv : Rep G W v y) {kvs : List (Key × V)} {vs : List D} (h : RepL G W vs (kvs.map (·.2))) :
    (putP (kD k) v (kvs.map fun p => kD p.1) vs).1 = (putK kvs k y).map (fun p => kD p.1) ∧ RepL G W (putP (kD k) v (kvs.map fun p => kD p.1) vs).2 ((putK kvs k y).map (·.2)) := put_gen eqK_one hv h
theorem putP_many {k : List Key} {v : D} {y : V} (hv : Rep G W v y) {kvs : List (List Key × V)} {vs : List D} (h : RepL G W vs (kvs.map (·.2))) :
    (putP (.tup (k.map kD)) v (kvs.map fun p => D.tup (p.1.map kD)) vs).1 = (putK kvs k y).map (fun p => D.tup (p.1.map kD)) ∧ RepL G W (putP (.tup (k.map kD)) v (kvs.map fun p => D.tup (p.1.map kD)) vs).2 ((putK kvs k y).map (·.2)) :=
  put_gen (enc := fun k : List Key => D.tup (k.map kD)) (fun a b => by simp only [eqK]; exact eqK1s_kD a b) hv h
/-- one of HandS's puts from closed data -/
theorem dput_of {O : HpOk G W H S} {t : Bool} {ks vs : List D} {kd vd : D} {p : Addr} {ys : List V} {y v : V} (h1 : DcE H p t ks ys) (h2 : RepL G W vs ys) (hk : Rep G W kd y) (hv : Rep G W vd v) (ha : askK t kd = true) (hl : ks.length < 16777216) :
    ∃ u, DPut H p y v (upd H p u) ∧ ∃ ys', DcE (upd H p u) p t (putP kd vd ks vs).1 ys' ∧ RepL G W (putP kd vd ks vs).2 ys' := by
  cases t
  · obtain ⟨kvs, hr, rfl, rfl⟩ := h1
    obtain ⟨k, rfl⟩ := ask_one ha
    rw [rep_kV hk]
    obtain ⟨g1, g2⟩ := putP_one (k := k) hv h2
    rw [List.length_map] at hl
    exact ⟨_, .k hr (by rw [sizeLine_eq]; exact hl), _, ⟨_, upd_same, g1, rfl⟩, g2⟩
  · obtain ⟨kvs, hr, rfl, rfl⟩ := h1
    obtain ⟨k, rfl⟩ := ask_many ha
    obtain ⟨b, xs, rfl, hb, l⟩ := (show ∃ a xs, _ from hk)
    have hx := rep_kVs l
    subst hx
    obtain ⟨g1, g2⟩ := putP_many (k := k) hv h2
    rw [List.length_map] at hl
    exact ⟨_, .t hr (O.sub _ _ hb) (by rw [sizeLine_eq]; exact hl), _, ⟨_, upd_same, g1, rfl⟩, g2⟩
/-- d[k] = e, d a dict of one's own in slot i -/
def fDput (i : Nat) (fk fv : FE) : FS := fun ρ S => match ρ[i]? with
  | some (.od t ks vs) => (fv ρ S).bindS ρ fun vd S1 => (fk ρ S1).bindS ρ fun kd S2 => if askK t kd && decide (ks.length < 16777216) then .nx (ρ.set i (.od t (putP kd vd ks vs).1 (putP kd vd ks vs).2)) S2 else .fail
  | _ => .fail
theorem cs_dput (i : Nat) (hu : X.A.units + 1 < cLine) (hk : PE X b (tE G Wsh fk)) (hv : PE X e (tE G Wsh fv)) (hN : X.N[i]? = some x := by rfl) (hvs : Vis X.env.scope x := by first | exact Or.inl rfl | exact Or.inr (Or.inl rfl) | exact Or.inr (Or.inr rfl)) (hd : (x == ("__debug__" : Str)) = false := by decide) (hcd : (x == ("__classdict__" : Str)) = false := by decide)
    (hs : swapsWith e (some (.Subscript (.Name x p) b pos')) pos.line X.env = pure false := by rfl) :
    PS X (.Assign [.Subscript (.Name x p) b pos'] e pos) (tS G Wsh (fDput i fk fv)) :=
  (ps_dput hu (pv i hN hvs hd hcd) hk hv hs).imp fun D' σ H ⟨B, W, ρ, S, O, q⟩ => by
    unfold fDput at q
    split at q
    · rename_i t ks vs hi
      refine ⟨B, W, ρ, S, O, PE'.bindS O q fun v vd S1 W1 H1 _ M hr q => ?_⟩
      obtain ⟨p1, o1, e1, e2, _⟩ := own_at O hi trivial
      refine ⟨.ref p1, e1, B, W1, ρ, S1, M.ok, PE'.bindS M.ok q fun v2 kd S2 W2 H2 _ M2 hr2 q2 => ?_⟩
      split at q2
      · rename_i hok
        rw [Bool.and_eq_true] at hok
        obtain ⟨p2, o2, e3, _, _, _, _, hsl⟩ := own_at M2.ok hi trivial
        rw [e1] at e3; cases e3
        obtain ⟨ys, h1, h2⟩ := (show ∃ ys, _ from hsl)
        obtain ⟨u, g1, ys', g2, g3⟩ := dput_of (O := M2.ok.hp) h1 h2 hr2 (Rep.mono M2.ex.le _ _ hr) hok.1 (of_decide_eq_true hok.2)
        exact ⟨p1, _, rfl, g1, q2.nx' .rfl' (M2.ok.mut hi trivial e1 trivial ⟨ys', g2, g3⟩)⟩
      · exact q2.elim
    · exact q.elim
/-! ### {k: v}, k a tuple -/
theorem d_setD {A : Around} {pins : List (Addr × Obj)} {r : Value} {y v : V} {a q : Addr} {kvs : List (List Key × V)} {k : List Key} {E : Value → Shared → Prop} {Q : Unit → Shared → Prop} (hu : A.units < cLine) (I : Inv X pins σ H s) (e : H a = some (.dT kvs)) (eb : H q = some (.tup (k.map kV))) (hl : kvs.length < sizeLine) (rv : RelV v r)
    (h : ∀ s', Inv X pins σ (upd H a (.dT (putK kvs k v))) s' → Q () s') : wpAny (model X.prog X.w) A (dictSet a (.ref q) r) Q E s := by
  obtain ⟨z, hd, xs, rel, dd⟩ := dt_of I.hok e
  have hz : xs.length ≤ sizeLine := by rw [← Paired.length rel]; exact z
  have hl : (putK kvs k v).length ≤ sizeLine := by have := length_putK kvs k v; omega
  refine wpAny_dictSet_heap (knd := tupleKind (mixKind X.prog X.w)) (hsz := hz) hu (key_of I.hok eb) dd fun h' dd' hs => h _ ?_
  obtain ⟨q', es, ep, hq, h2, h3, h4, _, h5⟩ := dd'
  refine d_write I (by rw [e]; exact True.intro) hs ⟨q', hq⟩ ⟨hl, hd, _, (rel.put k eb rv).keeps fun c ys ec => ?_, q', es, ep, hq, h2, h3, h4, h5⟩
  rw [upd_ne (ne_of ec e (fun z => nomatch z))]
  exact ec
def tDisp1 (tk tv : TE) : TE := fun σ H Q => ∀ p, H p = none → tk σ (upd H p (.dT [])) fun x H1 => tv σ H1 fun y H2 => ∃ (q : Addr) (k : List Key), x = .ref q ∧ H2 p = some (.dT []) ∧ H2 q = some (.tup (k.map kV)) ∧ Q (.ref p) (upd H2 p (.dT [(k, y)]))
theorem pe_disp1 {tk tv : TE} (hu : X.A.units < cLine) (hk : PE X a tk) (hv : PE X b tv) : PE X (.Dict [some a] [b] pos) (tDisp1 tk tv) := by
  refine ⟨fun pins s σ H Q I h => ?_⟩
  have hn := I.hok.fresh (Nat.le_refl s.heap.objs.size)
  have I1 := I.laid (a := s.heap.objs.size) (o := .dT []) (h' := s.heap.push { cls := .type "dict", data := .dict #[] }) (t' := s.toks) (fun _ _ q => Heap.get?_push_of_some _ q) (Nat.le_refl _) (dt_empty s.heap I.big)
  rw [arm_eval_Dict, zip_pairTrees [some a] [b] X.env pos rfl rfl, dictDisplay_pairs _ (by simp [pairTrees]) (by simp [pairTrees])]
  refine wpAny_bind (wpAny_standAt (wpAny_bind ?_))
  unfold subDict
  refine wpAny_bind (wpAny_alloc (wpAny_bind (wpAny_holding ?_)))
  rw [if_pos (by simp [pairTrees])]
  refine wpAny_bind (pairTrees_cons_walk (thn (hk.run pins _ σ _ _ I1 (h _ hn)) fun u s1 ⟨x, H1, I2, rx, q1⟩ => thn (hv.run pins s1 σ H1 _ I2 q1) fun w2 s2 ⟨y, H2, I3, ry, q, k, ex, e1, e2, q2⟩ => pairTrees_nil_walk ?_))
  subst ex
  obtain rfl : u = Value.ref q := rx
  refine wpAny_holding ?_
  refine wpAny_bind ?_
  rw [List.forIn_cons]
  refine wpAny_bind (wpAny_bind (d_setD (y := .ref q) hu I3 e1 e2 (by rw [sizeLine_eq]; decide) ry fun s3 I4 => wpAny_pure ?_))
  show wpAny _ _ (forIn [] _ _) _ _ _
  rw [List.forIn_nil]
  refine wpAny_pure (wpAny_pure (wpAny_pure (wpAny_pure ⟨.ref s.heap.objs.size, _, I4, rfl, ?_⟩)))
  exact q2
def fDisp1 (fk fv : FE) : FN := fun ρ S => match fk ρ S with
  | .ok kd S1 => match fv ρ S1 with
    | .ok vd S2 => if askK true kd then .ok (.od true [kd] [vd]) S2 else .fail
    | .exc c fs S2 => .exc c fs S2
    | .fail => .fail
  | .exc c fs S1 => .exc c fs S1
  | .fail => .fail
theorem cn_disp1 (hu : X.A.units < cLine) (hk : PE X a (tE G Wsh fk)) (hv : PE X b (tE G Wsh fv)) : PE X (.Dict [some a] [b] pos) (tN G Wsh (fDisp1 fk fv)) :=
  (pe_disp1 hu hk hv).imp fun σ H Q ⟨B, W, ρ, S, O, h⟩ p hp => by
    obtain ⟨g1, g2⟩ := ext_new0 (o := .dT []) hp O.hp
    refine ⟨B, W, ρ, S, O.ext g1 g2, ?_⟩
    obtain ⟨f1, _, f3, _⟩ := O.free hp
    unfold fDisp1 at h
    generalize fk ρ S = r at h ⊢
    cases r with
    | exc _ _ _ => exact fun cls dx W' H' e o er => h cls dx W' H' (g1.trans e) o er
    | fail => exact h
    | ok kd S1 =>
      intro x W1 H1 e1 o1 r1
      refine ⟨B, W1, ρ, S1, (O.ext g1 g2).ext e1 o1, ?_⟩
      dsimp only at h
      generalize fv ρ S1 = r2 at h ⊢
      cases r2 with
      | exc _ _ _ => exact fun cls dx W' H' e o er => h cls dx W' H' ((g1.trans e1).trans e) o er
      | fail => exact h
      | ok vd S2 =>
        intro y W2 H2 e2 o2 r2
        dsimp only at h
        split at h
        · rename_i hask
          obtain ⟨k, rfl⟩ := ask_many hask
          obtain ⟨q, xs, rfl, hq, l⟩ := (show ∃ a xs, _ from Rep.mono e2.le _ _ r1)
          have hx := rep_kVs l
          subst hx
          have n0 : (upd H p (.dT [])) p = some (.dT []) := upd_same
          have n1 := e1.kp p _ n0 f3
          have c1 : p ∉ W1.cs := fun z => (e1.nc p z).elim f3 fun q => by rw [n0] at q; cases q
          have n2 := e2.kp p _ n1 c1
          have c2 : p ∉ W2.cs := fun z => (e2.nc p z).elim c1 fun q => by rw [n1] at q; cases q
          have F1 := e1.nf p _ n0 f1
          have F2 := e2.nf p _ n1 F1
          refine ⟨q, k, rfl, n2, o2.sub _ _ hq, h _ W2 _ (fresh_ext ((g1.trans e1).trans e2) hp) (fresh_mut o2 F2 c2) ⟨⟨[y], ⟨[(k, y)], upd_same, rfl, rfl⟩, .cons r2 .nil⟩, fun _ a ha => ?_⟩⟩
          cases ha
          exact ⟨hp, F2, c2⟩
        · exact h.elim
end
end Dl
end
section
set_option Elab.async false
set_option linter.all false
set_option maxRecDepth 100000
set_option maxHeartbeats 1000000
/-! The deep layer: dicts and lists turned into each other; isinstance. -/
namespace Dl
open PySem L2
section
variable {X : Cx} {G : Gh} {Wsh : WX} {a b c e o : Expr} {es : List Expr} {f g h f' fo fk fv : FE} {fn fm : FN} {fa ga : FA} {pos pos' p p2 p3 apos tpos cp cpos px py pz pt : Pos} {x y z id fl : Str} {n k : Nat} {fs gs : FS} {T : String}
variable {B : Wd × Hp} {W W1 W2 W' : Wd} {σ : L2.St} {H H1 H2 H' : Hp} {ρ : Env} {S S1 S' : Sto} {ds : List D} {vs : List V} {ss : List Sl} {xs : List V} {s : Shared}
/-! ### sorted(d) -/
def leK (a b : Key) : Bool := leD (kD a) (kD b)
def rSrtK : List V → Hp → VK → Prop := fun xs H Q => ∃ (a : Addr) (kvs : List (Key × V)), xs = [V.ref a] ∧ Rd H a (.dK kvs) ∧ srtOk (kvs.map fun p => kD p.1) = true ∧ ∀ p, H p = none → Q (.ref p) (upd H p (.lst ((isort leK (kvs.map (·.1))).map kV)))
theorem total_leK : PySem.W.TotalLe leK := PySem.W.sortLe_total (PyProof.Rows.listOrd PyProof.Rows.itemOrd) false fun k : Key => PySem.W.keyToks (pyD (kD k))
theorem each_keys {h : Heap} : ∀ {ks : List Key} {us : List Value}, Vals (ks.map kV) us → PySem.W.EachIs (fun u k => RelV (kV k) u) us ks
  | [], _, .nil => .nil
  | _ :: _, _, .cons r t => .cons r (each_keys (h := h) t)
theorem keys_each : ∀ {ks : List Key} {us : List Value}, PySem.W.EachIs (fun u k => RelV (kV k) u) us ks → Vals (ks.map kV) us
  | _, _, .nil => .nil
  | _, _, .cons r t => .cons r (keys_each t)
theorem dp_key {K : PySem.W.Frag} (k : Key) : Dp K H (kV k) (pyD (kD k)) := by cases k <;> first | exact .int _ | exact .str _
theorem call_srtK (hc : X.calm = true) (hu : X.A.units + 32 < cLine) : CallR X (.builtin "sorted") rSrtK := by
  intro pins s σ H xs us Q I r ⟨a, kvs, ex, hd, hok, q⟩
  subst ex
  obtain ⟨u, eu, rx⟩ := vals1 r
  subst eu
  cases rx
  obtain ⟨h1, h2, h3, h4⟩ := srt_parts hok
  obtain ⟨z, lo, vs, rel, dd⟩ := dk_rd I.hok hd
  obtain ⟨ep, hat⟩ := dd.dictAt
  have hl := rel.length
  have hkeys : vs.map (·.1) = kvs.map (·.1) := rel.keys.symm
  refine Calls.call_function_entry PyProof.Rows.kind_sorted PyProof.Rows.plain_sorted PyProof.Rows.entry_sorted (PyProof.Rows.args_sorted1 _) ?_
  unfold Builtin.«sorted»
  refine wpAny_bind (m := checkCount "sorted" 1 1 _) (wpAny_pure ?_)
  refine wpAny_bind (PySem.W.kdu_collect (A := X.A.in1) (PySem.W.kdl_dict (knd := mixKind X.prog X.w) (kvs := vs) (ep := ep) lo) (I.ok.hd hc) hat (by omega) fun h' tk acc hk hacc => ?_)
  have hal : acc.toList.length = vs.length := by rw [Array.length_toList, hacc.1]
  have hV : Vals ((kvs.map (·.1)).map kV) acc.toList := by
    rw [← hkeys, List.map_map]
    exact keys_at hal fun j v e => by
      obtain ⟨k, x, e1, e2⟩ := hacc.2 j v (by rw [← Array.getElem?_toList]; exact e)
      exact ⟨k, x, e1, e2⟩
  have I1 : Inv X pins σ H { s with heap := h', toks := tk } := I.kept hk
  refine wpAny_bind (wpAny_newList ?_ (by rw [hal]; omega))
  have hoL : (h'.push (PyProof.Rows.seqObj "list" acc.toList.toArray 0)).get? h'.objs.size = some (PyProof.Rows.seqObj "list" acc.toList.toArray 0) := Heap.get?_push_size _ rfl
  show wpAny _ _ _ _ _ { s with heap := h'.push (PyProof.Rows.seqObj "list" acc.toList.toArray 0), toks := tk }
  have I2 : Inv X pins σ H { s with heap := h'.push (PyProof.Rows.seqObj "list" acc.toList.toArray 0), toks := tk } := I1.kept (t' := tk) fun b o e => Heap.get?_push_of_some _ e
  have hm : (kvs.map (·.1)).map (fun k => pyD (kD k)) = pyDs (kvs.map fun p => kD p.1) := by rw [pyDs_map, List.map_map, List.map_map]; rfl
  have er : PySem.W.EachIs (fun v k => ∃ as, Reads (h'.push (PyProof.Rows.seqObj "list" acc.toList.toArray 0)) v (pyD (kD k)) as ∧ h'.objs.size ∉ as) acc.toList (kvs.map (·.1)) := by
    refine PySem.W.EachIs.mono (fun u k r => ?_) (each_keys (h := h') hV)
    cases k with
    | inl i => obtain ⟨t, rfl⟩ := (show ∃ t, u = Value.int i t from r); exact ⟨[], Reads.int i t, by simp⟩
    | inr i => obtain ⟨t, rfl⟩ := (show ∃ t, u = Value.str i t from r); exact ⟨[], Reads.str i t, by simp⟩
  refine wpAny_bind (wpAny_holding (PySem.W.list_sort_data (enc := fun k : Key => pyD (kD k)) (bs := kvs.map (·.1)) (s := { s with heap := h'.push (PyProof.Rows.seqObj "list" acc.toList.toArray 0), toks := tk }) hoL (each_keys (h := h') hV) er (by rw [hm]; exact h2) (by rw [hm]; exact h3) (by rw [List.length_map]; exact z) (fun k _ => ?_) fun out ho eo => ?_))
  · have : (pyD (kD k)).depth = 0 := by cases k <;> simp [kD, pyD, PyData.depth]
    rw [this]
    show X.A.units + 1 + 1 + 0 < cLine
    omega
  · have e1 : (kvs.map (·.1)).mergeSort (PySem.W.dataLe false fun k => pyD (kD k)) = isort leK (kvs.map (·.1)) := (isort_eq total_leK _).symm
    rw [e1] at eo
    obtain ⟨e', he'⟩ := PyProof.Rows.sortedHeap_at (vs := acc.toList) (out := List.toArray out) hoL
    have hlen : ((isort leK (kvs.map (·.1))).map kV).length ≤ sizeLine := by rw [List.length_map, (isort_perm _).length_eq, List.length_map]; exact z
    refine wpAny_pure ⟨_, rfl, .ref h'.objs.size, upd H h'.objs.size (.lst ((isort leK (kvs.map (·.1))).map kV)), I1.laid (t' := tk) (fun b u e => ?_) (Nat.le_refl _)
      (show ObjOk X.prog X.w _ _ _ (.lst ((isort leK (kvs.map (·.1))).map kV)) from ⟨hlen, out, e', keys_each eo, he'⟩), rfl, q _ (I1.hok.fresh (Nat.le_refl _))⟩
    have hb : b < h'.objs.size := Heap.lt_size e
    rw [PyProof.Rows.sortedHeap_old (Nat.ne_of_lt hb) (by rw [PyProof.Rows.size_push']; exact Nat.lt_succ_of_lt hb)]
    exact Heap.get?_push_of_some _ e

def kSrtK : Sto → List D → Option D
  | _, [.dct false ks _] => if srtOk ks then some (.lst (srtD ks)) else none
  | _, _ => none
theorem rep_keys : ∀ {ks : List Key}, RepL G W (ks.map kD) (ks.map kV)
  | [] => .nil
  | .inl _ :: _ => .cons rfl rep_keys
  | .inr _ :: _ => .cons rfl rep_keys
theorem sem_srtK : CSem G rSrtK kSrtK := by
  intro W H S xs ds z Q O hr hz q
  unfold kSrtK at hz
  split at hz
  · rename_i ks vs
    obtain ⟨v, rfl, h⟩ := hr.one
    split at hz
    · rename_i hok
      cases hz
      obtain ⟨p, ys, rfl, ⟨kvs, h1, rfl, rfl⟩, l⟩ := h.dct O
      refine ⟨p, kvs, rfl, h1, hok, fun a ha => ?_⟩
      obtain ⟨g1, g2⟩ := ext_new (o := .lst ((isort leK (kvs.map (·.1))).map kV)) ha O
      refine q _ _ _ g1 g2 ⟨a, _, rfl, put_at, ?_⟩
      have e2 : srtD (kvs.map fun p => kD p.1) = (isort leK (kvs.map (·.1))).map kD := by
        rw [isort_map (le := leK) (f := kD) (le' := leD) (fun _ _ => rfl), List.map_map]
        rfl
      rw [e2]
      exact rep_keys
    · cases hz
  · cases hz
/-- sorted of a list, or of a dict -/
def kSrtA (S : Sto) (ds : List D) : Option D := match ds with
  | [.lst _] => kSrt S ds
  | _ => kSrtK S ds
theorem call_srtA (hc : X.calm = true) (hu : X.A.units + 32 < cLine) : CallR X (.builtin "sorted") (fun xs H Q => rSrt X.K xs H Q ∨ rSrtK xs H Q) := by
  intro pins s σ H xs us Q I r h
  rcases h with h | h
  · exact call_srt hu pins s σ H xs us Q I r h
  · exact call_srtK hc hu pins s σ H xs us Q I r h
theorem sem_srtA (hK : G.K = X.K) : CSem G (fun xs H Q => rSrt X.K xs H Q ∨ rSrtK xs H Q) kSrtA := by
  intro W H S xs ds z Q O hr hz q
  unfold kSrtA at hz
  split at hz
  · exact .inl (sem_srt hK W H S xs _ z Q O hr hz q)
  · exact .inr (sem_srtK W H S xs _ z Q O hr hz q)
/-! ### tuple(x), list(x) -/
def seqT : D → Option (List D)
  | .tup ds => some ds
  | .kt ds => some ds
  | .lst ds => some ds
  | .scr ds => some ds
  | _ => none
def kList (S : Sto) : List D → Option D
  | [.cell n] => match S[n]? with
    | some (.lst ds) => some (.lst ds)
    | _ => none
  | [d] => (seqT d).map .lst
  | _ => none
def rListOf (K : PySem.W.Frag) : List V → Hp → VK → Prop := fun xs H Q => ∃ p ys, xs = [V.ref p] ∧ (SqL K H p ys ∨ SqT K H p ys) ∧ ∀ l, H l = none → Q (.ref l) (upd H l (.lst ys))
theorem seq_of (hK : G.K = X.K) (O : HpOk G W H S) {d : D} {v : V} (h : RepB G W H d v) (hd : seqD S d = some ds) : ∃ p xs, v = .ref p ∧ (SqL X.K H p xs ∨ SqT X.K H p xs) ∧ RepL G W ds xs := seq_at hK O h hd
def fListOf (f : FE) : FN := fun ρ S => match f ρ S with
  | .ok d S1 => match seqD S1 d with
    | some ds => .ok (.ol ds) S1
    | none => .fail
  | .exc c fs S1 => .exc c fs S1
  | .fail => .fail
/-- list(x): a new list of one's own -/
theorem cn_list (hK : G.K = X.K) (hg : Gl X "list") (hm : X.mg "list" = none) (he : PE X e (tB G Wsh f)) (hs : starEach [e] X.env = (false, eval e X.env) :: starEach [] X.env := by rfl) (hpl : (backTo pos (starEach [] X.env)).any (·.1) = false := by rfl) :
    PE X (.Call (.Name "list" p) [e] [] pos) (tN G Wsh (fListOf f)) :=
  (pe_callTy call_list_of hg hm (by decide +kernel) (pa_cons he pa_nil hs) (by decide) (by decide) hs hpl).imp fun σ H Q ⟨B, W, ρ, S, O, h⟩ => ⟨B, W, ρ, S, O, by
    unfold fListOf at h
    generalize f ρ S = r at h ⊢
    cases r with
    | exc _ _ _ => exact h
    | fail => exact h
    | ok d S1 =>
      intro v W1 H1 e1 o1 r1
      dsimp only at h
      split at h
      · rename_i ds hd
        obtain ⟨p, xs, rfl, h2, l⟩ := seq_at (X := X) hK o1 r1 hd
        exact ⟨p, xs, rfl, h2, fun q hq => new_at O ⟨e1, O.ext e1 o1⟩ hq (s := .ol ds) ⟨xs, upd_same, l⟩ h⟩
      · exact h.elim⟩
def kTupOf (S : Sto) : List D → Option D
  | [.tup ds] => some (.tup ds)
  | [.kt ds] => some (.kt ds)
  | [.lst ds] => some (.tup ds)
  | [.scr ds] => some (.tup ds)
  | [.cell n] => match S[n]? with
    | some (.lst ds) => some (.tup ds)
    | _ => none
  | _ => none
theorem sem_tupOf (hK : G.K = X.K) : CSem G (fun xs H Q => ∃ p ys, xs = [V.ref p] ∧ ((SqL X.K H p ys ∧ ∀ l, H l = none → Q (.ref l) (upd H l (.tup ys))) ∨ (SqT X.K H p ys ∧ Q (.ref p) H))) kTupOf := by
  intro W H S xs ds z Q O hr hz q
  have new : ∀ {p : Addr} {ys : List V} {ds : List D}, z = .tup ds → SqL X.K H p ys → RepL G W ds ys → (∃ p' ys', [V.ref p] = [V.ref p'] ∧ ((SqL X.K H p' ys' ∧ ∀ l, H l = none → Q (.ref l) (upd H l (.tup ys'))) ∨ (SqT X.K H p' ys' ∧ Q (.ref p') H))) := fun {p ys ds} hz h1 h2 => by
    subst hz
    refine ⟨p, ys, rfl, .inl ⟨h1, fun l hl => ?_⟩⟩
    obtain ⟨g1, g2⟩ := ext_new (o := .tup ys) hl O
    exact q _ _ _ g1 g2 ⟨l, ys, rfl, put_at, RepL.mono g1.le _ _ h2⟩
  unfold kTupOf at hz
  split at hz
  · rename_i ds
    obtain ⟨v, rfl, h⟩ := hr.one
    cases hz
    obtain ⟨p, xs, rfl, e1, l⟩ := (show ∃ a xs, _ from h.rep rfl)
    exact ⟨p, xs, rfl, .inr ⟨.of (O.sub _ _ e1), q _ W H .rfl' O ⟨p, xs, rfl, e1, l⟩⟩⟩
  · rename_i ds
    obtain ⟨v, rfl, h⟩ := hr.one
    cases hz
    obtain ⟨p, xs, rfl, e1, l⟩ := (show ∃ a xs, _ from h.rep rfl)
    exact ⟨p, xs, rfl, .inr ⟨.inr (hK ▸ e1), q _ W H .rfl' O ⟨p, xs, rfl, e1, l⟩⟩⟩
  · rename_i ds
    obtain ⟨v, rfl, h⟩ := hr.one
    cases hz
    obtain ⟨p, xs, rfl, e1, l⟩ := h.lst O
    exact new rfl (.inl (.of e1)) l
  · rename_i ds
    obtain ⟨v, rfl, h⟩ := hr.one
    cases hz
    obtain ⟨p, xs, rfl, e1, l⟩ := (show ∃ a xs, _ from h.rep rfl)
    exact new rfl (e1.imp (fun e1 => e1.elim (fun e => .inl (O.sub _ _ e)) fun ⟨o, e⟩ => .inr ⟨o, O.sub _ _ e⟩) fun q => hK ▸ q) l
  · rename_i n
    obtain ⟨v, rfl, h⟩ := hr.one
    split at hz
    · rename_i ds hS
      cases hz
      obtain ⟨p, rfl, hp⟩ := (show ∃ a, _ from h.rep rfl)
      obtain ⟨⟨xs, e1, l⟩, _⟩ := cell_at O hp hS
      exact new rfl (.inl (.of e1)) l
    · cases hz
  · cases hz
/-! ### text * int, list * int -/
theorem rep_sign (c : Nat) : ∀ (k : Nat) (acc : Array Nat), (List.replicate k #[c]).foldl (· ++ ·) acc = acc ++ (List.replicate k c).toArray
  | 0, acc => by simp
  | k + 1, acc => by
    rw [List.replicate_succ, List.foldl_cons, rep_sign c k, List.replicate_succ]
    apply Array.toList_inj.mp
    simp
def rMulS : R2 := fun x y H Q => ∃ (c : Nat) (n : Int), x = .str ⟨#[c]⟩ ∧ y = .int n ∧ 2 ≤ n ∧ n ≤ 1000 ∧ Q (.str ⟨(List.replicate n.toNat c).toArray⟩) H
theorem op_mulS : OpR X (binaryOp .Mult) rMulS := by
  intro pins s σ H x y v u Q I rx ry ⟨c, n, e1, e2, h1, h2, q⟩
  subst e1 e2
  obtain ⟨t, rfl⟩ := rx
  obtain ⟨t', rfl⟩ := ry
  have hn : ¬ n < 1 := by omega
  have h3 : (⟨#[c]⟩ : Str).length = 1 := rfl
  have hz : (n == 1 || (⟨#[c]⟩ : Str).length == 0) = false := by
    rw [h3]
    simp only [Bool.or_eq_false_iff, beq_eq_false_iff_ne]
    exact ⟨by omega, by decide⟩
  have hsl := sizeLine_eq
  refine P.mul_str (by simp only [Bool.or_eq_false_iff, decide_eq_false_iff_not]; constructor <;> omega) (fun _ _ => ?_) (fun _ _ => ?_) ?_
  · rw [h3]
    have : (1000 : Int) ≤ (2 ^ 63 - 1) / n := by
      rw [Int.le_ediv_iff_mul_le (by omega)]
      omega
    omega
  · rw [h3, Nat.one_mul]
    unfold Builtin.Str.tooLong
    exact decide_eq_false (by omega)
  · rw [if_neg hn, if_neg (by rw [hz]; exact Bool.false_ne_true)]
    have e : (List.replicate n.toNat (#[c] : Array Nat)).foldl (· ++ ·) #[] = (List.replicate n.toNat c).toArray := by rw [rep_sign]; simp
    show (Made.str ⟨(List.replicate n.toNat (#[c] : Array Nat)).foldl (· ++ ·) #[]⟩).post _ _
    rw [e]
    refine ⟨?_, .str _, H, I.tok _, ⟨_, rfl⟩, q⟩
    show (List.replicate n.toNat c).toArray.size ≤ sizeLine
    simp
    omega
/-- one sign, or a list, so many times -/
def kMulS : D → D → Option D
  | .str x, .int n => match x.cps.toList with
    | [c] => if 2 ≤ n ∧ n ≤ 1000 then some (.str ⟨(List.replicate n.toNat c).toArray⟩) else none
    | _ => none
  | _, _ => none
theorem sem_mulS : OpSem G rMulS kMulS := by
  intro W H S x y d e z Q O h1 h2 hz q
  unfold kMulS at hz
  split at hz
  · rename_i x' n
    cases (show x = V.str x' from h1.rep rfl)
    cases (show y = V.int n from h2.rep rfl)
    split at hz
    · rename_i c hc
      split at hz
      · rename_i hn
        cases hz
        exact ⟨c, n, by rw [one_sign hc], rfl, hn.1, hn.2, q _ W H .rfl' O rfl⟩
      · cases hz
    · cases hz
  · cases hz
def kRep : D → D → Option D
  | .lst ds, .int n => if 0 ≤ n ∧ n ≤ 1000000 ∧ ds.length * n.toNat ≤ 16777216 then some (.lst (List.replicate n.toNat ds).flatten) else none
  | _, _ => none
theorem sem_rep : OpSem G rRep kRep := by
  intro W H S x y d e z Q O h1 h2 hz q
  unfold kRep at hz
  split at hz
  · rename_i ds n
    cases (show y = V.int n from h2.rep rfl)
    split at hz
    · rename_i hn
      cases hz
      obtain ⟨p, xs, rfl, e1, l⟩ := h1.lst O
      refine ⟨p, n, xs, rfl, rfl, e1, by omega, by omega, by rw [sizeLine_eq, ← l.length]; exact hn.2.2, fun a ha => ?_⟩
      obtain ⟨g1, g2⟩ := ext_new (o := .lst (List.replicate n.toNat xs).flatten) ha O
      exact q _ _ _ g1 g2 ⟨a, _, rfl, put_at, RepL.mono g1.le _ _ (l.rep _)⟩
    · cases hz
  · cases hz
theorem ce_mulS (ha : PE X a (tB G Wsh f)) (hb : PE X b (tB G Wsh g)) : PE X (.BinOp a .Mult b pos) (tE G Wsh (f2 kMulS f g)) := ce_bin op_mulS sem_mulS ha hb
theorem ce_rep (ha : PE X a (tB G Wsh f)) (hb : PE X b (tB G Wsh g)) : PE X (.BinOp a .Mult b pos) (tE G Wsh (f2 kRep f g)) := ce_bin op_rep sem_rep ha hb
/-! ### dict(list of pairs), list(d.items()), d | e, {text: x} -/
def mergeP (ks vs : List D) : List D → Option (List D × List D)
  | [] => some (ks, vs)
  | .tup [k, v] :: r => if askK false k then mergeP (putP k v ks vs).1 (putP k v ks vs).2 r else none
  | _ => none
theorem merge_of (O : HpOk G W H S) : ∀ {ds : List D} {ps : List V} {kvs : List (Key × V)} {vs ks' vs' : List D}, RepL G W ds ps → RepL G W vs (kvs.map (·.2)) → mergeP (kvs.map fun p => kD p.1) vs ds = some (ks', vs') →
    ∃ (as : List Addr) (more : List (Key × V)), ps = as.map V.ref ∧ Paired (fun p (kv : Key × V) => SqT X.K H p [kV kv.1, kv.2]) as more ∧ ks' = (mergeK kvs more).map (fun p => kD p.1) ∧ RepL G W vs' ((mergeK kvs more).map (·.2))
  | [], ps, kvs, vs, ks', vs', h, hv, e => by
    cases (show ps = [] from h)
    cases e
    exact ⟨[], [], rfl, .nil, rfl, hv⟩
  | d :: ds, ps, kvs, vs, ks', vs', h, hv, e => by
    obtain ⟨x, r, rfl, h2, h3⟩ := (show ∃ x r, _ from h)
    unfold mergeP at e
    split at e
    · rename_i heq; cases heq
    · rename_i k v r' heq
      cases heq
      split at e
      · rename_i hask
        obtain ⟨k', rfl⟩ := ask_one hask
        obtain ⟨a, ys, rfl, e1, l⟩ := (show ∃ a xs, _ from h2)
        obtain ⟨y1, r1, rfl, l1, l2⟩ := (show ∃ x r, _ from l)
        obtain ⟨y2, r2, rfl, l3, l4⟩ := (show ∃ x r, _ from l2)
        cases (show r2 = [] from l4)
        rw [rep_kV l1] at e1
        obtain ⟨g1, g2⟩ := putP_one (k := k') l3 hv
        rw [g1] at e
        obtain ⟨as, more, m1, m2, m3, m4⟩ := merge_of O h3 g2 e
        exact ⟨a :: as, (k', y2) :: more, by rw [m1]; rfl, .cons (.of (O.sub _ _ e1)) m2, m3, m4⟩
      · cases e
    · cases e
def kDictP : Sto → List D → Option D
  | _, [.lst ds] => (mergeP [] [] ds).map fun r => .dct false r.1 r.2
  | _, _ => none
theorem sem_dictP : CSem G (fun xs H Q => ∃ (a : Addr) (ps : List Addr) (kvs : List (Key × V)), xs = [V.ref a] ∧ SqL X.K H a (ps.map V.ref) ∧ Paired (fun p kv => SqT X.K H p [kV kv.1, kv.2]) ps kvs ∧
    ∀ p, H p = none → Q (.ref p) (upd H p (.dK (mergeK [] kvs)))) kDictP := by
  intro W H S xs ds z Q O hr hz q
  unfold kDictP at hz
  split at hz
  · rename_i ds
    obtain ⟨v, rfl, h⟩ := hr.one
    cases e : mergeP [] [] ds with
    | none => rw [e] at hz; cases hz
    | some r =>
      obtain ⟨ks', vs'⟩ := r
      rw [e] at hz
      cases hz
      obtain ⟨p, xs, rfl, e1, l⟩ := h.lst O
      obtain ⟨as, more, m1, m2, m3, m4⟩ := merge_of (X := X) O (kvs := []) l .nil e
      subst m1
      refine ⟨p, as, more, rfl, .inl (.of e1), m2, fun a ha => ?_⟩
      obtain ⟨g1, g2⟩ := ext_new (o := .dK (mergeK [] more)) ha O
      exact q _ _ _ g1 g2 ⟨a, _, rfl, ⟨_, .inl put_at, m3, rfl⟩, RepL.mono g1.le _ _ m4⟩
  · cases hz
theorem ce_dictP (hc : X.calm = true) (hg : Gl X "dict") (hm : X.mg "dict" = none) (ha : PA X (e :: es) (tAB G Wsh fa)) (he : starEach (e :: es) X.env = (false, eval e X.env) :: starEach es X.env := by rfl) (hpl : (backTo pos (starEach es X.env)).any (·.1) = false := by rfl) :
    PE X (.Call (.Name "dict" p) (e :: es) [] pos) (tE G Wsh (fCB kDictP fa)) := ce_callTy (call_dictP hc) sem_dictP hg hm ha (by decide +kernel) (by decide) (by decide) he hpl
end
end Dl
end
section
set_option Elab.async false
set_option linter.all false
set_option maxRecDepth 100000
set_option maxHeartbeats 1000000
/-! The deep layer: list(d.items()), {text: x}, d | e, isinstance. -/
namespace Dl
open PySem L2
section
variable {X : Cx} {G : Gh} {Wsh : WX} {a b c e o : Expr} {es : List Expr} {f g h f' fo fk fv : FE} {fn fm : FN} {fa ga : FA} {pos pos' p p2 p3 apos tpos cp cpos px py pz pt : Pos} {x y z id fl : Str} {n k : Nat} {fs gs : FS} {T : String}
variable {B : Wd × Hp} {W W1 W2 W' : Wd} {σ : L2.St} {H H1 H2 H' : Hp} {ρ : Env} {S S1 S' : Sto} {ds : List D} {vs : List V} {ss : List Sl} {xs : List V} {s : Shared}
/-! ### list(d.items()) -/
def rItemsR : V → Hp → VK → Prop := fun x H Q => ∃ (d : Addr) (kvs : List (Key × V)), x = .ref d ∧ Rd H d (.dK kvs) ∧
  ∀ (H' : Hp) (p : Addr) (ts : List Addr), (∀ b o, H b = some o → H' b = some o) → H p = none → (∀ t ∈ ts, H t = none) → p ∉ ts → H' p = some (.lst (ts.map V.ref)) → Paired (fun (t : Addr) (q : Key × V) => H' t = some (.tup [kV q.1, q.2])) ts kvs → Q (.ref p) H'
theorem pe_itemsR {te : TE} (hc : X.calm = true) (he : PE X e te) (hg : Gl X "list") (hm : X.mg "list" = none) (hv : bootBuiltins "list" = some (.type "list")) (hbase : attributeBase e "items" X.env (eval e X.env) = eval e X.env := by rfl) (hline : (apos.endLine == cpos.line) = true := by rfl)
    (hs : starEach [.Call (.Attribute e "items" apos) [] [] cpos] X.env = (false, eval (.Call (.Attribute e "items" apos) [] [] cpos) X.env) :: starEach [] X.env := by rfl) :
    PE X (.Call (.Name "list" p) [.Call (.Attribute e "items" apos) [] [] cpos] [] pos) (fun σ H Q => te σ H fun x H1 => rItemsR x H1 Q) := by
  refine ⟨fun pins s σ H Q I hq => ?_⟩
  refine wpAny_Call_Name_kw (ld_blt I hg hm hv ?_)
  refine PyProof.Rows.callWith_type1 ?_ hs rfl
  rw [hs]
  show wpAny _ _ (spliced ((false, eval (.Call (.Attribute e "items" apos) [] [] cpos) X.env) :: backTo pos (starEach [] X.env))) _ _ s
  refine Calls.spliced_cons ?_
  refine wpAny_Call_method (T := "dict") (id := "dict.items") hbase rfl hline PySem.F.plainAttrs_dict PySem.F.slot_dict_items PySem.F.type_dict_items (thn (he.run pins s σ H _ I hq) fun u s1 ⟨x, H1, I1, rx, d, kvs, ex, hd, q⟩ => ?_)
  subst ex
  obtain rfl : u = Value.ref d := rx
  obtain ⟨hz, hs0, vs, kv, hdo⟩ := dk_rd I1.hok hd
  obtain ⟨ep, hat⟩ := hdo.dictAt
  have lk : kvs.length = vs.length := Paired.length kv
  have I2 : Inv X pins σ H1 { s1 with heap := s1.heap.push { cls := .type "dict_items", data := .fields #[.ref d] } } := I1.kept (t' := s1.toks) fun b ob q => Heap.get?_push_of_some _ q
  refine ⟨hdo.typeIs, hdo.mapOf.noDict, ?_⟩
  show wpAny _ _ (callWith cpos (.builtin "dict.items") [.ref d] [] []) _ X.xe s1
  refine method_meetsIn PySem.F.slot_dict_items PySem.F.entry_dict_items rfl (PySem.evalArgs_none ⟨rfl, hdo.typeIs, PySem.F.args_dict_items_1 _, _, meets_dict_items (mixKind X.prog X.w) d hs0, ⟨vs, hdo⟩, ?_⟩)
  refine Calls.spliced_nil ?_
  refine PySem.W.kdx_call (knd := mixKind X.prog X.w) (kvs := vs) (ep := ep) (I1.ok.hd hc) ⟨_, Heap.get?_push_size _ rfl, rfl, rfl⟩ (hat.push _) (by omega) fun h' tk acc c as hk hS hl hG hacc => ?_
  obtain ⟨H', k1, k2, k3, k4, k5, k6, J⟩ := LiI.items_laid (tk := tk) I2 hz kv hk hS hl hG hacc
  exact ⟨.ref _, H', J, rfl, q H' _ as k1 k2 k3 k4 k5 k6⟩
/-- many new objects, frozen at once -/
noncomputable def Wd.puts (W : Wd) (as : List Addr) (H' : Hp) : Wd := ⟨fun a => @ite _ (a ∈ as) (Classical.propDecidable _) (H' a) (W.F a), W.cs⟩
theorem puts_in {as : List Addr} {a : Addr} (h : a ∈ as) : (W.puts as H').F a = H' a := by unfold Wd.puts; exact if_pos h
theorem puts_out {as : List Addr} {a : Addr} (h : a ∉ as) : (W.puts as H').F a = W.F a := by unfold Wd.puts; exact if_neg h
theorem ext_news {as : List Addr} (O : HpOk G W H S) (hn : ∀ a ∈ as, H a = none) (hk : ∀ b o, H b = some o → H' b = some o) : Ext W H (W.puts as H') H' ∧ HpOk G (W.puts as H') H' S := by
  have hF : ∀ a o, W.F a = some o → (W.puts as H').F a = some o := fun a o e => by
    rw [puts_out fun z => by have := hn a z; rw [O.sub a o e] at this; cases this]; exact e
  have hE : Ext W H (W.puts as H') H' := Ext.grow hF hk (fun a o e hf => by
    rw [puts_out fun z => by rw [hn a z] at e; cases e]; exact hf) rfl
  refine ⟨hE, O.grow hE (fun a o e => ?_) rfl hk⟩
  by_cases ha : a ∈ as
  · rw [puts_in ha] at e; exact e
  · rw [puts_out ha] at e; exact hk a o (O.sub a o e)
def pairsD : List D → List D → List D
  | k :: ks, v :: vs => .tup [k, v] :: pairsD ks vs
  | _, _ => []
def fItems (f : FE) : FE := fun ρ S => (f ρ S).bind fun d S1 => match d with
  | .dct false ks vs => .ok (.lst (pairsD ks vs)) S1
  | _ => .fail
theorem rep_key {k : Key} : Rep G W (kD k) (kV k) := by cases k <;> rfl
theorem ce_items (hc : X.calm = true) (hg : Gl X "list") (hm : X.mg "list" = none) (he : PE X e (tB G Wsh f)) (hbase : attributeBase e "items" X.env (eval e X.env) = eval e X.env := by rfl) (hline : (apos.endLine == cpos.line) = true := by rfl)
    (hs : starEach [.Call (.Attribute e "items" apos) [] [] cpos] X.env = (false, eval (.Call (.Attribute e "items" apos) [] [] cpos) X.env) :: starEach [] X.env := by rfl) :
    PE X (.Call (.Name "list" p) [.Call (.Attribute e "items" apos) [] [] cpos] [] pos) (tE G Wsh (fItems f)) :=
  (pe_itemsR hc he hg hm (by decide +kernel) hbase hline hs).imp fun σ H Q ⟨B, W, ρ, S, O, h⟩ => ⟨B, W, ρ, S, O, PB'.bind O h fun v d S1 W1 H1 _ M hr q => by
    split at q
    · rename_i ks vs
      obtain ⟨p, ys, rfl, ⟨kvs, h1, rfl, rfl⟩, l⟩ := hr.dct M.ok.hp
      refine ⟨p, kvs, rfl, h1, fun H' q0 ts hk hq0 hts hnin hat hpair => ?_⟩
      obtain ⟨g1, g2⟩ := ext_news (as := q0 :: ts) M.ok.hp (fun a ha => by
        rcases List.mem_cons.mp ha with rfl | ha
        · exact hq0
        · exact hts a ha) hk
      refine q _ _ _ g1 g2 ⟨q0, ts.map V.ref, rfl, by rw [puts_in List.mem_cons_self]; exact hat, ?_⟩
      have l2 := RepL.mono g1.le _ _ l
      have : ∀ {ts' : List Addr} {kvs : List (Key × V)} {vs : List D}, (∀ t ∈ ts', t ∈ ts) → Paired (fun (t : Addr) (q : Key × V) => H' t = some (.tup [kV q.1, q.2])) ts' kvs → RepL G (W1.puts (q0 :: ts) H') vs (kvs.map (·.2)) → RepL G (W1.puts (q0 :: ts) H') (pairsD (kvs.map fun p => kD p.1) vs) (ts'.map V.ref) := fun {ts'} => by
        induction ts' with
        | nil => intro kvs vs _ hp hl; cases hp; exact .nil
        | cons t ts' ih =>
          intro kvs vs hin hp hl
          cases hp with
          | @cons _ p _ kvs' e1 e2 =>
            cases vs with
            | nil => have := hl.length; simp at this
            | cons d vs =>
              obtain ⟨x, r, e, h2, h3⟩ := (show ∃ x r, _ from hl)
              simp only [List.map_cons, List.cons.injEq] at e
              obtain ⟨rfl, rfl⟩ := e
              refine .cons ⟨t, _, rfl, by rw [puts_in (List.mem_cons_of_mem _ (hin t List.mem_cons_self))]; exact e1, .cons rep_key (.cons h2 .nil)⟩ (ih (fun t' ht => hin t' (List.mem_cons_of_mem _ ht)) e2 h3)
      exact this (fun t ht => ht) hpair l2
    · exact q.elim⟩
/-! ### {k: v}, k a text or an int -/
def fDispK (fk fv : FE) : FN := fun ρ S => match fk ρ S with
  | .ok kd S1 => match fv ρ S1 with
    | .ok vd S2 => if askK false kd then .ok (.od false [kd] [vd]) S2 else .fail
    | .exc c fs S2 => .exc c fs S2
    | .fail => .fail
  | .exc c fs S1 => .exc c fs S1
  | .fail => .fail
theorem cn_dispK (hk : PE X a (tE G Wsh fk)) (hv : PE X b (tE G Wsh fv)) : PE X (.Dict [some a] [b] pos) (tN G Wsh (fDispK fk fv)) :=
  (pe_disp (pps_cons hk hv pps_nil) rfl rfl (by simp) (by simp)).imp fun σ H Q ⟨B, W, ρ, S, O, h⟩ p hp => by
    obtain ⟨g1, g2⟩ := ext_new0 (o := .dK []) hp O.hp
    refine ⟨B, W, ρ, S, O.ext g1 g2, ?_⟩
    obtain ⟨f1, _, f3, _⟩ := O.free hp
    unfold fDispK at h
    generalize fk ρ S = r at h ⊢
    cases r with
    | exc _ _ _ => exact fun cls dx W' H' e o er => h cls dx W' H' (g1.trans e) o er
    | fail => exact h
    | ok kd S1 =>
      intro x W1 H1 e1 o1 r1
      refine ⟨B, W1, ρ, S1, (O.ext g1 g2).ext e1 o1, ?_⟩
      dsimp only at h
      generalize fv ρ S1 = r2 at h ⊢
      cases r2 with
      | exc _ _ _ => exact fun cls dx W' H' e o er => h cls dx W' H' ((g1.trans e1).trans e) o er
      | fail => exact h
      | ok vd S2 =>
        intro y W2 H2 e2 o2 r2
        dsimp only at h
        split at h
        · rename_i hask
          obtain ⟨k, rfl⟩ := ask_one hask
          have n0 : (upd H p (.dK [])) p = some (.dK []) := upd_same
          have n1 := e1.kp p _ n0 f3
          have c1 : p ∉ W1.cs := fun z => (e1.nc p z).elim f3 fun q => by rw [n0] at q; cases q
          have n2 := e2.kp p _ n1 c1
          have c2 : p ∉ W2.cs := fun z => (e2.nc p z).elim c1 fun q => by rw [n1] at q; cases q
          have F1 := e1.nf p _ n0 f1
          have F2 := e2.nf p _ n1 F1
          refine ⟨n2, [(k, y)], by rw [rep_kV r1]; rfl, by simp, h _ W2 _ (fresh_ext ((g1.trans e1).trans e2) hp) (fresh_mut o2 F2 c2) ⟨⟨[y], ⟨[(k, y)], upd_same, rfl, rfl⟩, .cons r2 .nil⟩, fun _ a ha => ?_⟩⟩
          cases ha
          exact ⟨hp, F2, c2⟩
        · exact h.elim
/-! ### d | e -/
def foldP : List D → List D → List D → List D → List D × List D
  | ks, vs, k :: ls, w :: ws => foldP (putP k w ks vs).1 (putP k w ks vs).2 ls ws
  | ks, vs, _, _ => (ks, vs)
theorem foldP_of : ∀ {more : List (Key × V)} {kvs : List (Key × V)} {vs ws : List D}, RepL G W vs (kvs.map (·.2)) → RepL G W ws (more.map (·.2)) →
    (foldP (kvs.map fun p => kD p.1) vs (more.map fun p => kD p.1) ws).1 = (mergeK kvs more).map (fun p => kD p.1) ∧ RepL G W (foldP (kvs.map fun p => kD p.1) vs (more.map fun p => kD p.1) ws).2 ((mergeK kvs more).map (·.2))
  | [], kvs, vs, ws, h, h2 => ⟨rfl, h⟩
  | p :: more, kvs, vs, [], h, h2 => by have := h2.length; simp at this
  | p :: more, kvs, vs, w :: ws, h, h2 => by
    obtain ⟨x, r, e, k1, k2⟩ := (show ∃ x r, _ from h2)
    simp only [List.map_cons, List.cons.injEq] at e
    obtain ⟨rfl, rfl⟩ := e
    obtain ⟨g1, g2⟩ := putP_one (k := p.1) k1 h
    simp only [List.map_cons, foldP]
    rw [g1]
    exact foldP_of (kvs := putK kvs p.1 p.2) g2 k2
def kOrD : D → D → Option D
  | .dct false ks vs, .dct false ls ws => if ks.length + ls.length ≤ 16777216 then some (.dct false (foldP ks vs ls ws).1 (foldP ks vs ls ws).2) else none
  | _, _ => none
theorem sem_orD : OpSem G rOrD kOrD := by
  intro W H S x y d e z Q O h1 h2 hz q
  unfold kOrD at hz
  split at hz
  · rename_i ks vs ls ws
    split at hz
    · rename_i hl
      cases hz
      obtain ⟨a, ys, rfl, ⟨kvs, e1, rfl, rfl⟩, l1⟩ := h1.dct O
      obtain ⟨b, zs, rfl, ⟨more, e2, rfl, rfl⟩, l2⟩ := h2.dct O
      rw [List.length_map, List.length_map] at hl
      refine ⟨a, b, kvs, more, rfl, rfl, e1, e2, by rw [sizeLine_eq]; exact hl, fun p hp => ?_⟩
      obtain ⟨g1, g2⟩ := ext_new (o := .dK (mergeK kvs more)) hp O
      obtain ⟨k1, k2⟩ := foldP_of l1 l2
      rw [k1] at q
      exact q _ _ _ g1 g2 ⟨p, _, rfl, ⟨_, .inl put_at, rfl, rfl⟩, RepL.mono g1.le _ _ k2⟩
    · cases hz
  · cases hz
theorem ce_orD (ha : PE X a (tB G Wsh f)) (hb : PE X b (tB G Wsh g)) : PE X (.BinOp a .BitOr b pos) (tE G Wsh (f2 kOrD f g)) := ce_bin op_orD sem_orD ha hb
/-! ### isinstance -/
/-- the built-in type of closed data -/
def tyN : D → Option String
  | .non => some "NoneType"
  | .bl _ => some "bool"
  | .int _ => some "int"
  | .str _ => some "str"
  | .tup _ => some "tuple"
  | .kt _ => some "tuple"
  | .lst _ => some "list"
  | .scr _ => some "list"
  | .dct _ _ _ => some "dict"
  | _ => none
/-- a class can be asked -/
structure OwnTy (K : PySem.W.Frag) (C : Addr) : Prop where
  cl : Cls K C
  ha : PySem.W.findIn K (.ref C) "__class__" = some (some (.builtin "object.__class__"))
  hn : PySem.W.specialIn K (.builtin "object.__class__") "__get__" = some (some (.builtin "getset_descriptor.__get__"))
  htk : PySem.W.takesIn K (.builtin "object.__class__") = some true
  hm : PySem.W.mroIn K C (.type "object") = some true
inductive TyY (K : PySem.W.Frag) (H : Hp) : V → Value → Prop where
  | x {v : V} {t : Value} (h : TyX K H v t) : TyY K H v t
  | ft {a : Addr} {o : Obj} {kvs : List (List Key × V)} (e : H a = some (.frz o (.dT kvs))) : TyY K H (.ref a) (.type "dict")
theorem kit_ofY {pins : List (Addr × Obj)} {v : V} {u t : Value} (I : Inv X pins σ H s) (rx : RelV v u) (ty : TyY X.K H v t) : ∃ P : Heap → Prop, PySem.W.KitX X.K u t P ∧ P s.heap ∧ u ≠ .builtin "__main__.__loader__#opaque" := by
  cases ty with
  | x h => exact kit_of I rx h
  | @ft a ob kvs ea =>
    cases (show u = Value.ref a from rx)
    obtain ⟨_, _, xs, _, o, es, ep, h1, h2, _⟩ := dt_rd I.hok (.inr ⟨_, ea⟩)
    exact ⟨_, PySem.W.kitx_dict, ⟨o, h1, h2.1⟩, fun z => nomatch z⟩
def rIsiY (K : PySem.W.Frag) : List V → Hp → VK → Prop := fun xs H Q => ∃ (x c : V) (t u : Value) (b : Bool), xs = [x, c] ∧ ClsV c u ∧ TyY K H x t ∧ PySem.W.kitOne K t u = some b ∧ Q (.bl b) H
def rIsiYT (K : PySem.W.Frag) : List V → Hp → VK → Prop := fun xs H Q => ∃ (x : V) (tp : Addr) (cs : List V) (t : Value) (us : List Value) (b : Bool), xs = [x, .ref tp] ∧ H tp = some (.tup cs) ∧ Paired ClsV cs us ∧ TyY K H x t ∧ PySem.W.kitAny K t us = some b ∧ Q (.bl b) H
theorem call_isiY : CallR X (.builtin "isinstance") (rIsiY X.K) := by
  intro pins s σ H xs us Q I r h
  obtain ⟨x, c, t, u, b, rfl, k, ty, e, q⟩ := h
  obtain ⟨u1, u2, rfl, r1, r2⟩ := vals2 r
  have e2 := k.eq r2
  subst e2
  obtain ⟨P, Z, p, hx⟩ := kit_ofY I r1 ty
  exact PySem.W.kia_one Z I.kIn p e hx fun tk => ⟨.bl b, H, I.tok tk, rfl, q⟩
theorem call_isiYT : CallR X (.builtin "isinstance") (rIsiYT X.K) := by
  intro pins s σ H xs us Q I r h
  obtain ⟨x, tp, cs, t, ws, b, rfl, hT, k, ty, e, q⟩ := h
  obtain ⟨u1, u2, rfl, r1, r2⟩ := vals2 r
  cases (show u2 = Value.ref tp from r2)
  obtain ⟨P, Z, p, hx⟩ := kit_ofY I r1 ty
  obtain ⟨_, its, rv, o, h1, h2, n, h3⟩ := (show ObjOk X.prog X.w H s.heap tp (.tup cs) from I.hok tp _ hT)
  have e3 := ClsV.all k rv
  subst e3
  obtain ⟨oc, od, dt, sl⟩ := o
  simp only at h2 h3
  subst h2 h3
  exact PySem.W.kia_tup Z I.kIn p h1 e hx fun tk => ⟨.bl b, H, I.tok tk, rfl, q⟩
/-- a class as closed data -/
inductive Kl where
  | ty (n : String) | own (t : Nat)
def Kl.v (G : Gh) : Kl → Value
  | .ty n => .type n
  | .own t => .ref (G.ct t)
def isK : Kl → D → Bool
  | .ty a, .ty b => a == b
  | .own a, .ref b => a == b
  | _, _ => false
theorem isK_of {c : Kl} {d : D} {v : V} (h : isK c d = true) (r : Rep G W d v) : ClsV v (c.v G) := by
  cases c <;> cases d <;> first | exact nofalse h rfl | skip
  · have e := beq_iff_eq.mp h
    subst e
    cases (show v = V.ty _ from r)
    exact .ty _
  · have e := beq_iff_eq.mp h
    subst e
    cases (show v = V.ref _ from r)
    exact .own _
def isKs : List Kl → List D → Bool
  | [], [] => true
  | c :: cs, d :: ds => isK c d && isKs cs ds
  | _, _ => false
theorem isKs_of : ∀ {cs : List Kl} {ds : List D} {vs : List V}, isKs cs ds = true → RepL G W ds vs → Paired ClsV vs (cs.map (Kl.v G))
  | [], [], vs, _, r => by cases (show vs = [] from r); exact .nil
  | [], _ :: _, _, h, _ => nofalse h rfl
  | _ :: _, [], _, h, _ => nofalse h rfl
  | c :: cs, d :: ds, vs, h, r => by
    obtain ⟨x, r', rfl, h2, h3⟩ := (show ∃ x r, _ from r)
    obtain ⟨a1, a2⟩ := Bool.and_eq_true_iff.mp h
    exact .cons (isK_of a1 h2) (isKs_of a2 h3)
def tyNames : List String := ["NoneType", "bool", "int", "str", "tuple", "list", "dict"]
/-- what isinstance answers, by the built-in type, by the own class -/
def kTy (S : Sto) (tb : String → Bool) (to : Nat → Option Bool) (d : D) : Option Bool := match d with
  | .obj t _ => to t
  | .cell n => match S[n]? with
    | some (.ins t _) => to t
    | some (.lst _) => some (tb "list")
    | _ => none
  | d => (tyN d).map tb
def TyTab (K : PySem.W.Frag) (G : Gh) (q : Value → Option Bool) (tb : String → Bool) (to : Nat → Option Bool) : Prop := (∀ n ∈ tyNames, q (.type n) = some (tb n)) ∧ ∀ t b, to t = some b → OwnTy K (G.ct t) ∧ q (.ref (G.ct t)) = some b
theorem ty_of (hK : G.K = X.K) (O : HpOk G W H S) {q : Value → Option Bool} {tb : String → Bool} {to : Nat → Option Bool} (h : TyTab X.K G q tb to) {d : D} {v : V} {b : Bool} (r : RepB G W H d v) (e : kTy S tb to d = some b) : ∃ t, TyY X.K H v t ∧ q t = some b := by
  have own : ∀ {t : Nat} {p dx : Addr} {fs}, H p = some (.ins (G.ct t) dx fs) → to t = some b → ∃ z, TyY X.K H (.ref p) z ∧ q z = some b := fun {t p dx fs} h1 h2 => by
    obtain ⟨o, hq⟩ := h.2 t b h2
    exact ⟨_, .x (.base (.ins h1 o.cl o.ha o.hn o.htk o.hm)), hq⟩
  have nm : ∀ {n : String} {w : V}, n ∈ tyNames → some (tb n) = some b → TyY X.K H w (.type n) → ∃ z, TyY X.K H w z ∧ q z = some b := fun {n w} hn hb ht => ⟨_, ht, by rw [h.1 n hn]; exact hb⟩
  cases d with
  | non => cases (show v = V.non from r.rep rfl); exact nm (by decide) e (.x (.base .non))
  | bl i => cases (show v = V.bl i from r.rep rfl); exact nm (by decide) e (.x (.base (.bl i)))
  | int i => cases (show v = V.int i from r.rep rfl); exact nm (by decide) e (.x (.base (.int i)))
  | str i => cases (show v = V.str i from r.rep rfl); exact nm (by decide) e (.x (.base (.str i)))
  | tup ds => obtain ⟨p, xs, rfl, e1, _⟩ := (show ∃ a xs, _ from r.rep rfl); exact nm (by decide) e (.x (.base (.tup (O.sub _ _ e1))))
  | kt ds =>
    obtain ⟨p, xs, rfl, ⟨o, its, n, e1, e2, _⟩, _⟩ := (show ∃ a xs, _ from r.rep rfl)
    exact nm (by decide) e (.x (.kTuple (hK ▸ e1) e2))
  | lst ds => obtain ⟨p, xs, rfl, e1, _⟩ := r.lst O; exact nm (by decide) e (.x (.base (.lst e1)))
  | scr ds =>
    obtain ⟨p, xs, rfl, e1, _⟩ := (show ∃ a xs, _ from r.rep rfl)
    rcases e1 with (e1 | ⟨ob, e1⟩) | ⟨o, its, n, e1, e2, _⟩
    · exact nm (by decide) e (.x (.base (.lst (O.sub _ _ e1))))
    · exact nm (by decide) e (.x (.base (.frz (O.sub _ _ e1))))
    · exact nm (by decide) e (.x (.kList (hK ▸ e1) e2))
  | dct t ks vs =>
    obtain ⟨p, ys, rfl, h1, _⟩ := r.dct O
    cases t
    · obtain ⟨kvs, h1, _⟩ := h1
      rcases h1 with h1 | ⟨ob, h1⟩
      · exact nm (by decide) e (.x (.base (.dK h1)))
      · exact nm (by decide) e (.x (.fDict h1))
    · obtain ⟨kvs, h1, _⟩ := h1
      rcases h1 with h1 | ⟨ob, h1⟩
      · exact nm (by decide) e (.x (.base (.dT h1)))
      · exact nm (by decide) e (.ft h1)
  | obj t fs =>
    obtain ⟨p, dx, ys, rfl, e1, _⟩ := (show ∃ a dx ys, _ from r.rep rfl)
    exact own (O.sub _ _ e1) e
  | cell n =>
    obtain ⟨p, rfl, hp⟩ := (show ∃ a, _ from r.rep rfl)
    simp only [kTy] at e
    split at e
    · rename_i t fs hS
      obtain ⟨⟨dx, ys, e1, _⟩, _⟩ := cell_at O hp hS
      exact own e1 e
    · rename_i ds hS
      obtain ⟨⟨xs, e1, _⟩, _⟩ := cell_at O hp hS
      exact nm (by decide) e (.x (.base (.lst e1)))
    · cases e
  | ref t => cases e
  | ty n => cases e
def kIsi (c : Kl) (tb : String → Bool) (to : Nat → Option Bool) : Sto → List D → Option D
  | S, [d, e] => if isK c e then (kTy S tb to d).map .bl else none
  | _, _ => none
theorem sem_isi (hK : G.K = X.K) {c : Kl} {tb : String → Bool} {to : Nat → Option Bool} (h : TyTab X.K G (fun t => PySem.W.kitOne X.K t (c.v G)) tb to) : CSem G (rIsiY X.K) (kIsi c tb to) := by
  intro W H S xs ds z Q O hr hz q
  unfold kIsi at hz
  split at hz
  · rename_i d e
    obtain ⟨v, v', rfl, r1, r2⟩ := hr.two
    split at hz
    · rename_i hc
      cases e1 : kTy S tb to d with
      | none => rw [e1] at hz; cases hz
      | some b =>
        rw [e1] at hz; cases hz
        obtain ⟨t, h1, h2⟩ := ty_of hK O h r1 e1
        have r3 : Rep G W e v' := r2.rep (by cases c <;> cases e <;> first | exact nofalse hc rfl | rfl)
        exact ⟨v, v', t, _, b, rfl, isK_of hc r3, h1, h2, q _ W H .rfl' O rfl⟩
    · cases hz
  · cases hz
def kIsiT (cs : List Kl) (tb : String → Bool) (to : Nat → Option Bool) : Sto → List D → Option D
  | S, [d, .tup es] => if isKs cs es then (kTy S tb to d).map .bl else none
  | _, _ => none
theorem sem_isiT (hK : G.K = X.K) {cs : List Kl} {tb : String → Bool} {to : Nat → Option Bool} (h : TyTab X.K G (fun t => PySem.W.kitAny X.K t (cs.map (Kl.v G))) tb to) : CSem G (rIsiYT X.K) (kIsiT cs tb to) := by
  intro W H S xs ds z Q O hr hz q
  unfold kIsiT at hz
  split at hz
  · rename_i d es
    obtain ⟨v, v', rfl, r1, r2⟩ := hr.two
    split at hz
    · rename_i hc
      cases e1 : kTy S tb to d with
      | none => rw [e1] at hz; cases hz
      | some b =>
        rw [e1] at hz; cases hz
        obtain ⟨t, h1, h2⟩ := ty_of hK O h r1 e1
        obtain ⟨p, ys, rfl, e2, l⟩ := (show ∃ a xs, _ from r2.rep rfl)
        exact ⟨v, p, ys, t, _, b, rfl, O.sub _ _ e2, isKs_of hc l, h1, h2, q _ W H .rfl' O rfl⟩
    · cases hz
  · cases hz
theorem ce_isi (c : Kl) (tb : String → Bool) (to : Nat → Option Bool) (hK : G.K = X.K) (h : TyTab X.K G (fun t => PySem.W.kitOne X.K t (c.v G)) tb to) (hg : Gl X "isinstance") (hm : X.mg "isinstance" = none) (ha : PA X (e :: es) (tA G Wsh fa)) (he : starEach (e :: es) X.env = (false, eval e X.env) :: starEach es X.env := by rfl) (hpl : (backTo pos (starEach es X.env)).any (·.1) = false := by rfl) :
    PE X (.Call (.Name "isinstance" p) (e :: es) [] pos) (tE G Wsh (fCB (kIsi c tb to) fa)) := ce_callB call_isiY (sem_isi hK h) hg hm (ca_b ha) (by decide +kernel) (by decide) (by decide) he hpl
theorem ce_isiT (cs : List Kl) (tb : String → Bool) (to : Nat → Option Bool) (hK : G.K = X.K) (h : TyTab X.K G (fun t => PySem.W.kitAny X.K t (cs.map (Kl.v G))) tb to) (hg : Gl X "isinstance") (hm : X.mg "isinstance" = none) (ha : PA X (e :: es) (tA G Wsh fa)) (he : starEach (e :: es) X.env = (false, eval e X.env) :: starEach es X.env := by rfl) (hpl : (backTo pos (starEach es X.env)).any (·.1) = false := by rfl) :
    PE X (.Call (.Name "isinstance" p) (e :: es) [] pos) (tE G Wsh (fCB (kIsiT cs tb to) fa)) := ce_callB call_isiYT (sem_isiT hK h) hg hm (ca_b ha) (by decide +kernel) (by decide) (by decide) he hpl
end
end Dl
end
section
set_option Elab.async false
set_option linter.all false
set_option maxRecDepth 100000
set_option maxHeartbeats 1000000
/-! The deep layer: small things for printed terms. -/
namespace Dl
open PySem L2
section
variable {X : Cx} {G : Gh} {Wsh : WX} {a b c e o : Expr} {es : List Expr} {f g h f' fo fk fv fi : FE} {pos pos' p p2 p3 apos tpos cp cpos px py pz pt : Pos} {x y z id fl : Str} {n k : Nat} {fs gs : FS}
variable {B : Wd × Hp} {W W1 W2 W' : Wd} {σ : L2.St} {H H1 H2 H' : Hp} {ρ : Env} {S S1 S' : Sto} {ds : List D} {vs : List V}
/-- o[i] = .., o a cell's list -/
def gSetC (fo fi : FE) : GD := fun d ρ S => match fo ρ S with
  | .ok od S1 => match fi ρ S1 with
    | .ok (.int k) S2 => match lstC S2 od with
      | some (n, ds) => match ixN ds.length k with
        | some j => some (ρ, S2.set n (.lst (ds.set j d)))
        | none => none
      | none => none
    | _ => none
  | _ => none
theorem cg_setC (ho : PE X o (tE G W0 fo)) (hi : PE X e (tE G W0 fi)) (ha : ∀ v, assign (.Subscript o e pos) X.env v = (do
      let ov ← holding [v] (eval o X.env)
      let iv ← holding [v, ov] (eval e X.env)
      standAt pos
      holding [v, ov, iv] (setItem ov iv v)
      release [v, ov, iv] []) := by intro _; rfl) : PG X (.Subscript o e pos) (tG G (gSetC fo fi)) :=
  (pg_sub ho hi set_list ha).imp fun v σ H Q ⟨B, W, ρ, S, d, O, hd, q⟩ => by
    refine ⟨B, W, ρ, S, O, ?_⟩
    unfold gSetC at q
    generalize fo ρ S = r at q ⊢
    cases r with
    | exc _ _ _ => exact q.elim
    | fail => exact q.elim
    | ok od S1 =>
      intro x W1 H1 e1 o1 r1
      refine ⟨B, W1, ρ, S1, O.ext e1 o1, ?_⟩
      dsimp only at q
      generalize fi ρ S1 = r2 at q ⊢
      cases r2 with
      | exc _ _ _ => exact q.elim
      | fail => exact q.elim
      | ok kd S2 =>
        intro y W2 H2 e2 o2 r2
        cases kd <;> first | exact q.elim | skip
        rename_i k
        dsimp only at q
        cases (show y = V.int k from r2)
        have O2 := (O.ext e1 o1).ext e2 o2
        cases e3 : lstC S2 od with
        | none => rw [e3] at q; exact q.elim
        | some nd =>
          obtain ⟨n, ds⟩ := nd
          rw [e3] at q
          dsimp only at q
          obtain ⟨p1, xs, rfl, g1, g2, g3, g4, rfl⟩ := lstC_at o2 (Rep.mono e2.le _ _ r1) e3
          cases e4 : ixN ds.length k with
          | none => rw [e4] at q; exact q.elim
          | some j =>
            rw [e4] at q
            exact ⟨p1, xs, k, j, rfl, rfl, g3, by rw [← g4.length]; exact e4, q σ W2 _ (e1.le.trans e2.le) (O2.cmut g1 g2 (by exact fun z => by cases z) ⟨xs.set j v, upd_same, g4.set (Rep.mono (e1.le.trans e2.le) _ _ hd) j⟩)⟩
/-- a cell's list + a list -/
def kAddC (S : Sto) : D → D → Option D
  | .cell n, .lst es => match S[n]? with
    | some (.lst ds) => if szOk (ds.length + es.length) then some (.lst (ds ++ es)) else none
    | _ => none
  | _, _ => none
theorem sem_addC : OpSemS G rCat kAddC := by
  intro W H S x y d e z Q O h1 h2 hz q
  unfold kAddC at hz
  split at hz
  · rename_i n es
    split at hz
    · rename_i ds hS
      split at hz
      · rename_i hl
        cases hz
        obtain ⟨p1, rfl, hp⟩ := (show ∃ a, _ from h1.rep rfl)
        obtain ⟨⟨xs, k1, k2⟩, _⟩ := cell_at O hp hS
        obtain ⟨p2, ys, rfl, k3, k4⟩ := h2.lst O
        refine ⟨p1, p2, xs, ys, rfl, rfl, k1, k3, by rw [← k2.length, ← k4.length]; exact szOk_line hl, fun a ha => ?_⟩
        obtain ⟨g1, g2⟩ := ext_new (o := .lst (xs ++ ys)) ha O
        exact q _ _ _ g1 g2 ⟨a, _, rfl, put_at, RepL.mono g1.le _ _ (k2.append k4)⟩
      · cases hz
    · cases hz
  · cases hz
theorem ce_addC (ha : PE X a (tB G Wsh f)) (hb : PE X b (tB G Wsh g)) : PE X (.BinOp a .Add b pos) (tE G Wsh (f2S kAddC f g)) := (pe_op op_cat ha hb).imp fun σ H Q h => twoS sem_addC h
def fNeg (f : FE) : FE := fun ρ S => (f ρ S).bind fun d S1 => match d with | .int i => .ok (.int (-i)) S1 | _ => .fail
theorem ce_negN (ha : PE X a (tE G Wsh f)) : PE X (.UnaryOp .USub a pos) (tE G Wsh (fNeg f)) := ce_neg ha
/-- constants of the module -/
theorem ce_gstr {t : Str} (h : ∃ u, X.mg x = some (.str t u)) (hg : Gl X x := by rfl) (hd : (x == ("__debug__" : Str)) = false := by decide) : PE X (.Name x pos) (tE G Wsh (fC (.str t))) := h.elim fun u h => ce_glob hg h (v := .str t) ⟨u, rfl⟩ (fun _ => rfl) hd
theorem ce_gint {t : Int} (h : ∃ u, X.mg x = some (.int t u)) (hg : Gl X x := by rfl) (hd : (x == ("__debug__" : Str)) = false := by decide) : PE X (.Name x pos) (tE G Wsh (fC (.int t))) := h.elim fun u h => ce_glob hg h (v := .int t) ⟨u, rfl⟩ (fun _ => rfl) hd
theorem ce_kt {d : D} (h : ∃ a, X.mg x = some (.ref a) ∧ ∀ W, Rep G W d (.ref a)) (hg : Gl X x := by rfl) (hd : (x == ("__debug__" : Str)) = false := by decide) : PE X (.Name x pos) (tE G Wsh (fC d)) := h.elim fun a h => ce_glob hg h.1 (v := .ref a) rfl h.2 hd
theorem takes0 : Takes X (fun _ _ _ _ => False) := fun u s' ⟨a, B, sI, pins, σ, H, cls, d, e, I, nb, up, sky, na, os, ag, w⟩ => w.elim
theorem hU0 (hr : Room k X.A) : X.A.units < cLine := by have := hr.un; omega
theorem hU1 (hr : Room k X.A) : X.A.units + 1 < cLine := by have := hr.un; omega
theorem hU32 (hr : Room k X.A) : X.A.units + 32 < cLine := by have := hr.un; omega
theorem hU64 (hr : Room k X.A) : X.A.units + 64 < cLine := by have := hr.un; omega
theorem hU65 (hr : Room k X.A) : X.A.units + 65 < cLine := by have := hr.un; omega
theorem cg_fld0 (t i : Nat) (C : ClsOk X.K G t) (hi : (G.fn t)[i]? = some fl) (hn : (G.fn t).length ≤ 500) (na : NoAttr X.K (G.ct t) fl) (ho : PE X o (tE G W0 f)) : PG X (.Attribute o fl pos) (tG G (gFld t i f)) := cg_fld t i C hi hn na ho
end
section
variable {P : Program} {w : World} {K : PySem.W.Frag} {mg : Str → Option Value} {base : Heap} {N : List Str} {qual : Str} {scope : Scope} {f : Addr} {cd : Value} {A : Around} {outer : List PySem.Env} {s : Shared} {H : Hp} {E : XK}
theorem takesD : Takes (cxOf (L2.CX P w) P w K mg base N qual scope f cd A outer s H E) (fun cls d _ H' => E cls d H') := takes_of rfl rfl rfl rfl
theorem passesD : PassesOwn (model P w) (cxOf (L2.CX P w) P w K mg base N qual scope f cd A outer s H E).A (cxOf (L2.CX P w) P w K mg base N qual scope f cd A outer s H E).env (cxOf (L2.CX P w) P w K mg base N qual scope f cd A outer s H E).xe := passes_of rfl
end
section
variable {P : Program} {w : World} {K : PySem.W.Frag} {mg : Str → Option Value} {base : Heap} {G : Gh}
/-- a def that is never called -/
theorem def_fail {x qual : Str} {st : Stmt} {f : Addr} {fd : FuncData} {N ps : List Str} {k : Nat} (F : Fun K x qual st f fd) (S : FnScope N ps (defScope st)) : FnOk P w K mg base (L2.CX P w) (k + 1) f fd ps (spD G ps.length fun _ _ => .fail) :=
  F.okX S (fun vs H Q E h => h.1) fun cdv A outer s H vs Q E hr ⟨_, _, _, _, _, _, q⟩ => q.elim
end
def noOwn : Nat → Option Bool := fun _ => none
def tb_int (n : String) : Bool := n == "int" || n == "bool"
def tb_bool (n : String) : Bool := n == "bool"
def tb_str (n : String) : Bool := n == "str"
def tb_list (n : String) : Bool := n == "list"
def tb_dict (n : String) : Bool := n == "dict"
def tb_tuple (n : String) : Bool := n == "tuple"
def tb_tuple_list (n : String) : Bool := n == "tuple" || n == "list"
end Dl
end
section
set_option Elab.async false
set_option linter.all false
set_option maxRecDepth 100000
set_option maxHeartbeats 1000000
/-! The deep layer: readings evaluated, one construct at a time. -/
namespace Dl
open PySem L2
section
variable {f g h f' fo fk fv fi t : FE} {fn fm : FN} {fa ga : FA} {fx : FAN} {fs gs : FS} {F : FD} {ρ ρ' : Env} {S S1 S2 S3 S' : Sto} {d e z od kd vd : D} {ds es ks vs dd : List D} {s u v : Sl} {ss : List Sl} {i j l n nN k' : Nat} {k : D → D → Option D} {kS : Sto → D → D → Option D} {kC : Sto → List D → Option D} {G : GD} {Gs : GDs} {R : RS} {b c : Bool} {tg : Nat}
theorem ev_v (h : ρ[i]? = some (.v d)) : fV i ρ S = .ok d S := by simp [fV, h]
theorem ev_c : fC d ρ S = .ok d S := rfl
theorem ev_f2 (h1 : f ρ S = .ok d S1) (h2 : g ρ S1 = .ok e S2) (h3 : k d e = some z) : f2 k f g ρ S = .ok z S2 := by simp [f2, h1, h2, h3, RE.bind, RE.ofO]
theorem ev_f2S (h1 : f ρ S = .ok d S1) (h2 : g ρ S1 = .ok e S2) (h3 : kS S2 d e = some z) : f2S kS f g ρ S = .ok z S2 := by simp [f2S, h1, h2, h3, RE.bind, RE.ofO]
theorem ev_cb (h : fa ρ S = .ok ds S1) (h2 : kC S1 ds = some z) : fCB kC fa ρ S = .ok z S1 := by simp [fCB, h, h2, RA.bind, RE.ofO]
theorem ev_nil : fNil ρ S = .ok [] S := rfl
theorem ev_cons (h1 : f ρ S = .ok d S1) (h2 : fa ρ S1 = .ok ds S2) : fCons f fa ρ S = .ok (d :: ds) S2 := by simp [fCons, h1, h2, RE.bindA, RA.bindA]
theorem ev_tup (h : fa ρ S = .ok ds S1) (hs : szOk ds.length = true) : fTup fa ρ S = .ok (.tup ds) S1 := by simp [fTup, h, hs, RA.bind]
theorem ev_ol (h : fa ρ S = .ok ds S1) (hs : szOk ds.length = true) : fOl fa ρ S = .ok (.ol ds) S1 := by simp [fOl, h, hs]
theorem ev_nf_ol (h : fn ρ S = .ok (.ol ds) S1) : fNF fn ρ S = .ok (.lst ds) S1 := by simp [fNF, h, slD, RE.ofO]
theorem ev_nf_od {t : Bool} (h : fn ρ S = .ok (.od t ks vs) S1) : fNF fn ρ S = .ok (.dct t ks vs) S1 := by simp [fNF, h, slD, RE.ofO]
theorem ev_nc_ol (h : fn ρ S = .ok (.ol ds) S1) : fNC fn ρ S = .ok (.cell S1.length) (S1 ++ [.lst ds]) := by simp [fNC, h, slC]
theorem ev_vn (h : f ρ S = .ok d S1) : fVN f ρ S = .ok (.v d) S1 := by simp [fVN, h]
theorem ev_nilN : fNilN ρ S = .ok [] S := rfl
theorem ev_consN (h : fn ρ S = .ok s S1) (h2 : fx ρ S1 = .ok ss S2) : fConsN fn fx ρ S = .ok (s :: ss) S2 := by simp [fConsN, h, h2]
theorem ev_neg {x : Int} (h : f ρ S = .ok (.int x) S1) : fNeg f ρ S = .ok (.int (-x)) S1 := by simp [fNeg, h, RE.bind]
theorem ev_not (h : f ρ S = .ok (.bl b) S1) : fNot f ρ S = .ok (.bl (!b)) S1 := by simp [fNot, h, bB, RE.bind]
theorem ev_andT (h : f ρ S = .ok (.bl true) S1) (h2 : g ρ S1 = .ok d S2) : fAnd f g ρ S = .ok d S2 := by simp [fAnd, h, h2, bB, RE.bind]
theorem ev_andF (h : f ρ S = .ok (.bl false) S1) : fAnd f g ρ S = .ok (.bl false) S1 := by simp [fAnd, h, bB, RE.bind]
theorem ev_orT (h : f ρ S = .ok (.bl true) S1) : fOr f g ρ S = .ok (.bl true) S1 := by simp [fOr, h, bB, RE.bind]
theorem ev_orF (h : f ρ S = .ok (.bl false) S1) (h2 : g ρ S1 = .ok d S2) : fOr f g ρ S = .ok d S2 := by simp [fOr, h, h2, bB, RE.bind]
theorem ev_call {dd : List D} (h : fa ρ S = .ok ds S1) (hn : ds.length = n) (h2 : F (ds ++ dd) S1 = .ok d S2) : fCall n F dd fa ρ S = .ok d S2 := by simp only [fCall, h, RA.bind, hn, if_true, h2]
theorem ev_meth (h : f ρ S = .ok d S1) (ht : isT tg S1 d = true) (h1 : fa ρ S1 = .ok ds S2) (hn : ds.length = n) (h2 : F (d :: ds) S2 = .ok z S3) : fMeth tg n F f fa ρ S = .ok z S3 := by simp only [fMeth, h, RE.bind, ht, if_true, h1, RA.bind, hn, h2]
theorem ev_prop (h : f ρ S = .ok d S1) (ht : isT tg S1 d = true) (h2 : F [d] S1 = .ok z S2) : fProp tg F f ρ S = .ok z S2 := by simp only [fProp, h, RE.bind, ht, if_true, h2, noX]
theorem ev_fld (h : f ρ S = .ok d S1) (h2 : kFld tg i S1 d = some z) : fFld tg i f ρ S = .ok z S1 := by simp only [fFld, h, RE.bind, h2, RE.ofO]
theorem ev_emp_c (h : f ρ S = .ok (.cell n) S1) (h2 : S1[n]? = some (.lst ds)) : fEmp b f ρ S = .ok (.bl (ds.isEmpty != b)) S1 := by simp only [fEmp, h, RE.bind, h2]
theorem ev_emp_l (h : f ρ S = .ok (.lst ds) S1) : fEmp b f ρ S = .ok (.bl (ds.isEmpty != b)) S1 := by simp only [fEmp, h, RE.bind]
theorem ev_empD (h : f ρ S = .ok (.dct false ks vs) S1) : fEmpD b f ρ S = .ok (.bl (ks.isEmpty != b)) S1 := by simp only [fEmpD, h, RE.bind]
theorem ev_items (h : f ρ S = .ok (.dct false ks vs) S1) : fItems f ρ S = .ok (.lst (pairsD ks vs)) S1 := by simp only [fItems, h, RE.bind]
theorem ev_dispK (h1 : fk ρ S = .ok kd S1) (h2 : fv ρ S1 = .ok vd S2) (ha : askK false kd = true) : fDispK fk fv ρ S = .ok (.od false [kd] [vd]) S2 := by simp [fDispK, h1, h2, ha]
theorem ev_pop (h : fo ρ S = .ok (.cell n) S1) (h2 : S1[n]? = some (.lst ds)) (h3 : ds[ds.length - 1]? = some d) : fPopC fo ρ S = .ok d (S1.set n (.lst ds.dropLast)) := by simp [fPopC, h, RE.bind, lstC, h2, h3]
/-! statements -/
theorem ev_seq (h : fs ρ S = .nx ρ' S') (h2 : gs ρ' S' = R) : fSeq fs gs ρ S = R := by simp only [fSeq, h, h2]
theorem ev_seqX (h : fs ρ S = R) (hn : ∀ ρ' S', R ≠ .nx ρ' S') : fSeq fs gs ρ S = R := by
  simp only [fSeq, h]
theorem ev_set (h : f ρ S = .ok d S1) : fSet i f ρ S = .nx (ρ.set i (.v d)) S1 := by simp only [fSet, h, RE.bindS]
theorem ev_ifT (h : t ρ S = .ok (.bl true) S1) (h2 : fs ρ S1 = R) : fIfS t fs gs ρ S = R := by simp only [fIfS, h, RE.bindS, h2]
theorem ev_ifF (h : t ρ S = .ok (.bl false) S1) (h2 : gs ρ S1 = R) : fIfS t fs gs ρ S = R := by simp only [fIfS, h, RE.bindS, h2]
theorem ev_next : fNext ρ S = .nx ρ S := rfl
theorem ev_ret (h : f ρ S = .ok d S1) : fRet f ρ S = .rt d S1 := by simp only [fRet, h, RE.bindS]
theorem ev_drop (h : f ρ S = .ok d S1) : fDrop f ρ S = .nx ρ S1 := by simp only [fDrop, h, RE.bindS]
theorem ev_asg (h : f ρ S = .ok d S1) (h2 : G d ρ S1 = some (ρ', S')) : fAsg G f ρ S = .nx ρ' S' := by simp only [fAsg, h, RE.bindS, h2]
theorem ev_par2 (h : fx ρ S = .ok [s, u] S1) : fPar2 i j fx ρ S = .nx ((ρ.set i s).set j u) S1 := by simp only [fPar2, h, RAN.bindS]
theorem ev_par3 (h : fx ρ S = .ok [s, u, v] S1) : fPar3 i j l fx ρ S = .nx (((ρ.set i s).set j u).set l v) S1 := by simp only [fPar3, h, RAN.bindS]
theorem ev_frz (h : ρ[i]? = some s) (h2 : slD s = some d) (h3 : fs (ρ.set i (.v d)) S = R) : fFrz i fs ρ S = R := by simp only [fFrz, h, h2, h3]
theorem ev_app (h : fo ρ S = .ok (.cell n) S1) (h1 : S1[n]? = some (.lst es)) (h2 : f ρ S1 = .ok d S2) (h3 : S2[n]? = some (.lst ds)) (hl : ds.length < 16777216) : fAppC fo f ρ S = .nx ρ (S2.set n (.lst (ds ++ [d]))) := by
  simp only [fAppC, h, RE.bindS, lstC, h1, h2, h3, hl, if_true]
theorem ev_fst (h : g ρ S = .ok d S1) (h2 : f ρ S1 = .ok (.cell n) S2) (h3 : S2[n]? = some (.ins tg ds)) (h4 : putD i d ds = some es) : fFst tg i f g ρ S = .nx ρ (S2.set n (.ins tg es)) := by
  simp [fFst, h, h2, RE.bindS, stoF, h3, h4]
/-! targets -/
theorem ev_gv : gV i d ρ S = some (ρ.set i (.v d), S) := rfl
theorem ev_gtup (h : ds.length = n) (h2 : Gs ds ρ S = some (ρ', S')) : gTupD n Gs (.tup ds) ρ S = some (ρ', S') := by simp only [gTupD, h, if_true, h2]
theorem ev_gcons (h : G d ρ S = some (ρ', S1)) {r : Option (Env × Sto)} (h2 : Gs ds ρ' S1 = r) : gConsD G Gs (d :: ds) ρ S = r := by simp only [gConsD, h, h2]
theorem ev_gnil : gNilD [] ρ S = some (ρ, S) := rfl
theorem ev_gfld (h : f ρ S = .ok (.cell n) S1) (h3 : S1[n]? = some (.ins tg ds)) (h4 : putD i d ds = some es) : gFld tg i f d ρ S = some (ρ, S1.set n (.ins tg es)) := by simp [gFld, h, stoF, h3, h4]
theorem ev_gset {x : Int} (h : fo ρ S = .ok (.cell n) S1) (h2 : fi ρ S1 = .ok (.int x) S2) (h3 : S2[n]? = some (.lst ds)) (h4 : ixN ds.length x = some j) : gSetC fo fi d ρ S = some (ρ, S2.set n (.lst (ds.set j d))) := by
  simp [gSetC, h, h2, lstC, h3, h4]
/-! bodies -/
theorem ev_body (hn : ds.length = n) (h : fs (start0 nN n ds) S = .rt d S') : fBody nN n fs ds S = .ok d S' := by simp only [fBody, hn, if_true, h]
theorem ev_bodyN (hn : ds.length = n) (h : fs (start0 nN n ds) S = .nx ρ' S') : fBody nN n fs ds S = .ok .non S' := by simp only [fBody, hn, if_true, h]
/-! comprehensions over a cell's list whose item is picked -/
theorem ev_icell (h : f ρ S = .ok (.cell n) S1) (h2 : S1[n]? = some (.lst ds)) : fICell f ρ S = .ok ds (chkL n ds) S1 := by simp only [fICell, h, h2]
theorem ev_lc {fi : FI} {c : Sto → Bool} {vs : List Nat} {acc : List D} (h : fi ρ S = .ok ds c S1) (h2 : lcD c G t f (wipeE ρ vs) ds S1 [] = some (acc, S2)) : fLc fi vs G t f ρ S = .ok (.ol acc) S2 := by simp only [fLc, h, h2]
end
end Dl
end
section
set_option Elab.async false
set_option linter.all false
set_option maxRecDepth 100000
set_option maxHeartbeats 4000000
namespace L97
open PySem L2 Dl
def movesD : D := .kt [.kt [.int (-1), .int 0], .kt [.int 0, .int 1], .kt [.int 1, .int 0], .kt [.int 0, .int (-1)]]

/-! ### printed by gen.py: the text's defs, their readings, the rule terms -/
def top (i : Nat) : Stmt := PySem.Challenge.pw_oldmap_k97_whole_redo_behind_others.main.body.getD i (.Pass ⟨0, 0, 0, 0⟩)
abbrev s_is_number : Stmt := top 15
abbrev s_Island___init__ : Stmt := inClass (top 16) 0
abbrev s_Island_cells : Stmt := inClass (top 16) 4
abbrev s_Island___getitem__ : Stmt := inClass (top 16) 7
abbrev s_Island___contains__ : Stmt := inClass (top 16) 9
abbrev s_validate_cell : Stmt := top 17
abbrev s_is_rising : Stmt := top 30
abbrev s_are_signs : Stmt := top 31
abbrev s_are_turns : Stmt := top 32
abbrev s_validate_rule : Stmt := top 47
abbrev s_Map_island : Stmt := inClass (top 68) 1
abbrev s_Map_signs : Stmt := inClass (top 68) 2
abbrev s_Map_facings : Stmt := inClass (top 68) 3
abbrev s_Map_instructions : Stmt := inClass (top 68) 4
abbrev s_Map___init__ : Stmt := inClass (top 68) 0
abbrev s_begin_states : Stmt := top 49
abbrev s_state_rows : Stmt := top 51
abbrev s_final_states : Stmt := top 52
abbrev s_places : Stmt := top 53
abbrev s_neighbors : Stmt := top 55
abbrev s_distances : Stmt := top 56
abbrev s_is_name : Stmt := top 63
abbrev s_Scene___init__ : Stmt := inClass (top 64) 0
abbrev s_Search___init__ : Stmt := inClass (top 65) 0
abbrev s_Search_here : Stmt := inClass (top 65) 2
abbrev s_Search_paces_walked : Stmt := inClass (top 65) 3
abbrev s_Search_marks : Stmt := inClass (top 65) 5
abbrev s_Search_history : Stmt := inClass (top 65) 6
abbrev s_Search_enter : Stmt := inClass (top 65) 7
abbrev s_Search_walk : Stmt := inClass (top 65) 10
abbrev s_Search_mark : Stmt := inClass (top 65) 12
abbrev s_Search_go : Stmt := inClass (top 65) 13
abbrev s_Search_undo : Stmt := inClass (top 65) 14
abbrev s_Search_redo : Stmt := inClass (top 65) 15
abbrev s__law_mix : Stmt := top 70
abbrev s__law_next : Stmt := top 71
abbrev s__law_alike : Stmt := top 72
abbrev s__law_cells : Stmt := top 73
abbrev s_law : Stmt := top 74
structure Txt (K : PySem.W.Frag) (mg : Str → Option Value) (G : Gh) : Prop where
  hK : G.K = K
  c_Island : ClsOk K G 0
  fs_Island : G.fn 0 = (["own_rows"] : List Str)
  na_Island_own_rows : NoAttr K (G.ct 0) "own_rows"
  c_Map : ClsOk K G 1
  fs_Map : G.fn 1 = (["own_island", "own_signs", "own_facings", "own_instructions"] : List Str)
  na_Map_own_island : NoAttr K (G.ct 1) "own_island"
  na_Map_own_signs : NoAttr K (G.ct 1) "own_signs"
  na_Map_own_facings : NoAttr K (G.ct 1) "own_facings"
  na_Map_own_instructions : NoAttr K (G.ct 1) "own_instructions"
  c_Scene : ClsOk K G 2
  fs_Scene : G.fn 2 = (["spot", "walked", "left"] : List Str)
  na_Scene_spot : NoAttr K (G.ct 2) "spot"
  na_Scene_walked : NoAttr K (G.ct 2) "walked"
  na_Scene_left : NoAttr K (G.ct 2) "left"
  c_Search : ClsOk K G 3
  fs_Search : G.fn 3 = (["chart", "rule", "scene", "marked", "past", "later"] : List Str)
  na_Search_chart : NoAttr K (G.ct 3) "chart"
  na_Search_rule : NoAttr K (G.ct 3) "rule"
  na_Search_scene : NoAttr K (G.ct 3) "scene"
  na_Search_marked : NoAttr K (G.ct 3) "marked"
  na_Search_past : NoAttr K (G.ct 3) "past"
  na_Search_later : NoAttr K (G.ct 3) "later"
  b_abs : mg "abs" = none
  b_all : mg "all" = none
  b_bool : mg "bool" = none
  b_dict : mg "dict" = none
  b_enumerate : mg "enumerate" = none
  b_int : mg "int" = none
  b_isinstance : mg "isinstance" = none
  b_len : mg "len" = none
  b_list : mg "list" = none
  b_max : mg "max" = none
  b_min : mg "min" = none
  b_range : mg "range" = none
  b_set : mg "set" = none
  b_sorted : mg "sorted" = none
  b_str : mg "str" = none
  b_tuple : mg "tuple" = none
  b_zip : mg "zip" = none
  g_GO : ∃ t, mg "GO" = some (.str "go" t)
  g_LAND : ∃ t, mg "LAND" = some (.str "." t)
  g_LETTERS : ∃ t, mg "LETTERS" = some (.str "ABCDEFGHIJKLMNOPQRSTUVWXYZ" t)
  g_MARK : ∃ t, mg "MARK" = some (.str "mark" t)
  g_MAX_FAR : ∃ t, mg "MAX_FAR" = some (.int 22 t)
  g_MAX_LETTERS : ∃ t, mg "MAX_LETTERS" = some (.int 8 t)
  g_MAX_SIZE : ∃ t, mg "MAX_SIZE" = some (.int 12 t)
  g_MOVES : ∃ a, mg "MOVES" = some (.ref a) ∧ ∀ W, Rep G W movesD (.ref a)
  g_NEARNESS : ∃ t, mg "NEARNESS" = some (.str "near" t)
  g_SMALL : ∃ t, mg "SMALL" = some (.str "abcdefghijklmnopqrstuvwxyz" t)
  g_WALK_searches : ∃ t, mg "WALK_searches" = some (.str "walk" t)
  g_WATER : ∃ t, mg "WATER" = some (.str "~" t)
  i_int : TyTab K G (fun t => PySem.W.kitOne K t (Kl.v G (.ty "int"))) tb_int noOwn
  i_bool : TyTab K G (fun t => PySem.W.kitOne K t (Kl.v G (.ty "bool"))) tb_bool noOwn
  i_str : TyTab K G (fun t => PySem.W.kitOne K t (Kl.v G (.ty "str"))) tb_str noOwn
  i_list : TyTab K G (fun t => PySem.W.kitOne K t (Kl.v G (.ty "list"))) tb_list noOwn
  i_dict : TyTab K G (fun t => PySem.W.kitOne K t (Kl.v G (.ty "dict"))) tb_dict noOwn
  i_tuple_list : TyTab K G (fun t => PySem.W.kitAny K t (([.ty "tuple", .ty "list"] : List Kl).map (Kl.v G))) tb_tuple_list noOwn
  f_is_number : ∃ f fd, Fun K "is_number" "is_number" s_is_number f fd ∧ mg "is_number" = some (.ref f)
  f_Island___init__ : ∃ f fd, Fun K "__init__" "Island.__init__" s_Island___init__ f fd ∧ Mk K (G.ct 0) f ∧ mg "Island" = some (.ref (G.ct 0))
  f_Island_cells : ∃ pa f fd, Fun K "cells" "Island.cells" s_Island_cells f fd ∧ PropOf K (G.ct 0) "cells" pa f
  f_Island___getitem__ : ∃ f fd, Fun K "__getitem__" "Island.__getitem__" s_Island___getitem__ f fd ∧ Meth K (G.ct 0) "__getitem__" f ∧ PySem.W.fnIn K f = true
  f_Island___contains__ : ∃ f fd, Fun K "__contains__" "Island.__contains__" s_Island___contains__ f fd ∧ Meth K (G.ct 0) "__contains__" f
  f_validate_cell : ∃ f fd, Fun K "validate_cell" "validate_cell" s_validate_cell f fd ∧ mg "validate_cell" = some (.ref f)
  f_is_rising : ∃ f fd, Fun K "is_rising" "is_rising" s_is_rising f fd ∧ mg "is_rising" = some (.ref f)
  f_are_signs : ∃ f fd, Fun K "are_signs" "are_signs" s_are_signs f fd ∧ mg "are_signs" = some (.ref f)
  f_are_turns : ∃ f fd, Fun K "are_turns" "are_turns" s_are_turns f fd ∧ mg "are_turns" = some (.ref f)
  f_validate_rule : ∃ f fd, Fun K "validate_rule" "validate_rule" s_validate_rule f fd ∧ mg "validate_rule" = some (.ref f)
  f_Map_island : ∃ pa f fd, Fun K "island" "Map.island" s_Map_island f fd ∧ PropOf K (G.ct 1) "island" pa f
  f_Map_signs : ∃ pa f fd, Fun K "signs" "Map.signs" s_Map_signs f fd ∧ PropOf K (G.ct 1) "signs" pa f
  f_Map_facings : ∃ pa f fd, Fun K "facings" "Map.facings" s_Map_facings f fd ∧ PropOf K (G.ct 1) "facings" pa f
  f_Map_instructions : ∃ pa f fd, Fun K "instructions" "Map.instructions" s_Map_instructions f fd ∧ PropOf K (G.ct 1) "instructions" pa f
  f_Map___init__ : ∃ f fd, Fun K "__init__" "Map.__init__" s_Map___init__ f fd ∧ Mk K (G.ct 1) f ∧ mg "Map" = some (.ref (G.ct 1))
  f_begin_states : ∃ f fd, Fun K "begin_states" "begin_states" s_begin_states f fd ∧ mg "begin_states" = some (.ref f)
  f_state_rows : ∃ f fd, Fun K "state_rows" "state_rows" s_state_rows f fd ∧ mg "state_rows" = some (.ref f)
  f_final_states : ∃ f fd, Fun K "final_states" "final_states" s_final_states f fd ∧ mg "final_states" = some (.ref f)
  f_places : ∃ f fd, Fun K "places" "places" s_places f fd ∧ mg "places" = some (.ref f)
  f_neighbors : ∃ f fd, Fun K "neighbors" "neighbors" s_neighbors f fd ∧ mg "neighbors" = some (.ref f)
  f_distances : ∃ f fd, Fun K "distances" "distances" s_distances f fd ∧ mg "distances" = some (.ref f)
  f_is_name : ∃ f fd, Fun K "is_name" "is_name" s_is_name f fd ∧ mg "is_name" = some (.ref f)
  f_Scene___init__ : ∃ f fd, Fun K "__init__" "Scene.__init__" s_Scene___init__ f fd ∧ Mk K (G.ct 2) f ∧ mg "Scene" = some (.ref (G.ct 2))
  f_Search___init__ : ∃ f fd, Fun K "__init__" "Search.__init__" s_Search___init__ f fd ∧ Mk K (G.ct 3) f ∧ mg "Search" = some (.ref (G.ct 3))
  f_Search_here : ∃ pa f fd, Fun K "here" "Search.here" s_Search_here f fd ∧ PropOf K (G.ct 3) "here" pa f
  f_Search_paces_walked : ∃ pa f fd, Fun K "paces_walked" "Search.paces_walked" s_Search_paces_walked f fd ∧ PropOf K (G.ct 3) "paces_walked" pa f
  f_Search_marks : ∃ pa f fd, Fun K "marks" "Search.marks" s_Search_marks f fd ∧ PropOf K (G.ct 3) "marks" pa f
  f_Search_history : ∃ pa f fd, Fun K "history" "Search.history" s_Search_history f fd ∧ PropOf K (G.ct 3) "history" pa f
  f_Search_enter : ∃ f fd, Fun K "enter" "Search.enter" s_Search_enter f fd ∧ Meth K (G.ct 3) "enter" f
  f_Search_walk : ∃ f fd, Fun K "walk" "Search.walk" s_Search_walk f fd ∧ Meth K (G.ct 3) "walk" f
  f_Search_mark : ∃ f fd, Fun K "mark" "Search.mark" s_Search_mark f fd ∧ Meth K (G.ct 3) "mark" f
  f_Search_go : ∃ f fd, Fun K "go" "Search.go" s_Search_go f fd ∧ Meth K (G.ct 3) "go" f
  f_Search_undo : ∃ f fd, Fun K "undo" "Search.undo" s_Search_undo f fd ∧ Meth K (G.ct 3) "undo" f
  f_Search_redo : ∃ f fd, Fun K "redo" "Search.redo" s_Search_redo f fd ∧ Meth K (G.ct 3) "redo" f
  f__law_mix : ∃ f fd, Fun K "_law_mix" "_law_mix" s__law_mix f fd ∧ mg "_law_mix" = some (.ref f)
  f__law_next : ∃ f fd, Fun K "_law_next" "_law_next" s__law_next f fd ∧ mg "_law_next" = some (.ref f)
  f__law_alike : ∃ f fd, Fun K "_law_alike" "_law_alike" s__law_alike f fd ∧ mg "_law_alike" = some (.ref f)
  f__law_cells : ∃ f fd, Fun K "_law_cells" "_law_cells" s__law_cells f fd ∧ mg "_law_cells" = some (.ref f)
  f_law : ∃ f fd, Fun K "law" "law" s_law f fd ∧ mg "law" = some (.ref f)
noncomputable section
variable {P : Program} {w : World} {K : PySem.W.Frag} {mg : Str → Option Value} {base : Heap} {G : Gh}
abbrev N_is_number : List Str := ["value", "lowest", "highest"]
theorem sc_is_number : FnScope N_is_number ["value", "lowest", "highest"] (defScope s_is_number) := ⟨rfl, rfl, rfl, by decide +kernel, rfl, by decide +kernel, by decide +kernel⟩
def B_is_number : FS :=
  fRet (fAnd (fCB (kIsi (.ty "int") tb_int noOwn) (fCons (fV 0) (fCons ((fun _ S => .ok (.ty "int") S)) (fNil)))) (fAnd (fNot (fCB (kIsi (.ty "bool") tb_bool noOwn) (fCons (fV 0) (fCons ((fun _ S => .ok (.ty "bool") S)) (fNil))))) (fChain kLe kLe (fV 1) (fV 0) (fV 2))))
def F_is_number : FD := fBody 3 3 B_is_number
theorem ok_is_number (T : Txt K mg G) : Def P w K mg base G 1 "is_number" 3 [] F_is_number := by
  obtain ⟨f, fd, F, hm⟩ := T.f_is_number
  exact ⟨f, fd, ["value", "lowest", "highest"], [], [], def_ok F sc_is_number (fun cdv A outer s H E hr => css_one (cs_ret (ce_and (ce_isi (.ty "int") tb_int noOwn T.hK T.i_int (by rfl) T.b_isinstance (ca_cons (ce_v 0) (ca_cons (ce_ty (by rfl) T.b_int) (ca_nil)))) (ce_and (ce_not (ce_isi (.ty "bool") tb_bool noOwn T.hK T.i_bool (by rfl) T.b_isinstance (ca_cons (ce_v 0) (ca_cons (ce_ty (by rfl) T.b_bool) (ca_nil))))) (ce_one (ce_chain op_le sem_le op_le sem_le (PE.b (ce_v 1)) (PE.b (ce_v 0)) (PE.b (ce_v 2)))))))), hm, F.kp, F.binds fun _ _ _ _ _ _ us hl => match us, hl with | [_, _, _], _ => rfl, .nil, fun _ => .nil⟩
abbrev N_Island___init__ : List Str := ["self", "rows", "row", "text", "column", "sign"]
theorem sc_Island___init__ : FnScope N_Island___init__ ["self", "rows"] (defScope s_Island___init__) := ⟨rfl, rfl, rfl, by decide +kernel, rfl, by decide +kernel, by decide +kernel⟩
def B_Island___init__ : FS :=
  fSeq (fIfS (fOr (f2 kEq (fCB kLen (fCons (fV 1) (fNil))) (fC (.int 0))) (f2 kEq (f2S kIx (fV 1) (fC (.int 0))) (fC (.str ""))))
  (fDead)
  (fNext))
  (fSeq (fFor (fEnumA (fCons (fV 1) (fNil))) (gTupD 2 (gConsD (gV 2) (gConsD (gV 3) (gNilD))))
  (fSeq (fIfS (f2 kEq (fV 2) (fC (.int 12)))
  (fDead)
  (fNext))
  (fSeq (fFor (fEnumA (fCons (fV 3) (fNil))) (gTupD 2 (gConsD (gV 4) (gConsD (gV 5) (gNilD))))
  (fIfS (fOr (f2 kEq (fV 4) (fCB kMin (fCons (fC (.int 12)) (fCons (fCB kLen (fCons (f2S kIx (fV 1) (fC (.int 0))) (fNil))) (fNil))))) (f2 kNiS (fV 5) (f2 kAdd (f2 kAdd (fC (.str ".")) (fC (.str "~"))) (fC (.str "ABCDEFGHIJKLMNOPQRSTUVWXYZ")))))
  (fDead)
  (fNext)))
  (fIfS (f2 kLt (fCB kLen (fCons (fV 3) (fNil))) (fCB kLen (fCons (f2S kIx (fV 1) (fC (.int 0))) (fNil))))
  (fDead)
  (fNext)))))
  (fFst 0 0 (fV 0) (fV 1)))
def F_Island___init__ : FD := fBody 6 2 B_Island___init__
theorem ok_Island___init__ (T : Txt K mg G) : Cla P w K mg base G 1 "Island" 0 1 [] F_Island___init__ := by
  obtain ⟨f, fd, F, M, hm⟩ := T.f_Island___init__
  exact ⟨f, fd, ["self", "rows"], [], [], def_ok F sc_Island___init__ (fun cdv A outer s H E hr => css_cons (cs_if (PW.pt (cw_or (ct_cmp (op_eqD (hU64 hr)) (sem_eq T.hK) (PE.b (ce_callB call_lenAll (sem_len T.hK) (by rfl) T.b_len (cab_cons (PE.b (ce_v 1)) (cab_nil)))) (PE.b (ce_int)) (nomark _)) (cw_or1 (ct_cmp (op_eqD (hU64 hr)) (sem_eq T.hK) (PE.b (ce_ix T.hK (PE.b (ce_v 1)) (PE.b (ce_int)))) (PE.b (ce_str)) (nomark _)))))
    (css_dead)
    (css_nil))
    (css_cons (cs_for (by exact passesD) (by rfl) (ci_enum T.hK (by rfl) T.b_enumerate (ca_cons (ce_v 1) (ca_nil))) (cg_tup T.hK (by rfl) (cgs_cons (cg_name (i := 2) sc_Island___init__.nd (by rfl) (by first | exact Or.inl rfl | exact Or.inr rfl)) (cgs_cons (cg_name (i := 3) sc_Island___init__.nd (by rfl) (by first | exact Or.inl rfl | exact Or.inr rfl)) (cgs_nil))))
    (css_cons (cs_if (ct_cmp (op_eqD (hU64 hr)) (sem_eq T.hK) (PE.b (ce_v 2)) (PE.b (ce_gint T.g_MAX_SIZE)) (nomark _))
    (css_dead)
    (css_nil))
    (css_cons (cs_for (by exact passesD) (by rfl) (ci_enum T.hK (by rfl) T.b_enumerate (ca_cons (ce_v 3) (ca_nil))) (cg_tup T.hK (by rfl) (cgs_cons (cg_name (i := 4) sc_Island___init__.nd (by rfl) (by first | exact Or.inl rfl | exact Or.inr rfl)) (cgs_cons (cg_name (i := 5) sc_Island___init__.nd (by rfl) (by first | exact Or.inl rfl | exact Or.inr rfl)) (cgs_nil))))
    (css_one (cs_if (PW.pt (cw_or (ct_cmp (op_eqD (hU64 hr)) (sem_eq T.hK) (PE.b (ce_v 4)) (PE.b (ce_callB (call_min2 (by rfl)) (sem_min) (by rfl) T.b_min (cab_cons (PE.b (ce_gint T.g_MAX_SIZE)) (cab_cons (PE.b (ce_callB call_lenAll (sem_len T.hK) (by rfl) T.b_len (cab_cons (PE.b (ce_ix T.hK (PE.b (ce_v 1)) (PE.b (ce_int)))) (cab_nil)))) (cab_nil))))) (nomark _)) (cw_or1 (ct_cmp op_notIn_sign sem_niS (PE.b (ce_v 5)) (PE.b (ce_add (PE.b (ce_add (PE.b (ce_gstr T.g_LAND)) (PE.b (ce_gstr T.g_WATER)))) (PE.b (ce_gstr T.g_LETTERS)))) (by rfl)))))
    (css_dead)
    (css_nil))))
    (css_one (cs_if (ct_cmp op_lt sem_lt (PE.b (ce_callB call_lenAll (sem_len T.hK) (by rfl) T.b_len (cab_cons (PE.b (ce_v 3)) (cab_nil)))) (PE.b (ce_callB call_lenAll (sem_len T.hK) (by rfl) T.b_len (cab_cons (PE.b (ce_ix T.hK (PE.b (ce_v 1)) (PE.b (ce_int)))) (cab_nil)))) (nomark _))
    (css_dead)
    (css_nil))))))
    (css_one (cs_fst 0 0 T.c_Island (by rw [T.fs_Island]; rfl) (by rw [T.fs_Island]; decide) T.na_Island_own_rows (ce_v 0) (ce_v 1))))), M, hm, F.binds fun _ _ _ _ _ _ us hl => match us, hl with | [_, _], _ => rfl, .nil, fun _ => .nil⟩
abbrev N_Island_cells : List Str := ["self", "found", "row", "text", "column", "sign"]
theorem sc_Island_cells : FnScope N_Island_cells ["self"] (defScope s_Island_cells) := ⟨rfl, rfl, rfl, by decide +kernel, rfl, by decide +kernel, by decide +kernel⟩
def B_Island_cells : FS :=
  fSeq (fSetN 1 (fOl (fNil)))
  (fSeq (fFor (fEnumA (fCons (fFld 0 0 (fV 0)) (fNil))) (gTupD 2 (gConsD (gV 2) (gConsD (gV 3) (gNilD))))
  (fExt 1 (fNF (fLc (fIC (fEnumA (fCons (fV 3) (fNil)))) [4, 5] (gTupD 2 (gConsD (gV 4) (gConsD (gV 5) (gNilD)))) (f2 kNe (fV 5) (fC (.str "~"))) (fTup (fCons (fV 2) (fCons (fV 4) (fNil))))))))
  (fFrz 1 (fRet (fV 1))))
def F_Island_cells : FD := fBody 6 1 B_Island_cells
theorem ok_Island_cells (T : Txt K mg G) : Pro P w K mg base G 1 0 "cells" F_Island_cells := by
  obtain ⟨pa, f, fd, F, M⟩ := T.f_Island_cells
  exact ⟨pa, f, fd, ["self"], def_ok F sc_Island_cells (fun cdv A outer s H E hr => css_cons (cs_new (i := 1) sc_Island_cells.nd (by rfl) (by first | exact Or.inl rfl | exact Or.inr rfl) (cn_lst (ca_nil)))
    (css_cons (cs_for (by exact passesD) (by rfl) (ci_enum T.hK (by rfl) T.b_enumerate (ca_cons (ce_fld 0 0 T.c_Island (by rw [T.fs_Island]; rfl) T.na_Island_own_rows (ce_v 0)) (ca_nil))) (cg_tup T.hK (by rfl) (cgs_cons (cg_name (i := 2) sc_Island_cells.nd (by rfl) (by first | exact Or.inl rfl | exact Or.inr rfl)) (cgs_cons (cg_name (i := 3) sc_Island_cells.nd (by rfl) (by first | exact Or.inl rfl | exact Or.inr rfl)) (cgs_nil))))
    (css_one (cs_ext 1 (he := ce_frzN (cn_lc (by rfl) sc_Island_cells.nd (ci_c (ci_enum T.hK (by rfl) T.b_enumerate (ca_cons (ce_v 3) (ca_nil)))) (own := [("column", 4), ("sign", 5)]) (blkOk_by (N := N_Island_cells) (sc := defScope s_Island_cells) (by decide +kernel)) (fun _ _ _ _ _ => cgw_tup T.hK (by rfl) (cgsw_cons (cgw_name (i := 4) sc_Island_cells.nd (by rfl) (by first | exact Or.inl rfl | exact Or.inr rfl) (by decide)) (cgsw_cons (cgw_name (i := 5) sc_Island_cells.nd (by rfl) (by first | exact Or.inl rfl | exact Or.inr rfl) (by decide)) (cgsw_nil)))) (fun _ _ _ _ _ => cts_one (ct_cmp (op_neD (hU64 hr)) (sem_ne T.hK) (PE.b (ce_v 5)) (PE.b (ce_gstr T.g_WATER)) (nomark _))) (fun _ _ _ _ _ => ce_tup (ca_cons (ce_v 2) (ca_cons (ce_v 4) (ca_nil)))))))))
    (css_one (cs_frz 1 (cs_ret (ce_v 1)))))), M, F.binds fun _ _ _ _ _ _ us hl => match us, hl with | [_], _ => rfl⟩
abbrev N_Island___getitem__ : List Str := ["self", "cell", "row", "column"]
theorem sc_Island___getitem__ : FnScope N_Island___getitem__ ["self", "cell"] (defScope s_Island___getitem__) := ⟨rfl, rfl, rfl, by decide +kernel, rfl, by decide +kernel, by decide +kernel⟩
def B_Island___getitem__ : FS :=
  fSeq (fAsg (gTupD 2 (gConsD (gV 2) (gConsD (gV 3) (gNilD)))) (fV 1))
  (fSeq (fIfS (fOr (fNot (fChain kLe kLt (fC (.int 0)) (fV 2) (fCB kLen (fCons (fFld 0 0 (fV 0)) (fNil))))) (fNot (fChain kLe kLt (fC (.int 0)) (fV 3) (fCB kLen (fCons (f2S kIx (fFld 0 0 (fV 0)) (fC (.int 0))) (fNil))))))
  (fDead)
  (fNext))
  (fRet (f2S kIx (f2S kIx (fFld 0 0 (fV 0)) (fV 2)) (fV 3))))
def F_Island___getitem__ : FD := fBody 4 2 B_Island___getitem__
theorem ok_Island___getitem__ (T : Txt K mg G) : MetG P w K mg base G 1 0 F_Island___getitem__ := by
  obtain ⟨f, fd, F, M, i⟩ := T.f_Island___getitem__
  exact ⟨f, fd, ["self", "cell"], def_ok F sc_Island___getitem__ (fun cdv A outer s H E hr => css_cons (cs_asg (cg_tup T.hK (by rfl) (cgs_cons (cg_name (i := 2) sc_Island___getitem__.nd (by rfl) (by first | exact Or.inl rfl | exact Or.inr rfl)) (cgs_cons (cg_name (i := 3) sc_Island___getitem__.nd (by rfl) (by first | exact Or.inl rfl | exact Or.inr rfl)) (cgs_nil)))) (ce_v 1))
    (css_cons (cs_if (PW.pt (cw_or (ct_not (ct_chain op_le sem_le op_lt sem_lt (PE.b (ce_int)) (PE.b (ce_v 2)) (PE.b (ce_callB call_lenAll (sem_len T.hK) (by rfl) T.b_len (cab_cons (PE.b (ce_fld 0 0 T.c_Island (by rw [T.fs_Island]; rfl) T.na_Island_own_rows (ce_v 0))) (cab_nil)))))) (cw_or1 (ct_not (ct_chain op_le sem_le op_lt sem_lt (PE.b (ce_int)) (PE.b (ce_v 3)) (PE.b (ce_callB call_lenAll (sem_len T.hK) (by rfl) T.b_len (cab_cons (PE.b (ce_ix T.hK (PE.b (ce_fld 0 0 T.c_Island (by rw [T.fs_Island]; rfl) T.na_Island_own_rows (ce_v 0))) (PE.b (ce_int)))) (cab_nil)))))))))
    (css_dead)
    (css_nil))
    (css_one (cs_ret (ce_ix T.hK (PE.b (ce_ix T.hK (PE.b (ce_fld 0 0 T.c_Island (by rw [T.fs_Island]; rfl) T.na_Island_own_rows (ce_v 0))) (PE.b (ce_v 2)))) (PE.b (ce_v 3))))))), M, F.binds fun _ _ _ _ _ _ us hl => match us, hl with | [_, _], _ => rfl, i⟩
abbrev N_Island___contains__ : List Str := ["self", "cell", "row", "column"]
theorem sc_Island___contains__ : FnScope N_Island___contains__ ["self", "cell"] (defScope s_Island___contains__) := ⟨rfl, rfl, rfl, by decide +kernel, rfl, by decide +kernel, by decide +kernel⟩
def B_Island___contains__ : FS :=
  fSeq (fAsg (gTupD 2 (gConsD (gV 2) (gConsD (gV 3) (gNilD)))) (fV 1))
  (fSeq (fIfS (fOr (fNot (fChain kLe kLt (fC (.int 0)) (fV 2) (fCB kLen (fCons (fFld 0 0 (fV 0)) (fNil))))) (fNot (fChain kLe kLt (fC (.int 0)) (fV 3) (fCB kLen (fCons (f2S kIx (fFld 0 0 (fV 0)) (fC (.int 0))) (fNil))))))
  (fRet (fC (.bl false)))
  (fNext))
  (fRet (f2 kNe (f2S kIx (f2S kIx (fFld 0 0 (fV 0)) (fV 2)) (fV 3)) (fC (.str "~")))))
def F_Island___contains__ : FD := fBody 4 2 B_Island___contains__
theorem ok_Island___contains__ (T : Txt K mg G) : Met P w K mg base G 1 0 "__contains__" 1 F_Island___contains__ := by
  obtain ⟨f, fd, F, M⟩ := T.f_Island___contains__
  exact ⟨f, fd, ["self", "cell"], def_ok F sc_Island___contains__ (fun cdv A outer s H E hr => css_cons (cs_asg (cg_tup T.hK (by rfl) (cgs_cons (cg_name (i := 2) sc_Island___contains__.nd (by rfl) (by first | exact Or.inl rfl | exact Or.inr rfl)) (cgs_cons (cg_name (i := 3) sc_Island___contains__.nd (by rfl) (by first | exact Or.inl rfl | exact Or.inr rfl)) (cgs_nil)))) (ce_v 1))
    (css_cons (cs_if (PW.pt (cw_or (ct_not (ct_chain op_le sem_le op_lt sem_lt (PE.b (ce_int)) (PE.b (ce_v 2)) (PE.b (ce_callB call_lenAll (sem_len T.hK) (by rfl) T.b_len (cab_cons (PE.b (ce_fld 0 0 T.c_Island (by rw [T.fs_Island]; rfl) T.na_Island_own_rows (ce_v 0))) (cab_nil)))))) (cw_or1 (ct_not (ct_chain op_le sem_le op_lt sem_lt (PE.b (ce_int)) (PE.b (ce_v 3)) (PE.b (ce_callB call_lenAll (sem_len T.hK) (by rfl) T.b_len (cab_cons (PE.b (ce_ix T.hK (PE.b (ce_fld 0 0 T.c_Island (by rw [T.fs_Island]; rfl) T.na_Island_own_rows (ce_v 0))) (PE.b (ce_int)))) (cab_nil)))))))))
    (css_one (cs_ret (ce_bl)))
    (css_nil))
    (css_one (cs_ret (ce_cmp (op_neD (hU64 hr)) (sem_ne T.hK) (PE.b (ce_ix T.hK (PE.b (ce_ix T.hK (PE.b (ce_fld 0 0 T.c_Island (by rw [T.fs_Island]; rfl) T.na_Island_own_rows (ce_v 0))) (PE.b (ce_v 2)))) (PE.b (ce_v 3)))) (PE.b (ce_gstr T.g_WATER)) (nomark _)))))), M, F.binds fun _ _ _ _ _ _ us hl => match us, hl with | [_, _], _ => rfl⟩
abbrev N_validate_cell : List Str := ["island", "cell"]
theorem sc_validate_cell : FnScope N_validate_cell ["island", "cell"] (defScope s_validate_cell) := ⟨rfl, rfl, rfl, by decide +kernel, rfl, by decide +kernel, by decide +kernel⟩
def B_validate_cell : FS :=
  fIfS (fNiO 0 F_Island___contains__ (fV 1) (fV 0))
  (fDead)
  (fNext)
def F_validate_cell : FD := fBody 2 2 B_validate_cell
theorem ok_validate_cell (T : Txt K mg G) : Def P w K mg base G 2 "validate_cell" 2 [] F_validate_cell := by
  obtain ⟨f, fd, F, hm⟩ := T.f_validate_cell
  exact ⟨f, fd, ["island", "cell"], [], [], def_ok F sc_validate_cell (fun cdv A outer s H E hr => css_one (cs_if (ct_niO 0 (ok_Island___contains__ T) (hr.mono (by omega)) (ce_v 1) (ce_v 0))
    (css_dead)
    (css_nil))), hm, F.kp, F.binds fun _ _ _ _ _ _ us hl => match us, hl with | [_, _], _ => rfl, .nil, fun _ => .nil⟩
abbrev N_is_rising : List Str := ["values", "one", "other"]
theorem sc_is_rising : FnScope N_is_rising ["values"] (defScope s_is_rising) := ⟨rfl, rfl, rfl, by decide +kernel, rfl, by decide +kernel, by decide +kernel⟩
def B_is_rising : FS :=
  fRet (fCB kAll (fCons (fNF (fLc (fIC (fZipA (fCons (fV 0) (fCons (fSl (fV 0) (fPI (fC (.int 1))) (fC .non)) (fNil))))) [1, 2] (gTupD 2 (gConsD (gV 1) (gConsD (gV 2) (gNilD)))) (fYes) (f2 kLtA (fV 1) (fV 2)))) (fNil)))
def F_is_rising : FD := fBody 3 1 B_is_rising
theorem ok_is_rising (T : Txt K mg G) : Def P w K mg base G 1 "is_rising" 1 [] F_is_rising := by
  obtain ⟨f, fd, F, hm⟩ := T.f_is_rising
  exact ⟨f, fd, ["values"], [], [], def_ok F sc_is_rising (fun cdv A outer s H E hr => css_one (cs_ret (ce_callB (cr_all (by rfl)) (sem_all) (by rfl) T.b_all (cab_cons (PE.b (ce_frzN (cn_lc (by rfl) sc_is_rising.nd (ci_c (ci_zip T.hK (by rfl) T.b_zip (ca_cons (ce_v 0) (ca_cons (ce_slice T.hK (PE.b (ce_v 0)) (co_some (ce_int)) (co_none)) (ca_nil))))) (own := [("one", 1), ("other", 2)]) (blkOk_by (N := N_is_rising) (sc := defScope s_is_rising) (by decide +kernel)) (fun _ _ _ _ _ => cgw_tup T.hK (by rfl) (cgsw_cons (cgw_name (i := 1) sc_is_rising.nd (by rfl) (by first | exact Or.inl rfl | exact Or.inr rfl) (by decide)) (cgsw_cons (cgw_name (i := 2) sc_is_rising.nd (by rfl) (by first | exact Or.inl rfl | exact Or.inr rfl) (by decide)) (cgsw_nil)))) (fun _ _ _ _ _ => cts_nil) (fun _ _ _ _ _ => ce_cmp op_ltA sem_ltA (PE.b (ce_v 1)) (PE.b (ce_v 2)) (nomark _))))) (cab_nil))))), hm, F.kp, F.binds fun _ _ _ _ _ _ us hl => match us, hl with | [_], _ => rfl, .nil, fun _ => .nil⟩
abbrev N_are_signs : List Str := ["signs", "known", "sign"]
theorem sc_are_signs : FnScope N_are_signs ["signs", "known"] (defScope s_are_signs) := ⟨rfl, rfl, rfl, by decide +kernel, rfl, by decide +kernel, by decide +kernel⟩
def B_are_signs : FS :=
  fRet (fAnd (f2 kGt (fCB kLen (fCons (fV 0) (fNil))) (fC (.int 0))) (fAnd (fCall 1 F_is_rising [] (fCons (fV 0) (fNil))) (fEmp false (fNF (fLc (fIC (fSeqA (fV 0))) [2] (gV 2) (f2 kNiS (fV 2) (fV 1)) (fV 2))))))
def F_are_signs : FD := fBody 3 2 B_are_signs
theorem ok_are_signs (T : Txt K mg G) : Def P w K mg base G 2 "are_signs" 2 [] F_are_signs := by
  obtain ⟨f, fd, F, hm⟩ := T.f_are_signs
  exact ⟨f, fd, ["signs", "known"], [], [], def_ok F sc_are_signs (fun cdv A outer s H E hr => css_one (cs_ret (ce_and (ce_cmp op_gt sem_gt (PE.b (ce_callB call_lenAll (sem_len T.hK) (by rfl) T.b_len (cab_cons (PE.b (ce_v 0)) (cab_nil)))) (PE.b (ce_int)) (nomark _)) (ce_and (ce_call (ok_is_rising T) (hr.mono (by omega)) (by exact takesD) (by rfl) (ca_cons (ce_v 0) (ca_nil))) (ce_one (ce_eqEmp T.hK (hU64 hr) (PE.b (ce_frzN (cn_lc (by rfl) sc_are_signs.nd (ci_c (ci_any T.hK (ce_v 0))) (own := [("sign", 2)]) (blkOk_by (N := N_are_signs) (sc := defScope s_are_signs) (by decide +kernel)) (fun _ _ _ _ _ => cgw_name (i := 2) sc_are_signs.nd (by rfl) (by first | exact Or.inl rfl | exact Or.inr rfl) (by decide)) (fun _ _ _ _ _ => cts_one (ct_cmp op_notIn_sign sem_niS (PE.b (ce_v 2)) (PE.b (ce_v 1)) (by rfl))) (fun _ _ _ _ _ => ce_v 2)))))))))), hm, F.kp, F.binds fun _ _ _ _ _ _ us hl => match us, hl with | [_, _], _ => rfl, .nil, fun _ => .nil⟩
abbrev N_are_turns : List Str := ["turns", "turn"]
theorem sc_are_turns : FnScope N_are_turns ["turns"] (defScope s_are_turns) := ⟨rfl, rfl, rfl, by decide +kernel, rfl, by decide +kernel, by decide +kernel⟩
def B_are_turns : FS :=
  fRet (fAnd (f2 kGt (fCB kLen (fCons (fV 0) (fNil))) (fC (.int 0))) (fAnd (fEmp false (fNF (fLc (fIC (fSeqA (fV 0))) [1] (gV 1) (fNot (fCall 3 F_is_number [] (fCons (fV 1) (fCons (fC (.int 0)) (fCons (fC (.int 3)) (fNil)))))) (fV 1)))) (fCall 1 F_is_rising [] (fCons (fV 0) (fNil)))))
def F_are_turns : FD := fBody 2 1 B_are_turns
theorem ok_are_turns (T : Txt K mg G) : Def P w K mg base G 2 "are_turns" 1 [] F_are_turns := by
  obtain ⟨f, fd, F, hm⟩ := T.f_are_turns
  exact ⟨f, fd, ["turns"], [], [], def_ok F sc_are_turns (fun cdv A outer s H E hr => css_one (cs_ret (ce_and (ce_cmp op_gt sem_gt (PE.b (ce_callB call_lenAll (sem_len T.hK) (by rfl) T.b_len (cab_cons (PE.b (ce_v 0)) (cab_nil)))) (PE.b (ce_int)) (nomark _)) (ce_and (ce_eqEmp T.hK (hU64 hr) (PE.b (ce_frzN (cn_lc (by rfl) sc_are_turns.nd (ci_c (ci_any T.hK (ce_v 0))) (own := [("turn", 1)]) (blkOk_by (N := N_are_turns) (sc := defScope s_are_turns) (by decide +kernel)) (fun _ _ _ _ _ => cgw_name (i := 1) sc_are_turns.nd (by rfl) (by first | exact Or.inl rfl | exact Or.inr rfl) (by decide)) (fun _ _ _ _ _ => cts_one (ct_not (ct_v (ce_call (ok_is_number T) (hr.mono (by omega)) (by exact Dl.takes0) (by rfl) (ca_cons (ce_v 1) (ca_cons (ce_int) (ca_cons (ce_int) (ca_nil)))))))) (fun _ _ _ _ _ => ce_v 1))))) (ce_one (ce_call (ok_is_rising T) (hr.mono (by omega)) (by exact takesD) (by rfl) (ca_cons (ce_v 0) (ca_nil)))))))), hm, F.kp, F.binds fun _ _ _ _ _ _ us hl => match us, hl with | [_], _ => rfl, .nil, fun _ => .nil⟩
abbrev N_validate_rule : List Str := ["rule"]
theorem sc_validate_rule : FnScope N_validate_rule ["rule"] (defScope s_validate_rule) := ⟨rfl, rfl, rfl, by decide +kernel, rfl, by decide +kernel, by decide +kernel⟩
def B_validate_rule : FS :=
  fIfS (fAnd (f2 kEq (f2S kIx (fV 0) (fC (.int 0))) (fC (.str "near"))) (fNot (fCall 3 F_is_number [] (fCons (f2S kIx (fV 0) (fC (.int 1))) (fCons (fC (.int 1)) (fCons (fC (.int 22)) (fNil)))))))
  (fDead)
  (fNext)
def F_validate_rule : FD := fBody 1 1 B_validate_rule
theorem ok_validate_rule (T : Txt K mg G) : Def P w K mg base G 2 "validate_rule" 1 [] F_validate_rule := by
  obtain ⟨f, fd, F, hm⟩ := T.f_validate_rule
  exact ⟨f, fd, ["rule"], [], [], def_ok F sc_validate_rule (fun cdv A outer s H E hr => css_one (cs_if (PW.pt (cw_and (ct_cmp (op_eqD (hU64 hr)) (sem_eq T.hK) (PE.b (ce_ix T.hK (PE.b (ce_v 0)) (PE.b (ce_int)))) (PE.b (ce_gstr T.g_NEARNESS)) (nomark _)) (cw_and1 (ct_not (ct_v (ce_call (ok_is_number T) (hr.mono (by omega)) (by exact takesD) (by rfl) (ca_cons (ce_ix T.hK (PE.b (ce_v 0)) (PE.b (ce_int))) (ca_cons (ce_int) (ca_cons (ce_gint T.g_MAX_FAR) (ca_nil))))))))))
    (css_dead)
    (css_nil))), hm, F.kp, F.binds fun _ _ _ _ _ _ us hl => match us, hl with | [_], _ => rfl, .nil, fun _ => .nil⟩
abbrev N_Map_island : List Str := ["self"]
theorem sc_Map_island : FnScope N_Map_island ["self"] (defScope s_Map_island) := ⟨rfl, rfl, rfl, by decide +kernel, rfl, by decide +kernel, by decide +kernel⟩
def B_Map_island : FS :=
  fRet (fFld 1 0 (fV 0))
def F_Map_island : FD := fBody 1 1 B_Map_island
theorem ok_Map_island (T : Txt K mg G) : Pro P w K mg base G 1 1 "island" F_Map_island := by
  obtain ⟨pa, f, fd, F, M⟩ := T.f_Map_island
  exact ⟨pa, f, fd, ["self"], def_ok F sc_Map_island (fun cdv A outer s H E hr => css_one (cs_ret (ce_fld 1 0 T.c_Map (by rw [T.fs_Map]; rfl) T.na_Map_own_island (ce_v 0)))), M, F.binds fun _ _ _ _ _ _ us hl => match us, hl with | [_], _ => rfl⟩
abbrev N_Map_signs : List Str := ["self"]
theorem sc_Map_signs : FnScope N_Map_signs ["self"] (defScope s_Map_signs) := ⟨rfl, rfl, rfl, by decide +kernel, rfl, by decide +kernel, by decide +kernel⟩
def B_Map_signs : FS :=
  fRet (fFld 1 1 (fV 0))
def F_Map_signs : FD := fBody 1 1 B_Map_signs
theorem ok_Map_signs (T : Txt K mg G) : Pro P w K mg base G 1 1 "signs" F_Map_signs := by
  obtain ⟨pa, f, fd, F, M⟩ := T.f_Map_signs
  exact ⟨pa, f, fd, ["self"], def_ok F sc_Map_signs (fun cdv A outer s H E hr => css_one (cs_ret (ce_fld 1 1 T.c_Map (by rw [T.fs_Map]; rfl) T.na_Map_own_signs (ce_v 0)))), M, F.binds fun _ _ _ _ _ _ us hl => match us, hl with | [_], _ => rfl⟩
abbrev N_Map_facings : List Str := ["self"]
theorem sc_Map_facings : FnScope N_Map_facings ["self"] (defScope s_Map_facings) := ⟨rfl, rfl, rfl, by decide +kernel, rfl, by decide +kernel, by decide +kernel⟩
def B_Map_facings : FS :=
  fRet (fFld 1 2 (fV 0))
def F_Map_facings : FD := fBody 1 1 B_Map_facings
theorem ok_Map_facings (T : Txt K mg G) : Pro P w K mg base G 1 1 "facings" F_Map_facings := by
  obtain ⟨pa, f, fd, F, M⟩ := T.f_Map_facings
  exact ⟨pa, f, fd, ["self"], def_ok F sc_Map_facings (fun cdv A outer s H E hr => css_one (cs_ret (ce_fld 1 2 T.c_Map (by rw [T.fs_Map]; rfl) T.na_Map_own_facings (ce_v 0)))), M, F.binds fun _ _ _ _ _ _ us hl => match us, hl with | [_], _ => rfl⟩
abbrev N_Map_instructions : List Str := ["self"]
theorem sc_Map_instructions : FnScope N_Map_instructions ["self"] (defScope s_Map_instructions) := ⟨rfl, rfl, rfl, by decide +kernel, rfl, by decide +kernel, by decide +kernel⟩
def B_Map_instructions : FS :=
  fRet (fFld 1 3 (fV 0))
def F_Map_instructions : FD := fBody 1 1 B_Map_instructions
theorem ok_Map_instructions (T : Txt K mg G) : Pro P w K mg base G 1 1 "instructions" F_Map_instructions := by
  obtain ⟨pa, f, fd, F, M⟩ := T.f_Map_instructions
  exact ⟨pa, f, fd, ["self"], def_ok F sc_Map_instructions (fun cdv A outer s H E hr => css_one (cs_ret (ce_fld 1 3 T.c_Map (by rw [T.fs_Map]; rfl) T.na_Map_own_instructions (ce_v 0)))), M, F.binds fun _ _ _ _ _ _ us hl => match us, hl with | [_], _ => rfl⟩
abbrev N_Map___init__ : List Str := ["self", "island", "signs", "facings", "instructions", "index", "instruction"]
theorem sc_Map___init__ : FnScope N_Map___init__ ["self", "island", "signs", "facings", "instructions"] (defScope s_Map___init__) := ⟨rfl, rfl, rfl, by decide +kernel, rfl, by decide +kernel, by decide +kernel⟩
def B_Map___init__ : FS :=
  fSeq (fIfS (fOr (fNot (fCall 2 F_are_signs [] (fCons (fV 2) (fCons (f2 kAdd (fC (.str ".")) (fC (.str "ABCDEFGHIJKLMNOPQRSTUVWXYZ"))) (fNil))))) (fNot (fCall 1 F_are_turns [] (fCons (fV 3) (fNil)))))
  (fDead)
  (fNext))
  (fSeq (fFor (fEnumA (fCons (fV 4) (fNil))) (gTupD 2 (gConsD (gV 5) (gConsD (gV 6) (gNilD))))
  (fDead))
  (fSeq (fFst 1 0 (fV 0) (fV 1))
  (fSeq (fFst 1 1 (fV 0) (fV 2))
  (fSeq (fFst 1 2 (fV 0) (fV 3))
  (fFst 1 3 (fV 0) (fCB kTupOf (fCons (fV 4) (fNil))))))))
def F_Map___init__ : FD := fBody 7 5 B_Map___init__
theorem ok_Map___init__ (T : Txt K mg G) : Cla P w K mg base G 3 "Map" 1 4 [] F_Map___init__ := by
  obtain ⟨f, fd, F, M, hm⟩ := T.f_Map___init__
  exact ⟨f, fd, ["self", "island", "signs", "facings", "instructions"], [], [], def_ok F sc_Map___init__ (fun cdv A outer s H E hr => css_cons (cs_if (PW.pt (cw_or (ct_not (ct_v (ce_call (ok_are_signs T) (hr.mono (by omega)) (by exact takesD) (by rfl) (ca_cons (ce_v 2) (ca_cons (ce_add (PE.b (ce_gstr T.g_LAND)) (PE.b (ce_gstr T.g_LETTERS))) (ca_nil)))))) (cw_or1 (ct_not (ct_v (ce_call (ok_are_turns T) (hr.mono (by omega)) (by exact takesD) (by rfl) (ca_cons (ce_v 3) (ca_nil))))))))
    (css_dead)
    (css_nil))
    (css_cons (cs_for (by exact passesD) (by rfl) (ci_enum T.hK (by rfl) T.b_enumerate (ca_cons (ce_v 4) (ca_nil))) (cg_tup T.hK (by rfl) (cgs_cons (cg_name (i := 5) sc_Map___init__.nd (by rfl) (by first | exact Or.inl rfl | exact Or.inr rfl)) (cgs_cons (cg_name (i := 6) sc_Map___init__.nd (by rfl) (by first | exact Or.inl rfl | exact Or.inr rfl)) (cgs_nil))))
    (css_dead))
    (css_cons (cs_fst 1 0 T.c_Map (by rw [T.fs_Map]; rfl) (by rw [T.fs_Map]; decide) T.na_Map_own_island (ce_v 0) (ce_v 1))
    (css_cons (cs_fst 1 1 T.c_Map (by rw [T.fs_Map]; rfl) (by rw [T.fs_Map]; decide) T.na_Map_own_signs (ce_v 0) (ce_v 2))
    (css_cons (cs_fst 1 2 T.c_Map (by rw [T.fs_Map]; rfl) (by rw [T.fs_Map]; decide) T.na_Map_own_facings (ce_v 0) (ce_v 3))
    (css_one (cs_fst 1 3 T.c_Map (by rw [T.fs_Map]; rfl) (by rw [T.fs_Map]; decide) T.na_Map_own_instructions (ce_v 0) (ce_callTy call_tuple_of (sem_tupOf T.hK) (by rfl) T.b_tuple (cab_cons (PE.b (ce_v 4)) (cab_nil)))))))))), M, hm, F.binds fun _ _ _ _ _ _ us hl => match us, hl with | [_, _, _, _, _], _ => rfl, .nil, fun _ => .nil⟩
abbrev N_begin_states : List Str := ["chart", "found", "cell", "facing"]
theorem sc_begin_states : FnScope N_begin_states ["chart"] (defScope s_begin_states) := ⟨rfl, rfl, rfl, by decide +kernel, rfl, by decide +kernel, by decide +kernel⟩
def B_begin_states : FS :=
  fSeq (fSetN 1 (fOl (fNil)))
  (fSeq (fFor (fSeqA (fProp 0 F_Island_cells (fProp 1 F_Map_island (fV 0)))) (gV 2)
  (fIfS (f2 kInS (fIxO 0 F_Island___getitem__ (fProp 1 F_Map_island (fV 0)) (fV 2)) (fProp 1 F_Map_signs (fV 0)))
  (fExt 1 (fNF (fLc (fIC (fSeqA (fProp 1 F_Map_facings (fV 0)))) [3] (gV 3) (fYes) (f2 kAdd (fV 2) (fTup (fCons (fV 3) (fNil)))))))
  (fNext)))
  (fFrz 1 (fRet (fV 1))))
def F_begin_states : FD := fBody 4 1 B_begin_states
theorem ok_begin_states (T : Txt K mg G) : Def P w K mg base G 3 "begin_states" 1 [] F_begin_states := by
  obtain ⟨f, fd, F, hm⟩ := T.f_begin_states
  exact ⟨f, fd, ["chart"], [], [], def_ok F sc_begin_states (fun cdv A outer s H E hr => css_cons (cs_new (i := 1) sc_begin_states.nd (by rfl) (by first | exact Or.inl rfl | exact Or.inr rfl) (cn_lst (ca_nil)))
    (css_cons (cs_for (by exact passesD) (by rfl) (ci_any T.hK (ce_prop 0 (ok_Island_cells T) T.c_Island (hr.mono (by omega)) (ce_prop 1 (ok_Map_island T) T.c_Map (hr.mono (by omega)) (ce_v 0)))) (cg_name (i := 2) sc_begin_states.nd (by rfl) (by first | exact Or.inl rfl | exact Or.inr rfl))
    (css_one (cs_if (ct_cmp op_in_sign sem_inS (PE.b (ce_ixO 0 (ok_Island___getitem__ T) (hr.mono (by omega)) (ce_prop 1 (ok_Map_island T) T.c_Map (hr.mono (by omega)) (ce_v 0)) (ce_v 2))) (PE.b (ce_prop 1 (ok_Map_signs T) T.c_Map (hr.mono (by omega)) (ce_v 0))) (by rfl))
    (css_one (cs_ext 1 (he := ce_frzN (cn_lc (by rfl) sc_begin_states.nd (ci_c (ci_any T.hK (ce_prop 1 (ok_Map_facings T) T.c_Map (hr.mono (by omega)) (ce_v 0)))) (own := [("facing", 3)]) (blkOk_by (N := N_begin_states) (sc := defScope s_begin_states) (by decide +kernel)) (fun _ _ _ _ _ => cgw_name (i := 3) sc_begin_states.nd (by rfl) (by first | exact Or.inl rfl | exact Or.inr rfl) (by decide)) (fun _ _ _ _ _ => cts_nil) (fun _ _ _ _ _ => ce_add (PE.b (ce_v 2)) (PE.b (ce_tup (ca_cons (ce_v 3) (ca_nil)))))))))
    (css_nil))))
    (css_one (cs_frz 1 (cs_ret (ce_v 1)))))), hm, F.kp, F.binds fun _ _ _ _ _ _ us hl => match us, hl with | [_], _ => rfl, .nil, fun _ => .nil⟩
abbrev N_state_rows : List Str := ["chart", "found", "instruction"]
theorem sc_state_rows : FnScope N_state_rows ["chart"] (defScope s_state_rows) := ⟨rfl, rfl, rfl, by decide +kernel, rfl, by decide +kernel, by decide +kernel⟩
def B_state_rows : FS :=
  fSeq (fSetN 1 (fOl (fCons (fCall 1 F_begin_states [] (fCons (fV 0) (fNil))) (fNil))))
  (fSeq (fFor (fSeqA (fProp 1 F_Map_instructions (fV 0))) (gV 2)
  (fDead))
  (fFrz 1 (fRet (fV 1))))
def F_state_rows : FD := fBody 3 1 B_state_rows
theorem ok_state_rows (T : Txt K mg G) : Def P w K mg base G 4 "state_rows" 1 [] F_state_rows := by
  obtain ⟨f, fd, F, hm⟩ := T.f_state_rows
  exact ⟨f, fd, ["chart"], [], [], def_ok F sc_state_rows (fun cdv A outer s H E hr => css_cons (cs_new (i := 1) sc_state_rows.nd (by rfl) (by first | exact Or.inl rfl | exact Or.inr rfl) (cn_lst (ca_cons (ce_call (ok_begin_states T) (hr.mono (by omega)) (by exact takesD) (by rfl) (ca_cons (ce_v 0) (ca_nil))) (ca_nil))))
    (css_cons (cs_for (by exact passesD) (by rfl) (ci_any T.hK (ce_prop 1 (ok_Map_instructions T) T.c_Map (hr.mono (by omega)) (ce_v 0))) (cg_name (i := 2) sc_state_rows.nd (by rfl) (by first | exact Or.inl rfl | exact Or.inr rfl))
    (css_dead))
    (css_one (cs_frz 1 (cs_ret (ce_v 1)))))), hm, F.kp, F.binds fun _ _ _ _ _ _ us hl => match us, hl with | [_], _ => rfl, .nil, fun _ => .nil⟩
abbrev N_final_states : List Str := ["chart"]
theorem sc_final_states : FnScope N_final_states ["chart"] (defScope s_final_states) := ⟨rfl, rfl, rfl, by decide +kernel, rfl, by decide +kernel, by decide +kernel⟩
def B_final_states : FS :=
  fRet (f2S kIx (fCall 1 F_state_rows [] (fCons (fV 0) (fNil))) (fNeg (fC (.int 1))))
def F_final_states : FD := fBody 1 1 B_final_states
theorem ok_final_states (T : Txt K mg G) : Def P w K mg base G 5 "final_states" 1 [] F_final_states := by
  obtain ⟨f, fd, F, hm⟩ := T.f_final_states
  exact ⟨f, fd, ["chart"], [], [], def_ok F sc_final_states (fun cdv A outer s H E hr => css_one (cs_ret (ce_ix T.hK (PE.b (ce_call (ok_state_rows T) (hr.mono (by omega)) (by exact takesD) (by rfl) (ca_cons (ce_v 0) (ca_nil)))) (PE.b (ce_negN (ce_int)))))), hm, F.kp, F.binds fun _ _ _ _ _ _ us hl => match us, hl with | [_], _ => rfl, .nil, fun _ => .nil⟩
abbrev N_places : List Str := ["chart", "state"]
theorem sc_places : FnScope N_places ["chart"] (defScope s_places) := ⟨rfl, rfl, rfl, by decide +kernel, rfl, by decide +kernel, by decide +kernel⟩
def B_places : FS :=
  fRet (fSrtSet 2 64 (fNF (fLc (fIC (fSeqA (fCall 1 F_final_states [] (fCons (fV 0) (fNil))))) [1] (gV 1) (fYes) (fSl (fV 1) (fC .non) (fPI (fC (.int 2)))))))
def F_places : FD := fBody 2 1 B_places
theorem ok_places (T : Txt K mg G) : Def P w K mg base G 6 "places" 1 [] F_places := by
  obtain ⟨f, fd, F, hm⟩ := T.f_places
  exact ⟨f, fd, ["chart"], [], [], def_ok F sc_places (fun cdv A outer s H E hr => css_one (cs_ret (ce_sortedSet 2 64 T.hK (by rfl) (hU64 hr) (by rfl) T.b_sorted (by rfl) T.b_set (PE.b (ce_frzN (cn_lc (by rfl) sc_places.nd (ci_c (ci_any T.hK (ce_call (ok_final_states T) (hr.mono (by omega)) (by exact takesD) (by rfl) (ca_cons (ce_v 0) (ca_nil))))) (own := [("state", 1)]) (blkOk_by (N := N_places) (sc := defScope s_places) (by decide +kernel)) (fun _ _ _ _ _ => cgw_name (i := 1) sc_places.nd (by rfl) (by first | exact Or.inl rfl | exact Or.inr rfl) (by decide)) (fun _ _ _ _ _ => cts_nil) (fun _ _ _ _ _ => ce_slice T.hK (PE.b (ce_v 1)) (co_none) (co_some (ce_int))))))))), hm, F.kp, F.binds fun _ _ _ _ _ _ us hl => match us, hl with | [_], _ => rfl, .nil, fun _ => .nil⟩
abbrev N_neighbors : List Str := ["island", "cell", "some", "down", "right", "other"]
theorem sc_neighbors : FnScope N_neighbors ["island", "cell"] (defScope s_neighbors) := ⟨rfl, rfl, rfl, by decide +kernel, rfl, by decide +kernel, by decide +kernel⟩
def B_neighbors : FS :=
  fSeq (fSetN 2 (fLc (fIC (fSeqA (fC movesD))) [3, 4] (gTupD 2 (gConsD (gV 3) (gConsD (gV 4) (gNilD)))) (fYes) (fTup (fCons (f2 kAdd (f2S kIx (fV 1) (fC (.int 0))) (fV 3)) (fCons (f2 kAdd (f2S kIx (fV 1) (fC (.int 1))) (fV 4)) (fNil))))))
  (fFrz 2 (fRet (fCB kSrtA (fCons (fNF (fLc (fIC (fSeqA (fV 2))) [5] (gV 5) (fInO 0 F_Island___contains__ (fV 5) (fV 0)) (fV 5))) (fNil)))))
def F_neighbors : FD := fBody 6 2 B_neighbors
theorem ok_neighbors (T : Txt K mg G) : Def P w K mg base G 2 "neighbors" 2 [] F_neighbors := by
  obtain ⟨f, fd, F, hm⟩ := T.f_neighbors
  exact ⟨f, fd, ["island", "cell"], [], [], def_ok F sc_neighbors (fun cdv A outer s H E hr => css_cons (cs_lc (by rfl) sc_neighbors.nd (by rfl) (by rfl) (by exact sw_true rfl rfl rfl (by decide +kernel)) (ci_c (ci_any T.hK (ce_kt T.g_MOVES))) (own := [("down", 3), ("right", 4)]) (blkOk_by (N := N_neighbors) (sc := defScope s_neighbors) (by decide +kernel)) (fun _ _ _ _ _ => cgw_tup T.hK (by rfl) (cgsw_cons (cgw_name (i := 3) sc_neighbors.nd (by rfl) (by first | exact Or.inl rfl | exact Or.inr rfl) (by decide)) (cgsw_cons (cgw_name (i := 4) sc_neighbors.nd (by rfl) (by first | exact Or.inl rfl | exact Or.inr rfl) (by decide)) (cgsw_nil)))) (fun _ _ _ _ _ => cts_nil) (fun _ _ _ _ _ => ce_tup (ca_cons (ce_add (PE.b (ce_ix T.hK (PE.b (ce_v 1)) (PE.b (ce_int)))) (PE.b (ce_v 3))) (ca_cons (ce_add (PE.b (ce_ix T.hK (PE.b (ce_v 1)) (PE.b (ce_int)))) (PE.b (ce_v 4))) (ca_nil)))))
    (css_one (cs_frz 2 (cs_ret (ce_callB (call_srtA (by rfl) (hU32 hr)) (sem_srtA T.hK) (by rfl) T.b_sorted (cab_cons (PE.b (ce_frzN (cn_lc (by rfl) sc_neighbors.nd (ci_c (ci_any T.hK (ce_v 2))) (own := [("other", 5)]) (blkOk_by (N := N_neighbors) (sc := defScope s_neighbors) (by decide +kernel)) (fun _ _ _ _ _ => cgw_name (i := 5) sc_neighbors.nd (by rfl) (by first | exact Or.inl rfl | exact Or.inr rfl) (by decide)) (fun _ _ _ _ _ => cts_one (ct_inO 0 (ok_Island___contains__ T) (hr.mono (by omega)) (ce_v 5) (ce_v 0))) (fun _ _ _ _ _ => ce_v 5)))) (cab_nil))))))), hm, F.kp, F.binds fun _ _ _ _ _ _ us hl => match us, hl with | [_, _], _ => rfl, .nil, fun _ => .nil⟩
abbrev N_distances : List Str := ["island", "cell", "found", "level", "later", "here", "other"]
theorem sc_distances : FnScope N_distances ["island", "cell"] (defScope s_distances) := ⟨rfl, rfl, rfl, by decide +kernel, rfl, by decide +kernel, by decide +kernel⟩
def B_distances : FS :=
  fSeq (fPar2 2 3 (fConsN (fDisp1 (fV 1) (fC (.int 0))) (fConsN (fVN (fNF (fOl (fCons (fV 1) (fNil))))) (fNilN))))
  (fSeq (whileD (fEmp true (fV 3))
  (fSeq (fSetN 4 (fOl (fNil)))
  (fSeq (fFor (fSeqA (fV 3)) (gV 5)
  (fFor (fSeqA (fCall 2 F_neighbors [] (fCons (fV 0) (fCons (fV 5) (fNil))))) (gV 6)
  (fIfS (f2 kDni (fV 6) (fO 2))
  (fSeq (fDput 2 (fV 6) (f2 kAdd (f2 kDget (fO 2) (fV 5)) (fC (.int 1))))
  (fApp 4 (fV 6)))
  (fNext))))
  (fFrz 4 (fSet 3 (fV 4))))) 40)
  (fFrz 2 (fRet (fV 2))))
def F_distances : FD := fBody 7 2 B_distances
theorem ok_distances (T : Txt K mg G) : Def P w K mg base G 3 "distances" 2 [] F_distances := by
  obtain ⟨f, fd, F, hm⟩ := T.f_distances
  exact ⟨f, fd, ["island", "cell"], [], [], def_ok F sc_distances (fun cdv A outer s H E hr => css_cons (cs_par2 (by rfl) sc_distances.nd (by rfl) (by rfl) (by decide) (by rfl) (by rfl) (can_cons (cn_disp1 (hU0 hr) (ce_v 1) (ce_int)) (can_cons (cn_v (ce_frzN (cn_lst (ca_cons (ce_v 1) (ca_nil))))) (can_nil))))
    (css_cons (cs_while 40 (by exact passesD) (ct_neEmp T.hK (hU64 hr) (PE.b (ce_v 3)))
    (css_cons (cs_new (i := 4) sc_distances.nd (by rfl) (by first | exact Or.inl rfl | exact Or.inr rfl) (cn_lst (ca_nil)))
    (css_cons (cs_for (by exact passesD) (by rfl) (ci_any T.hK (ce_v 3)) (cg_name (i := 5) sc_distances.nd (by rfl) (by first | exact Or.inl rfl | exact Or.inr rfl))
    (css_one (cs_for (by exact passesD) (by rfl) (ci_any T.hK (ce_call (ok_neighbors T) (hr.mono (by omega)) (by exact takesD) (by rfl) (ca_cons (ce_v 0) (ca_cons (ce_v 5) (ca_nil))))) (cg_name (i := 6) sc_distances.nd (by rfl) (by first | exact Or.inl rfl | exact Or.inr rfl))
    (css_one (cs_if (ct_dni (hU1 hr) (ce_v 6) (cb_o 2))
    (css_cons (cs_dput 2 (hU1 hr) (ce_v 6) (ce_add (PE.b (ce_dget (hU1 hr) (cb_o 2) (ce_v 5))) (PE.b (ce_int))))
    (css_one (cs_app 4 (he := ce_v 6))))
    (css_nil))))))
    (css_one (cs_frz 4 (cs_set (i := 3) sc_distances.nd (by rfl) (by first | exact Or.inl rfl | exact Or.inr rfl) (ce_v 4)))))))
    (css_one (cs_frz 2 (cs_ret (ce_v 2)))))), hm, F.kp, F.binds fun _ _ _ _ _ _ us hl => match us, hl with | [_, _], _ => rfl, .nil, fun _ => .nil⟩
abbrev N_is_name : List Str := ["name", "letter"]
theorem sc_is_name : FnScope N_is_name ["name"] (defScope s_is_name) := ⟨rfl, rfl, rfl, by decide +kernel, rfl, by decide +kernel, by decide +kernel⟩
def B_is_name : FS :=
  fSeq (fIfS (fOr (fNot (fCB (kIsi (.ty "str") tb_str noOwn) (fCons (fV 0) (fCons ((fun _ S => .ok (.ty "str") S)) (fNil))))) (fNot (fChain kLe kLe (fC (.int 1)) (fCB kLen (fCons (fV 0) (fNil))) (fC (.int 8)))))
  (fRet (fC (.bl false)))
  (fNext))
  (fRet (fEmp false (fNF (fLc (fIC (fSeqA (fV 0))) [1] (gV 1) (f2 kNiS (fV 1) (fC (.str "abcdefghijklmnopqrstuvwxyz"))) (fV 1)))))
def F_is_name : FD := fBody 2 1 B_is_name
theorem ok_is_name (T : Txt K mg G) : Def P w K mg base G 1 "is_name" 1 [] F_is_name := by
  obtain ⟨f, fd, F, hm⟩ := T.f_is_name
  exact ⟨f, fd, ["name"], [], [], def_ok F sc_is_name (fun cdv A outer s H E hr => css_cons (cs_if (PW.pt (cw_or (ct_not (ct_v (ce_isi (.ty "str") tb_str noOwn T.hK T.i_str (by rfl) T.b_isinstance (ca_cons (ce_v 0) (ca_cons (ce_ty (by rfl) T.b_str) (ca_nil)))))) (cw_or1 (ct_not (ct_chain op_le sem_le op_le sem_le (PE.b (ce_int)) (PE.b (ce_callB call_lenAll (sem_len T.hK) (by rfl) T.b_len (cab_cons (PE.b (ce_v 0)) (cab_nil)))) (PE.b (ce_gint T.g_MAX_LETTERS)))))))
    (css_one (cs_ret (ce_bl)))
    (css_nil))
    (css_one (cs_ret (ce_eqEmp T.hK (hU64 hr) (PE.b (ce_frzN (cn_lc (by rfl) sc_is_name.nd (ci_c (ci_any T.hK (ce_v 0))) (own := [("letter", 1)]) (blkOk_by (N := N_is_name) (sc := defScope s_is_name) (by decide +kernel)) (fun _ _ _ _ _ => cgw_name (i := 1) sc_is_name.nd (by rfl) (by first | exact Or.inl rfl | exact Or.inr rfl) (by decide)) (fun _ _ _ _ _ => cts_one (ct_cmp op_notIn_sign sem_niS (PE.b (ce_v 1)) (PE.b (ce_gstr T.g_SMALL)) (by rfl))) (fun _ _ _ _ _ => ce_v 1)))))))), hm, F.kp, F.binds fun _ _ _ _ _ _ us hl => match us, hl with | [_], _ => rfl, .nil, fun _ => .nil⟩
abbrev N_Scene___init__ : List Str := ["self", "spot", "walked", "left"]
theorem sc_Scene___init__ : FnScope N_Scene___init__ ["self", "spot", "walked", "left"] (defScope s_Scene___init__) := ⟨rfl, rfl, rfl, by decide +kernel, rfl, by decide +kernel, by decide +kernel⟩
def B_Scene___init__ : FS :=
  fSeq (fFst 2 0 (fV 0) (fV 1))
  (fSeq (fFst 2 1 (fV 0) (fV 2))
  (fFst 2 2 (fV 0) (fV 3)))
def F_Scene___init__ : FD := fBody 4 4 B_Scene___init__
theorem ok_Scene___init__ (T : Txt K mg G) : Cla P w K mg base G 1 "Scene" 2 3 [] F_Scene___init__ := by
  obtain ⟨f, fd, F, M, hm⟩ := T.f_Scene___init__
  exact ⟨f, fd, ["self", "spot", "walked", "left"], [], [], def_ok F sc_Scene___init__ (fun cdv A outer s H E hr => css_cons (cs_fst 2 0 T.c_Scene (by rw [T.fs_Scene]; rfl) (by rw [T.fs_Scene]; decide) T.na_Scene_spot (ce_v 0) (ce_v 1))
    (css_cons (cs_fst 2 1 T.c_Scene (by rw [T.fs_Scene]; rfl) (by rw [T.fs_Scene]; decide) T.na_Scene_walked (ce_v 0) (ce_v 2))
    (css_one (cs_fst 2 2 T.c_Scene (by rw [T.fs_Scene]; rfl) (by rw [T.fs_Scene]; decide) T.na_Scene_left (ce_v 0) (ce_v 3))))), M, hm, F.binds fun _ _ _ _ _ _ us hl => match us, hl with | [_, _, _, _], _ => rfl, .nil, fun _ => .nil⟩
abbrev N_Search___init__ : List Str := ["self", "chart", "rule", "here", "left"]
theorem sc_Search___init__ : FnScope N_Search___init__ ["self", "chart", "rule", "here"] (defScope s_Search___init__) := ⟨rfl, rfl, rfl, by decide +kernel, rfl, by decide +kernel, by decide +kernel⟩
def B_Search___init__ : FS :=
  fSeq (fDrop (fCall 1 F_validate_rule [] (fCons (fV 2) (fNil))))
  (fSeq (fDrop (fCall 2 F_validate_cell [] (fCons (fProp 1 F_Map_island (fV 1)) (fCons (fV 3) (fNil)))))
  (fSeq (fSet 4 (fCB kTupOf (fCons (fCall 1 F_places [] (fCons (fV 1) (fNil))) (fNil))))
  (fSeq (fIfS (f2 kEq (fV 4) (fTup (fNil)))
  (fDead)
  (fNext))
  (fSeq (fFst 3 0 (fV 0) (fV 1))
  (fSeq (fFst 3 1 (fV 0) (fV 2))
  (fSeq (fFst 3 2 (fV 0) (fMakeO 2 3 F_Scene___init__ [] (fCons (fV 3) (fCons (fC (.int 0)) (fCons (fV 4) (fNil))))))
  (fSeq (fFst 3 3 (fV 0) (fNF ((fun _ S => .ok (.od false [] []) S))))
  (fSeq (fFst 3 4 (fV 0) (fNC (fOl (fNil))))
  (fFst 3 5 (fV 0) (fNC (fOl (fNil))))))))))))
def F_Search___init__ : FD := fBody 5 4 B_Search___init__
theorem ok_Search___init__ (T : Txt K mg G) : Cla P w K mg base G 7 "Search" 3 3 [] F_Search___init__ := by
  obtain ⟨f, fd, F, M, hm⟩ := T.f_Search___init__
  exact ⟨f, fd, ["self", "chart", "rule", "here"], [], [], def_ok F sc_Search___init__ (fun cdv A outer s H E hr => css_cons (cs_expr (ce_call (ok_validate_rule T) (hr.mono (by omega)) (by exact takesD) (by rfl) (ca_cons (ce_v 2) (ca_nil))))
    (css_cons (cs_expr (ce_call (ok_validate_cell T) (hr.mono (by omega)) (by exact takesD) (by rfl) (ca_cons (ce_prop 1 (ok_Map_island T) T.c_Map (hr.mono (by omega)) (ce_v 1)) (ca_cons (ce_v 3) (ca_nil)))))
    (css_cons (cs_set (i := 4) sc_Search___init__.nd (by rfl) (by first | exact Or.inl rfl | exact Or.inr rfl) (ce_callTy call_tuple_of (sem_tupOf T.hK) (by rfl) T.b_tuple (cab_cons (PE.b (ce_call (ok_places T) (hr.mono (by omega)) (by exact takesD) (by rfl) (ca_cons (ce_v 1) (ca_nil)))) (cab_nil))))
    (css_cons (cs_if (ct_cmp (op_eqD (hU64 hr)) (sem_eq T.hK) (PE.b (ce_v 4)) (PE.b (ce_tup (ca_nil))) (nomark _))
    (css_dead)
    (css_nil))
    (css_cons (cs_fst 3 0 T.c_Search (by rw [T.fs_Search]; rfl) (by rw [T.fs_Search]; decide) T.na_Search_chart (ce_v 0) (ce_v 1))
    (css_cons (cs_fst 3 1 T.c_Search (by rw [T.fs_Search]; rfl) (by rw [T.fs_Search]; decide) T.na_Search_rule (ce_v 0) (ce_v 2))
    (css_cons (cs_fst 3 2 T.c_Search (by rw [T.fs_Search]; rfl) (by rw [T.fs_Search]; decide) T.na_Search_scene (ce_v 0) (ce_makeO (ok_Scene___init__ T) (hr.mono (by omega)) (by exact takesD) (by rfl) (ca_cons (ce_v 3) (ca_cons (ce_int) (ca_cons (ce_v 4) (ca_nil))))))
    (css_cons (cs_fst 3 3 T.c_Search (by rw [T.fs_Search]; rfl) (by rw [T.fs_Search]; decide) T.na_Search_marked (ce_v 0) (ce_frzN (cn_dK)))
    (css_cons (cs_fst 3 4 T.c_Search (by rw [T.fs_Search]; rfl) (by rw [T.fs_Search]; decide) T.na_Search_past (ce_v 0) (ce_celN (cn_lst (ca_nil))))
    (css_one (cs_fst 3 5 T.c_Search (by rw [T.fs_Search]; rfl) (by rw [T.fs_Search]; decide) T.na_Search_later (ce_v 0) (ce_celN (cn_lst (ca_nil)))))))))))))), M, hm, F.binds fun _ _ _ _ _ _ us hl => match us, hl with | [_, _, _, _], _ => rfl, .nil, fun _ => .nil⟩
abbrev N_Search_here : List Str := ["self"]
theorem sc_Search_here : FnScope N_Search_here ["self"] (defScope s_Search_here) := ⟨rfl, rfl, rfl, by decide +kernel, rfl, by decide +kernel, by decide +kernel⟩
def B_Search_here : FS :=
  fRet (fFld 2 0 (fFld 3 2 (fV 0)))
def F_Search_here : FD := fBody 1 1 B_Search_here
theorem ok_Search_here (T : Txt K mg G) : Pro P w K mg base G 1 3 "here" F_Search_here := by
  obtain ⟨pa, f, fd, F, M⟩ := T.f_Search_here
  exact ⟨pa, f, fd, ["self"], def_ok F sc_Search_here (fun cdv A outer s H E hr => css_one (cs_ret (ce_fld 2 0 T.c_Scene (by rw [T.fs_Scene]; rfl) T.na_Scene_spot (ce_fld 3 2 T.c_Search (by rw [T.fs_Search]; rfl) T.na_Search_scene (ce_v 0))))), M, F.binds fun _ _ _ _ _ _ us hl => match us, hl with | [_], _ => rfl⟩
abbrev N_Search_paces_walked : List Str := ["self"]
theorem sc_Search_paces_walked : FnScope N_Search_paces_walked ["self"] (defScope s_Search_paces_walked) := ⟨rfl, rfl, rfl, by decide +kernel, rfl, by decide +kernel, by decide +kernel⟩
def B_Search_paces_walked : FS :=
  fRet (fFld 2 1 (fFld 3 2 (fV 0)))
def F_Search_paces_walked : FD := fBody 1 1 B_Search_paces_walked
theorem ok_Search_paces_walked (T : Txt K mg G) : Pro P w K mg base G 1 3 "paces_walked" F_Search_paces_walked := by
  obtain ⟨pa, f, fd, F, M⟩ := T.f_Search_paces_walked
  exact ⟨pa, f, fd, ["self"], def_ok F sc_Search_paces_walked (fun cdv A outer s H E hr => css_one (cs_ret (ce_fld 2 1 T.c_Scene (by rw [T.fs_Scene]; rfl) T.na_Scene_walked (ce_fld 3 2 T.c_Search (by rw [T.fs_Search]; rfl) T.na_Search_scene (ce_v 0))))), M, F.binds fun _ _ _ _ _ _ us hl => match us, hl with | [_], _ => rfl⟩
abbrev N_Search_marks : List Str := ["self"]
theorem sc_Search_marks : FnScope N_Search_marks ["self"] (defScope s_Search_marks) := ⟨rfl, rfl, rfl, by decide +kernel, rfl, by decide +kernel, by decide +kernel⟩
def B_Search_marks : FS :=
  fRet (fCB kSrtA (fCons (fFld 3 3 (fV 0)) (fNil)))
def F_Search_marks : FD := fBody 1 1 B_Search_marks
theorem ok_Search_marks (T : Txt K mg G) : Pro P w K mg base G 1 3 "marks" F_Search_marks := by
  obtain ⟨pa, f, fd, F, M⟩ := T.f_Search_marks
  exact ⟨pa, f, fd, ["self"], def_ok F sc_Search_marks (fun cdv A outer s H E hr => css_one (cs_ret (ce_callB (call_srtA (by rfl) (hU32 hr)) (sem_srtA T.hK) (by rfl) T.b_sorted (cab_cons (PE.b (ce_fld 3 3 T.c_Search (by rw [T.fs_Search]; rfl) T.na_Search_marked (ce_v 0))) (cab_nil))))), M, F.binds fun _ _ _ _ _ _ us hl => match us, hl with | [_], _ => rfl⟩
abbrev N_Search_history : List Str := ["self", "entry"]
theorem sc_Search_history : FnScope N_Search_history ["self"] (defScope s_Search_history) := ⟨rfl, rfl, rfl, by decide +kernel, rfl, by decide +kernel, by decide +kernel⟩
def B_Search_history : FS :=
  fRet (fNF (fLc (fICell (fFld 3 4 (fV 0))) [1] (gV 1) (fYes) (f2S kIx (fV 1) (fC (.int 0)))))
def F_Search_history : FD := fBody 2 1 B_Search_history
theorem ok_Search_history (T : Txt K mg G) : Pro P w K mg base G 1 3 "history" F_Search_history := by
  obtain ⟨pa, f, fd, F, M⟩ := T.f_Search_history
  exact ⟨pa, f, fd, ["self"], def_ok F sc_Search_history (fun cdv A outer s H E hr => css_one (cs_ret (ce_frzN (cn_lc (by rfl) sc_Search_history.nd (ci_cell (ce_fld 3 4 T.c_Search (by rw [T.fs_Search]; rfl) T.na_Search_past (ce_v 0))) (own := [("entry", 1)]) (blkOk_by (N := N_Search_history) (sc := defScope s_Search_history) (by decide +kernel)) (fun _ _ _ _ _ => cgw_name (i := 1) sc_Search_history.nd (by rfl) (by first | exact Or.inl rfl | exact Or.inr rfl) (by decide)) (fun _ _ _ _ _ => cts_nil) (fun _ _ _ _ _ => ce_ix T.hK (PE.b (ce_v 1)) (PE.b (ce_int))))))), M, F.binds fun _ _ _ _ _ _ us hl => match us, hl with | [_], _ => rfl⟩
abbrev N_Search_enter : List Str := ["self", "operation", "scene", "marked"]
theorem sc_Search_enter : FnScope N_Search_enter ["self", "operation", "scene", "marked"] (defScope s_Search_enter) := ⟨rfl, rfl, rfl, by decide +kernel, rfl, by decide +kernel, by decide +kernel⟩
def B_Search_enter : FS :=
  fSeq (fAppC (fFld 3 4 (fV 0)) (fTup (fCons (fV 1) (fCons (fFld 3 2 (fV 0)) (fCons (fFld 3 3 (fV 0)) (fCons (fV 2) (fCons (fV 3) (fNil))))))))
  (fSeq (fFst 3 5 (fV 0) (fNC (fOl (fNil))))
  (fAsg (gTupD 2 (gConsD (gFld 3 2 (fV 0)) (gConsD (gFld 3 3 (fV 0)) (gNilD)))) (fTup (fCons (fV 2) (fCons (fV 3) (fNil))))))
def F_Search_enter : FD := fBody 4 4 B_Search_enter
theorem ok_Search_enter (T : Txt K mg G) : Met P w K mg base G 1 3 "enter" 3 F_Search_enter := by
  obtain ⟨f, fd, F, M⟩ := T.f_Search_enter
  exact ⟨f, fd, ["self", "operation", "scene", "marked"], def_ok F sc_Search_enter (fun cdv A outer s H E hr => css_cons (cs_appC (ce_fld 3 4 T.c_Search (by rw [T.fs_Search]; rfl) T.na_Search_past (ce_v 0)) (ce_tup (ca_cons (ce_v 1) (ca_cons (ce_fld 3 2 T.c_Search (by rw [T.fs_Search]; rfl) T.na_Search_scene (ce_v 0)) (ca_cons (ce_fld 3 3 T.c_Search (by rw [T.fs_Search]; rfl) T.na_Search_marked (ce_v 0)) (ca_cons (ce_v 2) (ca_cons (ce_v 3) (ca_nil))))))))
    (css_cons (cs_fst 3 5 T.c_Search (by rw [T.fs_Search]; rfl) (by rw [T.fs_Search]; decide) T.na_Search_later (ce_v 0) (ce_celN (cn_lst (ca_nil))))
    (css_one (cs_asg (cg_tup T.hK (by rfl) (cgs_cons (cg_fld0 3 2 T.c_Search (by rw [T.fs_Search]; rfl) (by rw [T.fs_Search]; decide) T.na_Search_scene (ce_v 0)) (cgs_cons (cg_fld0 3 3 T.c_Search (by rw [T.fs_Search]; rfl) (by rw [T.fs_Search]; decide) T.na_Search_marked (ce_v 0)) (cgs_nil)))) (ce_tup (ca_cons (ce_v 2) (ca_cons (ce_v 3) (ca_nil)))))))), M, F.binds fun _ _ _ _ _ _ us hl => match us, hl with | [_, _, _, _], _ => rfl⟩
abbrev N_Search_walk : List Str := ["self", "cell", "far"]
theorem sc_Search_walk : FnScope N_Search_walk ["self", "cell"] (defScope s_Search_walk) := ⟨rfl, rfl, rfl, by decide +kernel, rfl, by decide +kernel, by decide +kernel⟩
def B_Search_walk : FS :=
  fSeq (fDrop (fCall 2 F_validate_cell [] (fCons (fProp 1 F_Map_island (fFld 3 0 (fV 0))) (fCons (fV 1) (fNil)))))
  (fSeq (fSet 2 (fCall 2 F_distances [] (fCons (fProp 1 F_Map_island (fFld 3 0 (fV 0))) (fCons (fFld 2 0 (fFld 3 2 (fV 0))) (fNil)))))
  (fSeq (fIfS (f2 kDni (fV 1) (fV 2))
  (fDead)
  (fNext))
  (fSeq (fDrop (fMeth 3 3 F_Search_enter (fV 0) (fCons (fTup (fCons (fC (.str "walk")) (fCons (fV 1) (fNil)))) (fCons (fMakeO 2 3 F_Scene___init__ [] (fCons (fV 1) (fCons (f2 kAdd (fFld 2 1 (fFld 3 2 (fV 0))) (f2 kDget (fV 2) (fV 1))) (fCons (fFld 2 2 (fFld 3 2 (fV 0))) (fNil))))) (fCons (fFld 3 3 (fV 0)) (fNil))))))
  (fRet (f2 kDget (fV 2) (fV 1))))))
def F_Search_walk : FD := fBody 3 2 B_Search_walk
theorem ok_Search_walk (T : Txt K mg G) : Met P w K mg base G 4 3 "walk" 1 F_Search_walk := by
  obtain ⟨f, fd, F, M⟩ := T.f_Search_walk
  exact ⟨f, fd, ["self", "cell"], def_ok F sc_Search_walk (fun cdv A outer s H E hr => css_cons (cs_expr (ce_call (ok_validate_cell T) (hr.mono (by omega)) (by exact takesD) (by rfl) (ca_cons (ce_prop 1 (ok_Map_island T) T.c_Map (hr.mono (by omega)) (ce_fld 3 0 T.c_Search (by rw [T.fs_Search]; rfl) T.na_Search_chart (ce_v 0))) (ca_cons (ce_v 1) (ca_nil)))))
    (css_cons (cs_set (i := 2) sc_Search_walk.nd (by rfl) (by first | exact Or.inl rfl | exact Or.inr rfl) (ce_call (ok_distances T) (hr.mono (by omega)) (by exact takesD) (by rfl) (ca_cons (ce_prop 1 (ok_Map_island T) T.c_Map (hr.mono (by omega)) (ce_fld 3 0 T.c_Search (by rw [T.fs_Search]; rfl) T.na_Search_chart (ce_v 0))) (ca_cons (ce_fld 2 0 T.c_Scene (by rw [T.fs_Scene]; rfl) T.na_Scene_spot (ce_fld 3 2 T.c_Search (by rw [T.fs_Search]; rfl) T.na_Search_scene (ce_v 0))) (ca_nil)))))
    (css_cons (cs_if (ct_dni (hU1 hr) (ce_v 1) (PE.b (ce_v 2)))
    (css_dead)
    (css_nil))
    (css_cons (cs_expr (ce_meth 3 (ok_Search_enter T) T.c_Search (by rw [T.fs_Search]; decide) (hr.mono (by omega)) (by exact takesD) (ce_v 0) (ca_cons (ce_tup (ca_cons (ce_gstr T.g_WALK_searches) (ca_cons (ce_v 1) (ca_nil)))) (ca_cons (ce_makeO (ok_Scene___init__ T) (hr.mono (by omega)) (by exact takesD) (by rfl) (ca_cons (ce_v 1) (ca_cons (ce_add (PE.b (ce_fld 2 1 T.c_Scene (by rw [T.fs_Scene]; rfl) T.na_Scene_walked (ce_fld 3 2 T.c_Search (by rw [T.fs_Search]; rfl) T.na_Search_scene (ce_v 0)))) (PE.b (ce_dget (hU1 hr) (PE.b (ce_v 2)) (ce_v 1)))) (ca_cons (ce_fld 2 2 T.c_Scene (by rw [T.fs_Scene]; rfl) T.na_Scene_left (ce_fld 3 2 T.c_Search (by rw [T.fs_Search]; rfl) T.na_Search_scene (ce_v 0))) (ca_nil))))) (ca_cons (ce_fld 3 3 T.c_Search (by rw [T.fs_Search]; rfl) T.na_Search_marked (ce_v 0)) (ca_nil))))))
    (css_one (cs_ret (ce_dget (hU1 hr) (PE.b (ce_v 2)) (ce_v 1)))))))), M, F.binds fun _ _ _ _ _ _ us hl => match us, hl with | [_, _], _ => rfl⟩
abbrev N_Search_mark : List Str := ["self", "name", "had"]
theorem sc_Search_mark : FnScope N_Search_mark ["self", "name"] (defScope s_Search_mark) := ⟨rfl, rfl, rfl, by decide +kernel, rfl, by decide +kernel, by decide +kernel⟩
def B_Search_mark : FS :=
  fSeq (fIfS (fNot (fCall 1 F_is_name [] (fCons (fV 1) (fNil))))
  (fDead)
  (fNext))
  (fSeq (fSet 2 (f2 kDin (fV 1) (fFld 3 3 (fV 0))))
  (fSeq (fDrop (fMeth 3 3 F_Search_enter (fV 0) (fCons (fTup (fCons (fC (.str "mark")) (fCons (fV 1) (fNil)))) (fCons (fFld 3 2 (fV 0)) (fCons (f2 kOrD (fFld 3 3 (fV 0)) (fNF (fDispK (fV 1) (fFld 3 2 (fV 0))))) (fNil))))))
  (fRet (fV 2))))
def F_Search_mark : FD := fBody 3 2 B_Search_mark
theorem ok_Search_mark (T : Txt K mg G) : Met P w K mg base G 2 3 "mark" 1 F_Search_mark := by
  obtain ⟨f, fd, F, M⟩ := T.f_Search_mark
  exact ⟨f, fd, ["self", "name"], def_ok F sc_Search_mark (fun cdv A outer s H E hr => css_cons (cs_if (ct_not (ct_v (ce_call (ok_is_name T) (hr.mono (by omega)) (by exact takesD) (by rfl) (ca_cons (ce_v 1) (ca_nil)))))
    (css_dead)
    (css_nil))
    (css_cons (cs_set (i := 2) sc_Search_mark.nd (by rfl) (by first | exact Or.inl rfl | exact Or.inr rfl) (ce_din (hU1 hr) (ce_v 1) (PE.b (ce_fld 3 3 T.c_Search (by rw [T.fs_Search]; rfl) T.na_Search_marked (ce_v 0)))))
    (css_cons (cs_expr (ce_meth 3 (ok_Search_enter T) T.c_Search (by rw [T.fs_Search]; decide) (hr.mono (by omega)) (by exact takesD) (ce_v 0) (ca_cons (ce_tup (ca_cons (ce_gstr T.g_MARK) (ca_cons (ce_v 1) (ca_nil)))) (ca_cons (ce_fld 3 2 T.c_Search (by rw [T.fs_Search]; rfl) T.na_Search_scene (ce_v 0)) (ca_cons (ce_orD (PE.b (ce_fld 3 3 T.c_Search (by rw [T.fs_Search]; rfl) T.na_Search_marked (ce_v 0))) (PE.b (ce_frzN (cn_dispK (ce_v 1) (ce_fld 3 2 T.c_Search (by rw [T.fs_Search]; rfl) T.na_Search_scene (ce_v 0)))))) (ca_nil))))))
    (css_one (cs_ret (ce_v 2)))))), M, F.binds fun _ _ _ _ _ _ us hl => match us, hl with | [_, _], _ => rfl⟩
abbrev N_Search_go : List Str := ["self", "name"]
theorem sc_Search_go : FnScope N_Search_go ["self", "name"] (defScope s_Search_go) := ⟨rfl, rfl, rfl, by decide +kernel, rfl, by decide +kernel, by decide +kernel⟩
def B_Search_go : FS :=
  fSeq (fIfS (f2 kDni (fV 1) (fFld 3 3 (fV 0)))
  (fDead)
  (fNext))
  (fSeq (fDrop (fMeth 3 3 F_Search_enter (fV 0) (fCons (fTup (fCons (fC (.str "go")) (fCons (fV 1) (fNil)))) (fCons (f2 kDget (fFld 3 3 (fV 0)) (fV 1)) (fCons (fFld 3 3 (fV 0)) (fNil))))))
  (fRet (fCB kLen (fCons (fFld 2 2 (fFld 3 2 (fV 0))) (fNil)))))
def F_Search_go : FD := fBody 2 2 B_Search_go
theorem ok_Search_go (T : Txt K mg G) : Met P w K mg base G 2 3 "go" 1 F_Search_go := by
  obtain ⟨f, fd, F, M⟩ := T.f_Search_go
  exact ⟨f, fd, ["self", "name"], def_ok F sc_Search_go (fun cdv A outer s H E hr => css_cons (cs_if (ct_dni (hU1 hr) (ce_v 1) (PE.b (ce_fld 3 3 T.c_Search (by rw [T.fs_Search]; rfl) T.na_Search_marked (ce_v 0))))
    (css_dead)
    (css_nil))
    (css_cons (cs_expr (ce_meth 3 (ok_Search_enter T) T.c_Search (by rw [T.fs_Search]; decide) (hr.mono (by omega)) (by exact takesD) (ce_v 0) (ca_cons (ce_tup (ca_cons (ce_gstr T.g_GO) (ca_cons (ce_v 1) (ca_nil)))) (ca_cons (ce_dget (hU1 hr) (PE.b (ce_fld 3 3 T.c_Search (by rw [T.fs_Search]; rfl) T.na_Search_marked (ce_v 0))) (ce_v 1)) (ca_cons (ce_fld 3 3 T.c_Search (by rw [T.fs_Search]; rfl) T.na_Search_marked (ce_v 0)) (ca_nil))))))
    (css_one (cs_ret (ce_callB call_lenAll (sem_len T.hK) (by rfl) T.b_len (cab_cons (PE.b (ce_fld 2 2 T.c_Scene (by rw [T.fs_Scene]; rfl) T.na_Scene_left (ce_fld 3 2 T.c_Search (by rw [T.fs_Search]; rfl) T.na_Search_scene (ce_v 0)))) (cab_nil))))))), M, F.binds fun _ _ _ _ _ _ us hl => match us, hl with | [_, _], _ => rfl⟩
abbrev N_Search_undo : List Str := ["self", "entry"]
theorem sc_Search_undo : FnScope N_Search_undo ["self"] (defScope s_Search_undo) := ⟨rfl, rfl, rfl, by decide +kernel, rfl, by decide +kernel, by decide +kernel⟩
def B_Search_undo : FS :=
  fSeq (fIfS (fEmp false (fFld 3 4 (fV 0)))
  (fRet (fC (.bl false)))
  (fNext))
  (fSeq (fSet 1 (fPopC (fFld 3 4 (fV 0))))
  (fSeq (fAppC (fFld 3 5 (fV 0)) (fV 1))
  (fSeq (fAsg (gTupD 2 (gConsD (gFld 3 2 (fV 0)) (gConsD (gFld 3 3 (fV 0)) (gNilD)))) (fTup (fCons (f2S kIx (fV 1) (fC (.int 1))) (fCons (f2S kIx (fV 1) (fC (.int 2))) (fNil)))))
  (fRet (fC (.bl true))))))
def F_Search_undo : FD := fBody 2 1 B_Search_undo
theorem ok_Search_undo (T : Txt K mg G) : Met P w K mg base G 1 3 "undo" 0 F_Search_undo := by
  obtain ⟨f, fd, F, M⟩ := T.f_Search_undo
  exact ⟨f, fd, ["self"], def_ok F sc_Search_undo (fun cdv A outer s H E hr => css_cons (cs_if (ct_eqEmp T.hK (hU64 hr) (PE.b (ce_fld 3 4 T.c_Search (by rw [T.fs_Search]; rfl) T.na_Search_past (ce_v 0))))
    (css_one (cs_ret (ce_bl)))
    (css_nil))
    (css_cons (cs_set (i := 1) sc_Search_undo.nd (by rfl) (by first | exact Or.inl rfl | exact Or.inr rfl) (ce_popC (ce_fld 3 4 T.c_Search (by rw [T.fs_Search]; rfl) T.na_Search_past (ce_v 0))))
    (css_cons (cs_appC (ce_fld 3 5 T.c_Search (by rw [T.fs_Search]; rfl) T.na_Search_later (ce_v 0)) (ce_v 1))
    (css_cons (cs_asg (cg_tup T.hK (by rfl) (cgs_cons (cg_fld0 3 2 T.c_Search (by rw [T.fs_Search]; rfl) (by rw [T.fs_Search]; decide) T.na_Search_scene (ce_v 0)) (cgs_cons (cg_fld0 3 3 T.c_Search (by rw [T.fs_Search]; rfl) (by rw [T.fs_Search]; decide) T.na_Search_marked (ce_v 0)) (cgs_nil)))) (ce_tup (ca_cons (ce_ix T.hK (PE.b (ce_v 1)) (PE.b (ce_int))) (ca_cons (ce_ix T.hK (PE.b (ce_v 1)) (PE.b (ce_int))) (ca_nil)))))
    (css_one (cs_ret (ce_bl))))))), M, F.binds fun _ _ _ _ _ _ us hl => match us, hl with | [_], _ => rfl⟩
abbrev N_Search_redo : List Str := ["self", "entry"]
theorem sc_Search_redo : FnScope N_Search_redo ["self"] (defScope s_Search_redo) := ⟨rfl, rfl, rfl, by decide +kernel, rfl, by decide +kernel, by decide +kernel⟩
def B_Search_redo : FS :=
  fSeq (fIfS (fEmp false (fFld 3 5 (fV 0)))
  (fRet (fC (.bl false)))
  (fNext))
  (fSeq (fSet 1 (fPopC (fFld 3 5 (fV 0))))
  (fSeq (fAppC (fFld 3 4 (fV 0)) (fV 1))
  (fSeq (fAsg (gTupD 2 (gConsD (gFld 3 2 (fV 0)) (gConsD (gFld 3 3 (fV 0)) (gNilD)))) (fTup (fCons (f2S kIx (fV 1) (fC (.int 3))) (fCons (f2S kIx (fV 1) (fC (.int 4))) (fNil)))))
  (fRet (fC (.bl true))))))
def F_Search_redo : FD := fBody 2 1 B_Search_redo
theorem ok_Search_redo (T : Txt K mg G) : Met P w K mg base G 1 3 "redo" 0 F_Search_redo := by
  obtain ⟨f, fd, F, M⟩ := T.f_Search_redo
  exact ⟨f, fd, ["self"], def_ok F sc_Search_redo (fun cdv A outer s H E hr => css_cons (cs_if (ct_eqEmp T.hK (hU64 hr) (PE.b (ce_fld 3 5 T.c_Search (by rw [T.fs_Search]; rfl) T.na_Search_later (ce_v 0))))
    (css_one (cs_ret (ce_bl)))
    (css_nil))
    (css_cons (cs_set (i := 1) sc_Search_redo.nd (by rfl) (by first | exact Or.inl rfl | exact Or.inr rfl) (ce_popC (ce_fld 3 5 T.c_Search (by rw [T.fs_Search]; rfl) T.na_Search_later (ce_v 0))))
    (css_cons (cs_appC (ce_fld 3 4 T.c_Search (by rw [T.fs_Search]; rfl) T.na_Search_past (ce_v 0)) (ce_v 1))
    (css_cons (cs_asg (cg_tup T.hK (by rfl) (cgs_cons (cg_fld0 3 2 T.c_Search (by rw [T.fs_Search]; rfl) (by rw [T.fs_Search]; decide) T.na_Search_scene (ce_v 0)) (cgs_cons (cg_fld0 3 3 T.c_Search (by rw [T.fs_Search]; rfl) (by rw [T.fs_Search]; decide) T.na_Search_marked (ce_v 0)) (cgs_nil)))) (ce_tup (ca_cons (ce_ix T.hK (PE.b (ce_v 1)) (PE.b (ce_int))) (ca_cons (ce_ix T.hK (PE.b (ce_v 1)) (PE.b (ce_int))) (ca_nil)))))
    (css_one (cs_ret (ce_bl))))))), M, F.binds fun _ _ _ _ _ _ us hl => match us, hl with | [_], _ => rfl⟩
abbrev N__law_mix : List Str := ["_law_script", "_law_seed", "_law_state", "_law_cell"]
theorem sc__law_mix : FnScope N__law_mix ["_law_script", "_law_seed"] (defScope s__law_mix) := ⟨rfl, rfl, rfl, by decide +kernel, rfl, by decide +kernel, by decide +kernel⟩
def B__law_mix : FS :=
  fSeq (fSet 2 (fV 1))
  (fSeq (fFor (fSeqA (fV 0)) (gV 3)
  (fSet 2 (f2 kMod (fCB kInt1 (fCons (f2 kAdd (f2 kAdd (f2 kMul (fV 2) (fC (.int 48271))) (f2 kMod (fCB kInt1 (fCons (fV 3) (fNil))) (fC (.int 2147483629)))) (fC (.int 1))) (fNil))) (fC (.int 2147483647)))))
  (fRet (fNC (fOl (fCons (fV 2) (fCons (fNC (fListOf (fV 0))) (fCons (fC (.int 0)) (fNil))))))))
def F__law_mix : FD := fBody 4 2 B__law_mix
theorem ok__law_mix (T : Txt K mg G) : Def P w K mg base G 1 "_law_mix" 2 [] F__law_mix := by
  obtain ⟨f, fd, F, hm⟩ := T.f__law_mix
  exact ⟨f, fd, ["_law_script", "_law_seed"], [], [], def_ok F sc__law_mix (fun cdv A outer s H E hr => css_cons (cs_set (i := 2) sc__law_mix.nd (by rfl) (by first | exact Or.inl rfl | exact Or.inr rfl) (ce_v 1))
    (css_cons (cs_for (by exact passesD) (by rfl) (ci_any T.hK (ce_v 0)) (cg_name (i := 3) sc__law_mix.nd (by rfl) (by first | exact Or.inl rfl | exact Or.inr rfl))
    (css_one (cs_set (i := 2) sc__law_mix.nd (by rfl) (by first | exact Or.inl rfl | exact Or.inr rfl) (ce_mod (PE.b (ce_callTy call_int1 (sem_int1) (by rfl) T.b_int (cab_cons (PE.b (ce_add (PE.b (ce_add (PE.b (ce_mul (PE.b (ce_v 2)) (PE.b (ce_int)))) (PE.b (ce_mod (PE.b (ce_callTy call_int1 (sem_int1) (by rfl) T.b_int (cab_cons (PE.b (ce_v 3)) (cab_nil)))) (PE.b (ce_int)))))) (PE.b (ce_int)))) (cab_nil)))) (PE.b (ce_int))))))
    (css_one (cs_ret (ce_celN (cn_lst (ca_cons (ce_v 2) (ca_cons (ce_celN (cn_list T.hK (by rfl) T.b_list (PE.b (ce_v 0)))) (ca_cons (ce_int) (ca_nil)))))))))), hm, F.kp, F.binds fun _ _ _ _ _ _ us hl => match us, hl with | [_, _], _ => rfl, .nil, fun _ => .nil⟩
abbrev N__law_next : List Str := ["_law_h", "_law_limit", "_law_cell"]
theorem sc__law_next : FnScope N__law_next ["_law_h", "_law_limit"] (defScope s__law_next) := ⟨rfl, rfl, rfl, by decide +kernel, rfl, by decide +kernel, by decide +kernel⟩
def B__law_next : FS :=
  fSeq (fSet 2 (f2S kIx (f2S kAddC (f2S kIx (fV 0) (fC (.int 1))) (fNF (fOl (fCons (fC (.int 0)) (fNil))))) (f2 kMod (fCB kInt1 (fCons (f2S kIx (fV 0) (fC (.int 2))) (fNil))) (fCB kMax (fCons (fC (.int 1)) (fCons (fCB kLen (fCons (f2S kIx (fV 0) (fC (.int 1))) (fNil))) (fNil)))))))
  (fSeq (fIfS (f2 kGe (fV 2) (f2 kPow (fC (.int 10)) (fC (.int 18))))
  (fSeq (fAsg (gSetC (f2S kIx (fV 0) (fC (.int 1))) (f2 kMod (fCB kInt1 (fCons (f2S kIx (fV 0) (fC (.int 2))) (fNil))) (fCB kLen (fCons (f2S kIx (fV 0) (fC (.int 1))) (fNil))))) (f2 kDiv (fV 2) (fV 1)))
  (fRet (f2 kMod (fCB kInt1 (fCons (fV 2) (fNil))) (fV 1))))
  (fNext))
  (fSeq (fAsg (gSetC (fV 0) (fC (.int 0))) (f2 kMod (fCB kInt1 (fCons (f2 kAdd (f2 kAdd (f2 kMul (f2S kIx (fV 0) (fC (.int 0))) (fC (.int 48271))) (f2 kMul (fV 2) (fC (.int 69621)))) (fC (.int 11))) (fNil))) (fC (.int 2147483647))))
  (fSeq (fAsg (gSetC (fV 0) (fC (.int 2))) (f2 kAdd (f2S kIx (fV 0) (fC (.int 2))) (fC (.int 1))))
  (fRet (f2 kMod (fCB kInt1 (fCons (f2 kDiv (f2S kIx (fV 0) (fC (.int 0))) (fC (.int 7))) (fNil))) (fV 1))))))
def F__law_next : FD := fBody 3 2 B__law_next
theorem ok__law_next (T : Txt K mg G) : Def P w K mg base G 1 "_law_next" 2 [] F__law_next := by
  obtain ⟨f, fd, F, hm⟩ := T.f__law_next
  exact ⟨f, fd, ["_law_h", "_law_limit"], [], [], def_ok F sc__law_next (fun cdv A outer s H E hr => css_cons (cs_set (i := 2) sc__law_next.nd (by rfl) (by first | exact Or.inl rfl | exact Or.inr rfl) (ce_ix T.hK (PE.b (ce_addC (PE.b (ce_ix T.hK (PE.b (ce_v 0)) (PE.b (ce_int)))) (PE.b (ce_frzN (cn_lst (ca_cons (ce_int) (ca_nil))))))) (PE.b (ce_mod (PE.b (ce_callTy call_int1 (sem_int1) (by rfl) T.b_int (cab_cons (PE.b (ce_ix T.hK (PE.b (ce_v 0)) (PE.b (ce_int)))) (cab_nil)))) (PE.b (ce_callB (call_max2 (by rfl)) (sem_max) (by rfl) T.b_max (cab_cons (PE.b (ce_int)) (cab_cons (PE.b (ce_callB call_lenAll (sem_len T.hK) (by rfl) T.b_len (cab_cons (PE.b (ce_ix T.hK (PE.b (ce_v 0)) (PE.b (ce_int)))) (cab_nil)))) (cab_nil)))))))))
    (css_cons (cs_if (ct_cmp op_ge sem_ge (PE.b (ce_v 2)) (PE.b (ce_pow (PE.b (ce_int)) (PE.b (ce_int)))) (nomark _))
    (css_cons (cs_asg (cg_setC (ce_ix T.hK (PE.b (ce_v 0)) (PE.b (ce_int))) (ce_mod (PE.b (ce_callTy call_int1 (sem_int1) (by rfl) T.b_int (cab_cons (PE.b (ce_ix T.hK (PE.b (ce_v 0)) (PE.b (ce_int)))) (cab_nil)))) (PE.b (ce_callB call_lenAll (sem_len T.hK) (by rfl) T.b_len (cab_cons (PE.b (ce_ix T.hK (PE.b (ce_v 0)) (PE.b (ce_int)))) (cab_nil)))))) (ce_div (PE.b (ce_v 2)) (PE.b (ce_v 1))))
    (css_one (cs_ret (ce_mod (PE.b (ce_callTy call_int1 (sem_int1) (by rfl) T.b_int (cab_cons (PE.b (ce_v 2)) (cab_nil)))) (PE.b (ce_v 1))))))
    (css_nil))
    (css_cons (cs_asg (cg_setC (ce_v 0) (ce_int)) (ce_mod (PE.b (ce_callTy call_int1 (sem_int1) (by rfl) T.b_int (cab_cons (PE.b (ce_add (PE.b (ce_add (PE.b (ce_mul (PE.b (ce_ix T.hK (PE.b (ce_v 0)) (PE.b (ce_int)))) (PE.b (ce_int)))) (PE.b (ce_mul (PE.b (ce_v 2)) (PE.b (ce_int)))))) (PE.b (ce_int)))) (cab_nil)))) (PE.b (ce_int))))
    (css_cons (cs_asg (cg_setC (ce_v 0) (ce_int)) (ce_add (PE.b (ce_ix T.hK (PE.b (ce_v 0)) (PE.b (ce_int)))) (PE.b (ce_int))))
    (css_one (cs_ret (ce_mod (PE.b (ce_callTy call_int1 (sem_int1) (by rfl) T.b_int (cab_cons (PE.b (ce_div (PE.b (ce_ix T.hK (PE.b (ce_v 0)) (PE.b (ce_int)))) (PE.b (ce_int)))) (cab_nil)))) (PE.b (ce_v 1))))))))), hm, F.kp, F.binds fun _ _ _ _ _ _ us hl => match us, hl with | [_, _], _ => rfl, .nil, fun _ => .nil⟩
abbrev N__law_alike : List Str := ["_law_found", "_law_due", "_law_k"]
theorem sc__law_alike : FnScope N__law_alike ["_law_found", "_law_due"] (defScope s__law_alike) := ⟨rfl, rfl, rfl, by decide +kernel, rfl, by decide +kernel, by decide +kernel⟩
def B__law_alike (A : FD) : FS :=
  fSeq (fIfS (fCB (kIsi (.ty "dict") tb_dict noOwn) (fCons (fV 1) (fCons ((fun _ S => .ok (.ty "dict") S)) (fNil))))
  (fDead)
  (fNext))
  (fSeq (fIfS (fCB (kIsiT [.ty "tuple", .ty "list"] tb_tuple_list noOwn) (fCons (fV 1) (fCons (fTup (fCons ((fun _ S => .ok (.ty "tuple") S)) (fCons ((fun _ S => .ok (.ty "list") S)) (fNil)))) (fNil))))
  (fSeq (fIfS (fOr (fNot (fCB (kIsiT [.ty "tuple", .ty "list"] tb_tuple_list noOwn) (fCons (fV 0) (fCons (fTup (fCons ((fun _ S => .ok (.ty "tuple") S)) (fCons ((fun _ S => .ok (.ty "list") S)) (fNil)))) (fNil))))) (f2 kNe (fCB (kIsi (.ty "list") tb_list noOwn) (fCons (fV 0) (fCons ((fun _ S => .ok (.ty "list") S)) (fNil)))) (fCB (kIsi (.ty "list") tb_list noOwn) (fCons (fV 1) (fCons ((fun _ S => .ok (.ty "list") S)) (fNil))))))
  (fRet (fC (.bl false)))
  (fNext))
  (fSeq (fIfS (f2 kNe (fCB kLen (fCons (fV 0) (fNil))) (fCB kLen (fCons (fV 1) (fNil))))
  (fRet (fC (.bl false)))
  (fNext))
  (fRet (fEmp false (fNF (fLc (fIC (fRng1 (fCons (fCB kLen (fCons (fV 1) (fNil))) (fNil)))) [2] (gV 2) (fNot (fCall 2 A [] (fCons (f2S kIx (fV 0) (fV 2)) (fCons (f2S kIx (fV 1) (fV 2)) (fNil))))) (fV 2)))))))
  (fNext))
  (fSeq (fIfS (fOr (f2 kIsN (fV 1) (fC .non)) (fCB (kIsi (.ty "str") tb_str noOwn) (fCons (fV 1) (fCons ((fun _ S => .ok (.ty "str") S)) (fNil)))))
  (fRet (fAnd (f2 kEq (fV 0) (fV 1)) (f2 kEq (fCB (kIsi (.ty "str") tb_str noOwn) (fCons (fV 0) (fCons ((fun _ S => .ok (.ty "str") S)) (fNil)))) (fCB (kIsi (.ty "str") tb_str noOwn) (fCons (fV 1) (fCons ((fun _ S => .ok (.ty "str") S)) (fNil)))))))
  (fNext))
  (fRet (fAnd (fCB (kIsi (.ty "int") tb_int noOwn) (fCons (fV 0) (fCons ((fun _ S => .ok (.ty "int") S)) (fNil)))) (fAnd (f2 kEq (fCB (kIsi (.ty "bool") tb_bool noOwn) (fCons (fV 0) (fCons ((fun _ S => .ok (.ty "bool") S)) (fNil)))) (fCB (kIsi (.ty "bool") tb_bool noOwn) (fCons (fV 1) (fCons ((fun _ S => .ok (.ty "bool") S)) (fNil))))) (f2 kEq (fV 0) (fV 1)))))))
def F__law_alike : Nat → FD
  | 0 => fun _ _ => .fail
  | n + 1 => fBody 3 2 (B__law_alike (F__law_alike n))
theorem ok__law_alike (T : Txt K mg G) : ∀ n : Nat, Def P w K mg base G (n + 1) "_law_alike" 2 [] (F__law_alike n)
  | 0 => by
    obtain ⟨f, fd, F, hm⟩ := T.f__law_alike
    exact ⟨f, fd, ["_law_found", "_law_due"], [], [], def_fail F sc__law_alike, hm, F.kp, F.binds fun _ _ _ _ _ _ us hl => match us, hl with | [_, _], _ => rfl, .nil, fun _ => .nil⟩
  | n + 1 => by
    have IH := ok__law_alike T n
    obtain ⟨f, fd, F, hm⟩ := T.f__law_alike
    exact ⟨f, fd, ["_law_found", "_law_due"], [], [], def_ok F sc__law_alike (fun cdv A outer s H E hr => css_cons (cs_if (ct_v (ce_isi (.ty "dict") tb_dict noOwn T.hK T.i_dict (by rfl) T.b_isinstance (ca_cons (ce_v 1) (ca_cons (ce_ty (by rfl) T.b_dict) (ca_nil)))))
    (css_dead)
    (css_nil))
    (css_cons (cs_if (ct_v (ce_isiT [.ty "tuple", .ty "list"] tb_tuple_list noOwn T.hK T.i_tuple_list (by rfl) T.b_isinstance (ca_cons (ce_v 1) (ca_cons (ce_tup (ca_cons (ce_ty (by rfl) T.b_tuple) (ca_cons (ce_ty (by rfl) T.b_list) (ca_nil)))) (ca_nil)))))
    (css_cons (cs_if (PW.pt (cw_or (ct_not (ct_v (ce_isiT [.ty "tuple", .ty "list"] tb_tuple_list noOwn T.hK T.i_tuple_list (by rfl) T.b_isinstance (ca_cons (ce_v 0) (ca_cons (ce_tup (ca_cons (ce_ty (by rfl) T.b_tuple) (ca_cons (ce_ty (by rfl) T.b_list) (ca_nil)))) (ca_nil)))))) (cw_or1 (ct_cmp (op_neD (hU64 hr)) (sem_ne T.hK) (PE.b (ce_isi (.ty "list") tb_list noOwn T.hK T.i_list (by rfl) T.b_isinstance (ca_cons (ce_v 0) (ca_cons (ce_ty (by rfl) T.b_list) (ca_nil))))) (PE.b (ce_isi (.ty "list") tb_list noOwn T.hK T.i_list (by rfl) T.b_isinstance (ca_cons (ce_v 1) (ca_cons (ce_ty (by rfl) T.b_list) (ca_nil))))) (nomark _)))))
    (css_one (cs_ret (ce_bl)))
    (css_nil))
    (css_cons (cs_if (ct_cmp (op_neD (hU64 hr)) (sem_ne T.hK) (PE.b (ce_callB call_lenAll (sem_len T.hK) (by rfl) T.b_len (cab_cons (PE.b (ce_v 0)) (cab_nil)))) (PE.b (ce_callB call_lenAll (sem_len T.hK) (by rfl) T.b_len (cab_cons (PE.b (ce_v 1)) (cab_nil)))) (nomark _))
    (css_one (cs_ret (ce_bl)))
    (css_nil))
    (css_one (cs_ret (ce_eqEmp T.hK (hU64 hr) (PE.b (ce_frzN (cn_lc (by rfl) sc__law_alike.nd (ci_c (ci_range1 (by rfl) T.b_range (ca_cons (ce_callB call_lenAll (sem_len T.hK) (by rfl) T.b_len (cab_cons (PE.b (ce_v 1)) (cab_nil))) (ca_nil)))) (own := [("_law_k", 2)]) (blkOk_by (N := N__law_alike) (sc := defScope s__law_alike) (by decide +kernel)) (fun _ _ _ _ _ => cgw_name (i := 2) sc__law_alike.nd (by rfl) (by first | exact Or.inl rfl | exact Or.inr rfl) (by decide)) (fun _ _ _ _ _ => cts_one (ct_not (ct_v (ce_call IH (hr.mono (by omega)) (by exact Dl.takes0) (by rfl) (ca_cons (ce_ix T.hK (PE.b (ce_v 0)) (PE.b (ce_v 2))) (ca_cons (ce_ix T.hK (PE.b (ce_v 1)) (PE.b (ce_v 2))) (ca_nil))))))) (fun _ _ _ _ _ => ce_v 2)))))))))
    (css_nil))
    (css_cons (cs_if (PW.pt (cw_or (ct_cmp op_isN sem_isN (PE.b (ce_v 1)) (PE.b ce_non) (nomark _)) (cw_or1 (ct_v (ce_isi (.ty "str") tb_str noOwn T.hK T.i_str (by rfl) T.b_isinstance (ca_cons (ce_v 1) (ca_cons (ce_ty (by rfl) T.b_str) (ca_nil))))))))
    (css_one (cs_ret (ce_and (ce_cmp (op_eqD (hU64 hr)) (sem_eq T.hK) (PE.b (ce_v 0)) (PE.b (ce_v 1)) (nomark _)) (ce_one (ce_cmp (op_eqD (hU64 hr)) (sem_eq T.hK) (PE.b (ce_isi (.ty "str") tb_str noOwn T.hK T.i_str (by rfl) T.b_isinstance (ca_cons (ce_v 0) (ca_cons (ce_ty (by rfl) T.b_str) (ca_nil))))) (PE.b (ce_isi (.ty "str") tb_str noOwn T.hK T.i_str (by rfl) T.b_isinstance (ca_cons (ce_v 1) (ca_cons (ce_ty (by rfl) T.b_str) (ca_nil))))) (nomark _))))))
    (css_nil))
    (css_one (cs_ret (ce_and (ce_isi (.ty "int") tb_int noOwn T.hK T.i_int (by rfl) T.b_isinstance (ca_cons (ce_v 0) (ca_cons (ce_ty (by rfl) T.b_int) (ca_nil)))) (ce_and (ce_cmp (op_eqD (hU64 hr)) (sem_eq T.hK) (PE.b (ce_isi (.ty "bool") tb_bool noOwn T.hK T.i_bool (by rfl) T.b_isinstance (ca_cons (ce_v 0) (ca_cons (ce_ty (by rfl) T.b_bool) (ca_nil))))) (PE.b (ce_isi (.ty "bool") tb_bool noOwn T.hK T.i_bool (by rfl) T.b_isinstance (ca_cons (ce_v 1) (ca_cons (ce_ty (by rfl) T.b_bool) (ca_nil))))) (nomark _)) (ce_one (ce_cmp (op_eqD (hU64 hr)) (sem_eq T.hK) (PE.b (ce_v 0)) (PE.b (ce_v 1)) (nomark _)))))))))), hm, F.kp, F.binds fun _ _ _ _ _ _ us hl => match us, hl with | [_, _], _ => rfl, .nil, fun _ => .nil⟩
abbrev N__law_cells : List Str := ["_law_rows", "_law_found", "_law_row", "_law_column"]
theorem sc__law_cells : FnScope N__law_cells ["_law_rows"] (defScope s__law_cells) := ⟨rfl, rfl, rfl, by decide +kernel, rfl, by decide +kernel, by decide +kernel⟩
def B__law_cells : FS :=
  fSeq (fSet 1 (fNF (fOl (fNil))))
  (fSeq (fFor (fRng1 (fCons (fCB kLen (fCons (fV 0) (fNil))) (fNil))) (gV 2)
  (fSet 1 (f2 kAdd (fV 1) (fNF (fLc (fIC (fRng1 (fCons (fCB kLen (fCons (f2S kIx (fV 0) (fC (.int 0))) (fNil))) (fNil)))) [3] (gV 3) (f2 kNe (f2S kIx (f2S kIx (fV 0) (fV 2)) (fV 3)) (fC (.str "~"))) (fTup (fCons (fV 2) (fCons (fV 3) (fNil)))))))))
  (fRet (fV 1)))
def F__law_cells : FD := fBody 4 1 B__law_cells
theorem ok__law_cells (T : Txt K mg G) : Def P w K mg base G 1 "_law_cells" 1 [] F__law_cells := by
  obtain ⟨f, fd, F, hm⟩ := T.f__law_cells
  exact ⟨f, fd, ["_law_rows"], [], [], def_ok F sc__law_cells (fun cdv A outer s H E hr => css_cons (cs_set (i := 1) sc__law_cells.nd (by rfl) (by first | exact Or.inl rfl | exact Or.inr rfl) (ce_frzN (cn_lst (ca_nil))))
    (css_cons (cs_for (by exact passesD) (by rfl) (ci_range1 (by rfl) T.b_range (ca_cons (ce_callB call_lenAll (sem_len T.hK) (by rfl) T.b_len (cab_cons (PE.b (ce_v 0)) (cab_nil))) (ca_nil))) (cg_name (i := 2) sc__law_cells.nd (by rfl) (by first | exact Or.inl rfl | exact Or.inr rfl))
    (css_one (cs_set (i := 1) sc__law_cells.nd (by rfl) (by first | exact Or.inl rfl | exact Or.inr rfl) (ce_add (PE.b (ce_v 1)) (PE.b (ce_frzN (cn_lc (by rfl) sc__law_cells.nd (ci_c (ci_range1 (by rfl) T.b_range (ca_cons (ce_callB call_lenAll (sem_len T.hK) (by rfl) T.b_len (cab_cons (PE.b (ce_ix T.hK (PE.b (ce_v 0)) (PE.b (ce_int)))) (cab_nil))) (ca_nil)))) (own := [("_law_column", 3)]) (blkOk_by (N := N__law_cells) (sc := defScope s__law_cells) (by decide +kernel)) (fun _ _ _ _ _ => cgw_name (i := 3) sc__law_cells.nd (by rfl) (by first | exact Or.inl rfl | exact Or.inr rfl) (by decide)) (fun _ _ _ _ _ => cts_one (ct_cmp (op_neD (hU64 hr)) (sem_ne T.hK) (PE.b (ce_ix T.hK (PE.b (ce_ix T.hK (PE.b (ce_v 0)) (PE.b (ce_v 2)))) (PE.b (ce_v 3)))) (PE.b (ce_str)) (nomark _))) (fun _ _ _ _ _ => ce_tup (ca_cons (ce_v 2) (ca_cons (ce_v 3) (ca_nil)))))))))))
    (css_one (cs_ret (ce_v 1))))), hm, F.kp, F.binds fun _ _ _ _ _ _ us hl => match us, hl with | [_], _ => rfl, .nil, fun _ => .nil⟩
abbrev N_law : List Str := ["_law_script", "_law_h", "_law_rows", "_law_chart", "_law_cells_here", "_law_search", "_law_past", "_law_later", "_law_scene", "_law_names", "_law_step", "_law_kind", "_law_entry", "_law_more", "_law_deed", "_law_cell", "_law_paces", "_law_told", "_law_due", "_law_name", "_law_found", "_law_row"]
theorem sc_law : FnScope N_law ["_law_script"] (defScope s_law) := ⟨rfl, rfl, rfl, by decide +kernel, rfl, by decide +kernel, by decide +kernel⟩
def B_law : FS :=
  fSeq (fSet 1 (fCall 2 F__law_mix [] (fCons (fV 0) (fCons (fC (.int 97)) (fNil)))))
  (fSeq (fSet 2 (fCB kTupOf (fCons (f2 kRep (fNF (fOl (fCons (f2 kMulS (fC (.str ".")) (f2 kAdd (fC (.int 2)) (fCall 2 F__law_next [] (fCons (fV 1) (fCons (fC (.int 3)) (fNil)))))) (fNil)))) (f2 kAdd (fC (.int 2)) (fCall 2 F__law_next [] (fCons (fV 1) (fCons (fC (.int 3)) (fNil)))))) (fNil))))
  (fSeq (fPar2 3 4 (fConsN (fVN (fMakeO 1 4 F_Map___init__ [] (fCons (fMakeO 0 1 F_Island___init__ [] (fCons (fV 2) (fNil))) (fCons (fC (.str ".")) (fCons (fTup (fCons (fC (.int 0)) (fNil))) (fCons (fTup (fNil)) (fNil))))))) (fConsN (fVN (fCall 1 F__law_cells [] (fCons (fV 2) (fNil)))) (fNilN))))
  (fSeq (fPar3 5 6 7 (fConsN (fVN (fMakeC 3 3 F_Search___init__ [] (fCons (fV 3) (fCons (fTup (fCons (fC (.str "plain")) (fNil))) (fCons (f2S kIx (fV 4) (fC (.int 0))) (fNil)))))) (fConsN (fVN (fNC (fOl (fNil)))) (fConsN (fVN (fNC (fOl (fNil)))) (fNilN)))))
  (fSeq (fPar2 8 9 (fConsN (fVN (fTup (fCons (f2S kIx (fV 4) (fC (.int 0))) (fCons (fC (.int 0)) (fNil))))) (fConsN (fVN (fNF ((fun _ S => .ok (.od false [] []) S)))) (fNilN))))
  (fSeq (fFor (fRng1 (fCons (fC (.int 20)) (fNil))) (gV 10)
  (fSeq (fAsg (gTupD 4 (gConsD (gV 11) (gConsD (gV 12) (gConsD (gV 13) (gConsD (gV 14) (gNilD)))))) (fTup (fCons (fCall 2 F__law_next [] (fCons (fV 1) (fCons (fC (.int 7)) (fNil)))) (fCons (fC .non) (fCons (fV 9) (fCons (fTup (fNil)) (fNil)))))))
  (fSeq (fIfS (f2 kLt (fV 11) (fC (.int 2)))
  (fSeq (fSet 15 (f2S kIx (fV 4) (fCall 2 F__law_next [] (fCons (fV 1) (fCons (fCB kLen (fCons (fV 4) (fNil))) (fNil))))))
  (fSeq (fSet 16 (f2 kAdd (fCB kAbs (fCons (f2 kSub (f2S kIx (fV 15) (fC (.int 0))) (f2S kIx (f2S kIx (fV 8) (fC (.int 0))) (fC (.int 0)))) (fNil))) (fCB kAbs (fCons (f2 kSub (f2S kIx (fV 15) (fC (.int 1))) (f2S kIx (f2S kIx (fV 8) (fC (.int 0))) (fC (.int 1)))) (fNil)))))
  (fAsg (gTupD 4 (gConsD (gV 17) (gConsD (gV 18) (gConsD (gV 12) (gConsD (gV 14) (gNilD)))))) (fTup (fCons (fMeth 3 1 F_Search_walk (fV 5) (fCons (fV 15) (fNil))) (fCons (fV 16) (fCons (fTup (fCons (fV 15) (fCons (f2 kAdd (f2S kIx (fV 8) (fC (.int 1))) (fV 16)) (fNil)))) (fCons (fTup (fCons (fC (.str "walk")) (fCons (fV 15) (fNil)))) (fNil)))))))))
  (fIfS (f2 kEq (fV 11) (fC (.int 2)))
  (fSeq (fSet 19 (f2S kIx (fNF (fOl (fCons (fC (.str "a")) (fCons (fC (.str "b")) (fNil))))) (fCall 2 F__law_next [] (fCons (fV 1) (fCons (fC (.int 2)) (fNil))))))
  (fSeq (fPar2 17 18 (fConsN (fVN (fMeth 3 1 F_Search_mark (fV 5) (fCons (fV 19) (fNil)))) (fConsN (fVN (f2 kDin (fV 19) (fV 9))) (fNilN))))
  (fSeq (fPar2 12 14 (fConsN (fVN (fV 8)) (fConsN (fVN (fTup (fCons (fC (.str "mark")) (fCons (fV 19) (fNil))))) (fNilN))))
  (fSet 13 (fCB kDictP (fCons (f2 kAdd (fItems (fV 9)) (fNF (fOl (fCons (fTup (fCons (fV 19) (fCons (fV 8) (fNil)))) (fNil))))) (fNil)))))))
  (fIfS (fAnd (f2 kEq (fV 11) (fC (.int 3))) (fEmpD true (fV 9)))
  (fSeq (fSet 19 (f2S kIx (fCB kSrtA (fCons (fV 9) (fNil))) (fCall 2 F__law_next [] (fCons (fV 1) (fCons (fCB kLen (fCons (fV 9) (fNil))) (fNil))))))
  (fSeq (fPar2 17 18 (fConsN (fVN (fMeth 3 1 F_Search_go (fV 5) (fCons (fV 19) (fNil)))) (fConsN (fVN (fCB kLen (fCons (fV 4) (fNil)))) (fNilN))))
  (fPar2 12 14 (fConsN (fVN (f2 kDget (fV 9) (fV 19))) (fConsN (fVN (fTup (fCons (fC (.str "go")) (fCons (fV 19) (fNil))))) (fNilN))))))
  (fIfS (f2 kLt (fV 11) (fC (.int 5)))
  (fSeq (fPar2 17 18 (fConsN (fVN (fMeth 3 0 F_Search_undo (fV 5) fNil)) (fConsN (fVN (fEmp true (fV 6))) (fNilN))))
  (fIfS (fV 18)
  (fSeq (fAppC (fV 7) (fTup (fCons (fV 8) (fCons (fV 9) (fCons (f2S kIx (f2S kIx (fV 6) (fNeg (fC (.int 1)))) (fC (.int 2))) (fNil))))))
  (fAsg (gTupD 3 (gConsD (gV 8) (gConsD (gV 9) (gConsD (gV 14) (gNilD))))) (fPopC (fV 6))))
  (fNext)))
  (fSeq (fPar2 17 18 (fConsN (fVN (fMeth 3 0 F_Search_redo (fV 5) fNil)) (fConsN (fVN (fEmp true (fV 7))) (fNilN))))
  (fIfS (fV 18)
  (fSeq (fAppC (fV 6) (fTup (fCons (fV 8) (fCons (fV 9) (fCons (f2S kIx (f2S kIx (fV 7) (fNeg (fC (.int 1)))) (fC (.int 2))) (fNil))))))
  (fAsg (gTupD 3 (gConsD (gV 8) (gConsD (gV 9) (gConsD (gV 14) (gNilD))))) (fPopC (fV 7))))
  (fNext)))))))
  (fSeq (fIfS (f2 kNotN (fV 12) (fC .non))
  (fSeq (fAppC (fV 6) (fTup (fCons (fV 8) (fCons (fV 9) (fCons (fV 14) (fNil))))))
  (fPar3 8 9 7 (fConsN (fVN (fV 12)) (fConsN (fVN (fV 13)) (fConsN (fVN (fNC (fOl (fNil)))) (fNilN))))))
  (fNext))
  (fSeq (fSet 20 (fNF (fOl (fCons (fV 17) (fCons (fProp 3 F_Search_here (fV 5)) (fCons (fProp 3 F_Search_paces_walked (fV 5)) (fCons (fProp 3 F_Search_marks (fV 5)) (fCons (fProp 3 F_Search_history (fV 5)) (fNil)))))))))
  (fIfS (fNot (fCall 2 (F__law_alike 8) [] (fCons (fV 20) (fCons (fNF (fOl (fCons (fV 18) (fCons (f2S kIx (fV 8) (fC (.int 0))) (fCons (f2S kIx (fV 8) (fC (.int 1))) (fCons (fCB kSrtA (fCons (fV 9) (fNil))) (fCons (fNF (fLc (fICell (fV 6)) [21] (gV 21) (fYes) (f2S kIx (fV 21) (fC (.int 2))))) (fNil)))))))) (fNil)))))
  (fRet (fC (.bl false)))
  (fNext)))))))
  (fRet (fC (.bl true))))))))
def F_law : FD := fBody 22 1 B_law
theorem fn_law (T : Txt K mg G) {f : Addr} {fd : FuncData} (F : Fun K "law" "law" s_law f fd) : FnOk P w K mg base (L2.CX P w) 10 f fd ["_law_script"] (spD G 1 F_law) :=
  def_ok F sc_law (fun cdv A outer s H E hr => css_cons (cs_set (i := 1) sc_law.nd (by rfl) (by first | exact Or.inl rfl | exact Or.inr rfl) (ce_call (ok__law_mix T) (hr.mono (by omega)) (by exact takesD) (by rfl) (ca_cons (ce_v 0) (ca_cons (ce_int) (ca_nil)))))
    (css_cons (cs_set (i := 2) sc_law.nd (by rfl) (by first | exact Or.inl rfl | exact Or.inr rfl) (ce_callTy call_tuple_of (sem_tupOf T.hK) (by rfl) T.b_tuple (cab_cons (PE.b (ce_rep (PE.b (ce_frzN (cn_lst (ca_cons (ce_mulS (PE.b (ce_str)) (PE.b (ce_add (PE.b (ce_int)) (PE.b (ce_call (ok__law_next T) (hr.mono (by omega)) (by exact takesD) (by rfl) (ca_cons (ce_v 1) (ca_cons (ce_int) (ca_nil)))))))) (ca_nil))))) (PE.b (ce_add (PE.b (ce_int)) (PE.b (ce_call (ok__law_next T) (hr.mono (by omega)) (by exact takesD) (by rfl) (ca_cons (ce_v 1) (ca_cons (ce_int) (ca_nil))))))))) (cab_nil))))
    (css_cons (cs_par2 (by rfl) sc_law.nd (by rfl) (by rfl) (by decide) (by rfl) (by rfl) (can_cons (cn_v (ce_makeO (ok_Map___init__ T) (hr.mono (by omega)) (by exact takesD) (by rfl) (ca_cons (ce_makeO (ok_Island___init__ T) (hr.mono (by omega)) (by exact takesD) (by rfl) (ca_cons (ce_v 2) (ca_nil))) (ca_cons (ce_str) (ca_cons (ce_tup (ca_cons (ce_int) (ca_nil))) (ca_cons (ce_tup (ca_nil)) (ca_nil))))))) (can_cons (cn_v (ce_call (ok__law_cells T) (hr.mono (by omega)) (by exact takesD) (by rfl) (ca_cons (ce_v 2) (ca_nil)))) (can_nil))))
    (css_cons (cs_par3 (by rfl) sc_law.nd (by rfl) (by rfl) (by rfl) (by decide) (by decide) (by decide) (by rfl) (by rfl) (by rfl) (can_cons (cn_v (ce_makeC (ok_Search___init__ T) (hr.mono (by omega)) (by exact takesD) (by rfl) (ca_cons (ce_v 3) (ca_cons (ce_tup (ca_cons (ce_str) (ca_nil))) (ca_cons (ce_ix T.hK (PE.b (ce_v 4)) (PE.b (ce_int))) (ca_nil)))))) (can_cons (cn_v (ce_celN (cn_lst (ca_nil)))) (can_cons (cn_v (ce_celN (cn_lst (ca_nil)))) (can_nil)))))
    (css_cons (cs_par2 (by rfl) sc_law.nd (by rfl) (by rfl) (by decide) (by rfl) (by rfl) (can_cons (cn_v (ce_tup (ca_cons (ce_ix T.hK (PE.b (ce_v 4)) (PE.b (ce_int))) (ca_cons (ce_int) (ca_nil))))) (can_cons (cn_v (ce_frzN (cn_dK))) (can_nil))))
    (css_cons (cs_for (by exact passesD) (by rfl) (ci_range1 (by rfl) T.b_range (ca_cons (ce_int) (ca_nil))) (cg_name (i := 10) sc_law.nd (by rfl) (by first | exact Or.inl rfl | exact Or.inr rfl))
    (css_cons (cs_asg (cg_tup T.hK (by rfl) (cgs_cons (cg_name (i := 11) sc_law.nd (by rfl) (by first | exact Or.inl rfl | exact Or.inr rfl)) (cgs_cons (cg_name (i := 12) sc_law.nd (by rfl) (by first | exact Or.inl rfl | exact Or.inr rfl)) (cgs_cons (cg_name (i := 13) sc_law.nd (by rfl) (by first | exact Or.inl rfl | exact Or.inr rfl)) (cgs_cons (cg_name (i := 14) sc_law.nd (by rfl) (by first | exact Or.inl rfl | exact Or.inr rfl)) (cgs_nil)))))) (ce_tup (ca_cons (ce_call (ok__law_next T) (hr.mono (by omega)) (by exact takesD) (by rfl) (ca_cons (ce_v 1) (ca_cons (ce_int) (ca_nil)))) (ca_cons (ce_non) (ca_cons (ce_v 9) (ca_cons (ce_tup (ca_nil)) (ca_nil)))))))
    (css_cons (cs_if (ct_cmp op_lt sem_lt (PE.b (ce_v 11)) (PE.b (ce_int)) (nomark _))
    (css_cons (cs_set (i := 15) sc_law.nd (by rfl) (by first | exact Or.inl rfl | exact Or.inr rfl) (ce_ix T.hK (PE.b (ce_v 4)) (PE.b (ce_call (ok__law_next T) (hr.mono (by omega)) (by exact takesD) (by rfl) (ca_cons (ce_v 1) (ca_cons (ce_callB call_lenAll (sem_len T.hK) (by rfl) T.b_len (cab_cons (PE.b (ce_v 4)) (cab_nil))) (ca_nil)))))))
    (css_cons (cs_set (i := 16) sc_law.nd (by rfl) (by first | exact Or.inl rfl | exact Or.inr rfl) (ce_add (PE.b (ce_callB call_abs (sem_abs) (by rfl) T.b_abs (cab_cons (PE.b (ce_sub (PE.b (ce_ix T.hK (PE.b (ce_v 15)) (PE.b (ce_int)))) (PE.b (ce_ix T.hK (PE.b (ce_ix T.hK (PE.b (ce_v 8)) (PE.b (ce_int)))) (PE.b (ce_int)))))) (cab_nil)))) (PE.b (ce_callB call_abs (sem_abs) (by rfl) T.b_abs (cab_cons (PE.b (ce_sub (PE.b (ce_ix T.hK (PE.b (ce_v 15)) (PE.b (ce_int)))) (PE.b (ce_ix T.hK (PE.b (ce_ix T.hK (PE.b (ce_v 8)) (PE.b (ce_int)))) (PE.b (ce_int)))))) (cab_nil))))))
    (css_one (cs_asg (cg_tup T.hK (by rfl) (cgs_cons (cg_name (i := 17) sc_law.nd (by rfl) (by first | exact Or.inl rfl | exact Or.inr rfl)) (cgs_cons (cg_name (i := 18) sc_law.nd (by rfl) (by first | exact Or.inl rfl | exact Or.inr rfl)) (cgs_cons (cg_name (i := 12) sc_law.nd (by rfl) (by first | exact Or.inl rfl | exact Or.inr rfl)) (cgs_cons (cg_name (i := 14) sc_law.nd (by rfl) (by first | exact Or.inl rfl | exact Or.inr rfl)) (cgs_nil)))))) (ce_tup (ca_cons (ce_meth 3 (ok_Search_walk T) T.c_Search (by rw [T.fs_Search]; decide) (hr.mono (by omega)) (by exact takesD) (ce_v 5) (ca_cons (ce_v 15) (ca_nil))) (ca_cons (ce_v 16) (ca_cons (ce_tup (ca_cons (ce_v 15) (ca_cons (ce_add (PE.b (ce_ix T.hK (PE.b (ce_v 8)) (PE.b (ce_int)))) (PE.b (ce_v 16))) (ca_nil)))) (ca_cons (ce_tup (ca_cons (ce_str) (ca_cons (ce_v 15) (ca_nil)))) (ca_nil))))))))))
    (css_one (cs_if (ct_cmp (op_eqD (hU64 hr)) (sem_eq T.hK) (PE.b (ce_v 11)) (PE.b (ce_int)) (nomark _))
    (css_cons (cs_set (i := 19) sc_law.nd (by rfl) (by first | exact Or.inl rfl | exact Or.inr rfl) (ce_ix T.hK (PE.b (ce_frzN (cn_lst (ca_cons (ce_str) (ca_cons (ce_str) (ca_nil)))))) (PE.b (ce_call (ok__law_next T) (hr.mono (by omega)) (by exact takesD) (by rfl) (ca_cons (ce_v 1) (ca_cons (ce_int) (ca_nil)))))))
    (css_cons (cs_par2 (by rfl) sc_law.nd (by rfl) (by rfl) (by decide) (by rfl) (by rfl) (can_cons (cn_v (ce_meth 3 (ok_Search_mark T) T.c_Search (by rw [T.fs_Search]; decide) (hr.mono (by omega)) (by exact takesD) (ce_v 5) (ca_cons (ce_v 19) (ca_nil)))) (can_cons (cn_v (ce_din (hU1 hr) (ce_v 19) (PE.b (ce_v 9)))) (can_nil))))
    (css_cons (cs_par2 (by rfl) sc_law.nd (by rfl) (by rfl) (by decide) (by rfl) (by rfl) (can_cons (cn_v (ce_v 8)) (can_cons (cn_v (ce_tup (ca_cons (ce_str) (ca_cons (ce_v 19) (ca_nil))))) (can_nil))))
    (css_one (cs_set (i := 13) sc_law.nd (by rfl) (by first | exact Or.inl rfl | exact Or.inr rfl) (ce_dictP (by rfl) (by rfl) T.b_dict (cab_cons (PE.b (ce_add (PE.b (ce_items (by rfl) (by rfl) T.b_list (PE.b (ce_v 9)))) (PE.b (ce_frzN (cn_lst (ca_cons (ce_tup (ca_cons (ce_v 19) (ca_cons (ce_v 8) (ca_nil)))) (ca_nil))))))) (cab_nil))))))))
    (css_one (cs_if (PW.pt (cw_and (ct_cmp (op_eqD (hU64 hr)) (sem_eq T.hK) (PE.b (ce_v 11)) (PE.b (ce_int)) (nomark _)) (cw_and1 (ct_neEmpD (hU0 hr) (PE.b (ce_v 9))))))
    (css_cons (cs_set (i := 19) sc_law.nd (by rfl) (by first | exact Or.inl rfl | exact Or.inr rfl) (ce_ix T.hK (PE.b (ce_callB (call_srtA (by rfl) (hU32 hr)) (sem_srtA T.hK) (by rfl) T.b_sorted (cab_cons (PE.b (ce_v 9)) (cab_nil)))) (PE.b (ce_call (ok__law_next T) (hr.mono (by omega)) (by exact takesD) (by rfl) (ca_cons (ce_v 1) (ca_cons (ce_callB call_lenAll (sem_len T.hK) (by rfl) T.b_len (cab_cons (PE.b (ce_v 9)) (cab_nil))) (ca_nil)))))))
    (css_cons (cs_par2 (by rfl) sc_law.nd (by rfl) (by rfl) (by decide) (by rfl) (by rfl) (can_cons (cn_v (ce_meth 3 (ok_Search_go T) T.c_Search (by rw [T.fs_Search]; decide) (hr.mono (by omega)) (by exact takesD) (ce_v 5) (ca_cons (ce_v 19) (ca_nil)))) (can_cons (cn_v (ce_callB call_lenAll (sem_len T.hK) (by rfl) T.b_len (cab_cons (PE.b (ce_v 4)) (cab_nil)))) (can_nil))))
    (css_one (cs_par2 (by rfl) sc_law.nd (by rfl) (by rfl) (by decide) (by rfl) (by rfl) (can_cons (cn_v (ce_dget (hU1 hr) (PE.b (ce_v 9)) (ce_v 19))) (can_cons (cn_v (ce_tup (ca_cons (ce_str) (ca_cons (ce_v 19) (ca_nil))))) (can_nil)))))))
    (css_one (cs_if (ct_cmp op_lt sem_lt (PE.b (ce_v 11)) (PE.b (ce_int)) (nomark _))
    (css_cons (cs_par2 (by rfl) sc_law.nd (by rfl) (by rfl) (by decide) (by rfl) (by rfl) (can_cons (cn_v (ce_meth0 3 (ok_Search_undo T) T.c_Search (by rw [T.fs_Search]; decide) (hr.mono (by omega)) (by exact takesD) (ce_v 5))) (can_cons (cn_v (ce_neEmp T.hK (hU64 hr) (PE.b (ce_v 6)))) (can_nil))))
    (css_one (cs_if (ct_v (ce_v 18))
    (css_cons (cs_appC (ce_v 7) (ce_tup (ca_cons (ce_v 8) (ca_cons (ce_v 9) (ca_cons (ce_ix T.hK (PE.b (ce_ix T.hK (PE.b (ce_v 6)) (PE.b (ce_negN (ce_int))))) (PE.b (ce_int))) (ca_nil))))))
    (css_one (cs_asg (cg_tup T.hK (by rfl) (cgs_cons (cg_name (i := 8) sc_law.nd (by rfl) (by first | exact Or.inl rfl | exact Or.inr rfl)) (cgs_cons (cg_name (i := 9) sc_law.nd (by rfl) (by first | exact Or.inl rfl | exact Or.inr rfl)) (cgs_cons (cg_name (i := 14) sc_law.nd (by rfl) (by first | exact Or.inl rfl | exact Or.inr rfl)) (cgs_nil))))) (ce_popC (ce_v 6)))))
    (css_nil))))
    (css_cons (cs_par2 (by rfl) sc_law.nd (by rfl) (by rfl) (by decide) (by rfl) (by rfl) (can_cons (cn_v (ce_meth0 3 (ok_Search_redo T) T.c_Search (by rw [T.fs_Search]; decide) (hr.mono (by omega)) (by exact takesD) (ce_v 5))) (can_cons (cn_v (ce_neEmp T.hK (hU64 hr) (PE.b (ce_v 7)))) (can_nil))))
    (css_one (cs_if (ct_v (ce_v 18))
    (css_cons (cs_appC (ce_v 6) (ce_tup (ca_cons (ce_v 8) (ca_cons (ce_v 9) (ca_cons (ce_ix T.hK (PE.b (ce_ix T.hK (PE.b (ce_v 7)) (PE.b (ce_negN (ce_int))))) (PE.b (ce_int))) (ca_nil))))))
    (css_one (cs_asg (cg_tup T.hK (by rfl) (cgs_cons (cg_name (i := 8) sc_law.nd (by rfl) (by first | exact Or.inl rfl | exact Or.inr rfl)) (cgs_cons (cg_name (i := 9) sc_law.nd (by rfl) (by first | exact Or.inl rfl | exact Or.inr rfl)) (cgs_cons (cg_name (i := 14) sc_law.nd (by rfl) (by first | exact Or.inl rfl | exact Or.inr rfl)) (cgs_nil))))) (ce_popC (ce_v 7)))))
    (css_nil)))))))))))
    (css_cons (cs_if (ct_cmp op_notN sem_notN (PE.b (ce_v 12)) (PE.b ce_non) (nomark _))
    (css_cons (cs_appC (ce_v 6) (ce_tup (ca_cons (ce_v 8) (ca_cons (ce_v 9) (ca_cons (ce_v 14) (ca_nil))))))
    (css_one (cs_par3 (by rfl) sc_law.nd (by rfl) (by rfl) (by rfl) (by decide) (by decide) (by decide) (by rfl) (by rfl) (by rfl) (can_cons (cn_v (ce_v 12)) (can_cons (cn_v (ce_v 13)) (can_cons (cn_v (ce_celN (cn_lst (ca_nil)))) (can_nil)))))))
    (css_nil))
    (css_cons (cs_set (i := 20) sc_law.nd (by rfl) (by first | exact Or.inl rfl | exact Or.inr rfl) (ce_frzN (cn_lst (ca_cons (ce_v 17) (ca_cons (ce_prop 3 (ok_Search_here T) T.c_Search (hr.mono (by omega)) (ce_v 5)) (ca_cons (ce_prop 3 (ok_Search_paces_walked T) T.c_Search (hr.mono (by omega)) (ce_v 5)) (ca_cons (ce_prop 3 (ok_Search_marks T) T.c_Search (hr.mono (by omega)) (ce_v 5)) (ca_cons (ce_prop 3 (ok_Search_history T) T.c_Search (hr.mono (by omega)) (ce_v 5)) (ca_nil)))))))))
    (css_one (cs_if (ct_not (ct_v (ce_call (ok__law_alike T 8) (hr.mono (by omega)) (by exact takesD) (by rfl) (ca_cons (ce_v 20) (ca_cons (ce_frzN (cn_lst (ca_cons (ce_v 18) (ca_cons (ce_ix T.hK (PE.b (ce_v 8)) (PE.b (ce_int))) (ca_cons (ce_ix T.hK (PE.b (ce_v 8)) (PE.b (ce_int))) (ca_cons (ce_callB (call_srtA (by rfl) (hU32 hr)) (sem_srtA T.hK) (by rfl) T.b_sorted (cab_cons (PE.b (ce_v 9)) (cab_nil))) (ca_cons (ce_frzN (cn_lc (by rfl) sc_law.nd (ci_cell (ce_v 6)) (own := [("_law_row", 21)]) (blkOk_by (N := N_law) (sc := defScope s_law) (by decide +kernel)) (fun _ _ _ _ _ => cgw_name (i := 21) sc_law.nd (by rfl) (by first | exact Or.inl rfl | exact Or.inr rfl) (by decide)) (fun _ _ _ _ _ => cts_nil) (fun _ _ _ _ _ => ce_ix T.hK (PE.b (ce_v 21)) (PE.b (ce_int))))) (ca_nil)))))))) (ca_nil))))))
    (css_one (cs_ret (ce_bl)))
    (css_nil))))))))
    (css_one (cs_ret (ce_bl)))))))))
end
end L97
end
section
set_option Elab.async false
set_option linter.all false
set_option maxRecDepth 100000
set_option maxHeartbeats 4000000
namespace L97
open PySem L2 Dl
/-- the law's draws: the script's cells and the hash -/
structure Draw (xs : List Int) (S : Sto) : Prop where
  c0 : S[0]? = some (.lst (xs.map .int))
  c1 : ∃ st k, S[1]? = some (.lst [.int st, .cell 0, .int k])
theorem ixN_mod {n : Nat} {k : Int} (h : 0 < n) : ixN n (k % (n : Int)) = some (k % (n : Int)).toNat := by
  unfold ixN
  have h1 : 0 ≤ k % (n : Int) := Int.emod_nonneg _ (by omega)
  have h2 : k % (n : Int) < n := Int.emod_lt_of_pos _ (by omega)
  rw [if_pos h1, if_pos h2]
theorem kmod {i j : Int} (h : 0 < j) : kMod (.int i) (.int j) = some (.int (i % j)) := by simp [kMod, kI, h]
theorem kdiv {i j : Int} (h : 0 < j) (h2 : j < 1073741824) : kDiv (.int i) (.int j) = some (.int (i / j)) := by simp [kDiv, kI, h, h2]
theorem kmulR {i j : Int} (h : -18446744073709551616 < j ∧ j < 18446744073709551616) : kMul (.int i) (.int j) = some (.int (i * j)) := by
  show (if _ then _ else _) = _
  rw [if_pos (.inr h)]
theorem next_ok {xs : List Int} {S : Sto} {L : Int} (h : Draw xs S) (hx : xs.length ≤ 63) (hL : 0 < L ∧ L < 1000) :
    ∃ r ys S', F__law_next [.cell 1, .int L] S = .ok (.int r) S' ∧ 0 ≤ r ∧ r < L ∧ Draw ys S' ∧ ys.length = xs.length ∧ S'.length = S.length ∧ ∀ i, 2 ≤ i → S'[i]? = S[i]? := by
  obtain ⟨c0, st, k, c1⟩ := h
  have l1 : 1 < S.length := (List.getElem?_eq_some_iff.mp c1).1
  have hz : szOk ((xs.map D.int).length + 1) = true := decide_eq_true (by rw [List.length_map]; omega)
  -- the index and the cell
  obtain ⟨m, hm, hm1⟩ : ∃ m : Nat, kMax S [.int 1, .int (xs.map D.int).length] = some (.int m) ∧ 0 < m ∧ m ≤ xs.length + 1 ∧ (0 < xs.length → m = xs.length) := by
    rw [List.length_map]
    by_cases h1 : 1 < xs.length
    · exact ⟨xs.length, by simp [kMax]; omega, by omega, by omega, fun _ => rfl⟩
    · exact ⟨1, by simp [kMax]; omega, by omega, by omega, fun _ => by omega⟩
  have hmi : (k % (m : Int)).toNat < xs.length + 1 := by
    have h1 : 0 ≤ k % (m : Int) := Int.emod_nonneg _ (by omega)
    have h2 : k % (m : Int) < m := Int.emod_lt_of_pos _ (by omega)
    omega
  obtain ⟨c, hc⟩ : ∃ c : Int, kIx S (.lst (xs.map D.int ++ [.int 0])) (.int (k % (m : Int))) = some (.int c) ∧ ((xs = [] → c = 0)) := by
    have h1 : 0 ≤ k % (m : Int) := Int.emod_nonneg _ (by omega)
    have h2 : k % (m : Int) < m := Int.emod_lt_of_pos _ (by omega)
    have e1 : xs.map D.int ++ [.int 0] = (xs ++ [0]).map D.int := by simp
    have hl : ((xs ++ [0]).map D.int).length = xs.length + 1 := by simp
    have hi : (k % (m : Int)).toNat < (xs ++ [0]).length := by simp; omega
    refine ⟨(xs ++ [0])[(k % (m : Int)).toNat], ?_, fun e => ?_⟩
    · rw [e1]
      show (some ((xs ++ [0]).map D.int)).bind (fun ds => atI ds (k % (m : Int))) = _
      show atI ((xs ++ [0]).map D.int) (k % (m : Int)) = _
      unfold atI ixN
      rw [hl, if_pos h1, if_pos (by omega)]
      show ((xs ++ [0]).map D.int)[(k % (m : Int)).toNat]? = _
      rw [List.getElem?_map, List.getElem?_eq_getElem hi]
      rfl
    · subst e
      simp
  have i1 : kIx S (.cell 1) (.int 1) = some (.cell 0) := by simp [kIx, seqD, c1, atI, ixN]
  have i0 : kIx S (.cell 1) (.int 0) = some (.int st) := by simp [kIx, seqD, c1, atI, ixN]
  have i2 : kIx S (.cell 1) (.int 2) = some (.int k) := by simp [kIx, seqD, c1, atI, ixN]
  have iadd : kAddC S (.cell 0) (.lst [.int 0]) = some (.lst (xs.map D.int ++ [.int 0])) := by
    simp only [kAddC, c0]
    rw [if_pos (by exact hz)]
  have ilen : kLen S [.cell 0] = some (.int (xs.map D.int).length) := by simp only [kLen, c0]
  have first : ∀ ρ : Dl.Env, ρ[0]? = some (.v (.cell 1)) → ρ[1]? = some (.v (.int L)) → fSet 2 (f2S kIx (f2S kAddC (f2S kIx (fV 0) (fC (.int 1))) (fNF (fOl (fCons (fC (.int 0)) (fNil))))) (f2 kMod (fCB kInt1 (fCons (f2S kIx (fV 0) (fC (.int 2))) (fNil))) (fCB kMax (fCons (fC (.int 1)) (fCons (fCB kLen (fCons (f2S kIx (fV 0) (fC (.int 1))) (fNil))) (fNil)))))) ρ S = .nx (ρ.set 2 (.v (.int c))) S := fun ρ h0 h1 =>
    ev_set (ev_f2S (ev_f2S (ev_f2S (ev_v h0) ev_c i1) (ev_nf_ol (ev_ol (ev_cons ev_c ev_nil) rfl)) iadd)
      (ev_f2 (ev_cb (ev_cons (ev_f2S (ev_v h0) ev_c i2) ev_nil) rfl) (ev_cb (ev_cons ev_c (ev_cons (ev_cb (ev_cons (ev_f2S (ev_v h0) ev_c i1) ev_nil) ilen) ev_nil)) hm) (kmod (by omega))) hc.1)
  by_cases big : (1000000000000000000 : Int) ≤ c
  · have hxs : 0 < xs.length := by
      rcases Nat.eq_zero_or_pos xs.length with z | z
      · have := hc.2 (List.length_eq_zero_iff.mp z); omega
      · exact z
    have hmx := hm1.2.2 hxs
    refine ⟨c % L, xs.set (k % (xs.length : Int)).toNat (c / L), S.set 0 (.lst ((xs.map D.int).set (k % (xs.length : Int)).toNat (.int (c / L)))), ?_, Int.emod_nonneg _ (by omega), Int.emod_lt_of_pos _ (by omega), ⟨?_, st, k, ?_⟩, by simp, by simp, fun i hi => ?_⟩
    · refine ev_body rfl (ev_seq (first _ rfl rfl) (ev_seqX (ev_ifT (ev_f2 (ev_v rfl) (ev_f2 (k := kPow) ev_c ev_c (z := .int 1000000000000000000) (by kernel_rfl)) (by simp [kGe, kI, big])) (ev_seq (ev_asg (ev_f2 (ev_v rfl) (ev_v rfl) (kdiv hL.1 (by omega)))
        (ev_gset (ev_f2S (ev_v rfl) ev_c i1) (ev_f2 (ev_cb (ev_cons (ev_f2S (ev_v rfl) ev_c i2) ev_nil) rfl) (ev_cb (ev_cons (ev_f2S (ev_v rfl) ev_c i1) ev_nil) ilen) (kmod (by rw [List.length_map]; omega))) c0 (by rw [List.length_map]; exact ixN_mod hxs)))
        (ev_ret (ev_f2 (ev_cb (ev_cons (ev_v rfl) ev_nil) rfl) (ev_v rfl) (kmod hL.1))))) (fun _ _ z => by cases z)))
    · rw [List.getElem?_set_self (by omega), List.map_set]
    · rw [List.getElem?_set_ne (by omega)]; exact c1
    · rw [List.getElem?_set_ne (by omega)]
  · have h3 : S.length = (S.set 1 (.lst ([D.int st, D.cell 0, D.int k].set 0 (.int ((st * 48271 + c * 69621 + 11) % 2147483647))))).length := by simp
    obtain ⟨st', hst⟩ : ∃ st', st' = (st * 48271 + c * 69621 + 11) % 2147483647 := ⟨_, rfl⟩
    let S1 : Sto := S.set 1 (.lst [.int st', .cell 0, .int k])
    have d1 : S1[1]? = some (.lst [.int st', .cell 0, .int k]) := List.getElem?_set_self l1
    have j0 : kIx S1 (.cell 1) (.int 0) = some (.int st') := by simp [kIx, seqD, d1, atI, ixN]
    have j2 : kIx S1 (.cell 1) (.int 2) = some (.int k) := by simp [kIx, seqD, d1, atI, ixN]
    let S2 : Sto := S1.set 1 (.lst [.int st', .cell 0, .int (k + 1)])
    have d2 : S2[1]? = some (.lst [.int st', .cell 0, .int (k + 1)]) := List.getElem?_set_self (by simp [S1]; exact l1)
    have k0 : kIx S2 (.cell 1) (.int 0) = some (.int st') := by simp [kIx, seqD, d2, atI, ixN]
    refine ⟨st' / 7 % L, xs, S2, ?_, Int.emod_nonneg _ (by omega), Int.emod_lt_of_pos _ (by omega), ⟨?_, st', k + 1, d2⟩, rfl, by simp [S2, S1], fun i hi => ?_⟩
    · refine ev_body rfl (ev_seq (first _ rfl rfl) (ev_seq (ev_ifF (ev_f2 (ev_v rfl) (ev_f2 (k := kPow) ev_c ev_c (z := .int 1000000000000000000) (by kernel_rfl)) (by simp [kGe, kI, big])) ev_next)
        (ev_seq (S' := S1) (ev_asg (ev_f2 (ev_cb (ev_cons (ev_f2 (ev_f2 (ev_f2 (ev_f2S (ev_v rfl) ev_c i0) ev_c (kmulR (by omega))) (ev_f2 (ev_v rfl) ev_c (kmulR (by omega))) rfl) ev_c rfl) ev_nil) rfl) ev_c (kmod (by omega)))
          (by rw [← hst]; exact ev_gset (j := 0) (x := 0) (ev_v (by rfl)) ev_c c1 (by rfl)))
        (ev_seq (S' := S2) (ev_asg (ev_f2 (ev_f2S (ev_v rfl) ev_c j2) ev_c rfl) (by exact ev_gset (j := 2) (x := 2) (ev_v (by rfl)) ev_c d1 (by rfl)))
        (ev_ret (ev_f2 (ev_cb (ev_cons (ev_f2 (ev_f2S (ev_v (by rfl)) ev_c k0) ev_c (kdiv (by omega) (by omega))) ev_nil) (by rfl)) (ev_v (by rfl)) (kmod hL.1)))))))
    · show ((S.set 1 _).set 1 _)[0]? = _
      rw [List.getElem?_set_ne (by omega), List.getElem?_set_ne (by omega)]; exact c0
    · show ((S.set 1 _).set 1 _)[i]? = _
      rw [List.getElem?_set_ne (by omega), List.getElem?_set_ne (by omega)]
end L97
end
section
set_option Elab.async false
set_option linter.all false
set_option maxRecDepth 100000
set_option maxHeartbeats 4000000
namespace L97
open PySem L2 Dl
theorem mix_loop : ∀ (xs : List Int) (a b u : Sl) (s : Int), -10 ≤ s → s < 2147483647 → ∃ s' u', forD (gV 3) (fSet 2 (f2 kMod (fCB kInt1 (fCons (f2 kAdd (f2 kAdd (f2 kMul (fV 2) (fC (.int 48271))) (f2 kMod (fCB kInt1 (fCons (fV 3) (fNil))) (fC (.int 2147483629)))) (fC (.int 1))) (fNil))) (fC (.int 2147483647)))) (xs.map .int) [a, b, .v (.int s), u] [] = .nx [a, b, .v (.int s'), u'] []
  | [], a, b, u, s, _, _ => ⟨s, u, rfl⟩
  | x :: xs, a, b, u, s, h1, h2 => by
    have m0 : (0 : Int) ≤ (s * 48271 + x % 2147483629 + 1) % 2147483647 := Int.emod_nonneg _ (by omega)
    have m1 : (s * 48271 + x % 2147483629 + 1) % 2147483647 < 2147483647 := Int.emod_lt_of_pos _ (by omega)
    obtain ⟨s', u', ih⟩ := mix_loop xs a b (.v (.int x)) ((s * 48271 + x % 2147483629 + 1) % 2147483647) (by omega) m1
    refine ⟨s', u', ?_⟩
    rw [List.map_cons, forD]
    have e : (fSet 2 (f2 kMod (fCB kInt1 (fCons (f2 kAdd (f2 kAdd (f2 kMul (fV 2) (fC (.int 48271))) (f2 kMod (fCB kInt1 (fCons (fV 3) (fNil))) (fC (.int 2147483629)))) (fC (.int 1))) (fNil))) (fC (.int 2147483647)))) [a, b, .v (.int s), .v (.int x)] [] = .nx [a, b, .v (.int ((s * 48271 + x % 2147483629 + 1) % 2147483647)), .v (.int x)] [] :=
      ev_set (ev_f2 (ev_cb (ev_cons (ev_f2 (ev_f2 (ev_f2 (ev_v rfl) ev_c (kmulR (by omega))) (ev_f2 (ev_cb (ev_cons (ev_v rfl) ev_nil) rfl) ev_c (kmod (by omega))) rfl) ev_c rfl) ev_nil) rfl) ev_c (kmod (by omega)))
    show (match (fSet 2 _) [a, b, .v (.int s), .v (.int x)] [] with | .nx ρ2 S2 => _ | .ct ρ2 S2 => _ | .bk ρ2 S2 => _ | r => r) = _
    rw [e]
    exact ih
theorem mix_ok (xs : List Int) : ∃ st, F__law_mix [.scr (xs.map .int), .int 97] [] = .ok (.cell 1) [.lst (xs.map .int), .lst [.int st, .cell 0, .int 0]] := by
  obtain ⟨s', u', h⟩ := mix_loop xs (.v (.scr (xs.map .int))) (.v (.int 97)) .un 97 (by omega) (by omega)
  refine ⟨s', ev_body rfl (ev_seq (ev_set (ev_v (by rfl))) (ev_seq (ρ' := [.v (.scr (xs.map .int)), .v (.int 97), .v (.int s'), u']) (S' := []) ?_ (ev_ret ?_)))⟩
  · show (RA.ok (xs.map D.int) []).bindS _ _ = _
    exact h
  · have e1 : fNC (fListOf (fV 0)) [.v (.scr (xs.map .int)), .v (.int 97), .v (.int s'), u'] [] = .ok (.cell 0) [.lst (xs.map .int)] := rfl
    exact ev_nc_ol (S1 := [.lst (xs.map .int)]) (ev_ol (ev_cons (ev_v rfl) (ev_cons e1 (ev_cons ev_c ev_nil))) rfl)
/-! ### _law_alike of a thing with itself -/
mutual
/-- plain data of that depth -/
def goodD : Nat → D → Bool
  | _, .bl _ => true
  | _, .int _ => true
  | n, .str x => datD n (.str x)
  | n + 1, .tup ds => goodDs n ds && decide (ds.length < 1000)
  | n + 1, .lst ds => goodDs n ds && decide (ds.length < 1000)
  | _, _ => false
def goodDs : Nat → List D → Bool
  | _, [] => true
  | n, d :: ds => goodD n d && goodDs n ds
end
theorem lcD_none {g : GD} {t f : FE} {ρ : Dl.Env} {S : Sto} {acc : List D} {i : Nat} : ∀ (ds : List D), g = gV i → (∀ d ∈ ds, t (ρ.set i (.v d)) S = .ok (.bl false) S) → lcD (fun _ => true) g t f ρ ds S acc = some (acc, S)
  | [], _, _ => rfl
  | d :: ds, hg, h => by
    have e := h d List.mem_cons_self
    subst hg
    show (if true = true then (match t (ρ.set i (.v d)) S with | .ok (.bl true) S2 => _ | .ok (.bl false) S2 => _ | _ => none) else none) = _
    rw [if_pos rfl, e]
    exact lcD_none ds rfl fun d' hd => h d' (List.mem_cons_of_mem _ hd)
theorem rngD_mem : ∀ {n : Nat} {lo : Int} {d : D}, d ∈ rngD lo n → ∃ i : Nat, i < n ∧ d = .int (lo + i)
  | 0, _, _, h => by cases h
  | n + 1, lo, d, h => by
    rcases List.mem_cons.mp h with rfl | h
    · exact ⟨0, by omega, by simp⟩
    · obtain ⟨i, h1, h2⟩ := rngD_mem h
      exact ⟨i + 1, by omega, by rw [h2]; congr 1; omega⟩
theorem goodDs_get : ∀ {n : Nat} {ds : List D} {i : Nat} (h : i < ds.length), goodDs n ds = true → goodD n ds[i] = true
  | n, d :: ds, 0, _, h => (Bool.and_eq_true_iff.mp (by rw [goodDs] at h; exact h)).1
  | n, d :: ds, i + 1, hi, h => goodDs_get (ds := ds) (by simpa using hi) (Bool.and_eq_true_iff.mp (by rw [goodDs] at h; exact h)).2
theorem alike_seq {A : FD} {S : Sto} {ds : List D} {d : D} (hd : d = .tup ds ∨ d = .lst ds) (hl : ds.length < 1000) (h : ∀ i (hi : i < ds.length), A [ds[i], ds[i]] S = .ok (.bl true) S) : fBody 3 2 (B__law_alike A) [d, d] S = .ok (.bl true) S := by
  have hix : ∀ i : Nat, (hi : i < ds.length) → kIx S d (.int (0 + (i : Int))) = some ds[i] := fun i hi => by
    rcases hd with rfl | rfl
    all_goals
      show (some ds).bind (fun ds => atI ds (0 + (i : Int))) = _
      show atI ds (0 + (i : Int)) = _
      unfold atI ixN
      rw [Int.zero_add, if_pos (by omega), if_pos (by omega)]
      show ds[(i : Int).toNat]? = _
      rw [Int.toNat_natCast, List.getElem?_eq_getElem hi]
  have hlen : kLen S [d] = some (.int ds.length) := by rcases hd with rfl | rfl <;> rfl
  have q1 : kIsi (.ty "dict") tb_dict noOwn S [d, .ty "dict"] = some (.bl false) := by rcases hd with rfl | rfl <;> kernel_rfl
  have q2 : kIsiT [.ty "tuple", .ty "list"] tb_tuple_list noOwn S [d, .tup [.ty "tuple", .ty "list"]] = some (.bl true) := by rcases hd with rfl | rfl <;> kernel_rfl
  obtain ⟨b, q3⟩ : ∃ b, kIsi (.ty "list") tb_list noOwn S [d, .ty "list"] = some (.bl b) := by
    rcases hd with rfl | rfl
    · exact ⟨false, by kernel_rfl⟩
    · exact ⟨true, by kernel_rfl⟩
  have q4 : kNe (.bl b) (.bl b) = some (.bl false) := by cases b <;> kernel_rfl
  have q5 : kNe (.int ds.length) (.int ds.length) = some (.bl false) := by simp [kNe, dat, datD, eqP]
  have tt : ∀ ρ : Dl.Env, fTup (fCons (fun _ S => .ok (.ty "tuple") S) (fCons (fun _ S => .ok (.ty "list") S) fNil)) ρ S = .ok (.tup [.ty "tuple", .ty "list"]) S := fun _ => rfl
  refine ev_body rfl (ev_seq (ev_ifF (ev_cb (ev_cons (ev_v (by rfl)) (ev_cons (by rfl) ev_nil)) q1) ev_next) (ev_seqX (ev_ifT (ev_cb (ev_cons (ev_v (by rfl)) (ev_cons (tt _) ev_nil)) q2)
    (ev_seq (ev_ifF (ev_orF (ev_not (ev_cb (ev_cons (ev_v (by rfl)) (ev_cons (tt _) ev_nil)) q2)) (ev_f2 (ev_cb (ev_cons (ev_v (by rfl)) (ev_cons (by rfl) ev_nil)) q3) (ev_cb (ev_cons (ev_v (by rfl)) (ev_cons (by rfl) ev_nil)) q3) q4)) ev_next)
    (ev_seq (ev_ifF (ev_f2 (ev_cb (ev_cons (ev_v (by rfl)) ev_nil) hlen) (ev_cb (ev_cons (ev_v (by rfl)) ev_nil) hlen) q5) ev_next)
    (ev_ret (ev_emp_l (ds := []) (ev_nf_ol (ev_lc (S1 := S) (c := fun _ => true) (ds := rngD 0 ds.length) ?_ (lcD_none _ rfl fun z hz => ?_)))))))) (fun _ _ z => by cases z)))
  · have e : fRng1 (fCons (fCB kLen (fCons (fV 1) fNil)) fNil) (start0 3 2 [d, d]) S = .ok (rngD 0 ds.length) S := by
      have e0 : fCons (fCB kLen (fCons (fV 1) fNil)) fNil (start0 3 2 [d, d]) S = .ok [.int ds.length] S := ev_cons (ev_cb (ev_cons (ev_v (by rfl)) ev_nil) hlen) ev_nil
      simp only [fRng1, e0, RA.bindA]
      rw [if_pos (by omega)]
      rfl
    simp only [fIC, e]
  · obtain ⟨i, hi, rfl⟩ := rngD_mem hz
    exact ev_not (b := true) (ev_call (ev_cons (ev_f2S (ev_v (by rfl)) (ev_v (by rfl)) (hix i hi)) (ev_cons (ev_f2S (ev_v (by rfl)) (ev_v (by rfl)) (hix i hi)) ev_nil)) rfl (h i hi))
theorem alike_int {A : FD} {S : Sto} {d : D} (hd : (∃ b, d = .bl b) ∨ ∃ i, d = .int i) : fBody 3 2 (B__law_alike A) [d, d] S = .ok (.bl true) S := by
  have q1 : kIsi (.ty "dict") tb_dict noOwn S [d, .ty "dict"] = some (.bl false) := by rcases hd with ⟨_, rfl⟩ | ⟨_, rfl⟩ <;> kernel_rfl
  have q2 : kIsiT [.ty "tuple", .ty "list"] tb_tuple_list noOwn S [d, .tup [.ty "tuple", .ty "list"]] = some (.bl false) := by rcases hd with ⟨_, rfl⟩ | ⟨_, rfl⟩ <;> kernel_rfl
  have q3 : kIsi (.ty "str") tb_str noOwn S [d, .ty "str"] = some (.bl false) := by rcases hd with ⟨_, rfl⟩ | ⟨_, rfl⟩ <;> kernel_rfl
  have q4 : kIsi (.ty "int") tb_int noOwn S [d, .ty "int"] = some (.bl true) := by rcases hd with ⟨_, rfl⟩ | ⟨_, rfl⟩ <;> kernel_rfl
  obtain ⟨b, q5⟩ : ∃ b, kIsi (.ty "bool") tb_bool noOwn S [d, .ty "bool"] = some (.bl b) := by
    rcases hd with ⟨_, rfl⟩ | ⟨_, rfl⟩
    · exact ⟨true, by kernel_rfl⟩
    · exact ⟨false, by kernel_rfl⟩
  have q6 : kEq (.bl b) (.bl b) = some (.bl true) := by cases b <;> kernel_rfl
  have q7 : kEq d d = some (.bl true) := by rcases hd with ⟨_, rfl⟩ | ⟨_, rfl⟩ <;> simp [kEq, dat, datD, eqP]
  have q8 : kIsN d .non = some (.bl false) := by rcases hd with ⟨_, rfl⟩ | ⟨_, rfl⟩ <;> rfl
  have tt : ∀ ρ : Dl.Env, fTup (fCons (fun _ S => .ok (.ty "tuple") S) (fCons (fun _ S => .ok (.ty "list") S) fNil)) ρ S = .ok (.tup [.ty "tuple", .ty "list"]) S := fun _ => rfl
  exact ev_body rfl (ev_seq (ev_ifF (ev_cb (ev_cons (ev_v (by rfl)) (ev_cons (by rfl) ev_nil)) q1) ev_next) (ev_seq (ev_ifF (ev_cb (ev_cons (ev_v (by rfl)) (ev_cons (tt _) ev_nil)) q2) ev_next)
    (ev_seq (ev_ifF (ev_orF (ev_f2 (ev_v (by rfl)) ev_c q8) (ev_cb (ev_cons (ev_v (by rfl)) (ev_cons (by rfl) ev_nil)) q3)) ev_next)
    (ev_ret (ev_andT (ev_cb (ev_cons (ev_v (by rfl)) (ev_cons (by rfl) ev_nil)) q4) (ev_andT (ev_f2 (ev_cb (ev_cons (ev_v (by rfl)) (ev_cons (by rfl) ev_nil)) q5) (ev_cb (ev_cons (ev_v (by rfl)) (ev_cons (by rfl) ev_nil)) q5) q6) (ev_f2 (ev_v (by rfl)) (ev_v (by rfl)) q7)))))))
theorem alike_str {A : FD} {S : Sto} {x : Str} (hd : dat (.str x) = true) : fBody 3 2 (B__law_alike A) [.str x, .str x] S = .ok (.bl true) S := by
  have q1 : kIsi (.ty "dict") tb_dict noOwn S [.str x, .ty "dict"] = some (.bl false) := by kernel_rfl
  have q2 : kIsiT [.ty "tuple", .ty "list"] tb_tuple_list noOwn S [.str x, .tup [.ty "tuple", .ty "list"]] = some (.bl false) := by kernel_rfl
  have q3 : kIsi (.ty "str") tb_str noOwn S [.str x, .ty "str"] = some (.bl true) := by kernel_rfl
  have q6 : kEq (.bl true) (.bl true) = some (.bl true) := by kernel_rfl
  have q7 : kEq (.str x) (.str x) = some (.bl true) := by simp [kEq, hd, eqP]
  have q8 : kIsN (.str x) .non = some (.bl false) := rfl
  have tt : ∀ ρ : Dl.Env, fTup (fCons (fun _ S => .ok (.ty "tuple") S) (fCons (fun _ S => .ok (.ty "list") S) fNil)) ρ S = .ok (.tup [.ty "tuple", .ty "list"]) S := fun _ => rfl
  exact ev_body rfl (ev_seq (ev_ifF (ev_cb (ev_cons (ev_v (by rfl)) (ev_cons (by rfl) ev_nil)) q1) ev_next) (ev_seq (ev_ifF (ev_cb (ev_cons (ev_v (by rfl)) (ev_cons (tt _) ev_nil)) q2) ev_next)
    (ev_seqX (ev_ifT (ev_orF (ev_f2 (ev_v (by rfl)) ev_c q8) (ev_cb (ev_cons (ev_v (by rfl)) (ev_cons (by rfl) ev_nil)) q3))
      (ev_ret (ev_andT (ev_f2 (ev_v (by rfl)) (ev_v (by rfl)) q7) (ev_f2 (ev_cb (ev_cons (ev_v (by rfl)) (ev_cons (by rfl) ev_nil)) q3) (ev_cb (ev_cons (ev_v (by rfl)) (ev_cons (by rfl) ev_nil)) q3) q6)))) (fun _ _ z => by cases z))))
end L97
end
section
set_option Elab.async false
set_option linter.all false
set_option maxRecDepth 100000
set_option maxHeartbeats 4000000
namespace L97
open PySem L2 Dl
def srch (M sc mk : D) (l : Nat) : Ce := .ins 3 [M, .tup [.str "plain"], sc, mk, .cell 6, .cell l]
/-- the search's cells -/
structure Sr (S : Sto) (M sc mk : D) (l : Nat) (ps ls : List D) : Prop where
  c4 : S[4]? = some (srch M sc mk l)
  c6 : S[6]? = some (.lst ps)
  cl : S[l]? = some (.lst ls)
  n4 : l ≠ 4
  n6 : l ≠ 6
theorem get_set {S : Sto} {i : Nat} {c d : Ce} (h : S[i]? = some d) : (S.set i c)[i]? = some c := by
  rw [List.getElem?_set_self (List.getElem?_eq_some_iff.mp h).1]
theorem get_ne {S : Sto} {i j : Nat} {c : Ce} (h : i ≠ j) : (S.set i c)[j]? = S[j]? := List.getElem?_set_ne h
section
variable {S : Sto} {M sc mk : D} {l : Nat} {ps ls : List D} {ρ : Dl.Env} {i : Nat} {e : D}
theorem Sr.fld (h : Sr S M sc mk l ps ls) {j : Nat} {d : D} (hj : [M, .tup [.str "plain"], sc, mk, .cell 6, .cell l][j]? = some d) : kFld 3 j S (.cell 4) = some d := by
  simp only [kFld, h.c4, srch, if_true]
  exact hj
theorem fldS (h : S[4]? = some (srch M sc mk l)) {j : Nat} {d : D} (hj : [M, .tup [.str "plain"], sc, mk, .cell 6, .cell l][j]? = some d) : kFld 3 j S (.cell 4) = some d := by
  simp only [kFld, h, srch, if_true]
  exact hj
theorem Sr.isT (h : Sr S M sc mk l ps ls) : isT 3 S (.cell 4) = true := by
  simp only [Dl.isT, h.c4, srch, decide_true]
theorem enter_ok (h : Sr S M sc mk l ps ls) (hl : ps.length < 1000) (deed sc' mk' : D) :
    ∃ S', F_Search_enter [.cell 4, deed, sc', mk'] S = .ok .non S' ∧ S'.length = S.length + 1 ∧ Sr S' M sc' mk' S.length (ps ++ [.tup [deed, sc, mk, sc', mk']]) [] ∧ ∀ i, i ≠ 4 → i ≠ 6 → i < S.length → S'[i]? = S[i]? := by
  have l4 := (List.getElem?_eq_some_iff.mp h.c4).1
  have l6 := (List.getElem?_eq_some_iff.mp h.c6).1
  let S1 := S.set 6 (.lst (ps ++ [.tup [deed, sc, mk, sc', mk']]))
  have a4 : S1[4]? = some (srch M sc mk l) := (get_ne (by omega)).trans h.c4
  let S2 := S1 ++ [.lst []]
  have e2 : S1.length = S.length := List.length_set
  have b4 : S2[4]? = some (srch M sc mk l) := (List.getElem?_append_left (by omega)).trans a4
  let S3 := S2.set 4 (srch M sc mk S1.length)
  have c4 : S3[4]? = some (srch M sc mk S1.length) := get_set b4
  let S4 := S3.set 4 (srch M sc' mk S1.length)
  have d4 : S4[4]? = some (srch M sc' mk S1.length) := get_set c4
  let S5 := S4.set 4 (srch M sc' mk' S1.length)
  have o5 : ∀ i, i ≠ 4 → S5[i]? = S2[i]? := fun i hi => ((get_ne (Ne.symm hi)).trans (get_ne (Ne.symm hi))).trans (get_ne (Ne.symm hi))
  have z5 : S5.length = S.length + 1 := by simp [S5, S4, S3, S2, S1]
  refine ⟨S5, ev_bodyN rfl (ev_seq (ev_app (n := 6) (es := ps) (ds := ps) (ev_fld (ev_v (by rfl)) (h.fld rfl)) h.c6 (ev_tup (ev_cons (ev_v (by rfl)) (ev_cons (ev_fld (ev_v (by rfl)) (h.fld rfl)) (ev_cons (ev_fld (ev_v (by rfl)) (h.fld rfl)) (ev_cons (ev_v (by rfl)) (ev_cons (ev_v (by rfl)) ev_nil))))) (by rfl)) h.c6 (by omega))
    (ev_seq (ev_fst (ev_nc_ol (ds := []) (S1 := S1) (by rfl)) (ev_v (by rfl)) b4 (by rfl))
      (ev_asg (ev_tup (ev_cons (ev_v (by rfl)) (ev_cons (ev_v (by rfl)) ev_nil)) (by rfl)) (ev_gtup (by rfl) (ev_gcons (ev_gfld (ev_v (by rfl)) c4 (by rfl)) (ev_gcons (ev_gfld (ev_v (by rfl)) d4 (by rfl)) ev_gnil)))))), z5, ⟨?_, ?_, ?_, ?_, ?_⟩, fun i h4 h6 hi => ?_⟩
  · have q : S5[4]? = some (srch M sc' mk' S1.length) := get_set d4
    exact q.trans (by rw [e2])
  · exact (o5 6 (by omega)).trans ((List.getElem?_append_left (by omega)).trans (get_set h.c6))
  · refine (o5 _ (by omega)).trans ?_
    rw [← e2]
    exact List.getElem?_concat_length
  · omega
  · omega
  · exact (o5 i h4).trans ((List.getElem?_append_left (by omega)).trans (get_ne (Ne.symm h6)))
theorem undo_no (h : Sr S M sc mk l [] ls) : F_Search_undo [.cell 4] S = .ok (.bl false) S :=
  ev_body rfl (ev_seqX (ev_ifT (ev_emp_c (ev_fld (ev_v (by rfl)) (h.fld rfl)) h.c6) (ev_ret ev_c)) (fun _ _ z => by cases z))
theorem redo_no (h : Sr S M sc mk l ps []) : F_Search_redo [.cell 4] S = .ok (.bl false) S :=
  ev_body rfl (ev_seqX (ev_ifT (ev_emp_c (ev_fld (ev_v (by rfl)) (h.fld rfl)) h.cl) (ev_ret ev_c)) (fun _ _ z => by cases z))
theorem last_at {α : Type} (xs : List α) (x : α) : (xs ++ [x])[(xs ++ [x]).length - 1]? = some x := by
  rw [List.length_append, show xs.length + [x].length - 1 = xs.length from rfl]
  exact List.getElem?_concat_length
theorem nem {α : Type} (xs : List α) (x : α) : (xs ++ [x]).isEmpty = false := by cases xs <;> rfl
theorem undo_ok {dd s n s' n' : D} (h : Sr S M sc mk l (ps ++ [.tup [dd, s, n, s', n']]) ls) (hl : ls.length < 1000) :
    ∃ S', F_Search_undo [.cell 4] S = .ok (.bl true) S' ∧ S'.length = S.length ∧ Sr S' M s n l ps (ls ++ [.tup [dd, s, n, s', n']]) ∧ ∀ i, i ≠ 4 → i ≠ 6 → i ≠ l → S'[i]? = S[i]? := by
  have n4 := h.n4
  have n6 := h.n6
  let S1 := S.set 6 (.lst ((ps ++ [D.tup [dd, s, n, s', n']] : List D).dropLast))
  have a4 : S1[4]? = some (srch M sc mk l) := (get_ne (by omega)).trans h.c4
  have al : S1[l]? = some (.lst ls) := (get_ne (Ne.symm n6)).trans h.cl
  let S2 := S1.set l (.lst (ls ++ [.tup [dd, s, n, s', n']]))
  have b4 : S2[4]? = some (srch M sc mk l) := (get_ne n4).trans a4
  let S3 := S2.set 4 (srch M s mk l)
  have c4 : S3[4]? = some (srch M s mk l) := get_set b4
  let S4 := S3.set 4 (srch M s n l)
  have o4 : ∀ i, i ≠ 4 → S4[i]? = S2[i]? := fun i hi => (get_ne (Ne.symm hi)).trans (get_ne (Ne.symm hi))
  refine ⟨S4, ev_body rfl (ev_seq (ev_ifF (ev_emp_c (ev_fld (ev_v (by rfl)) (h.fld rfl)) h.c6 |>.trans (by rw [nem]; rfl)) ev_next)
    (ev_seq (ev_set (ev_pop (ev_fld (ev_v (by rfl)) (h.fld rfl)) h.c6 (last_at _ _)))
    (ev_seq (ev_app (n := l) (es := ls) (ds := ls) (S1 := S1) (ev_fld (ev_v (by rfl)) (fldS a4 (by rfl))) al (ev_v (by rfl)) al (by omega))
    (ev_seq (ev_asg (ev_tup (ev_cons (ev_f2S (ev_v (by rfl)) ev_c (by rfl)) (ev_cons (ev_f2S (ev_v (by rfl)) ev_c (by rfl)) ev_nil)) (by rfl)) (ev_gtup (by rfl) (ev_gcons (ev_gfld (ev_v (by rfl)) b4 (by rfl)) (ev_gcons (ev_gfld (ev_v (by rfl)) c4 (by rfl)) ev_gnil))))
    (ev_ret ev_c))))), by simp [S4, S3, S2, S1], ⟨get_set c4, ?_, ?_, n4, n6⟩, fun i h4 h6 hi => ?_⟩
  · refine (o4 6 (by omega)).trans ((get_ne n6).trans ((get_set h.c6).trans ?_))
    rw [List.dropLast_concat]
  · exact (o4 l n4).trans (get_set al)
  · exact (o4 i h4).trans ((get_ne (Ne.symm hi)).trans (get_ne (Ne.symm h6)))
theorem redo_ok {dd s n s' n' : D} (h : Sr S M sc mk l ps (ls ++ [.tup [dd, s, n, s', n']])) (hl : ps.length < 1000) :
    ∃ S', F_Search_redo [.cell 4] S = .ok (.bl true) S' ∧ S'.length = S.length ∧ Sr S' M s' n' l (ps ++ [.tup [dd, s, n, s', n']]) ls ∧ ∀ i, i ≠ 4 → i ≠ 6 → i ≠ l → S'[i]? = S[i]? := by
  have n4 := h.n4
  have n6 := h.n6
  let S1 := S.set l (.lst ((ls ++ [D.tup [dd, s, n, s', n']] : List D).dropLast))
  have a4 : S1[4]? = some (srch M sc mk l) := (get_ne n4).trans h.c4
  have al : S1[6]? = some (.lst ps) := (get_ne n6).trans h.c6
  let S2 := S1.set 6 (.lst (ps ++ [.tup [dd, s, n, s', n']]))
  have b4 : S2[4]? = some (srch M sc mk l) := (get_ne (by omega)).trans a4
  let S3 := S2.set 4 (srch M s' mk l)
  have c4 : S3[4]? = some (srch M s' mk l) := get_set b4
  let S4 := S3.set 4 (srch M s' n' l)
  have o4 : ∀ i, i ≠ 4 → S4[i]? = S2[i]? := fun i hi => (get_ne (Ne.symm hi)).trans (get_ne (Ne.symm hi))
  refine ⟨S4, ev_body rfl (ev_seq (ev_ifF (ev_emp_c (ev_fld (ev_v (by rfl)) (h.fld rfl)) h.cl |>.trans (by rw [nem]; rfl)) ev_next)
    (ev_seq (ev_set (ev_pop (ev_fld (ev_v (by rfl)) (h.fld rfl)) h.cl (last_at _ _)))
    (ev_seq (ev_app (n := 6) (es := ps) (ds := ps) (S1 := S1) (ev_fld (ev_v (by rfl)) (fldS a4 (by rfl))) al (ev_v (by rfl)) al (by omega))
    (ev_seq (ev_asg (ev_tup (ev_cons (ev_f2S (ev_v (by rfl)) ev_c (by rfl)) (ev_cons (ev_f2S (ev_v (by rfl)) ev_c (by rfl)) ev_nil)) (by rfl)) (ev_gtup (by rfl) (ev_gcons (ev_gfld (ev_v (by rfl)) b4 (by rfl)) (ev_gcons (ev_gfld (ev_v (by rfl)) c4 (by rfl)) ev_gnil))))
    (ev_ret ev_c))))), by simp [S4, S3, S2, S1], ⟨get_set c4, ?_, ?_, n4, n6⟩, fun i h4 h6 hi => ?_⟩
  · exact (o4 6 (by omega)).trans (get_set al)
  · refine (o4 l n4).trans ((get_ne (Ne.symm n6)).trans ((get_set h.cl).trans ?_))
    rw [List.dropLast_concat]
  · exact (o4 i h4).trans ((get_ne (Ne.symm h6)).trans (get_ne (Ne.symm hi)))
theorem go_ok {ks vs ts : List D} {k d : D} {z : D} (h : Sr S M sc (.dct false ks vs) l ps ls) (hl : ps.length < 1000) (ha : askK false k = true) (hk : lookK k ks vs = some d) (hd : d = .obj 2 [z, e, .tup ts]) :
    ∃ S', F_Search_go [.cell 4, k] S = .ok (.int ts.length) S' ∧ S'.length = S.length + 1 ∧ Sr S' M d (.dct false ks vs) S.length (ps ++ [.tup [.tup [.str "go", k], sc, .dct false ks vs, d, .dct false ks vs]]) [] ∧ ∀ i, i ≠ 4 → i ≠ 6 → i < S.length → S'[i]? = S[i]? := by
  obtain ⟨S', e1, e2, e3, e4⟩ := enter_ok h hl (.tup [.str "go", k]) d (.dct false ks vs)
  refine ⟨S', ev_body rfl (ev_seq (ev_ifF (ev_f2 (ev_v (by rfl)) (ev_fld (ev_v (by rfl)) (h.fld rfl)) (by simp only [kDni, ha, if_true, hk]; rfl)) ev_next)
    (ev_seq (ev_drop (ev_meth (ev_v (by rfl)) h.isT (ev_cons (ev_tup (ev_cons ev_c (ev_cons (ev_v (by rfl)) ev_nil)) (by rfl)) (ev_cons (ev_f2 (ev_fld (ev_v (by rfl)) (h.fld rfl)) (ev_v (by rfl)) (by simp only [kDget, ha, if_true, hk])) (ev_cons (ev_fld (ev_v (by rfl)) (h.fld rfl)) ev_nil))) (by rfl) e1))
    (ev_ret (ev_cb (ev_cons (ev_fld (ev_fld (ev_v (by rfl)) (e3.fld rfl)) (by rw [hd]; rfl)) ev_nil) (by rfl))))), e2, e3, e4⟩
theorem mark_ok {ks vs ks' vs' : List D} {k : D} {b : Bool} (h : Sr S M sc (.dct false ks vs) l ps ls) (hl : ps.length < 1000) (hn : ∀ S, F_is_name [k] S = .ok (.bl true) S) (ha : askK false k = true) (hs : ks.length < 1000) (hb : (lookK k ks vs).isSome = b) (hp : putP k sc ks vs = (ks', vs')) :
    ∃ S', F_Search_mark [.cell 4, k] S = .ok (.bl b) S' ∧ S'.length = S.length + 1 ∧ Sr S' M sc (.dct false ks' vs') S.length (ps ++ [.tup [.tup [.str "mark", k], sc, .dct false ks vs, sc, .dct false ks' vs']]) [] ∧ ∀ i, i ≠ 4 → i ≠ 6 → i < S.length → S'[i]? = S[i]? := by
  obtain ⟨S', e1, e2, e3, e4⟩ := enter_ok h hl (.tup [.str "mark", k]) sc (.dct false ks' vs')
  have ek : kOrD (.dct false ks vs) (.dct false [k] [sc]) = some (.dct false ks' vs') := by
    simp only [kOrD, foldP, hp]
    rw [if_pos (by simp; omega)]
  refine ⟨S', ev_body rfl (ev_seq (ev_ifF (ev_not (b := true) (ev_call (dd := []) (ev_cons (ev_v (by rfl)) ev_nil) (by rfl) (hn S))) ev_next)
    (ev_seq (ev_set (ev_f2 (ev_v (by rfl)) (ev_fld (ev_v (by rfl)) (h.fld rfl)) (z := .bl b) (by simp only [kDin, ha, if_true, hb])))
    (ev_seq (ev_drop (ev_meth (ev_v (by rfl)) h.isT (ev_cons (ev_tup (ev_cons ev_c (ev_cons (ev_v (by rfl)) ev_nil)) (by rfl)) (ev_cons (ev_fld (ev_v (by rfl)) (h.fld rfl)) (ev_cons (ev_f2 (ev_fld (ev_v (by rfl)) (h.fld rfl)) (ev_nf_od (ev_dispK (ev_v (by rfl)) (ev_fld (ev_v (by rfl)) (h.fld rfl)) ha)) ek) ev_nil))) (by rfl) e1))
    (ev_ret (ev_v (by rfl)))))), e2, e3, e4⟩
end
end L97
end
section
set_option Elab.async false
set_option linter.all false
set_option maxRecDepth 100000
set_option maxHeartbeats 4000000
namespace L97
open PySem L2 Dl
theorem goodD_dat {x : Str} : ∀ {n : Nat}, goodD n (.str x) = true → dat (.str x) = true
  | 0, h => h
  | n + 1, h => h
theorem alike_ok {S : Sto} : ∀ {m n : Nat} {d : D}, n < m → goodD n d = true → F__law_alike m [d, d] S = .ok (.bl true) S := by
  intro m
  induction m with
  | zero => intro n d h; omega
  | succ m ih =>
    intro n d hn h
    show fBody 3 2 (B__law_alike (F__law_alike m)) [d, d] S = _
    match n, d, h with
    | _, .bl b, _ => exact alike_int (.inl ⟨b, rfl⟩)
    | _, .int i, _ => exact alike_int (.inr ⟨i, rfl⟩)
    | n, .str x, h => exact alike_str (goodD_dat h)
    | n + 1, .tup ds, h =>
      obtain ⟨h1, h2⟩ := Bool.and_eq_true_iff.mp (by rw [goodD] at h; exact h)
      exact alike_seq (.inl rfl) (of_decide_eq_true h2) fun i hi => ih (by omega) (goodDs_get hi h1)
    | n + 1, .lst ds, h =>
      obtain ⟨h1, h2⟩ := Bool.and_eq_true_iff.mp (by rw [goodD] at h; exact h)
      exact alike_seq (.inr rfl) (of_decide_eq_true h2) fun i hi => ih (by omega) (goodDs_get hi h1)
section
variable {S : Sto} {M sc mk : D} {l : Nat} {ps ls : List D} {ρ : Dl.Env} {i : Nat} {e : D}
theorem here_ok {x k t : D} (h : Sr S M (.obj 2 [x, k, t]) mk l ps ls) : F_Search_here [.cell 4] S = .ok x S :=
  ev_body rfl (ev_ret (ev_fld (ev_fld (ev_v (by rfl)) (h.fld rfl)) (by rfl)))
theorem paces_ok {x k t : D} (h : Sr S M (.obj 2 [x, k, t]) mk l ps ls) : F_Search_paces_walked [.cell 4] S = .ok k S :=
  ev_body rfl (ev_ret (ev_fld (ev_fld (ev_v (by rfl)) (h.fld rfl)) (by rfl)))
theorem marks_ok {z : D} (h : Sr S M sc mk l ps ls) (hz : kSrtA S [mk] = some z) : F_Search_marks [.cell 4] S = .ok z S :=
  ev_body rfl (ev_ret (ev_cb (ev_cons (ev_fld (ev_v (by rfl)) (h.fld rfl)) ev_nil) hz))
/-- a comprehension that picks one thing of each item -/
theorem lcD_pick {c : Sto → Bool} {g : GD} {t f : FE} {i : Nat} {k : D → D} (hc : c S = true) (hg : g = gV i) (ht : t = fYes) : ∀ (ds : List D) (acc : List D), acc.length + ds.length < 1000 →
    (∀ d ∈ ds, f (ρ.set i (.v d)) S = .ok (k d) S) → lcD c g t f ρ ds S acc = some (acc ++ ds.map k, S)
  | [], acc, _, _ => by
    show (if c S = true then _ else _) = _
    rw [if_pos hc, List.map_nil, List.append_nil]
  | d :: ds, acc, hl, h => by
    subst hg
    subst ht
    rw [List.length_cons] at hl
    have e := h d List.mem_cons_self
    show (if c S = true then (match f (ρ.set i (.v d)) S with | .ok y S3 => _ | _ => none) else none) = _
    rw [if_pos hc, e]
    show (if acc.length < 16777216 then lcD c (gV i) fYes f ρ ds S (acc ++ [k d]) else none) = _
    rw [if_pos (by omega), lcD_pick hc rfl rfl ds _ (by simp; omega) fun d' hd => h d' (List.mem_cons_of_mem _ hd), List.map_cons, List.append_assoc]
    rfl
theorem history_ok (h : Sr S M sc mk l ps ls) (hl : ps.length < 1000) {k : D → D} (hk : ∀ d ∈ ps, kIx S d (.int 0) = some (k d)) : F_Search_history [.cell 4] S = .ok (.lst (ps.map k)) S := by
  have e := lcD_pick (ρ := wipeE (start0 2 1 [.cell 4]) [1]) (i := 1) (f := f2S kIx (fV 1) (fC (.int 0))) (chkL_ok h.c6) rfl rfl ps [] (by simpa using hl) fun d hd => ev_f2S (ev_v (by rfl)) ev_c (hk d hd)
  exact ev_body rfl (ev_ret (ev_nf_ol (ev_lc (ev_icell (ev_fld (ev_v (by rfl)) (h.fld rfl)) h.c6) e)))
end
end L97
end
section
set_option Elab.async false
set_option linter.all false
set_option maxRecDepth 100000
set_option maxHeartbeats 4000000
namespace L97
open PySem L2 Dl
def signs (w : Nat) : D := .str ⟨(List.replicate w 46).toArray⟩
def rowsD (h w : Nat) : D := .tup (List.replicate h (signs w))
def isl (h w : Nat) : D := .obj 0 [rowsD h w]
def cellD (r c : Nat) : D := .tup [.int r, .int c]
noncomputable def distD (h w r c : Nat) : D := match F_distances [isl h w, cellD r c] [] with | .ok d _ => d | _ => .non
def eqI : Option D → Int → Bool
  | some (.int i), j => decide (i = j)
  | _, _ => false
def manh (r c r' c' : Nat) : Int := (if (r' : Int) - r < 0 then -((r' : Int) - r) else (r' : Int) - r) + (if (c' : Int) - c < 0 then -((c' : Int) - c) else (c' : Int) - c)
noncomputable def distAll (h w : Nat) : Bool := (List.range h).all fun r => (List.range w).all fun c => match distD h w r c with
  | .dct true ks vs => (List.range h).all fun r' => (List.range w).all fun c' => eqI (lookK (cellD r' c') ks vs) (manh r c r' c')
  | _ => false
theorem all_2_2 : distAll 2 2 = true := by kernel_rfl
theorem dist_2_2 (S : Sto) : ∀ (r c : Nat), r < 2 → c < 2 → F_distances [isl 2 2, cellD r c] S = .ok (distD 2 2 r c) S ∧ F_validate_cell [isl 2 2, cellD r c] S = .ok .non S
  | 0, 0, _, _ => ⟨by kernel_rfl, by kernel_rfl⟩
  | 0, 1, _, _ => ⟨by kernel_rfl, by kernel_rfl⟩
  | 1, 0, _, _ => ⟨by kernel_rfl, by kernel_rfl⟩
  | 1, 1, _, _ => ⟨by kernel_rfl, by kernel_rfl⟩
  | r + 2, _, z, _ => absurd z (by omega)
  | _, c + 2, _, z => absurd z (by omega)
theorem all_2_3 : distAll 2 3 = true := by kernel_rfl
theorem dist_2_3 (S : Sto) : ∀ (r c : Nat), r < 2 → c < 3 → F_distances [isl 2 3, cellD r c] S = .ok (distD 2 3 r c) S ∧ F_validate_cell [isl 2 3, cellD r c] S = .ok .non S
  | 0, 0, _, _ => ⟨by kernel_rfl, by kernel_rfl⟩
  | 0, 1, _, _ => ⟨by kernel_rfl, by kernel_rfl⟩
  | 0, 2, _, _ => ⟨by kernel_rfl, by kernel_rfl⟩
  | 1, 0, _, _ => ⟨by kernel_rfl, by kernel_rfl⟩
  | 1, 1, _, _ => ⟨by kernel_rfl, by kernel_rfl⟩
  | 1, 2, _, _ => ⟨by kernel_rfl, by kernel_rfl⟩
  | r + 2, _, z, _ => absurd z (by omega)
  | _, c + 3, _, z => absurd z (by omega)
theorem all_2_4 : distAll 2 4 = true := by kernel_rfl
theorem dist_2_4 (S : Sto) : ∀ (r c : Nat), r < 2 → c < 4 → F_distances [isl 2 4, cellD r c] S = .ok (distD 2 4 r c) S ∧ F_validate_cell [isl 2 4, cellD r c] S = .ok .non S
  | 0, 0, _, _ => ⟨by kernel_rfl, by kernel_rfl⟩
  | 0, 1, _, _ => ⟨by kernel_rfl, by kernel_rfl⟩
  | 0, 2, _, _ => ⟨by kernel_rfl, by kernel_rfl⟩
  | 0, 3, _, _ => ⟨by kernel_rfl, by kernel_rfl⟩
  | 1, 0, _, _ => ⟨by kernel_rfl, by kernel_rfl⟩
  | 1, 1, _, _ => ⟨by kernel_rfl, by kernel_rfl⟩
  | 1, 2, _, _ => ⟨by kernel_rfl, by kernel_rfl⟩
  | 1, 3, _, _ => ⟨by kernel_rfl, by kernel_rfl⟩
  | r + 2, _, z, _ => absurd z (by omega)
  | _, c + 4, _, z => absurd z (by omega)
theorem all_3_2 : distAll 3 2 = true := by kernel_rfl
theorem dist_3_2 (S : Sto) : ∀ (r c : Nat), r < 3 → c < 2 → F_distances [isl 3 2, cellD r c] S = .ok (distD 3 2 r c) S ∧ F_validate_cell [isl 3 2, cellD r c] S = .ok .non S
  | 0, 0, _, _ => ⟨by kernel_rfl, by kernel_rfl⟩
  | 0, 1, _, _ => ⟨by kernel_rfl, by kernel_rfl⟩
  | 1, 0, _, _ => ⟨by kernel_rfl, by kernel_rfl⟩
  | 1, 1, _, _ => ⟨by kernel_rfl, by kernel_rfl⟩
  | 2, 0, _, _ => ⟨by kernel_rfl, by kernel_rfl⟩
  | 2, 1, _, _ => ⟨by kernel_rfl, by kernel_rfl⟩
  | r + 3, _, z, _ => absurd z (by omega)
  | _, c + 2, _, z => absurd z (by omega)
theorem all_3_3 : distAll 3 3 = true := by kernel_rfl
theorem dist_3_3 (S : Sto) : ∀ (r c : Nat), r < 3 → c < 3 → F_distances [isl 3 3, cellD r c] S = .ok (distD 3 3 r c) S ∧ F_validate_cell [isl 3 3, cellD r c] S = .ok .non S
  | 0, 0, _, _ => ⟨by kernel_rfl, by kernel_rfl⟩
  | 0, 1, _, _ => ⟨by kernel_rfl, by kernel_rfl⟩
  | 0, 2, _, _ => ⟨by kernel_rfl, by kernel_rfl⟩
  | 1, 0, _, _ => ⟨by kernel_rfl, by kernel_rfl⟩
  | 1, 1, _, _ => ⟨by kernel_rfl, by kernel_rfl⟩
  | 1, 2, _, _ => ⟨by kernel_rfl, by kernel_rfl⟩
  | 2, 0, _, _ => ⟨by kernel_rfl, by kernel_rfl⟩
  | 2, 1, _, _ => ⟨by kernel_rfl, by kernel_rfl⟩
  | 2, 2, _, _ => ⟨by kernel_rfl, by kernel_rfl⟩
  | r + 3, _, z, _ => absurd z (by omega)
  | _, c + 3, _, z => absurd z (by omega)
theorem all_3_4 : distAll 3 4 = true := by kernel_rfl
theorem dist_3_4 (S : Sto) : ∀ (r c : Nat), r < 3 → c < 4 → F_distances [isl 3 4, cellD r c] S = .ok (distD 3 4 r c) S ∧ F_validate_cell [isl 3 4, cellD r c] S = .ok .non S
  | 0, 0, _, _ => ⟨by kernel_rfl, by kernel_rfl⟩
  | 0, 1, _, _ => ⟨by kernel_rfl, by kernel_rfl⟩
  | 0, 2, _, _ => ⟨by kernel_rfl, by kernel_rfl⟩
  | 0, 3, _, _ => ⟨by kernel_rfl, by kernel_rfl⟩
  | 1, 0, _, _ => ⟨by kernel_rfl, by kernel_rfl⟩
  | 1, 1, _, _ => ⟨by kernel_rfl, by kernel_rfl⟩
  | 1, 2, _, _ => ⟨by kernel_rfl, by kernel_rfl⟩
  | 1, 3, _, _ => ⟨by kernel_rfl, by kernel_rfl⟩
  | 2, 0, _, _ => ⟨by kernel_rfl, by kernel_rfl⟩
  | 2, 1, _, _ => ⟨by kernel_rfl, by kernel_rfl⟩
  | 2, 2, _, _ => ⟨by kernel_rfl, by kernel_rfl⟩
  | 2, 3, _, _ => ⟨by kernel_rfl, by kernel_rfl⟩
  | r + 3, _, z, _ => absurd z (by omega)
  | _, c + 4, _, z => absurd z (by omega)
theorem all_4_2 : distAll 4 2 = true := by kernel_rfl
theorem dist_4_2 (S : Sto) : ∀ (r c : Nat), r < 4 → c < 2 → F_distances [isl 4 2, cellD r c] S = .ok (distD 4 2 r c) S ∧ F_validate_cell [isl 4 2, cellD r c] S = .ok .non S
  | 0, 0, _, _ => ⟨by kernel_rfl, by kernel_rfl⟩
  | 0, 1, _, _ => ⟨by kernel_rfl, by kernel_rfl⟩
  | 1, 0, _, _ => ⟨by kernel_rfl, by kernel_rfl⟩
  | 1, 1, _, _ => ⟨by kernel_rfl, by kernel_rfl⟩
  | 2, 0, _, _ => ⟨by kernel_rfl, by kernel_rfl⟩
  | 2, 1, _, _ => ⟨by kernel_rfl, by kernel_rfl⟩
  | 3, 0, _, _ => ⟨by kernel_rfl, by kernel_rfl⟩
  | 3, 1, _, _ => ⟨by kernel_rfl, by kernel_rfl⟩
  | r + 4, _, z, _ => absurd z (by omega)
  | _, c + 2, _, z => absurd z (by omega)
theorem all_4_3 : distAll 4 3 = true := by kernel_rfl
theorem dist_4_3 (S : Sto) : ∀ (r c : Nat), r < 4 → c < 3 → F_distances [isl 4 3, cellD r c] S = .ok (distD 4 3 r c) S ∧ F_validate_cell [isl 4 3, cellD r c] S = .ok .non S
  | 0, 0, _, _ => ⟨by kernel_rfl, by kernel_rfl⟩
  | 0, 1, _, _ => ⟨by kernel_rfl, by kernel_rfl⟩
  | 0, 2, _, _ => ⟨by kernel_rfl, by kernel_rfl⟩
  | 1, 0, _, _ => ⟨by kernel_rfl, by kernel_rfl⟩
  | 1, 1, _, _ => ⟨by kernel_rfl, by kernel_rfl⟩
  | 1, 2, _, _ => ⟨by kernel_rfl, by kernel_rfl⟩
  | 2, 0, _, _ => ⟨by kernel_rfl, by kernel_rfl⟩
  | 2, 1, _, _ => ⟨by kernel_rfl, by kernel_rfl⟩
  | 2, 2, _, _ => ⟨by kernel_rfl, by kernel_rfl⟩
  | 3, 0, _, _ => ⟨by kernel_rfl, by kernel_rfl⟩
  | 3, 1, _, _ => ⟨by kernel_rfl, by kernel_rfl⟩
  | 3, 2, _, _ => ⟨by kernel_rfl, by kernel_rfl⟩
  | r + 4, _, z, _ => absurd z (by omega)
  | _, c + 3, _, z => absurd z (by omega)
theorem all_4_4 : distAll 4 4 = true := by kernel_rfl
theorem dist_4_4 (S : Sto) : ∀ (r c : Nat), r < 4 → c < 4 → F_distances [isl 4 4, cellD r c] S = .ok (distD 4 4 r c) S ∧ F_validate_cell [isl 4 4, cellD r c] S = .ok .non S
  | 0, 0, _, _ => ⟨by kernel_rfl, by kernel_rfl⟩
  | 0, 1, _, _ => ⟨by kernel_rfl, by kernel_rfl⟩
  | 0, 2, _, _ => ⟨by kernel_rfl, by kernel_rfl⟩
  | 0, 3, _, _ => ⟨by kernel_rfl, by kernel_rfl⟩
  | 1, 0, _, _ => ⟨by kernel_rfl, by kernel_rfl⟩
  | 1, 1, _, _ => ⟨by kernel_rfl, by kernel_rfl⟩
  | 1, 2, _, _ => ⟨by kernel_rfl, by kernel_rfl⟩
  | 1, 3, _, _ => ⟨by kernel_rfl, by kernel_rfl⟩
  | 2, 0, _, _ => ⟨by kernel_rfl, by kernel_rfl⟩
  | 2, 1, _, _ => ⟨by kernel_rfl, by kernel_rfl⟩
  | 2, 2, _, _ => ⟨by kernel_rfl, by kernel_rfl⟩
  | 2, 3, _, _ => ⟨by kernel_rfl, by kernel_rfl⟩
  | 3, 0, _, _ => ⟨by kernel_rfl, by kernel_rfl⟩
  | 3, 1, _, _ => ⟨by kernel_rfl, by kernel_rfl⟩
  | 3, 2, _, _ => ⟨by kernel_rfl, by kernel_rfl⟩
  | 3, 3, _, _ => ⟨by kernel_rfl, by kernel_rfl⟩
  | r + 4, _, z, _ => absurd z (by omega)
  | _, c + 4, _, z => absurd z (by omega)
theorem dist_ok {h w : Nat} (hh : h = 2 ∨ h = 3 ∨ h = 4) (hw : w = 2 ∨ w = 3 ∨ w = 4) (S : Sto) {r c : Nat} (hr : r < h) (hc : c < w) : F_distances [isl h w, cellD r c] S = .ok (distD h w r c) S ∧ F_validate_cell [isl h w, cellD r c] S = .ok .non S := by
  rcases hh with rfl | rfl | rfl <;> rcases hw with rfl | rfl | rfl
  · exact dist_2_2 S r c hr hc
  · exact dist_2_3 S r c hr hc
  · exact dist_2_4 S r c hr hc
  · exact dist_3_2 S r c hr hc
  · exact dist_3_3 S r c hr hc
  · exact dist_3_4 S r c hr hc
  · exact dist_4_2 S r c hr hc
  · exact dist_4_3 S r c hr hc
  · exact dist_4_4 S r c hr hc
theorem all_ok {h w : Nat} (hh : h = 2 ∨ h = 3 ∨ h = 4) (hw : w = 2 ∨ w = 3 ∨ w = 4) : distAll h w = true := by
  rcases hh with rfl | rfl | rfl <;> rcases hw with rfl | rfl | rfl
  · exact all_2_2
  · exact all_2_3
  · exact all_2_4
  · exact all_3_2
  · exact all_3_3
  · exact all_3_4
  · exact all_4_2
  · exact all_4_3
  · exact all_4_4
theorem eqI_of {o : Option D} {j : Int} (h : eqI o j = true) : o = some (.int j) := by
  match o, h with
  | some (.int i), h => rw [of_decide_eq_true (p := i = j) h]
theorem dist_look {h w : Nat} (hh : h = 2 ∨ h = 3 ∨ h = 4) (hw : w = 2 ∨ w = 3 ∨ w = 4) {r c r' c' : Nat} (hr : r < h) (hc : c < w) (hr' : r' < h) (hc' : c' < w) : ∃ ks vs, distD h w r c = .dct true ks vs ∧ lookK (cellD r' c') ks vs = some (.int (manh r c r' c')) := by
  have e := List.all_eq_true.mp (List.all_eq_true.mp (all_ok hh hw) r (List.mem_range.mpr hr)) c (List.mem_range.mpr hc)
  split at e
  · rename_i ks vs e1
    exact ⟨ks, vs, e1, eqI_of (List.all_eq_true.mp (List.all_eq_true.mp e r' (List.mem_range.mpr hr')) c' (List.mem_range.mpr hc'))⟩
  · cases e
end L97
end
section
set_option Elab.async false
set_option linter.all false
set_option maxRecDepth 100000
set_option maxHeartbeats 4000000
namespace L97
open PySem L2 Dl
def mapD (h w : Nat) : D := .obj 1 [isl h w, .str ".", .tup [.int 0], .tup []]
section
variable {S : Sto} {sc mk : D} {l : Nat} {ps ls : List D} {h w : Nat}
theorem island_ok : F_Map_island [mapD h w] S = .ok (isl h w) S := ev_body rfl (ev_ret (ev_fld (ev_v (by rfl)) (by rfl)))
theorem scene_mk (x k t : D) : makeR 2 3 F_Scene___init__ [] [x, k, t] S (fun S2 => frzS 2 S.length S2) = .ok (.obj 2 [x, k, t]) (S ++ [.dead]) := by
  have g : ∀ fs : List D, (S ++ [Ce.ins 2 fs])[S.length]? = some (.ins 2 fs) := fun fs => List.getElem?_concat_length
  have s : ∀ (fs : List D) (c : Ce), (S ++ [Ce.ins 2 fs]).set S.length c = S ++ [c] := fun fs c => by
    rw [List.set_append_right _ _ (Nat.le_refl _), Nat.sub_self]
    rfl
  let r0 : Dl.Env := start0 4 4 [.cell S.length, x, k, t]
  have f1 : fFst 2 0 (fV 0) (fV 1) r0 (S ++ [.ins 2 []]) = .nx r0 (S ++ [.ins 2 [x]]) := (ev_fst (ev_v (by rfl)) (ev_v (by rfl)) (g []) (by rfl)).trans (by rw [s]; rfl)
  have f2 : fFst 2 1 (fV 0) (fV 2) r0 (S ++ [.ins 2 [x]]) = .nx r0 (S ++ [.ins 2 [x, k]]) := (ev_fst (ev_v (by rfl)) (ev_v (by rfl)) (g [x]) (by rfl)).trans (by rw [s]; rfl)
  have f3 : fFst 2 2 (fV 0) (fV 3) r0 (S ++ [.ins 2 [x, k]]) = .nx r0 (S ++ [.ins 2 [x, k, t]]) := (ev_fst (ev_v (by rfl)) (ev_v (by rfl)) (g [x, k]) (by rfl)).trans (by rw [s]; rfl)
  have e : F_Scene___init__ [.cell S.length, x, k, t] (S ++ [.ins 2 []]) = .ok .non (S ++ [.ins 2 [x, k, t]]) := ev_bodyN rfl (ev_seq f1 (ev_seq f2 f3))
  show (match F_Scene___init__ [.cell S.length, x, k, t] (S ++ [.ins 2 []]) with | .ok .non S2 => frzS 2 S.length S2 | .ok _ _ => .fail | .exc c fs S2 => .exc c fs S2 | .fail => .fail) = _
  rw [e]
  show frzS 2 S.length (S ++ [.ins 2 [x, k, t]]) = _
  simp only [frzS, g, if_true, s]
theorem walk_ok {ps ls : List D} {l : Nat} {mk : D} {r c r' c' : Nat} {k : Int} {ts : D} (hh : h = 2 ∨ h = 3 ∨ h = 4) (hw : w = 2 ∨ w = 3 ∨ w = 4) (hr : r < h) (hc : c < w) (hr' : r' < h) (hc' : c' < w)
    (H : Sr S (mapD h w) (.obj 2 [cellD r c, .int k, ts]) mk l ps ls) (hl : ps.length < 1000) :
    ∃ S', F_Search_walk [.cell 4, cellD r' c'] S = .ok (.int (manh r c r' c')) S' ∧ S'.length = S.length + 2 ∧
      Sr S' (mapD h w) (.obj 2 [cellD r' c', .int (k + manh r c r' c'), ts]) mk (S.length + 1) (ps ++ [.tup [.tup [.str "walk", cellD r' c'], .obj 2 [cellD r c, .int k, ts], mk, .obj 2 [cellD r' c', .int (k + manh r c r' c'), ts], mk]]) [] ∧ ∀ i, i ≠ 4 → i ≠ 6 → i < S.length → S'[i]? = S[i]? := by
  obtain ⟨ks, vs, hd, hk⟩ := dist_look hh hw hr hc hr' hc'
  have l4 := (List.getElem?_eq_some_iff.mp H.c4).1
  have l6 := (List.getElem?_eq_some_iff.mp H.c6).1
  have ll := (List.getElem?_eq_some_iff.mp H.cl).1
  have H2 : Sr (S ++ [.dead]) (mapD h w) (.obj 2 [cellD r c, .int k, ts]) mk l ps ls := ⟨(List.getElem?_append_left l4).trans H.c4, (List.getElem?_append_left l6).trans H.c6, (List.getElem?_append_left ll).trans H.cl, H.n4, H.n6⟩
  obtain ⟨S', e1, e2, e3, e4⟩ := enter_ok H2 hl (.tup [.str "walk", cellD r' c']) (.obj 2 [cellD r' c', .int (k + manh r c r' c'), ts]) mk
  have el : (S ++ [Ce.dead]).length = S.length + 1 := by simp
  have ha : askK true (cellD r' c') = true := by rfl
  have hg : kDget (distD h w r c) (cellD r' c') = some (.int (manh r c r' c')) := by
    rw [hd]
    simp only [kDget, ha, if_true, hk]
  have hdn : kDni (cellD r' c') (distD h w r c) = some (.bl false) := by
    rw [hd]
    simp only [kDni, ha, if_true, hk]
    rfl
  have pr : ∀ ρ : Dl.Env, ρ[0]? = some (.v (.cell 4)) → fProp 1 F_Map_island (fFld 3 0 (fV 0)) ρ S = .ok (isl h w) S := fun ρ hp => ev_prop (ev_fld (ev_v hp) (H.fld rfl)) (by rfl) island_ok
  refine ⟨S', ev_body rfl (ev_seq (ev_drop (ev_call (dd := []) (ev_cons (pr _ (by rfl)) (ev_cons (ev_v (by rfl)) ev_nil)) (by rfl) (dist_ok hh hw S hr' hc').2))
    (ev_seq (ev_set (ev_call (dd := []) (ev_cons (pr _ (by rfl)) (ev_cons (ev_fld (ev_fld (ev_v (by rfl)) (H.fld rfl)) (by rfl)) ev_nil)) (by rfl) (dist_ok hh hw S hr hc).1))
    (ev_seq (ev_ifF (ev_f2 (ev_v (by rfl)) (ev_v (by rfl)) hdn) ev_next)
    (ev_seq (ev_drop (ev_meth (ev_v (by rfl)) H.isT (ev_cons (ev_tup (ev_cons ev_c (ev_cons (ev_v (by rfl)) ev_nil)) (by rfl)) (ev_cons (S1 := S ++ [.dead]) ?_ (ev_cons (ev_fld (ev_v (by rfl)) (H2.fld rfl)) ev_nil))) (by rfl) e1))
    (ev_ret (ev_f2 (ev_v (by rfl)) (ev_v (by rfl)) hg)))))), by omega, by rw [el] at e3; exact e3, fun i h4 h6 hi => (e4 i h4 h6 (by omega)).trans (List.getElem?_append_left hi)⟩
  have ea : (fCons (fV 1) (fCons (f2 kAdd (fFld 2 1 (fFld 3 2 (fV 0))) (f2 kDget (fV 2) (fV 1))) (fCons (fFld 2 2 (fFld 3 2 (fV 0))) fNil))) ((start0 3 2 [.cell 4, cellD r' c']).set 2 (.v (distD h w r c))) S = .ok [cellD r' c', .int (k + manh r c r' c'), ts] S :=
    ev_cons (ev_v (by rfl)) (ev_cons (ev_f2 (ev_fld (ev_fld (ev_v (by rfl)) (H.fld rfl)) (by rfl)) (ev_f2 (ev_v (by rfl)) (ev_v (by rfl)) hg) (by rfl)) (ev_cons (ev_fld (ev_fld (ev_v (by rfl)) (H.fld rfl)) (by rfl)) ev_nil))
  show (RA.bind _ _) = _
  rw [ea]
  exact scene_mk _ _ _
end
end L97
end
section
set_option Elab.async false
set_option linter.all false
set_option maxRecDepth 100000
set_option maxHeartbeats 4000000
namespace L97
open PySem L2 Dl
def cellsL (h w : Nat) : List D := (List.range h).flatMap fun r => (List.range w).map fun c => cellD r c
def L_map : FS := (fPar2 3 4 (fConsN (fVN (fMakeO 1 4 F_Map___init__ [] (fCons (fMakeO 0 1 F_Island___init__ [] (fCons (fV 2) (fNil))) (fCons (fC (.str ".")) (fCons (fTup (fCons (fC (.int 0)) (fNil))) (fCons (fTup (fNil)) (fNil))))))) (fConsN (fVN (fCall 1 F__law_cells [] (fCons (fV 2) (fNil)))) (fNilN))))
def L_search : FS := (fPar3 5 6 7 (fConsN (fVN (fMakeC 3 3 F_Search___init__ [] (fCons (fV 3) (fCons (fTup (fCons (fC (.str "plain")) (fNil))) (fCons (f2S kIx (fV 4) (fC (.int 0))) (fNil)))))) (fConsN (fVN (fNC (fOl (fNil)))) (fConsN (fVN (fNC (fOl (fNil)))) (fNilN)))))
def L_names : FS := (fPar2 8 9 (fConsN (fVN (fTup (fCons (f2S kIx (fV 4) (fC (.int 0))) (fCons (fC (.int 0)) (fNil))))) (fConsN (fVN (fNF ((fun _ S => .ok (.od false [] []) S)))) (fNilN))))
abbrev env0 (s0 s1 s2 s3 s4 s5 s6 s7 s8 s9 : Sl) : Dl.Env := [s0, s1, s2, s3, s4, s5, s6, s7, s8, s9, .un, .un, .un, .un, .un, .un, .un, .un, .un, .un, .un, .un]
def store0 (h w : Nat) (a b : Ce) : Sto := [a, b, .dead, .dead, srch (mapD h w) (.obj 2 [cellD 0 0, .int 0, .tup (cellsL h w)]) (.dct false [] []) 7, .dead, .lst [], .lst [], .lst [], .lst []]
theorem map_2_2 (s0 s1 : Sl) (a b : Ce) : L_map (env0 s0 s1 (.v (rowsD 2 2)) .un .un .un .un .un .un .un) [a, b] = .nx (env0 s0 s1 (.v (rowsD 2 2)) (.v (mapD 2 2)) (.v (.lst (cellsL 2 2))) .un .un .un .un .un) [a, b, .dead, .dead] := by kernel_rfl
theorem search_2_2 (s0 s1 s2 : Sl) (a b : Ce) : L_search (env0 s0 s1 s2 (.v (mapD 2 2)) (.v (.lst (cellsL 2 2))) .un .un .un .un .un) [a, b, .dead, .dead] = .nx (env0 s0 s1 s2 (.v (mapD 2 2)) (.v (.lst (cellsL 2 2))) (.v (.cell 4)) (.v (.cell 8)) (.v (.cell 9)) .un .un) (store0 2 2 a b) := by kernel_rfl
theorem names_2_2 (s0 s1 s2 s3 s5 s6 s7 : Sl) (S : Sto) : L_names (env0 s0 s1 s2 s3 (.v (.lst (cellsL 2 2))) s5 s6 s7 .un .un) S = .nx (env0 s0 s1 s2 s3 (.v (.lst (cellsL 2 2))) s5 s6 s7 (.v (.tup [cellD 0 0, .int 0])) (.v (.dct false [] []))) S := by kernel_rfl
theorem map_2_3 (s0 s1 : Sl) (a b : Ce) : L_map (env0 s0 s1 (.v (rowsD 2 3)) .un .un .un .un .un .un .un) [a, b] = .nx (env0 s0 s1 (.v (rowsD 2 3)) (.v (mapD 2 3)) (.v (.lst (cellsL 2 3))) .un .un .un .un .un) [a, b, .dead, .dead] := by kernel_rfl
theorem search_2_3 (s0 s1 s2 : Sl) (a b : Ce) : L_search (env0 s0 s1 s2 (.v (mapD 2 3)) (.v (.lst (cellsL 2 3))) .un .un .un .un .un) [a, b, .dead, .dead] = .nx (env0 s0 s1 s2 (.v (mapD 2 3)) (.v (.lst (cellsL 2 3))) (.v (.cell 4)) (.v (.cell 8)) (.v (.cell 9)) .un .un) (store0 2 3 a b) := by kernel_rfl
theorem names_2_3 (s0 s1 s2 s3 s5 s6 s7 : Sl) (S : Sto) : L_names (env0 s0 s1 s2 s3 (.v (.lst (cellsL 2 3))) s5 s6 s7 .un .un) S = .nx (env0 s0 s1 s2 s3 (.v (.lst (cellsL 2 3))) s5 s6 s7 (.v (.tup [cellD 0 0, .int 0])) (.v (.dct false [] []))) S := by kernel_rfl
theorem map_2_4 (s0 s1 : Sl) (a b : Ce) : L_map (env0 s0 s1 (.v (rowsD 2 4)) .un .un .un .un .un .un .un) [a, b] = .nx (env0 s0 s1 (.v (rowsD 2 4)) (.v (mapD 2 4)) (.v (.lst (cellsL 2 4))) .un .un .un .un .un) [a, b, .dead, .dead] := by kernel_rfl
theorem search_2_4 (s0 s1 s2 : Sl) (a b : Ce) : L_search (env0 s0 s1 s2 (.v (mapD 2 4)) (.v (.lst (cellsL 2 4))) .un .un .un .un .un) [a, b, .dead, .dead] = .nx (env0 s0 s1 s2 (.v (mapD 2 4)) (.v (.lst (cellsL 2 4))) (.v (.cell 4)) (.v (.cell 8)) (.v (.cell 9)) .un .un) (store0 2 4 a b) := by kernel_rfl
theorem names_2_4 (s0 s1 s2 s3 s5 s6 s7 : Sl) (S : Sto) : L_names (env0 s0 s1 s2 s3 (.v (.lst (cellsL 2 4))) s5 s6 s7 .un .un) S = .nx (env0 s0 s1 s2 s3 (.v (.lst (cellsL 2 4))) s5 s6 s7 (.v (.tup [cellD 0 0, .int 0])) (.v (.dct false [] []))) S := by kernel_rfl
theorem map_3_2 (s0 s1 : Sl) (a b : Ce) : L_map (env0 s0 s1 (.v (rowsD 3 2)) .un .un .un .un .un .un .un) [a, b] = .nx (env0 s0 s1 (.v (rowsD 3 2)) (.v (mapD 3 2)) (.v (.lst (cellsL 3 2))) .un .un .un .un .un) [a, b, .dead, .dead] := by kernel_rfl
theorem search_3_2 (s0 s1 s2 : Sl) (a b : Ce) : L_search (env0 s0 s1 s2 (.v (mapD 3 2)) (.v (.lst (cellsL 3 2))) .un .un .un .un .un) [a, b, .dead, .dead] = .nx (env0 s0 s1 s2 (.v (mapD 3 2)) (.v (.lst (cellsL 3 2))) (.v (.cell 4)) (.v (.cell 8)) (.v (.cell 9)) .un .un) (store0 3 2 a b) := by kernel_rfl
theorem names_3_2 (s0 s1 s2 s3 s5 s6 s7 : Sl) (S : Sto) : L_names (env0 s0 s1 s2 s3 (.v (.lst (cellsL 3 2))) s5 s6 s7 .un .un) S = .nx (env0 s0 s1 s2 s3 (.v (.lst (cellsL 3 2))) s5 s6 s7 (.v (.tup [cellD 0 0, .int 0])) (.v (.dct false [] []))) S := by kernel_rfl
theorem map_3_3 (s0 s1 : Sl) (a b : Ce) : L_map (env0 s0 s1 (.v (rowsD 3 3)) .un .un .un .un .un .un .un) [a, b] = .nx (env0 s0 s1 (.v (rowsD 3 3)) (.v (mapD 3 3)) (.v (.lst (cellsL 3 3))) .un .un .un .un .un) [a, b, .dead, .dead] := by kernel_rfl
theorem search_3_3 (s0 s1 s2 : Sl) (a b : Ce) : L_search (env0 s0 s1 s2 (.v (mapD 3 3)) (.v (.lst (cellsL 3 3))) .un .un .un .un .un) [a, b, .dead, .dead] = .nx (env0 s0 s1 s2 (.v (mapD 3 3)) (.v (.lst (cellsL 3 3))) (.v (.cell 4)) (.v (.cell 8)) (.v (.cell 9)) .un .un) (store0 3 3 a b) := by kernel_rfl
theorem names_3_3 (s0 s1 s2 s3 s5 s6 s7 : Sl) (S : Sto) : L_names (env0 s0 s1 s2 s3 (.v (.lst (cellsL 3 3))) s5 s6 s7 .un .un) S = .nx (env0 s0 s1 s2 s3 (.v (.lst (cellsL 3 3))) s5 s6 s7 (.v (.tup [cellD 0 0, .int 0])) (.v (.dct false [] []))) S := by kernel_rfl
theorem map_3_4 (s0 s1 : Sl) (a b : Ce) : L_map (env0 s0 s1 (.v (rowsD 3 4)) .un .un .un .un .un .un .un) [a, b] = .nx (env0 s0 s1 (.v (rowsD 3 4)) (.v (mapD 3 4)) (.v (.lst (cellsL 3 4))) .un .un .un .un .un) [a, b, .dead, .dead] := by kernel_rfl
theorem search_3_4 (s0 s1 s2 : Sl) (a b : Ce) : L_search (env0 s0 s1 s2 (.v (mapD 3 4)) (.v (.lst (cellsL 3 4))) .un .un .un .un .un) [a, b, .dead, .dead] = .nx (env0 s0 s1 s2 (.v (mapD 3 4)) (.v (.lst (cellsL 3 4))) (.v (.cell 4)) (.v (.cell 8)) (.v (.cell 9)) .un .un) (store0 3 4 a b) := by kernel_rfl
theorem names_3_4 (s0 s1 s2 s3 s5 s6 s7 : Sl) (S : Sto) : L_names (env0 s0 s1 s2 s3 (.v (.lst (cellsL 3 4))) s5 s6 s7 .un .un) S = .nx (env0 s0 s1 s2 s3 (.v (.lst (cellsL 3 4))) s5 s6 s7 (.v (.tup [cellD 0 0, .int 0])) (.v (.dct false [] []))) S := by kernel_rfl
theorem map_4_2 (s0 s1 : Sl) (a b : Ce) : L_map (env0 s0 s1 (.v (rowsD 4 2)) .un .un .un .un .un .un .un) [a, b] = .nx (env0 s0 s1 (.v (rowsD 4 2)) (.v (mapD 4 2)) (.v (.lst (cellsL 4 2))) .un .un .un .un .un) [a, b, .dead, .dead] := by kernel_rfl
theorem search_4_2 (s0 s1 s2 : Sl) (a b : Ce) : L_search (env0 s0 s1 s2 (.v (mapD 4 2)) (.v (.lst (cellsL 4 2))) .un .un .un .un .un) [a, b, .dead, .dead] = .nx (env0 s0 s1 s2 (.v (mapD 4 2)) (.v (.lst (cellsL 4 2))) (.v (.cell 4)) (.v (.cell 8)) (.v (.cell 9)) .un .un) (store0 4 2 a b) := by kernel_rfl
theorem names_4_2 (s0 s1 s2 s3 s5 s6 s7 : Sl) (S : Sto) : L_names (env0 s0 s1 s2 s3 (.v (.lst (cellsL 4 2))) s5 s6 s7 .un .un) S = .nx (env0 s0 s1 s2 s3 (.v (.lst (cellsL 4 2))) s5 s6 s7 (.v (.tup [cellD 0 0, .int 0])) (.v (.dct false [] []))) S := by kernel_rfl
theorem map_4_3 (s0 s1 : Sl) (a b : Ce) : L_map (env0 s0 s1 (.v (rowsD 4 3)) .un .un .un .un .un .un .un) [a, b] = .nx (env0 s0 s1 (.v (rowsD 4 3)) (.v (mapD 4 3)) (.v (.lst (cellsL 4 3))) .un .un .un .un .un) [a, b, .dead, .dead] := by kernel_rfl
theorem search_4_3 (s0 s1 s2 : Sl) (a b : Ce) : L_search (env0 s0 s1 s2 (.v (mapD 4 3)) (.v (.lst (cellsL 4 3))) .un .un .un .un .un) [a, b, .dead, .dead] = .nx (env0 s0 s1 s2 (.v (mapD 4 3)) (.v (.lst (cellsL 4 3))) (.v (.cell 4)) (.v (.cell 8)) (.v (.cell 9)) .un .un) (store0 4 3 a b) := by kernel_rfl
theorem names_4_3 (s0 s1 s2 s3 s5 s6 s7 : Sl) (S : Sto) : L_names (env0 s0 s1 s2 s3 (.v (.lst (cellsL 4 3))) s5 s6 s7 .un .un) S = .nx (env0 s0 s1 s2 s3 (.v (.lst (cellsL 4 3))) s5 s6 s7 (.v (.tup [cellD 0 0, .int 0])) (.v (.dct false [] []))) S := by kernel_rfl
theorem map_4_4 (s0 s1 : Sl) (a b : Ce) : L_map (env0 s0 s1 (.v (rowsD 4 4)) .un .un .un .un .un .un .un) [a, b] = .nx (env0 s0 s1 (.v (rowsD 4 4)) (.v (mapD 4 4)) (.v (.lst (cellsL 4 4))) .un .un .un .un .un) [a, b, .dead, .dead] := by kernel_rfl
theorem search_4_4 (s0 s1 s2 : Sl) (a b : Ce) : L_search (env0 s0 s1 s2 (.v (mapD 4 4)) (.v (.lst (cellsL 4 4))) .un .un .un .un .un) [a, b, .dead, .dead] = .nx (env0 s0 s1 s2 (.v (mapD 4 4)) (.v (.lst (cellsL 4 4))) (.v (.cell 4)) (.v (.cell 8)) (.v (.cell 9)) .un .un) (store0 4 4 a b) := by kernel_rfl
theorem names_4_4 (s0 s1 s2 s3 s5 s6 s7 : Sl) (S : Sto) : L_names (env0 s0 s1 s2 s3 (.v (.lst (cellsL 4 4))) s5 s6 s7 .un .un) S = .nx (env0 s0 s1 s2 s3 (.v (.lst (cellsL 4 4))) s5 s6 s7 (.v (.tup [cellD 0 0, .int 0])) (.v (.dct false [] []))) S := by kernel_rfl
theorem map_ok {h w : Nat} (hh : h = 2 ∨ h = 3 ∨ h = 4) (hw : w = 2 ∨ w = 3 ∨ w = 4) (s0 s1 : Sl) (a b : Ce) : L_map (env0 s0 s1 (.v (rowsD h w)) .un .un .un .un .un .un .un) [a, b] = .nx (env0 s0 s1 (.v (rowsD h w)) (.v (mapD h w)) (.v (.lst (cellsL h w))) .un .un .un .un .un) [a, b, .dead, .dead] := by
  rcases hh with rfl | rfl | rfl <;> rcases hw with rfl | rfl | rfl
  · exact map_2_2 s0 s1 a b
  · exact map_2_3 s0 s1 a b
  · exact map_2_4 s0 s1 a b
  · exact map_3_2 s0 s1 a b
  · exact map_3_3 s0 s1 a b
  · exact map_3_4 s0 s1 a b
  · exact map_4_2 s0 s1 a b
  · exact map_4_3 s0 s1 a b
  · exact map_4_4 s0 s1 a b
theorem search_ok {h w : Nat} (hh : h = 2 ∨ h = 3 ∨ h = 4) (hw : w = 2 ∨ w = 3 ∨ w = 4) (s0 s1 s2 : Sl) (a b : Ce) : L_search (env0 s0 s1 s2 (.v (mapD h w)) (.v (.lst (cellsL h w))) .un .un .un .un .un) [a, b, .dead, .dead] = .nx (env0 s0 s1 s2 (.v (mapD h w)) (.v (.lst (cellsL h w))) (.v (.cell 4)) (.v (.cell 8)) (.v (.cell 9)) .un .un) (store0 h w a b) := by
  rcases hh with rfl | rfl | rfl <;> rcases hw with rfl | rfl | rfl
  · exact search_2_2 s0 s1 s2 a b
  · exact search_2_3 s0 s1 s2 a b
  · exact search_2_4 s0 s1 s2 a b
  · exact search_3_2 s0 s1 s2 a b
  · exact search_3_3 s0 s1 s2 a b
  · exact search_3_4 s0 s1 s2 a b
  · exact search_4_2 s0 s1 s2 a b
  · exact search_4_3 s0 s1 s2 a b
  · exact search_4_4 s0 s1 s2 a b
theorem names_ok {h w : Nat} (hh : h = 2 ∨ h = 3 ∨ h = 4) (hw : w = 2 ∨ w = 3 ∨ w = 4) (s0 s1 s2 s3 s5 s6 s7 : Sl) (S : Sto) : L_names (env0 s0 s1 s2 s3 (.v (.lst (cellsL h w))) s5 s6 s7 .un .un) S = .nx (env0 s0 s1 s2 s3 (.v (.lst (cellsL h w))) s5 s6 s7 (.v (.tup [cellD 0 0, .int 0])) (.v (.dct false [] []))) S := by
  rcases hh with rfl | rfl | rfl <;> rcases hw with rfl | rfl | rfl
  · exact names_2_2 s0 s1 s2 s3 s5 s6 s7 S
  · exact names_2_3 s0 s1 s2 s3 s5 s6 s7 S
  · exact names_2_4 s0 s1 s2 s3 s5 s6 s7 S
  · exact names_3_2 s0 s1 s2 s3 s5 s6 s7 S
  · exact names_3_3 s0 s1 s2 s3 s5 s6 s7 S
  · exact names_3_4 s0 s1 s2 s3 s5 s6 s7 S
  · exact names_4_2 s0 s1 s2 s3 s5 s6 s7 S
  · exact names_4_3 s0 s1 s2 s3 s5 s6 s7 S
  · exact names_4_4 s0 s1 s2 s3 s5 s6 s7 S
theorem rows_ok {h w : Nat} (hh : h = 2 ∨ h = 3 ∨ h = 4) (hw : w = 2 ∨ w = 3 ∨ w = 4) (S : Sto) : (kMulS (.str ".") (.int w)).bind (fun d => (kRep (.lst [d]) (.int h)).bind fun e => kTupOf S [e]) = some (rowsD h w) := by
  rcases hh with rfl | rfl | rfl <;> rcases hw with rfl | rfl | rfl <;> kernel_rfl
end L97
end
section
set_option Elab.async false
set_option linter.all false
set_option maxRecDepth 100000
set_option maxHeartbeats 4000000
namespace L97
open PySem L2 Dl
structure PS where
  r : Nat
  c : Nat
  k : Int
structure St where
  s : PS
  n : List (Bool × PS)
structure En where
  deed : D
  pre : St
  post : St
def kd : Bool → D
  | true => .str "b"
  | false => .str "a"
def lawS (s : PS) : D := .tup [cellD s.r s.c, .int s.k]
def scS (T : D) (s : PS) : D := .obj 2 [cellD s.r s.c, .int s.k, T]
def keysN (n : List (Bool × PS)) : List D := n.map fun p => kd p.1
def valN (f : PS → D) (n : List (Bool × PS)) : List D := n.map fun p => f p.2
def dN (f : PS → D) (n : List (Bool × PS)) : D := .dct false (keysN n) (valN f n)
def putN (x : Bool) (s : PS) : List (Bool × PS) → List (Bool × PS)
  | [] => [(x, s)]
  | p :: n => if p.1 = x then (x, s) :: n else p :: putN x s n
inductive Nice : List (Bool × PS) → Prop where
  | nil : Nice []
  | one (x : Bool) (p : PS) : Nice [(x, p)]
  | two (x : Bool) (p q : PS) : Nice [(x, p), (!x, q)]
theorem nice_put {n : List (Bool × PS)} (h : Nice n) (y : Bool) (s : PS) : Nice (putN y s n) := by
  cases h with
  | nil => exact .one _ _
  | one x p => cases x <;> cases y <;> first | exact .one _ _ | exact .two _ _ _
  | two x p q => cases x <;> cases y <;> exact .two _ _ _
theorem mem_put {n : List (Bool × PS)} {y : Bool} {s : PS} {z : Bool × PS} : z ∈ putN y s n → z = (y, s) ∨ z ∈ n := by
  induction n with
  | nil => intro h; exact .inl (List.mem_singleton.mp h)
  | cons p n ih =>
    intro h
    unfold putN at h
    split at h
    · rcases List.mem_cons.mp h with h | h
      · exact .inl h
      · exact .inr (List.mem_cons_of_mem _ h)
    · rcases List.mem_cons.mp h with h | h
      · exact .inr (h ▸ List.mem_cons_self)
      · exact (ih h).imp _root_.id (List.mem_cons_of_mem _)
theorem put_eq {n : List (Bool × PS)} (h : Nice n) (y : Bool) (s : PS) (f : PS → D) : putP (kd y) (f s) (keysN n) (valN f n) = (keysN (putN y s n), valN f (putN y s n)) := by
  cases h with
  | nil => cases y <;> rfl
  | one x p => cases x <;> cases y <;> rfl
  | two x p q => cases x <;> cases y <;> rfl
theorem merge_eq {n : List (Bool × PS)} (h : Nice n) (y : Bool) (s : PS) (f : PS → D) : mergeP [] [] (pairsD (keysN n) (valN f n) ++ [.tup [kd y, f s]]) = some (keysN (putN y s n), valN f (putN y s n)) := by
  cases h with
  | nil => cases y <;> rfl
  | one x p => cases x <;> cases y <;> rfl
  | two x p q => cases x <;> cases y <;> rfl
theorem look_eq {n : List (Bool × PS)} (h : Nice n) (y : Bool) : ∃ b : Bool, ∀ f : PS → D, (lookK (kd y) (keysN n) (valN f n)).isSome = b := by
  cases h with
  | nil => cases y <;> exact ⟨false, fun f => rfl⟩
  | one x p => cases x <;> cases y <;> first | exact ⟨true, fun f => rfl⟩ | exact ⟨false, fun f => rfl⟩
  | two x p q => cases x <;> cases y <;> exact ⟨true, fun f => rfl⟩
theorem sort_eq {n : List (Bool × PS)} (h : Nice n) : ∃ ks : List D, (∀ (S : Sto) (f : PS → D), kSrtA S [dN f n] = some (.lst ks)) ∧ ks.length = n.length ∧ goodD 3 (.lst ks) = true ∧
    ∀ i (hi : i < ks.length), ∃ x s, (x, s) ∈ n ∧ ks[i] = kd x ∧ ∀ f : PS → D, lookK (kd x) (keysN n) (valN f n) = some (f s) := by
  cases h with
  | nil => exact ⟨[], fun S f => rfl, rfl, by kernel_rfl, fun i hi => absurd hi (Nat.not_lt_zero _)⟩
  | one x p =>
    refine ⟨[kd x], fun S f => by cases x <;> kernel_rfl, rfl, by cases x <;> kernel_rfl, fun i hi => ?_⟩
    match i, hi with
    | 0, _ => exact ⟨x, p, List.mem_singleton_self _, rfl, fun f => by cases x <;> rfl⟩
  | two x p q =>
    refine ⟨[.str "a", .str "b"], fun S f => by cases x <;> kernel_rfl, rfl, by kernel_rfl, fun i hi => ?_⟩
    match i, hi with
    | 0, _ => cases x
              · exact ⟨false, p, by simp, rfl, fun f => rfl⟩
              · exact ⟨false, q, by simp, rfl, fun f => rfl⟩
    | 1, _ => cases x
              · exact ⟨true, q, by simp, rfl, fun f => rfl⟩
              · exact ⟨true, p, by simp, rfl, fun f => rfl⟩
theorem nice_len {n : List (Bool × PS)} (h : Nice n) : n.length ≤ 2 := by cases h <;> simp
theorem ix_lst {S : Sto} {ds : List D} {r : Int} (h0 : 0 ≤ r) (h1 : r < ds.length) : ∃ (hi : r.toNat < ds.length), kIx S (.lst ds) (.int r) = some ds[r.toNat] := by
  have hi : r.toNat < ds.length := by omega
  refine ⟨hi, ?_⟩
  show atI ds r = _
  unfold atI ixN
  rw [if_pos h0, if_pos h1]
  exact List.getElem?_eq_getElem hi
theorem cells_get {h w : Nat} {i : Nat} (hi : i < (cellsL h w).length) : ∃ r c, r < h ∧ c < w ∧ (cellsL h w)[i] = cellD r c := by
  have m := List.getElem_mem hi
  obtain ⟨r, hr, m⟩ := List.mem_flatMap.mp m
  obtain ⟨c, hc, m⟩ := List.mem_map.mp m
  exact ⟨r, c, List.mem_range.mp hr, List.mem_range.mp hc, m.symm⟩
theorem cells_len {h w : Nat} (hh : h = 2 ∨ h = 3 ∨ h = 4) (hw : w = 2 ∨ w = 3 ∨ w = 4) : 0 < (cellsL h w).length ∧ (cellsL h w).length < 1000 := by
  rcases hh with rfl | rfl | rfl <;> rcases hw with rfl | rfl | rfl <;> exact ⟨by decide, by decide⟩
/-! ### the turn's invariant -/
def StOk (h w : Nat) (t : St) : Prop := (t.s.r < h ∧ t.s.c < w) ∧ Nice t.n ∧ ∀ p ∈ t.n, p.2.r < h ∧ p.2.c < w
def EnOk (h w : Nat) (e : En) : Prop := StOk h w e.pre ∧ StOk h w e.post ∧ goodD 2 e.deed = true
abbrev lT (h w : Nat) : D := .tup (cellsL h w)
def pastE (h w : Nat) (e : En) : D := .tup [e.deed, scS (lT h w) e.pre.s, dN (scS (lT h w)) e.pre.n, scS (lT h w) e.post.s, dN (scS (lT h w)) e.post.n]
def lawP (e : En) : D := .tup [lawS e.pre.s, dN lawS e.pre.n, e.deed]
def lawL (e : En) : D := .tup [lawS e.post.s, dN lawS e.post.n, e.deed]
def ChP : List En → St → Prop
  | [], _ => True
  | e :: es, t => e.post = t ∧ ChP es e.pre
def ChL : List En → St → Prop
  | [], _ => True
  | e :: es, t => e.pre = t ∧ ChL es e.post
structure Drw (S : Sto) : Prop where
  ex : ∃ xs, Draw xs S ∧ xs.length ≤ 63
structure Inv (h w n : Nat) (S : Sto) (t : St) (P L : List En) (l ll : Nat) : Prop where
  draw : Drw S
  sr : Sr S (mapD h w) (scS (lT h w) t.s) (dN (scS (lT h w)) t.n) l (P.map (pastE h w)).reverse (L.map (pastE h w)).reverse
  c8 : S[8]? = some (.lst (P.map lawP).reverse)
  cl : S[ll]? = some (.lst (L.map lawL).reverse)
  l2 : 2 ≤ l ∧ l ≠ 8 ∧ l ≠ ll
  ll2 : 2 ≤ ll ∧ ll ≠ 4 ∧ ll ≠ 6 ∧ ll ≠ 8
  okt : StOk h w t
  okP : ∀ e ∈ P, EnOk h w e
  okL : ∀ e ∈ L, EnOk h w e
  chP : ChP P t
  chL : ChL L t
  num : P.length + L.length ≤ n
theorem Drw.move {S S' : Sto} (h : Drw S) (h0 : S'[0]? = S[0]?) (h1 : S'[1]? = S[1]?) : Drw S' := by
  obtain ⟨xs, ⟨c0, c1⟩, hx⟩ := h
  exact ⟨xs, ⟨h0.trans c0, by rw [h1]; exact c1⟩, hx⟩
theorem Sr.move {S S' : Sto} {M sc mk : D} {l : Nat} {ps ls : List D} (h : Sr S M sc mk l ps ls) (h4 : S'[4]? = S[4]?) (h6 : S'[6]? = S[6]?) (hl : S'[l]? = S[l]?) : Sr S' M sc mk l ps ls := ⟨h4.trans h.c4, h6.trans h.c6, hl.trans h.cl, h.n4, h.n6⟩
theorem draw_ok {h w n : Nat} {S : Sto} {t : St} {P L : List En} {l ll : Nat} (I : Inv h w n S t P L l ll) {m : Int} (hm : 0 < m ∧ m < 1000) :
    ∃ r S', F__law_next [.cell 1, .int m] S = .ok (.int r) S' ∧ 0 ≤ r ∧ r < m ∧ Inv h w n S' t P L l ll := by
  obtain ⟨xs, hd, hx⟩ := I.draw
  obtain ⟨r, ys, S', e, h0, h1, hd', hy, hlen, hk⟩ := next_ok hd hx hm
  exact ⟨r, S', e, h0, h1, { I with draw := ⟨ys, hd', by omega⟩, sr := I.sr.move (hk _ (by omega)) (hk _ (by omega)) (hk _ I.l2.1), c8 := (hk _ (by omega)).trans I.c8, cl := (hk _ I.ll2.1).trans I.cl }⟩
end L97
end
section
set_option Elab.async false
set_option linter.all false
set_option maxRecDepth 100000
set_option maxHeartbeats 4000000
namespace L97
open PySem L2 Dl
noncomputable section
def L_asg : FS := (fAsg (gTupD 4 (gConsD (gV 11) (gConsD (gV 12) (gConsD (gV 13) (gConsD (gV 14) (gNilD)))))) (fTup (fCons (fCall 2 F__law_next [] (fCons (fV 1) (fCons (fC (.int 7)) (fNil)))) (fCons (fC .non) (fCons (fV 9) (fCons (fTup (fNil)) (fNil)))))))
def L_walk : FS := (fSeq (fSet 15 (f2S kIx (fV 4) (fCall 2 F__law_next [] (fCons (fV 1) (fCons (fCB kLen (fCons (fV 4) (fNil))) (fNil)))))) (fSeq (fSet 16 (f2 kAdd (fCB kAbs (fCons (f2 kSub (f2S kIx (fV 15) (fC (.int 0))) (f2S kIx (f2S kIx (fV 8) (fC (.int 0))) (fC (.int 0)))) (fNil))) (fCB kAbs (fCons (f2 kSub (f2S kIx (fV 15) (fC (.int 1))) (f2S kIx (f2S kIx (fV 8) (fC (.int 0))) (fC (.int 1)))) (fNil))))) (fAsg (gTupD 4 (gConsD (gV 17) (gConsD (gV 18) (gConsD (gV 12) (gConsD (gV 14) (gNilD)))))) (fTup (fCons (fMeth 3 1 F_Search_walk (fV 5) (fCons (fV 15) (fNil))) (fCons (fV 16) (fCons (fTup (fCons (fV 15) (fCons (f2 kAdd (f2S kIx (fV 8) (fC (.int 1))) (fV 16)) (fNil)))) (fCons (fTup (fCons (fC (.str "walk")) (fCons (fV 15) (fNil)))) (fNil)))))))))
def L_mark : FS := (fSeq (fSet 19 (f2S kIx (fNF (fOl (fCons (fC (.str "a")) (fCons (fC (.str "b")) (fNil))))) (fCall 2 F__law_next [] (fCons (fV 1) (fCons (fC (.int 2)) (fNil)))))) (fSeq (fPar2 17 18 (fConsN (fVN (fMeth 3 1 F_Search_mark (fV 5) (fCons (fV 19) (fNil)))) (fConsN (fVN (f2 kDin (fV 19) (fV 9))) (fNilN)))) (fSeq (fPar2 12 14 (fConsN (fVN (fV 8)) (fConsN (fVN (fTup (fCons (fC (.str "mark")) (fCons (fV 19) (fNil))))) (fNilN)))) (fSet 13 (fCB kDictP (fCons (f2 kAdd (fItems (fV 9)) (fNF (fOl (fCons (fTup (fCons (fV 19) (fCons (fV 8) (fNil)))) (fNil))))) (fNil)))))))
def L_go : FS := (fSeq (fSet 19 (f2S kIx (fCB kSrtA (fCons (fV 9) (fNil))) (fCall 2 F__law_next [] (fCons (fV 1) (fCons (fCB kLen (fCons (fV 9) (fNil))) (fNil)))))) (fSeq (fPar2 17 18 (fConsN (fVN (fMeth 3 1 F_Search_go (fV 5) (fCons (fV 19) (fNil)))) (fConsN (fVN (fCB kLen (fCons (fV 4) (fNil)))) (fNilN)))) (fPar2 12 14 (fConsN (fVN (f2 kDget (fV 9) (fV 19))) (fConsN (fVN (fTup (fCons (fC (.str "go")) (fCons (fV 19) (fNil))))) (fNilN))))))
def L_undo : FS := (fSeq (fPar2 17 18 (fConsN (fVN (fMeth 3 0 F_Search_undo (fV 5) fNil)) (fConsN (fVN (fEmp true (fV 6))) (fNilN)))) (fIfS (fV 18) (fSeq (fAppC (fV 7) (fTup (fCons (fV 8) (fCons (fV 9) (fCons (f2S kIx (f2S kIx (fV 6) (fNeg (fC (.int 1)))) (fC (.int 2))) (fNil)))))) (fAsg (gTupD 3 (gConsD (gV 8) (gConsD (gV 9) (gConsD (gV 14) (gNilD))))) (fPopC (fV 6)))) (fNext)))
def L_redo : FS := (fSeq (fPar2 17 18 (fConsN (fVN (fMeth 3 0 F_Search_redo (fV 5) fNil)) (fConsN (fVN (fEmp true (fV 7))) (fNilN)))) (fIfS (fV 18) (fSeq (fAppC (fV 6) (fTup (fCons (fV 8) (fCons (fV 9) (fCons (f2S kIx (f2S kIx (fV 7) (fNeg (fC (.int 1)))) (fC (.int 2))) (fNil)))))) (fAsg (gTupD 3 (gConsD (gV 8) (gConsD (gV 9) (gConsD (gV 14) (gNilD))))) (fPopC (fV 7)))) (fNext)))
def L_enter : FS := (fIfS (f2 kNotN (fV 12) (fC .non)) (fSeq (fAppC (fV 6) (fTup (fCons (fV 8) (fCons (fV 9) (fCons (fV 14) (fNil)))))) (fPar3 8 9 7 (fConsN (fVN (fV 12)) (fConsN (fVN (fV 13)) (fConsN (fVN (fNC (fOl (fNil)))) (fNilN)))))) (fNext))
def L_found : FS := (fSet 20 (fNF (fOl (fCons (fV 17) (fCons (fProp 3 F_Search_here (fV 5)) (fCons (fProp 3 F_Search_paces_walked (fV 5)) (fCons (fProp 3 F_Search_marks (fV 5)) (fCons (fProp 3 F_Search_history (fV 5)) (fNil)))))))))
def L_chk : FS := (fIfS (fNot (fCall 2 (F__law_alike 8) [] (fCons (fV 20) (fCons (fNF (fOl (fCons (fV 18) (fCons (f2S kIx (fV 8) (fC (.int 0))) (fCons (f2S kIx (fV 8) (fC (.int 1))) (fCons (fCB kSrtA (fCons (fV 9) (fNil))) (fCons (fNF (fLc (fICell (fV 6)) [21] (gV 21) (fYes) (f2S kIx (fV 21) (fC (.int 2))))) (fNil)))))))) (fNil))))) (fRet (fC (.bl false))) (fNext))
def L_turn : FS := (fSeq (fAsg (gTupD 4 (gConsD (gV 11) (gConsD (gV 12) (gConsD (gV 13) (gConsD (gV 14) (gNilD)))))) (fTup (fCons (fCall 2 F__law_next [] (fCons (fV 1) (fCons (fC (.int 7)) (fNil)))) (fCons (fC .non) (fCons (fV 9) (fCons (fTup (fNil)) (fNil))))))) (fSeq (fIfS (f2 kLt (fV 11) (fC (.int 2))) (fSeq (fSet 15 (f2S kIx (fV 4) (fCall 2 F__law_next [] (fCons (fV 1) (fCons (fCB kLen (fCons (fV 4) (fNil))) (fNil)))))) (fSeq (fSet 16 (f2 kAdd (fCB kAbs (fCons (f2 kSub (f2S kIx (fV 15) (fC (.int 0))) (f2S kIx (f2S kIx (fV 8) (fC (.int 0))) (fC (.int 0)))) (fNil))) (fCB kAbs (fCons (f2 kSub (f2S kIx (fV 15) (fC (.int 1))) (f2S kIx (f2S kIx (fV 8) (fC (.int 0))) (fC (.int 1)))) (fNil))))) (fAsg (gTupD 4 (gConsD (gV 17) (gConsD (gV 18) (gConsD (gV 12) (gConsD (gV 14) (gNilD)))))) (fTup (fCons (fMeth 3 1 F_Search_walk (fV 5) (fCons (fV 15) (fNil))) (fCons (fV 16) (fCons (fTup (fCons (fV 15) (fCons (f2 kAdd (f2S kIx (fV 8) (fC (.int 1))) (fV 16)) (fNil)))) (fCons (fTup (fCons (fC (.str "walk")) (fCons (fV 15) (fNil)))) (fNil))))))))) (fIfS (f2 kEq (fV 11) (fC (.int 2))) (fSeq (fSet 19 (f2S kIx (fNF (fOl (fCons (fC (.str "a")) (fCons (fC (.str "b")) (fNil))))) (fCall 2 F__law_next [] (fCons (fV 1) (fCons (fC (.int 2)) (fNil)))))) (fSeq (fPar2 17 18 (fConsN (fVN (fMeth 3 1 F_Search_mark (fV 5) (fCons (fV 19) (fNil)))) (fConsN (fVN (f2 kDin (fV 19) (fV 9))) (fNilN)))) (fSeq (fPar2 12 14 (fConsN (fVN (fV 8)) (fConsN (fVN (fTup (fCons (fC (.str "mark")) (fCons (fV 19) (fNil))))) (fNilN)))) (fSet 13 (fCB kDictP (fCons (f2 kAdd (fItems (fV 9)) (fNF (fOl (fCons (fTup (fCons (fV 19) (fCons (fV 8) (fNil)))) (fNil))))) (fNil))))))) (fIfS (fAnd (f2 kEq (fV 11) (fC (.int 3))) (fEmpD true (fV 9))) (fSeq (fSet 19 (f2S kIx (fCB kSrtA (fCons (fV 9) (fNil))) (fCall 2 F__law_next [] (fCons (fV 1) (fCons (fCB kLen (fCons (fV 9) (fNil))) (fNil)))))) (fSeq (fPar2 17 18 (fConsN (fVN (fMeth 3 1 F_Search_go (fV 5) (fCons (fV 19) (fNil)))) (fConsN (fVN (fCB kLen (fCons (fV 4) (fNil)))) (fNilN)))) (fPar2 12 14 (fConsN (fVN (f2 kDget (fV 9) (fV 19))) (fConsN (fVN (fTup (fCons (fC (.str "go")) (fCons (fV 19) (fNil))))) (fNilN)))))) (fIfS (f2 kLt (fV 11) (fC (.int 5))) (fSeq (fPar2 17 18 (fConsN (fVN (fMeth 3 0 F_Search_undo (fV 5) fNil)) (fConsN (fVN (fEmp true (fV 6))) (fNilN)))) (fIfS (fV 18) (fSeq (fAppC (fV 7) (fTup (fCons (fV 8) (fCons (fV 9) (fCons (f2S kIx (f2S kIx (fV 6) (fNeg (fC (.int 1)))) (fC (.int 2))) (fNil)))))) (fAsg (gTupD 3 (gConsD (gV 8) (gConsD (gV 9) (gConsD (gV 14) (gNilD))))) (fPopC (fV 6)))) (fNext))) (fSeq (fPar2 17 18 (fConsN (fVN (fMeth 3 0 F_Search_redo (fV 5) fNil)) (fConsN (fVN (fEmp true (fV 7))) (fNilN)))) (fIfS (fV 18) (fSeq (fAppC (fV 6) (fTup (fCons (fV 8) (fCons (fV 9) (fCons (f2S kIx (f2S kIx (fV 7) (fNeg (fC (.int 1)))) (fC (.int 2))) (fNil)))))) (fAsg (gTupD 3 (gConsD (gV 8) (gConsD (gV 9) (gConsD (gV 14) (gNilD))))) (fPopC (fV 7)))) (fNext))))))) (fSeq (fIfS (f2 kNotN (fV 12) (fC .non)) (fSeq (fAppC (fV 6) (fTup (fCons (fV 8) (fCons (fV 9) (fCons (fV 14) (fNil)))))) (fPar3 8 9 7 (fConsN (fVN (fV 12)) (fConsN (fVN (fV 13)) (fConsN (fVN (fNC (fOl (fNil)))) (fNilN)))))) (fNext)) (fSeq (fSet 20 (fNF (fOl (fCons (fV 17) (fCons (fProp 3 F_Search_here (fV 5)) (fCons (fProp 3 F_Search_paces_walked (fV 5)) (fCons (fProp 3 F_Search_marks (fV 5)) (fCons (fProp 3 F_Search_history (fV 5)) (fNil))))))))) (fIfS (fNot (fCall 2 (F__law_alike 8) [] (fCons (fV 20) (fCons (fNF (fOl (fCons (fV 18) (fCons (f2S kIx (fV 8) (fC (.int 0))) (fCons (f2S kIx (fV 8) (fC (.int 1))) (fCons (fCB kSrtA (fCons (fV 9) (fNil))) (fCons (fNF (fLc (fICell (fV 6)) [21] (gV 21) (fYes) (f2S kIx (fV 21) (fC (.int 2))))) (fNil)))))))) (fNil))))) (fRet (fC (.bl false))) (fNext))))))
abbrev envT (s0 s2 s3 : Sl) (C : D) (ll : Nat) (t : St) (a10 a11 a12 a13 a14 a15 a16 a17 a18 a19 a20 a21 : Sl) : Dl.Env := [s0, .v (.cell 1), s2, s3, .v C, .v (.cell 4), .v (.cell 8), .v (.cell ll), .v (lawS t.s), .v (dN lawS t.n), a10, a11, a12, a13, a14, a15, a16, a17, a18, a19, a20, a21]
structure Half (h w n : Nat) (S : Sto) (e : En) (P : List En) (l : Nat) : Prop where
  draw : Drw S
  sr : Sr S (mapD h w) (scS (lT h w) e.post.s) (dN (scS (lT h w)) e.post.n) l ((e :: P).map (pastE h w)).reverse []
  c8 : S[8]? = some (.lst (P.map lawP).reverse)
  l8 : 9 ≤ l
  ok : ∀ x ∈ e :: P, EnOk h w x
  ch : ChP P e.pre
  num : P.length ≤ n
theorem half_of {h w n : Nat} {S S' : Sto} {t : St} {P L : List En} {l ll l' : Nat} {e : En} (I : Inv h w n S t P L l ll) (sr : Sr S' (mapD h w) (scS (lT h w) e.post.s) (dN (scS (lT h w)) e.post.n) l' ((P.map (pastE h w)).reverse ++ [pastE h w e]) [])
    (k : ∀ i, i ≠ 4 → i ≠ 6 → i < S.length → S'[i]? = S[i]?) (hl : S.length ≤ l') (hp : e.pre = t) (ok : EnOk h w e) : Half h w n S' e P l' := by
  have l8 := (List.getElem?_eq_some_iff.mp I.c8).1
  refine ⟨I.draw.move (k 0 (by omega) (by omega) (by omega)) (k 1 (by omega) (by omega) (by omega)), ?_, (k 8 (by omega) (by omega) l8).trans I.c8, by omega, fun x hx => ?_, by rw [hp]; exact I.chP, by have := I.num; omega⟩
  · rw [List.map_cons, List.reverse_cons]
    exact sr
  · rcases List.mem_cons.mp hx with rfl | hx
    · exact ok
    · exact I.okP x hx
section
variable {h w n : Nat} {S : Sto} {t : St} {P L : List En} {l ll : Nat} {e : En} {s0 s2 s3 a10 a11 a12 a13 a14 a15 a16 a17 a18 a19 a20 a21 : Sl} {C : D}
theorem enter_step (H : Half h w n S e P l) (hn : n < 1000) : ∃ S2 ll2, L_enter (envT s0 s2 s3 C ll e.pre a10 a11 (.v (lawS e.post.s)) (.v (dN lawS e.post.n)) (.v e.deed) a15 a16 a17 a18 a19 a20 a21) S = .nx (envT s0 s2 s3 C ll2 e.post a10 a11 (.v (lawS e.post.s)) (.v (dN lawS e.post.n)) (.v e.deed) a15 a16 a17 a18 a19 a20 a21) S2 ∧ Inv h w (n + 1) S2 e.post (e :: P) [] l ll2 := by
  have hnum := H.num
  have l8 := (List.getElem?_eq_some_iff.mp H.c8).1
  have lx := (List.getElem?_eq_some_iff.mp H.sr.cl).1
  have hl9 := H.l8
  have hlen : (P.map lawP).reverse.length < 1000 := by simp; omega
  let S1 := S.set 8 (.lst ((P.map lawP).reverse ++ [lawP e]))
  have e1 : S1.length = S.length := List.length_set
  have k1 : ∀ i, i ≠ 8 → i < S.length → (S1 ++ [Ce.lst []])[i]? = S[i]? := fun i h8 hi => (List.getElem?_append_left (by omega)).trans (get_ne (Ne.symm h8))
  refine ⟨S1 ++ [.lst []], S1.length, ev_ifT (ev_f2 (ev_v (by rfl)) ev_c (by rfl)) (ev_seq (ev_app (n := 8) (es := (P.map lawP).reverse) (ds := (P.map lawP).reverse) (ev_v (by rfl)) H.c8 (ev_tup (ev_cons (ev_v (by rfl)) (ev_cons (ev_v (by rfl)) (ev_cons (ev_v (by rfl)) ev_nil))) (by rfl)) H.c8 (by omega))
    (ev_par3 (ev_consN (ev_vn (ev_v (by rfl))) (ev_consN (ev_vn (ev_v (by rfl))) (ev_consN (ev_vn (ev_nc_ol (ds := []) (S1 := S1) (by rfl))) ev_nilN))))), ?_⟩
  exact {
    draw := H.draw.move (k1 0 (by omega) (by omega)) (k1 1 (by omega) (by omega))
    sr := H.sr.move (k1 4 (by omega) (by omega)) (k1 6 (by omega) (by omega)) (k1 l (by omega) lx)
    c8 := by
      rw [List.map_cons, List.reverse_cons]
      exact (List.getElem?_append_left (by omega)).trans (get_set H.c8)
    cl := List.getElem?_concat_length
    l2 := by omega
    ll2 := by omega
    okt := (H.ok e List.mem_cons_self).2.1
    okP := H.ok
    okL := fun x hx => by cases hx
    chP := ⟨rfl, H.ch⟩
    chL := trivial
    num := by simp; omega }
theorem skip_step : L_enter (envT s0 s2 s3 C ll t a10 a11 (.v .non) a13 a14 a15 a16 a17 a18 a19 a20 a21) S = .nx (envT s0 s2 s3 C ll t a10 a11 (.v .non) a13 a14 a15 a16 a17 a18 a19 a20 a21) S :=
  ev_ifF (ev_f2 (ev_v (by rfl)) ev_c (by rfl)) ev_next
theorem walk_step (hh : h = 2 ∨ h = 3 ∨ h = 4) (hw : w = 2 ∨ w = 3 ∨ w = 4) (hn : n < 1000) (I : Inv h w n S t P L l ll) : ∃ e S' l' d b15 b16, L_walk (envT s0 s2 s3 (.lst (cellsL h w)) ll t a10 a11 (.v .non) (.v (dN lawS t.n)) a14 a15 a16 a17 a18 a19 a20 a21) S = .nx (envT s0 s2 s3 (.lst (cellsL h w)) ll e.pre a10 a11 (.v (lawS e.post.s)) (.v (dN lawS e.post.n)) (.v e.deed) b15 b16 (.v d) (.v d) a19 a20 a21) S' ∧ Half h w n S' e P l' ∧ goodD 0 d = true := by
  obtain ⟨c1, c2⟩ := cells_len hh hw
  obtain ⟨r, S1, ed, h0, h1, I1⟩ := draw_ok I (m := (cellsL h w).length) (by omega)
  obtain ⟨hi, ei⟩ := ix_lst (S := S1) h0 h1
  obtain ⟨r', c', hr', hc', eg⟩ := cells_get hi
  rw [eg] at ei
  have hnum := I1.num
  obtain ⟨S', ew, ez, sr, k⟩ := walk_ok hh hw I1.okt.1.1 I1.okt.1.2 hr' hc' I1.sr (by simp; omega)
  refine ⟨⟨.tup [.str "walk", cellD r' c'], t, ⟨⟨r', c', t.s.k + manh t.s.r t.s.c r' c'⟩, t.n⟩⟩, S', _, .int (manh t.s.r t.s.c r' c'), .v (cellD r' c'), .v (.int (manh t.s.r t.s.c r' c')), ?_, half_of I1 sr k (by omega) rfl ⟨I1.okt, ⟨⟨hr', hc'⟩, I1.okt.2⟩, by kernel_rfl⟩, by kernel_rfl⟩
  exact ev_seq (ev_set (ev_f2S (ev_v (by rfl)) (ev_call (dd := []) (ev_cons (ev_v (by rfl)) (ev_cons (ev_cb (ev_cons (ev_v (by rfl)) ev_nil) (by rfl)) ev_nil)) (by rfl) ed) ei))
    (ev_seq (ev_set (ev_f2 (ev_cb (ev_cons (ev_f2 (ev_f2S (ev_v (by rfl)) ev_c (by rfl)) (ev_f2S (ev_f2S (ev_v (by rfl)) ev_c (by rfl)) ev_c (by rfl)) (by rfl)) ev_nil) (by rfl)) (ev_cb (ev_cons (ev_f2 (ev_f2S (ev_v (by rfl)) ev_c (by rfl)) (ev_f2S (ev_f2S (ev_v (by rfl)) ev_c (by rfl)) ev_c (by rfl)) (by rfl)) ev_nil) (by rfl)) (by rfl)))
    (ev_asg (ev_tup (ev_cons (ev_meth (ev_v (by rfl)) I1.sr.isT (ev_cons (ev_v (by rfl)) ev_nil) (by rfl) ew) (ev_cons (ev_v (by rfl)) (ev_cons (ev_tup (ev_cons (ev_v (by rfl)) (ev_cons (ev_f2 (ev_f2S (ev_v (by rfl)) ev_c (by rfl)) (ev_v (by rfl)) (by rfl)) ev_nil)) (by rfl)) (ev_cons (ev_tup (ev_cons ev_c (ev_cons (ev_v (by rfl)) ev_nil)) (by rfl)) ev_nil)))) (by rfl))
      (ev_gtup (by rfl) (ev_gcons ev_gv (ev_gcons ev_gv (ev_gcons ev_gv (ev_gcons ev_gv ev_gnil)))))))
theorem add_eq {n : List (Bool × PS)} (hn : Nice n) (f : PS → D) (z : D) : kAdd (.lst (pairsD (keysN n) (valN f n))) (.lst [z]) = some (.lst (pairsD (keysN n) (valN f n) ++ [z])) := by cases hn <;> rfl
theorem name_ok (x : Bool) (S : Sto) : F_is_name [kd x] S = .ok (.bl true) S := by cases x <;> kernel_rfl
theorem ask_kd (x : Bool) : askK false (kd x) = true := by cases x <;> rfl
theorem good_kd {s : D} {a : D} (x : Bool) (ha : a = .str "mark" ∨ a = .str "go") : goodD 2 (.tup [a, kd x]) = true := by rcases ha with rfl | rfl <;> cases x <;> kernel_rfl
theorem mark_step (hh : h = 2 ∨ h = 3 ∨ h = 4) (hw : w = 2 ∨ w = 3 ∨ w = 4) (hn : n < 1000) (I : Inv h w n S t P L l ll) : ∃ e S' l' d b19, L_mark (envT s0 s2 s3 (.lst (cellsL h w)) ll t a10 a11 (.v .non) (.v (dN lawS t.n)) a14 a15 a16 a17 a18 a19 a20 a21) S = .nx (envT s0 s2 s3 (.lst (cellsL h w)) ll e.pre a10 a11 (.v (lawS e.post.s)) (.v (dN lawS e.post.n)) (.v e.deed) a15 a16 (.v d) (.v d) b19 a20 a21) S' ∧ Half h w n S' e P l' ∧ goodD 0 d = true := by
  obtain ⟨r, S1, ed, h0, h1, I1⟩ := draw_ok I (m := 2) (by omega)
  obtain ⟨x, ei⟩ : ∃ x, kIx S1 (.lst [.str "a", .str "b"]) (.int r) = some (kd x) := by
    rcases (show r = 0 ∨ r = 1 by omega) with rfl | rfl
    · exact ⟨false, rfl⟩
    · exact ⟨true, rfl⟩
  have hnum := I1.num
  obtain ⟨b, hb⟩ := look_eq I1.okt.2.1 x
  have hlen := nice_len I1.okt.2.1
  obtain ⟨S', ew, ez, sr, k⟩ := mark_ok I1.sr (by simp; omega) (name_ok x) (ask_kd x) (by simp [keysN]; omega) (hb (scS (lT h w))) (put_eq I1.okt.2.1 x t.s (scS (lT h w)))
  have hsf := (List.getElem?_eq_some_iff.mp I1.c8).1
  refine ⟨⟨.tup [.str "mark", kd x], t, ⟨t.s, putN x t.s t.n⟩⟩, S', _, .bl b, .v (kd x), ?_, half_of I1 sr k (by omega) rfl ⟨I1.okt, ⟨I1.okt.1, nice_put I1.okt.2.1 x t.s, fun p hp => ?_⟩, good_kd (s := .non) x (.inl rfl)⟩, by cases b <;> kernel_rfl⟩
  · have em : kDictP S' [.lst (pairsD (keysN t.n) (valN lawS t.n) ++ [.tup [kd x, lawS t.s]])] = some (dN lawS (putN x t.s t.n)) := by
      simp only [kDictP, merge_eq I1.okt.2.1 x t.s lawS]
      rfl
    have ea : kAdd (.lst (pairsD (keysN t.n) (valN lawS t.n))) (.lst [.tup [kd x, lawS t.s]]) = some (.lst (pairsD (keysN t.n) (valN lawS t.n) ++ [.tup [kd x, lawS t.s]])) := by
      exact add_eq I1.okt.2.1 lawS _
    exact ev_seq (ev_set (ev_f2S (ev_nf_ol (ev_ol (ev_cons ev_c (ev_cons ev_c ev_nil)) (by rfl))) (ev_call (dd := []) (ev_cons (ev_v (by rfl)) (ev_cons ev_c ev_nil)) (by rfl) ed) ei))
      (ev_seq (ev_par2 (ev_consN (ev_vn (ev_meth (ev_v (by rfl)) I1.sr.isT (ev_cons (ev_v (by rfl)) ev_nil) (by rfl) ew)) (ev_consN (ev_vn (ev_f2 (ev_v (by rfl)) (ev_v (by rfl)) (z := .bl b) (by simp only [dN, kDin, ask_kd, if_true, hb]))) ev_nilN)))
      (ev_seq (ev_par2 (ev_consN (ev_vn (ev_v (by rfl))) (ev_consN (ev_vn (ev_tup (ev_cons ev_c (ev_cons (ev_v (by rfl)) ev_nil)) (by rfl))) ev_nilN)))
      (ev_set (ev_cb (ev_cons (ev_f2 (ev_items (ev_v (by rfl))) (ev_nf_ol (ev_ol (ev_cons (ev_tup (ev_cons (ev_v (by rfl)) (ev_cons (ev_v (by rfl)) ev_nil)) (by rfl)) ev_nil) (by rfl))) ea) ev_nil) em))))
  · rcases mem_put hp with rfl | hp
    · exact I1.okt.1
    · exact I1.okt.2.2 p hp
theorem go_step (hh : h = 2 ∨ h = 3 ∨ h = 4) (hw : w = 2 ∨ w = 3 ∨ w = 4) (hn : n < 1000) (I : Inv h w n S t P L l ll) (hne : 0 < t.n.length) : ∃ e S' l' d b19, L_go (envT s0 s2 s3 (.lst (cellsL h w)) ll t a10 a11 (.v .non) (.v (dN lawS t.n)) a14 a15 a16 a17 a18 a19 a20 a21) S = .nx (envT s0 s2 s3 (.lst (cellsL h w)) ll e.pre a10 a11 (.v (lawS e.post.s)) (.v (dN lawS e.post.n)) (.v e.deed) a15 a16 (.v d) (.v d) b19 a20 a21) S' ∧ Half h w n S' e P l' ∧ goodD 0 d = true := by
  obtain ⟨ks, hs, hkl, _, hks⟩ := sort_eq I.okt.2.1
  have hlen := nice_len I.okt.2.1
  obtain ⟨r, S1, ed, h0, h1, I1⟩ := draw_ok I (m := t.n.length) (by omega)
  obtain ⟨hi, ei⟩ := ix_lst (S := S1) (ds := ks) h0 (by omega)
  obtain ⟨x, s, hm, eg, hlk⟩ := hks _ hi
  rw [eg] at ei
  have hnum := I1.num
  obtain ⟨S', ew, ez, sr, k⟩ := go_ok (ts := cellsL h w) I1.sr (by simp; omega) (ask_kd x) (hlk (scS (lT h w))) rfl
  refine ⟨⟨.tup [.str "go", kd x], t, ⟨s, t.n⟩⟩, S', _, .int (cellsL h w).length, .v (kd x), ?_, half_of I1 sr k (by omega) rfl ⟨I1.okt, ⟨I1.okt.2.2 _ hm, I1.okt.2⟩, good_kd (s := .non) x (.inr rfl)⟩, by kernel_rfl⟩
  have el : kLen S [dN lawS t.n] = some (.int t.n.length) := by
    show some (D.int (keysN t.n).length) = _
    simp [keysN]
  exact ev_seq (ev_set (ev_f2S (ev_cb (ev_cons (ev_v (by rfl)) ev_nil) (hs S lawS)) (ev_call (dd := []) (ev_cons (ev_v (by rfl)) (ev_cons (ev_cb (ev_cons (ev_v (by rfl)) ev_nil) el) ev_nil)) (by rfl) ed) ei))
    (ev_seq (ev_par2 (ev_consN (ev_vn (ev_meth (ev_v (by rfl)) I1.sr.isT (ev_cons (ev_v (by rfl)) ev_nil) (by rfl) ew)) (ev_consN (ev_vn (ev_cb (ev_cons (ev_v (by rfl)) ev_nil) (by rfl))) ev_nilN)))
    (ev_par2 (ev_consN (ev_vn (ev_f2 (ev_v (by rfl)) (ev_v (by rfl)) (z := lawS s) (by simp only [dN, kDget, ask_kd, if_true, hlk]))) (ev_consN (ev_vn (ev_tup (ev_cons ev_c (ev_cons (ev_v (by rfl)) ev_nil)) (by rfl))) ev_nilN))))
end
end
end L97
end
section
set_option Elab.async false
set_option linter.all false
set_option maxRecDepth 100000
set_option maxHeartbeats 4000000
namespace L97
open PySem L2 Dl
noncomputable section
variable {h w n : Nat} {S : Sto} {t : St} {P L : List En} {l ll : Nat} {e : En} {s0 s2 s3 a10 a11 a12 a13 a14 a15 a16 a17 a18 a19 a20 a21 : Sl} {C : D}
theorem at_last (xs : List D) (x : D) : atI (xs ++ [x]) (-1) = some x := by
  unfold atI ixN
  rw [if_neg (by omega), if_pos (by simp; omega)]
  have : ((-1 : Int) + ((xs ++ [x]).length : Int)).toNat = (xs ++ [x]).length - 1 := by simp; omega
  show (xs ++ [x])[_]? = _
  rw [this]
  exact last_at xs x
theorem ix_cell {i : Nat} {xs : List D} {x : D} (hc : S[i]? = some (.lst (xs ++ [x]))) : kIx S (.cell i) (.int (-1)) = some x := by
  show (seqD S (.cell i)).bind (fun ds => atI ds (-1)) = _
  simp only [seqD, hc]
  exact at_last xs x
theorem undo_step (hn : n < 1000) (I : Inv h w n S t P L l ll) : ∃ t' P' L' S' b b14, L_undo (envT s0 s2 s3 C ll t a10 a11 (.v .non) a13 a14 a15 a16 a17 a18 a19 a20 a21) S = .nx (envT s0 s2 s3 C ll t' a10 a11 (.v .non) a13 b14 a15 a16 (.v (.bl b)) (.v (.bl b)) a19 a20 a21) S' ∧ Inv h w n S' t' P' L' l ll := by
  have hnum := I.num
  match P, I with
  | [], I => exact ⟨t, [], L, S, false, a14, ev_seq (ev_par2 (ev_consN (ev_vn (ev_meth (ev_v (by rfl)) I.sr.isT ev_nil (by rfl) (undo_no I.sr))) (ev_consN (ev_vn (ev_emp_c (ev_v (by rfl)) I.c8)) ev_nilN))) (ev_ifF (ev_v (by rfl)) ev_next), I⟩
  | e :: P, I =>
    have hc := I.chP.1
    subst hc
    have sr := I.sr
    rw [List.map_cons, List.reverse_cons] at sr
    have c8 := I.c8
    rw [List.map_cons, List.reverse_cons] at c8
    obtain ⟨S1, eu, ez, sr1, k⟩ := undo_ok sr (by simp at hnum ⊢; omega)
    obtain ⟨l2, l8, lll⟩ := I.l2
    obtain ⟨m2, m4, m6, m8⟩ := I.ll2
    have d8 := (k 8 (by omega) (by omega) (Ne.symm l8)).trans c8
    have dl := (k ll m4 m6 (Ne.symm lll)).trans I.cl
    let S2 := S1.set ll (.lst ((L.map lawL).reverse ++ [lawL e]))
    have e8 : S2[8]? = some (.lst ((P.map lawP).reverse ++ [lawP e])) := (get_ne m8).trans d8
    let S3 := S2.set 8 (.lst ((P.map lawP).reverse ++ [lawP e]).dropLast)
    have k3 : ∀ i, i ≠ 8 → i ≠ ll → S3[i]? = S1[i]? := fun i h1 h2 => (get_ne (Ne.symm h1)).trans (get_ne (Ne.symm h2))
    have hll : (L.map lawL).reverse.length < 1000 := by simp at hnum ⊢; omega
    refine ⟨e.pre, P, e :: L, S3, true, .v e.deed, ev_seq (ev_par2 (ev_consN (ev_vn (ev_meth (ev_v (by rfl)) I.sr.isT ev_nil (by rfl) eu)) (ev_consN (ev_vn ((ev_emp_c (ev_v (by rfl)) d8).trans (by rw [nem]; rfl))) ev_nilN)))
      (ev_ifT (ev_v (by rfl)) (ev_seq (ev_app (n := ll) (es := (L.map lawL).reverse) (ds := (L.map lawL).reverse) (ev_v (by rfl)) dl (ev_tup (ev_cons (ev_v (by rfl)) (ev_cons (ev_v (by rfl)) (ev_cons (ev_f2S (ev_f2S (ev_v (by rfl)) (ev_neg ev_c) (ix_cell d8)) ev_c (by rfl)) ev_nil))) (by rfl)) dl (by omega))
      (ev_asg (ev_pop (ev_v (by rfl)) e8 (last_at _ _)) (ev_gtup (by rfl) (ev_gcons ev_gv (ev_gcons ev_gv (ev_gcons ev_gv ev_gnil))))))), ?_⟩
    exact {
      draw := I.draw.move ((k3 0 (by omega) (by omega)).trans (k 0 (by omega) (by omega) (by omega))) ((k3 1 (by omega) (by omega)).trans (k 1 (by omega) (by omega) (by omega)))
      sr := by
        rw [List.map_cons, List.reverse_cons]
        exact sr1.move (k3 4 (by omega) (Ne.symm m4)) (k3 6 (by omega) (Ne.symm m6)) (k3 l l8 lll)
      c8 := (get_set e8).trans (by rw [List.dropLast_concat])
      cl := by
        rw [List.map_cons, List.reverse_cons]
        exact (get_ne (Ne.symm m8)).trans (get_set dl)
      l2 := I.l2
      ll2 := I.ll2
      okt := (I.okP e List.mem_cons_self).1
      okP := fun x hx => I.okP x (List.mem_cons_of_mem _ hx)
      okL := fun x hx => by
        rcases List.mem_cons.mp hx with rfl | hx
        · exact I.okP _ List.mem_cons_self
        · exact I.okL x hx
      chP := I.chP.2
      chL := ⟨rfl, I.chL⟩
      num := by simp at hnum ⊢; omega }
theorem redo_step (hn : n < 1000) (I : Inv h w n S t P L l ll) : ∃ t' P' L' S' b b14, L_redo (envT s0 s2 s3 C ll t a10 a11 (.v .non) a13 a14 a15 a16 a17 a18 a19 a20 a21) S = .nx (envT s0 s2 s3 C ll t' a10 a11 (.v .non) a13 b14 a15 a16 (.v (.bl b)) (.v (.bl b)) a19 a20 a21) S' ∧ Inv h w n S' t' P' L' l ll := by
  have hnum := I.num
  match L, I with
  | [], I => exact ⟨t, P, [], S, false, a14, ev_seq (ev_par2 (ev_consN (ev_vn (ev_meth (ev_v (by rfl)) I.sr.isT ev_nil (by rfl) (redo_no I.sr))) (ev_consN (ev_vn (ev_emp_c (ev_v (by rfl)) I.cl)) ev_nilN))) (ev_ifF (ev_v (by rfl)) ev_next), I⟩
  | e :: L, I =>
    have hc := I.chL.1
    subst hc
    have sr := I.sr
    rw [List.map_cons (l := L), List.reverse_cons] at sr
    have cl := I.cl
    rw [List.map_cons, List.reverse_cons] at cl
    obtain ⟨S1, eu, ez, sr1, k⟩ := redo_ok sr (by simp at hnum ⊢; omega)
    obtain ⟨l2, l8, lll⟩ := I.l2
    obtain ⟨m2, m4, m6, m8⟩ := I.ll2
    have d8 := (k 8 (by omega) (by omega) (Ne.symm l8)).trans I.c8
    have dl := (k ll m4 m6 (Ne.symm lll)).trans cl
    let S2 := S1.set 8 (.lst ((P.map lawP).reverse ++ [lawP e]))
    have el : S2[ll]? = some (.lst ((L.map lawL).reverse ++ [lawL e])) := (get_ne (Ne.symm m8)).trans dl
    let S3 := S2.set ll (.lst ((L.map lawL).reverse ++ [lawL e]).dropLast)
    have k3 : ∀ i, i ≠ 8 → i ≠ ll → S3[i]? = S1[i]? := fun i h1 h2 => (get_ne (Ne.symm h2)).trans (get_ne (Ne.symm h1))
    have hll : (P.map lawP).reverse.length < 1000 := by simp at hnum ⊢; omega
    refine ⟨e.post, e :: P, L, S3, true, .v e.deed, ev_seq (ev_par2 (ev_consN (ev_vn (ev_meth (ev_v (by rfl)) I.sr.isT ev_nil (by rfl) eu)) (ev_consN (ev_vn ((ev_emp_c (ev_v (by rfl)) dl).trans (by rw [nem]; rfl))) ev_nilN)))
      (ev_ifT (ev_v (by rfl)) (ev_seq (ev_app (n := 8) (es := (P.map lawP).reverse) (ds := (P.map lawP).reverse) (ev_v (by rfl)) d8 (ev_tup (ev_cons (ev_v (by rfl)) (ev_cons (ev_v (by rfl)) (ev_cons (ev_f2S (ev_f2S (ev_v (by rfl)) (ev_neg ev_c) (ix_cell dl)) ev_c (by rfl)) ev_nil))) (by rfl)) d8 (by omega))
      (ev_asg (ev_pop (ev_v (by rfl)) el (last_at _ _)) (ev_gtup (by rfl) (ev_gcons ev_gv (ev_gcons ev_gv (ev_gcons ev_gv ev_gnil))))))), ?_⟩
    exact {
      draw := I.draw.move ((k3 0 (by omega) (by omega)).trans (k 0 (by omega) (by omega) (by omega))) ((k3 1 (by omega) (by omega)).trans (k 1 (by omega) (by omega) (by omega)))
      sr := by
        rw [List.map_cons, List.reverse_cons]
        exact sr1.move (k3 4 (by omega) (Ne.symm m4)) (k3 6 (by omega) (Ne.symm m6)) (k3 l l8 lll)
      c8 := by
        rw [List.map_cons, List.reverse_cons]
        exact (get_ne m8).trans (get_set d8)
      cl := (get_set el).trans (by rw [List.dropLast_concat])
      l2 := I.l2
      ll2 := I.ll2
      okt := (I.okL e List.mem_cons_self).2.1
      okP := fun x hx => by
        rcases List.mem_cons.mp hx with rfl | hx
        · exact I.okL _ List.mem_cons_self
        · exact I.okP x hx
      okL := fun x hx => I.okL x (List.mem_cons_of_mem _ hx)
      chP := ⟨rfl, I.chP⟩
      chL := I.chL.2
      num := by simp at hnum ⊢; omega }
end
end L97
end
section
set_option Elab.async false
set_option linter.all false
set_option maxRecDepth 100000
set_option maxHeartbeats 4000000
namespace L97
open PySem L2 Dl
noncomputable section
def Aft (h w n : Nat) (s0 s2 s3 a10 a20 a21 : Sl) (R : Dl.Env → Sto → Prop) : Prop := ∃ ll t a11 a12 a13 a14 a15 a16 d a19 S P L l, goodD 0 d = true ∧ Inv h w n S t P L l ll ∧ R (envT s0 s2 s3 (.lst (cellsL h w)) ll t a10 a11 a12 a13 a14 a15 a16 (.v d) (.v d) a19 a20 a21) S
section
variable {h w n : Nat} {S S1 S' : Sto} {t : St} {P L : List En} {l ll : Nat} {e : En} {s0 s2 s3 a10 a11 a12 a13 a14 a15 a16 a17 a18 a19 a20 a21 : Sl} {d : D} {M R : FS} {ρ : Dl.Env}
theorem fin_enter (hm : M ρ S1 = .nx (envT s0 s2 s3 (.lst (cellsL h w)) ll e.pre a10 a11 (.v (lawS e.post.s)) (.v (dN lawS e.post.n)) (.v e.deed) a15 a16 (.v d) (.v d) a19 a20 a21) S') (H : Half h w n S' e P l) (hn : n < 1000) (hd : goodD 0 d = true) :
    Aft h w (n + 1) s0 s2 s3 a10 a20 a21 fun ρ' S2 => (fSeq M (fSeq L_enter R)) ρ S1 = R ρ' S2 := by
  obtain ⟨S2, ll2, he, I⟩ := enter_step (s0 := s0) (s2 := s2) (s3 := s3) (a10 := a10) (a11 := a11) (a15 := a15) (a16 := a16) (a17 := .v d) (a18 := .v d) (a19 := a19) (a20 := a20) (a21 := a21) (C := .lst (cellsL h w)) (ll := ll) H hn
  exact ⟨ll2, e.post, a11, _, _, _, a15, a16, d, a19, S2, e :: P, [], l, hd, I, ev_seq hm (ev_seq he rfl)⟩
theorem fin_skip (hm : M ρ S1 = .nx (envT s0 s2 s3 (.lst (cellsL h w)) ll t a10 a11 (.v .non) a13 a14 a15 a16 (.v d) (.v d) a19 a20 a21) S') (I : Inv h w n S' t P L l ll) (hd : goodD 0 d = true) :
    Aft h w (n + 1) s0 s2 s3 a10 a20 a21 fun ρ' S2 => (fSeq M (fSeq L_enter R)) ρ S1 = R ρ' S2 :=
  ⟨ll, t, a11, .v .non, a13, a14, a15, a16, d, a19, S', P, L, l, hd, { I with num := Nat.le_succ_of_le I.num }, ev_seq hm (ev_seq skip_step rfl)⟩
theorem Aft.imp {Q Q' : Dl.Env → Sto → Prop} (H : Aft h w n s0 s2 s3 a10 a20 a21 Q) (k : ∀ ρ S, Q ρ S → Q' ρ S) : Aft h w n s0 s2 s3 a10 a20 a21 Q' := by
  obtain ⟨ll, t, a11, a12, a13, a14, a15, a16, d, a19, S, P, L, l, h1, h2, h3⟩ := H
  exact ⟨ll, t, a11, a12, a13, a14, a15, a16, d, a19, S, P, L, l, h1, h2, k _ _ h3⟩
theorem emp_names (hn : Nice t.n) (h0 : t.n.length = 0 ∨ 0 < t.n.length) : ((keysN t.n).isEmpty != true) = decide (0 < t.n.length) := by
  unfold keysN
  cases hq : t.n with
  | nil => rfl
  | cons p q => simp
theorem turn_mid (hh : h = 2 ∨ h = 3 ∨ h = 4) (hw : w = 2 ∨ w = 3 ∨ w = 4) (hn : n < 1000) (I : Inv h w n S t P L l ll) :
    Aft h w (n + 1) s0 s2 s3 a10 a20 a21 fun ρ' S2 => L_turn (envT s0 s2 s3 (.lst (cellsL h w)) ll t a10 a11 a12 a13 a14 a15 a16 a17 a18 a19 a20 a21) S = (fSeq L_found L_chk) ρ' S2 := by
  obtain ⟨r, S1, ed, h0, h1, I1⟩ := draw_ok I (m := 7) (by omega)
  have ha : L_asg (envT s0 s2 s3 (.lst (cellsL h w)) ll t a10 a11 a12 a13 a14 a15 a16 a17 a18 a19 a20 a21) S = .nx (envT s0 s2 s3 (.lst (cellsL h w)) ll t a10 (.v (.int r)) (.v .non) (.v (dN lawS t.n)) (.v (.tup [])) a15 a16 a17 a18 a19 a20 a21) S1 :=
    ev_asg (ev_tup (ev_cons (ev_call (dd := []) (ev_cons (ev_v (by rfl)) (ev_cons ev_c ev_nil)) (by rfl) ed) (ev_cons ev_c (ev_cons (ev_v (by rfl)) (ev_cons (ev_tup ev_nil (by rfl)) ev_nil)))) (by rfl)) (ev_gtup (by rfl) (ev_gcons ev_gv (ev_gcons ev_gv (ev_gcons ev_gv (ev_gcons ev_gv ev_gnil)))))
  have cT : ∀ {k : D → D → Option D} {j z : Int} {b : Bool} {ρ : Dl.Env}, ρ[11]? = some (.v (.int z)) → k (.int z) (.int j) = some (.bl b) → f2 k (fV 11) (fC (.int j)) ρ S1 = .ok (.bl b) S1 := fun hr hk => ev_f2 (ev_v hr) ev_c hk
  have walk : ∀ z : Int, z = r → kLt (.int z) (.int 2) = some (.bl true) → Aft h w (n + 1) s0 s2 s3 a10 a20 a21 fun ρ' S2 => L_turn (envT s0 s2 s3 (.lst (cellsL h w)) ll t a10 a11 a12 a13 a14 a15 a16 a17 a18 a19 a20 a21) S = (fSeq L_found L_chk) ρ' S2 := fun z hz hk => by
    subst hz
    obtain ⟨e, S', l', d, b15, b16, hx, H, hd⟩ := walk_step (s0 := s0) (s2 := s2) (s3 := s3) (a10 := a10) (a11 := .v (.int z)) (a14 := .v (.tup [])) (a15 := a15) (a16 := a16) (a17 := a17) (a18 := a18) (a19 := a19) (a20 := a20) (a21 := a21) hh hw hn I1
    exact (fin_enter (R := fSeq L_found L_chk) (ev_ifT (cT (by rfl) hk) hx) H hn hd).imp fun ρ' S2 q => ev_seq ha q
  have mark : r = 2 → Aft h w (n + 1) s0 s2 s3 a10 a20 a21 fun ρ' S2 => L_turn (envT s0 s2 s3 (.lst (cellsL h w)) ll t a10 a11 a12 a13 a14 a15 a16 a17 a18 a19 a20 a21) S = (fSeq L_found L_chk) ρ' S2 := fun hz => by
    subst hz
    obtain ⟨e, S', l', d, b19, hx, H, hd⟩ := mark_step (s0 := s0) (s2 := s2) (s3 := s3) (a10 := a10) (a11 := .v (.int 2)) (a14 := .v (.tup [])) (a15 := a15) (a16 := a16) (a17 := a17) (a18 := a18) (a19 := a19) (a20 := a20) (a21 := a21) hh hw hn I1
    exact (fin_enter (R := fSeq L_found L_chk) (ev_ifF (cT (by rfl) (by kernel_rfl)) (ev_ifT (cT (by rfl) (by kernel_rfl)) hx)) H hn hd).imp fun ρ' S2 q => ev_seq ha q
  have go : r = 3 → 0 < t.n.length → Aft h w (n + 1) s0 s2 s3 a10 a20 a21 fun ρ' S2 => L_turn (envT s0 s2 s3 (.lst (cellsL h w)) ll t a10 a11 a12 a13 a14 a15 a16 a17 a18 a19 a20 a21) S = (fSeq L_found L_chk) ρ' S2 := fun hz hne => by
    subst hz
    obtain ⟨e, S', l', d, b19, hx, H, hd⟩ := go_step (s0 := s0) (s2 := s2) (s3 := s3) (a10 := a10) (a11 := .v (.int 3)) (a14 := .v (.tup [])) (a15 := a15) (a16 := a16) (a17 := a17) (a18 := a18) (a19 := a19) (a20 := a20) (a21 := a21) hh hw hn I1 hne
    exact (fin_enter (R := fSeq L_found L_chk) (ev_ifF (cT (by rfl) (by kernel_rfl)) (ev_ifF (cT (by rfl) (by kernel_rfl)) (ev_ifT (ev_andT (cT (by rfl) (by kernel_rfl)) ((ev_empD (ev_v (by rfl))).trans (by rw [emp_names I1.okt.2.1 (.inr hne), decide_eq_true hne]))) hx))) H hn hd).imp fun ρ' S2 q => ev_seq ha q
  have undo : (r = 3 ∧ t.n.length = 0) ∨ r = 4 → Aft h w (n + 1) s0 s2 s3 a10 a20 a21 fun ρ' S2 => L_turn (envT s0 s2 s3 (.lst (cellsL h w)) ll t a10 a11 a12 a13 a14 a15 a16 a17 a18 a19 a20 a21) S = (fSeq L_found L_chk) ρ' S2 := fun hz => by
    obtain ⟨t', P', L', S', b, b14, hx, I2⟩ := undo_step (C := .lst (cellsL h w)) (s0 := s0) (s2 := s2) (s3 := s3) (a10 := a10) (a11 := .v (.int r)) (a13 := .v (dN lawS t.n)) (a14 := .v (.tup [])) (a15 := a15) (a16 := a16) (a17 := a17) (a18 := a18) (a19 := a19) (a20 := a20) (a21 := a21) hn I1
    have hd : goodD 0 (.bl b) = true := by kernel_rfl
    rcases hz with ⟨rfl, hl⟩ | rfl
    · exact (fin_skip (R := fSeq L_found L_chk) (ev_ifF (cT (by rfl) (by kernel_rfl)) (ev_ifF (cT (by rfl) (by kernel_rfl)) (ev_ifF (ev_andT (cT (by rfl) (by kernel_rfl)) ((ev_empD (ev_v (by rfl))).trans (by rw [emp_names I1.okt.2.1 (.inl hl), hl]; rfl))) (ev_ifT (cT (by rfl) (by kernel_rfl)) hx)))) I2 hd).imp fun ρ' S2 q => ev_seq ha q
    · exact (fin_skip (R := fSeq L_found L_chk) (ev_ifF (cT (by rfl) (by kernel_rfl)) (ev_ifF (cT (by rfl) (by kernel_rfl)) (ev_ifF (ev_andF (cT (by rfl) (by kernel_rfl))) (ev_ifT (cT (by rfl) (by kernel_rfl)) hx)))) I2 hd).imp fun ρ' S2 q => ev_seq ha q
  have redo : r = 5 ∨ r = 6 → Aft h w (n + 1) s0 s2 s3 a10 a20 a21 fun ρ' S2 => L_turn (envT s0 s2 s3 (.lst (cellsL h w)) ll t a10 a11 a12 a13 a14 a15 a16 a17 a18 a19 a20 a21) S = (fSeq L_found L_chk) ρ' S2 := fun hz => by
    obtain ⟨t', P', L', S', b, b14, hx, I2⟩ := redo_step (C := .lst (cellsL h w)) (s0 := s0) (s2 := s2) (s3 := s3) (a10 := a10) (a11 := .v (.int r)) (a13 := .v (dN lawS t.n)) (a14 := .v (.tup [])) (a15 := a15) (a16 := a16) (a17 := a17) (a18 := a18) (a19 := a19) (a20 := a20) (a21 := a21) hn I1
    have hd : goodD 0 (.bl b) = true := by kernel_rfl
    rcases hz with rfl | rfl
    all_goals exact (fin_skip (R := fSeq L_found L_chk) (ev_ifF (cT (by rfl) (by kernel_rfl)) (ev_ifF (cT (by rfl) (by kernel_rfl)) (ev_ifF (ev_andF (cT (by rfl) (by kernel_rfl))) (ev_ifF (cT (by rfl) (by kernel_rfl)) hx)))) I2 hd).imp fun ρ' S2 q => ev_seq ha q
  rcases (show r = 0 ∨ r = 1 ∨ r = 2 ∨ (r = 3 ∧ 0 < t.n.length) ∨ (r = 3 ∧ t.n.length = 0) ∨ r = 4 ∨ r = 5 ∨ r = 6 by omega) with z | z | z | z | z | z | z | z
  · exact walk 0 z.symm (by kernel_rfl)
  · exact walk 1 z.symm (by kernel_rfl)
  · exact mark z
  · exact go z.1 z.2
  · exact undo (.inl z)
  · exact undo (.inr z)
  · exact redo (.inl z)
  · exact redo (.inr z)
end
end
end L97
end
section
set_option Elab.async false
set_option linter.all false
set_option maxRecDepth 100000
set_option maxHeartbeats 4000000
namespace L97
open PySem L2 Dl
noncomputable section
variable {h w n : Nat} {S S1 S' : Sto} {t : St} {P L : List En} {l ll : Nat} {e : En} {s0 s2 s3 a10 a11 a12 a13 a14 a15 a16 a17 a18 a19 a20 a21 : Sl} {d : D} {M R : FS} {ρ : Dl.Env}
def hd0 : D → D
  | .tup (a :: _) => a
  | _ => .non
def th2 : D → D
  | .tup (_ :: _ :: a :: _) => a
  | _ => .non
theorem good_up : ∀ {d : D}, goodD 0 d = true → goodD 3 d = true
  | .bl _, _ => by kernel_rfl
  | .int _, _ => by kernel_rfl
  | .str _, h => h
theorem goods_of {k : Nat} : ∀ {ds : List D}, (∀ d ∈ ds, goodD k d = true) → goodDs k ds = true
  | [], _ => by rw [goodDs]
  | d :: ds, h => by rw [goodDs, h d List.mem_cons_self, goods_of fun d hd => h d (List.mem_cons_of_mem _ hd)]; rfl
theorem good_lst {k : Nat} {ds : List D} (h : ∀ d ∈ ds, goodD k d = true) (hl : ds.length < 1000) : goodD (k + 1) (.lst ds) = true := by
  rw [goodD, goods_of h, decide_eq_true hl]
  rfl
theorem check_ok (hn : n < 900) (hd : goodD 0 d = true) (I : Inv h w n S t P L l ll) : ∃ b20, (fSeq L_found L_chk) (envT s0 s2 s3 C ll t a10 a11 a12 a13 a14 a15 a16 (.v d) (.v d) a19 a20 a21) S = .nx (envT s0 s2 s3 C ll t a10 a11 a12 a13 a14 a15 a16 (.v d) (.v d) a19 b20 a21) S := by
  obtain ⟨ks, hs, hkl, hkg, _⟩ := sort_eq I.okt.2.1
  have hnum := I.num
  let X : D := .lst [d, cellD t.s.r t.s.c, .int t.s.k, .lst ks, .lst (P.map En.deed).reverse]
  have e1 : ((P.map (pastE h w)).reverse).map hd0 = (P.map En.deed).reverse := by rw [List.map_reverse, List.map_map]; rfl
  have e2 : ((P.map lawP).reverse).map th2 = (P.map En.deed).reverse := by rw [List.map_reverse, List.map_map]; rfl
  have hh := history_ok (k := hd0) I.sr (by simp; omega) fun d hd => by
    obtain ⟨e, _, rfl⟩ := List.mem_map.mp (List.mem_reverse.mp hd)
    rfl
  rw [e1] at hh
  have hx : goodD 4 X = true := by
    refine good_lst (fun z hz => ?_) (by simp)
    simp only [List.mem_cons, List.not_mem_nil, or_false] at hz
    rcases hz with rfl | rfl | rfl | rfl | rfl
    · exact good_up hd
    · kernel_rfl
    · kernel_rfl
    · exact hkg
    · refine good_lst (fun z hz => ?_) (by simp; omega)
      obtain ⟨e, he, rfl⟩ := List.mem_map.mp (List.mem_reverse.mp hz)
      exact (I.okP e he).2.2
  refine ⟨.v X, ev_seq (ev_set (ev_nf_ol (ev_ol (ev_cons (ev_v (by rfl)) (ev_cons (ev_prop (ev_v (by rfl)) I.sr.isT (here_ok I.sr)) (ev_cons (ev_prop (ev_v (by rfl)) I.sr.isT (paces_ok I.sr)) (ev_cons (ev_prop (ev_v (by rfl)) I.sr.isT (marks_ok I.sr (hs S _))) (ev_cons (ev_prop (ev_v (by rfl)) I.sr.isT hh) ev_nil))))) (by rfl))))
    (ev_ifF (ev_not (b := true) (ev_call (dd := []) (ds := [X, X]) (ev_cons (ev_v (by rfl)) (ev_cons (ev_nf_ol (ev_ol (ev_cons (ev_v (by rfl)) (ev_cons (ev_f2S (ev_v (by rfl)) ev_c (by rfl)) (ev_cons (ev_f2S (ev_v (by rfl)) ev_c (by rfl)) (ev_cons (ev_cb (ev_cons (ev_v (by rfl)) ev_nil) (hs S lawS)) (ev_cons (ev_nf_ol ?_) ev_nil))))) (by rfl))) ev_nil)) (by rfl) (alike_ok (m := 8) (n := 4) (by omega) hx))) ev_next)⟩
  have q := lcD_pick (S := S) (ρ := wipeE (envT s0 s2 s3 C ll t a10 a11 a12 a13 a14 a15 a16 (.v d) (.v d) a19 (.v X) a21) [21]) (i := 21) (f := f2S kIx (fV 21) (fC (.int 2))) (k := th2) (chkL_ok I.c8) rfl rfl ((P.map lawP).reverse) [] (by simp; omega) fun d hd => by
    obtain ⟨e, _, rfl⟩ := List.mem_map.mp (List.mem_reverse.mp hd)
    exact ev_f2S (ev_v (by rfl)) ev_c (by rfl)
  rw [e2] at q
  exact ev_lc (ev_icell (ev_v (by rfl)) I.c8) q
theorem loop_ok (hh : h = 2 ∨ h = 3 ∨ h = 4) (hw : w = 2 ∨ w = 3 ∨ w = 4) : ∀ (ds : List D) {n : Nat} {S : Sto} {t : St} {P L : List En} {l ll : Nat} {a10 a11 a12 a13 a14 a15 a16 a17 a18 a19 a20 a21 : Sl}, n + ds.length < 900 → Inv h w n S t P L l ll →
    ∃ ρ' S', forD (gV 10) L_turn ds (envT s0 s2 s3 (.lst (cellsL h w)) ll t a10 a11 a12 a13 a14 a15 a16 a17 a18 a19 a20 a21) S = .nx ρ' S'
  | [], _, _, _, _, _, _, _, _, _, _, _, _, _, _, _, _, _, _, _, _, _ => ⟨_, _, rfl⟩
  | d :: ds, n, S, t, P, L, l, ll, a10, a11, a12, a13, a14, a15, a16, a17, a18, a19, a20, a21, hn, I => by
    rw [List.length_cons] at hn
    obtain ⟨ll', t', b11, b12, b13, b14, b15, b16, d', b19, S1, P', L', l', hd, I1, hR⟩ := turn_mid (s0 := s0) (s2 := s2) (s3 := s3) (a10 := .v d) (a11 := a11) (a12 := a12) (a13 := a13) (a14 := a14) (a15 := a15) (a16 := a16) (a17 := a17) (a18 := a18) (a19 := a19) (a20 := a20) (a21 := a21) hh hw (by omega) I
    obtain ⟨b20, hc⟩ := check_ok (s0 := s0) (s2 := s2) (s3 := s3) (C := .lst (cellsL h w)) (a10 := .v d) (a11 := b11) (a12 := b12) (a13 := b13) (a14 := b14) (a15 := b15) (a16 := b16) (a19 := b19) (a20 := a20) (a21 := a21) (by omega) hd I1
    obtain ⟨ρ', S', hl⟩ := loop_ok hh hw ds (a10 := .v d) (a11 := b11) (a12 := b12) (a13 := b13) (a14 := b14) (a15 := b15) (a16 := b16) (a17 := .v d') (a18 := .v d') (a19 := b19) (a20 := b20) (a21 := a21) (by omega) I1
    refine ⟨ρ', S', ?_⟩
    show (match L_turn (envT s0 s2 s3 (.lst (cellsL h w)) ll t (.v d) a11 a12 a13 a14 a15 a16 a17 a18 a19 a20 a21) S with | .nx ρ2 S2 => forD (gV 10) L_turn ds ρ2 S2 | .ct ρ2 S2 => forD (gV 10) L_turn ds ρ2 S2 | .bk ρ2 S2 => .nx ρ2 S2 | r => r) = _
    rw [hR, hc]
    exact hl
theorem law_true (ns : List Int) (hx : ns.length ≤ 63) : ∃ S, F_law [.scr (ns.map .int)] [] = .ok (.bl true) S := by
  obtain ⟨st, hm⟩ := mix_ok ns
  have D1 : Draw ns [.lst (ns.map .int), .lst [.int st, .cell 0, .int 0]] := ⟨rfl, st, 0, rfl⟩
  obtain ⟨r1, ys, S1, d1, p1, q1, D2, y1, z1, _⟩ := next_ok D1 hx (L := 3) (by omega)
  obtain ⟨r2, zs, S2, d2, p2, q2, D3, y2, z2, _⟩ := next_ok D2 (by omega) (L := 3) (by omega)
  obtain ⟨a, b, rfl⟩ : ∃ a b, S2 = [a, b] := by
    have : S2.length = 2 := z2.trans z1
    match S2, this with
    | [a, b], _ => exact ⟨a, b, rfl⟩
  obtain ⟨w, hw, ew⟩ : ∃ w : Nat, (w = 2 ∨ w = 3 ∨ w = 4) ∧ (2 + r1) = (w : Int) := ⟨(2 + r1).toNat, by omega, by omega⟩
  obtain ⟨h, hh, eh⟩ : ∃ h : Nat, (h = 2 ∨ h = 3 ∨ h = 4) ∧ (2 + r2) = (h : Int) := ⟨(2 + r2).toNat, by omega, by omega⟩
  have hrow := rows_ok hh hw [a, b]
  obtain ⟨v1, g1, hrow⟩ := Option.bind_eq_some_iff.mp hrow
  obtain ⟨v2, g2, g3⟩ := Option.bind_eq_some_iff.mp hrow
  rw [← ew] at g1
  rw [← eh] at g2
  have I : Inv h w 0 (store0 h w a b) ⟨⟨0, 0, 0⟩, []⟩ [] [] 7 9 := {
    draw := ⟨zs, ⟨D3.c0, D3.c1⟩, by omega⟩
    sr := ⟨rfl, rfl, rfl, by omega, by omega⟩
    c8 := rfl
    cl := rfl
    l2 := by omega
    ll2 := by omega
    okt := ⟨⟨by show 0 < h; omega, by show 0 < w; omega⟩, .nil, fun p hp => by cases hp⟩
    okP := fun x hx => by cases hx
    okL := fun x hx => by cases hx
    chP := trivial
    chL := trivial
    num := Nat.le_refl _ }
  obtain ⟨ρ', S', hloop⟩ := loop_ok (s0 := .v (.scr (ns.map .int))) (s2 := .v (rowsD h w)) (s3 := .v (mapD h w)) (a10 := .un) (a11 := .un) (a12 := .un) (a13 := .un) (a14 := .un) (a15 := .un) (a16 := .un) (a17 := .un) (a18 := .un) (a19 := .un) (a20 := .un) (a21 := .un) hh hw (rngD 0 20) (by rw [rngD_length]; omega) I
  refine ⟨S', ev_body rfl (ev_seq (ev_set (ev_call (dd := []) (ev_cons (ev_v (by rfl)) (ev_cons ev_c ev_nil)) (by rfl) hm))
    (ev_seq (ev_set (ev_cb (ev_cons (ev_f2 (ev_nf_ol (ev_ol (ev_cons (ev_f2 ev_c (ev_f2 ev_c (ev_call (dd := []) (ev_cons (ev_v (by rfl)) (ev_cons ev_c ev_nil)) (by rfl) d1) (by rfl)) g1) ev_nil) (by rfl))) (ev_f2 ev_c (ev_call (dd := []) (ev_cons (ev_v (by rfl)) (ev_cons ev_c ev_nil)) (by rfl) d2) (by rfl)) g2) ev_nil) g3))
    (ev_seq (map_ok hh hw _ _ a b) (ev_seq (search_ok hh hw _ _ _ a b) (ev_seq (names_ok hh hw _ _ _ _ _ _ _ _) (ev_seq (ρ' := ρ') (S' := S') ?_ (ev_ret ev_c)))))))⟩
  exact hloop
end
end L97
end
section
set_option Elab.async false
set_option linter.all false
set_option maxRecDepth 100000
set_option maxHeartbeats 4000000
namespace L97
open PySem L2 Dl
theorem kt2 {G : Gh} {W : Wd} {a : Addr} {i j : Int} {t u : Tok} {od : Option Addr} {n : Nat} {sl : Array (Option Value)} (h : G.K.lookup a = some ⟨.type "tuple", od, .seq #[.int i t, .int j u] n, sl⟩) : Rep G W (.kt [.int i, .int j]) (.ref a) :=
  ⟨a, [.int i, .int j], rfl, ⟨_, _, _, h, rfl, rfl, (by rw [sizeLine_eq]; show 2 ≤ 16777216; decide), .cons ⟨t, rfl⟩ (.cons ⟨u, rfl⟩ .nil)⟩, .cons rfl (.cons rfl .nil)⟩
theorem tab_int {K : PySem.W.Frag} : ∀ n ∈ tyNames, PySem.W.kitOne K (.type n) (.type "int") = some (tb_int n) := fun n hn => kit_ty (by revert n; decide +kernel)
theorem tab_bool {K : PySem.W.Frag} : ∀ n ∈ tyNames, PySem.W.kitOne K (.type n) (.type "bool") = some (tb_bool n) := fun n hn => kit_ty (by revert n; decide +kernel)
theorem tab_str {K : PySem.W.Frag} : ∀ n ∈ tyNames, PySem.W.kitOne K (.type n) (.type "str") = some (tb_str n) := fun n hn => kit_ty (by revert n; decide +kernel)
theorem tab_list {K : PySem.W.Frag} : ∀ n ∈ tyNames, PySem.W.kitOne K (.type n) (.type "list") = some (tb_list n) := fun n hn => kit_ty (by revert n; decide +kernel)
theorem tab_dict {K : PySem.W.Frag} : ∀ n ∈ tyNames, PySem.W.kitOne K (.type n) (.type "dict") = some (tb_dict n) := fun n hn => kit_ty (by revert n; decide +kernel)
theorem tab_tuple_list {K : PySem.W.Frag} : ∀ n ∈ tyNames, PySem.W.kitAny K (.type n) [.type "tuple", .type "list"] = some (tb_tuple_list n) := fun n hn => by
  have h1 : PySem.W.kitOne K (.type n) (.type "tuple") = some (tb_tuple n) := kit_ty (by revert n; decide +kernel)
  have h2 := tab_list (K := K) n hn
  simp only [PySem.W.kitAny, h1, h2]
  clear h1 h2
  revert n; decide +kernel
def mkG (K : PySem.W.Frag) (C0 C1 C2 C3 : Addr) : Gh := ⟨K, fun n => match n with | 0 => C0 | 1 => C1 | 2 => C2 | _ => C3, fun n => match n with | 0 => ["own_rows"] | 1 => ["own_island", "own_signs", "own_facings", "own_instructions"] | 2 => ["spot", "walked", "left"] | _ => ["chart", "rule", "scene", "marked", "past", "later"]⟩
theorem txt_mk {K : PySem.W.Frag} {h : Heap} {mg : Str → Option Value} {C0 C1 C2 C3 aM aM0 aM1 aM2 aM3 f_is_number f_Island___init__ f_Island_cells p_Island_cells f_Island___getitem__ f_Island___contains__ f_validate_cell f_is_rising f_are_signs f_are_turns f_validate_rule f_Map_island p_Map_island f_Map_signs p_Map_signs f_Map_facings p_Map_facings f_Map_instructions p_Map_instructions f_Map___init__ f_begin_states f_state_rows f_final_states f_places f_neighbors f_distances f_is_name f_Scene___init__ f_Search___init__ f_Search_here p_Search_here f_Search_paces_walked p_Search_paces_walked f_Search_marks p_Search_marks f_Search_history p_Search_history f_Search_enter f_Search_walk f_Search_mark f_Search_go f_Search_undo f_Search_redo f__law_mix f__law_next f__law_alike f__law_cells f_law : Addr} {t_GO t_LAND t_LETTERS t_MARK t_MAX_FAR t_MAX_LETTERS t_MAX_SIZE tM0 uM0 tM1 uM1 tM2 uM2 tM3 uM3 t_NEARNESS t_SMALL t_WALK_searches t_WATER : Tok}
    {odM : Option Addr} {nM : Nat} {slM : Array (Option Value)}
    {odM0 : Option Addr} {nM0 : Nat} {slM0 : Array (Option Value)}
    {odM1 : Option Addr} {nM1 : Nat} {slM1 : Array (Option Value)}
    {odM2 : Option Addr} {nM2 : Nat} {slM2 : Array (Option Value)}
    {odM3 : Option Addr} {nM3 : Nat} {slM3 : Array (Option Value)}
    {od_is_number an_is_number : Option Addr} {sl_is_number : Array (Option Value)} {oc_is_number kV_is_number dc_is_number pm_is_number cd_is_number ct_is_number : Value}
    {od_Island___init__ an_Island___init__ : Option Addr} {sl_Island___init__ : Array (Option Value)} {oc_Island___init__ kV_Island___init__ dc_Island___init__ pm_Island___init__ cd_Island___init__ ct_Island___init__ : Value}
    {od_Island_cells an_Island_cells : Option Addr} {sl_Island_cells : Array (Option Value)} {oc_Island_cells kV_Island_cells dc_Island_cells pm_Island_cells cd_Island_cells ct_Island_cells : Value}
    {r_Island_cells : List Value}
    {od_Island___getitem__ an_Island___getitem__ : Option Addr} {sl_Island___getitem__ : Array (Option Value)} {oc_Island___getitem__ kV_Island___getitem__ dc_Island___getitem__ pm_Island___getitem__ cd_Island___getitem__ ct_Island___getitem__ : Value}
    {od_Island___contains__ an_Island___contains__ : Option Addr} {sl_Island___contains__ : Array (Option Value)} {oc_Island___contains__ kV_Island___contains__ dc_Island___contains__ pm_Island___contains__ cd_Island___contains__ ct_Island___contains__ : Value}
    {od_validate_cell an_validate_cell : Option Addr} {sl_validate_cell : Array (Option Value)} {oc_validate_cell kV_validate_cell dc_validate_cell pm_validate_cell cd_validate_cell ct_validate_cell : Value}
    {od_is_rising an_is_rising : Option Addr} {sl_is_rising : Array (Option Value)} {oc_is_rising kV_is_rising dc_is_rising pm_is_rising cd_is_rising ct_is_rising : Value}
    {od_are_signs an_are_signs : Option Addr} {sl_are_signs : Array (Option Value)} {oc_are_signs kV_are_signs dc_are_signs pm_are_signs cd_are_signs ct_are_signs : Value}
    {od_are_turns an_are_turns : Option Addr} {sl_are_turns : Array (Option Value)} {oc_are_turns kV_are_turns dc_are_turns pm_are_turns cd_are_turns ct_are_turns : Value}
    {od_validate_rule an_validate_rule : Option Addr} {sl_validate_rule : Array (Option Value)} {oc_validate_rule kV_validate_rule dc_validate_rule pm_validate_rule cd_validate_rule ct_validate_rule : Value}
    {od_Map_island an_Map_island : Option Addr} {sl_Map_island : Array (Option Value)} {oc_Map_island kV_Map_island dc_Map_island pm_Map_island cd_Map_island ct_Map_island : Value}
    {r_Map_island : List Value}
    {od_Map_signs an_Map_signs : Option Addr} {sl_Map_signs : Array (Option Value)} {oc_Map_signs kV_Map_signs dc_Map_signs pm_Map_signs cd_Map_signs ct_Map_signs : Value}
    {r_Map_signs : List Value}
    {od_Map_facings an_Map_facings : Option Addr} {sl_Map_facings : Array (Option Value)} {oc_Map_facings kV_Map_facings dc_Map_facings pm_Map_facings cd_Map_facings ct_Map_facings : Value}
    {r_Map_facings : List Value}
    {od_Map_instructions an_Map_instructions : Option Addr} {sl_Map_instructions : Array (Option Value)} {oc_Map_instructions kV_Map_instructions dc_Map_instructions pm_Map_instructions cd_Map_instructions ct_Map_instructions : Value}
    {r_Map_instructions : List Value}
    {od_Map___init__ an_Map___init__ : Option Addr} {sl_Map___init__ : Array (Option Value)} {oc_Map___init__ kV_Map___init__ dc_Map___init__ pm_Map___init__ cd_Map___init__ ct_Map___init__ : Value}
    {od_begin_states an_begin_states : Option Addr} {sl_begin_states : Array (Option Value)} {oc_begin_states kV_begin_states dc_begin_states pm_begin_states cd_begin_states ct_begin_states : Value}
    {od_state_rows an_state_rows : Option Addr} {sl_state_rows : Array (Option Value)} {oc_state_rows kV_state_rows dc_state_rows pm_state_rows cd_state_rows ct_state_rows : Value}
    {od_final_states an_final_states : Option Addr} {sl_final_states : Array (Option Value)} {oc_final_states kV_final_states dc_final_states pm_final_states cd_final_states ct_final_states : Value}
    {od_places an_places : Option Addr} {sl_places : Array (Option Value)} {oc_places kV_places dc_places pm_places cd_places ct_places : Value}
    {od_neighbors an_neighbors : Option Addr} {sl_neighbors : Array (Option Value)} {oc_neighbors kV_neighbors dc_neighbors pm_neighbors cd_neighbors ct_neighbors : Value}
    {od_distances an_distances : Option Addr} {sl_distances : Array (Option Value)} {oc_distances kV_distances dc_distances pm_distances cd_distances ct_distances : Value}
    {od_is_name an_is_name : Option Addr} {sl_is_name : Array (Option Value)} {oc_is_name kV_is_name dc_is_name pm_is_name cd_is_name ct_is_name : Value}
    {od_Scene___init__ an_Scene___init__ : Option Addr} {sl_Scene___init__ : Array (Option Value)} {oc_Scene___init__ kV_Scene___init__ dc_Scene___init__ pm_Scene___init__ cd_Scene___init__ ct_Scene___init__ : Value}
    {od_Search___init__ an_Search___init__ : Option Addr} {sl_Search___init__ : Array (Option Value)} {oc_Search___init__ kV_Search___init__ dc_Search___init__ pm_Search___init__ cd_Search___init__ ct_Search___init__ : Value}
    {od_Search_here an_Search_here : Option Addr} {sl_Search_here : Array (Option Value)} {oc_Search_here kV_Search_here dc_Search_here pm_Search_here cd_Search_here ct_Search_here : Value}
    {r_Search_here : List Value}
    {od_Search_paces_walked an_Search_paces_walked : Option Addr} {sl_Search_paces_walked : Array (Option Value)} {oc_Search_paces_walked kV_Search_paces_walked dc_Search_paces_walked pm_Search_paces_walked cd_Search_paces_walked ct_Search_paces_walked : Value}
    {r_Search_paces_walked : List Value}
    {od_Search_marks an_Search_marks : Option Addr} {sl_Search_marks : Array (Option Value)} {oc_Search_marks kV_Search_marks dc_Search_marks pm_Search_marks cd_Search_marks ct_Search_marks : Value}
    {r_Search_marks : List Value}
    {od_Search_history an_Search_history : Option Addr} {sl_Search_history : Array (Option Value)} {oc_Search_history kV_Search_history dc_Search_history pm_Search_history cd_Search_history ct_Search_history : Value}
    {r_Search_history : List Value}
    {od_Search_enter an_Search_enter : Option Addr} {sl_Search_enter : Array (Option Value)} {oc_Search_enter kV_Search_enter dc_Search_enter pm_Search_enter cd_Search_enter ct_Search_enter : Value}
    {od_Search_walk an_Search_walk : Option Addr} {sl_Search_walk : Array (Option Value)} {oc_Search_walk kV_Search_walk dc_Search_walk pm_Search_walk cd_Search_walk ct_Search_walk : Value}
    {od_Search_mark an_Search_mark : Option Addr} {sl_Search_mark : Array (Option Value)} {oc_Search_mark kV_Search_mark dc_Search_mark pm_Search_mark cd_Search_mark ct_Search_mark : Value}
    {od_Search_go an_Search_go : Option Addr} {sl_Search_go : Array (Option Value)} {oc_Search_go kV_Search_go dc_Search_go pm_Search_go cd_Search_go ct_Search_go : Value}
    {od_Search_undo an_Search_undo : Option Addr} {sl_Search_undo : Array (Option Value)} {oc_Search_undo kV_Search_undo dc_Search_undo pm_Search_undo cd_Search_undo ct_Search_undo : Value}
    {od_Search_redo an_Search_redo : Option Addr} {sl_Search_redo : Array (Option Value)} {oc_Search_redo kV_Search_redo dc_Search_redo pm_Search_redo cd_Search_redo ct_Search_redo : Value}
    {od__law_mix an__law_mix : Option Addr} {sl__law_mix : Array (Option Value)} {oc__law_mix kV__law_mix dc__law_mix pm__law_mix cd__law_mix ct__law_mix : Value}
    {od__law_next an__law_next : Option Addr} {sl__law_next : Array (Option Value)} {oc__law_next kV__law_next dc__law_next pm__law_next cd__law_next ct__law_next : Value}
    {od__law_alike an__law_alike : Option Addr} {sl__law_alike : Array (Option Value)} {oc__law_alike kV__law_alike dc__law_alike pm__law_alike cd__law_alike ct__law_alike : Value}
    {od__law_cells an__law_cells : Option Addr} {sl__law_cells : Array (Option Value)} {oc__law_cells kV__law_cells dc__law_cells pm__law_cells cd__law_cells ct__law_cells : Value}
    {od_law an_law : Option Addr} {sl_law : Array (Option Value)} {oc_law kV_law dc_law pm_law cd_law ct_law : Value}
    (X : K.In h) (Gn : h.Ns mainGlobals mg)
    (h_Island : PySem.W.nsIn K mainGlobals "Island" = some (some (.ref C0)))
    (pg_Island : PySem.W.plainGet K C0 Str.empty = true)
    (hd_Island : PySem.W.hasDictIn K C0 = true)
    (po_Island : PySem.W.plainOver K C0 = true)
    (sa_Island : PySem.W.findIn K (.ref C0) "__setattr__" = some (some (.builtin "object.__setattr__")))
    (na_Island_own_rows : PySem.W.findIn K (.ref C0) "own_rows" = some none)
    (h_Map : PySem.W.nsIn K mainGlobals "Map" = some (some (.ref C1)))
    (pg_Map : PySem.W.plainGet K C1 Str.empty = true)
    (hd_Map : PySem.W.hasDictIn K C1 = true)
    (po_Map : PySem.W.plainOver K C1 = true)
    (sa_Map : PySem.W.findIn K (.ref C1) "__setattr__" = some (some (.builtin "object.__setattr__")))
    (na_Map_own_island : PySem.W.findIn K (.ref C1) "own_island" = some none)
    (na_Map_own_signs : PySem.W.findIn K (.ref C1) "own_signs" = some none)
    (na_Map_own_facings : PySem.W.findIn K (.ref C1) "own_facings" = some none)
    (na_Map_own_instructions : PySem.W.findIn K (.ref C1) "own_instructions" = some none)
    (h_Scene : PySem.W.nsIn K mainGlobals "Scene" = some (some (.ref C2)))
    (pg_Scene : PySem.W.plainGet K C2 Str.empty = true)
    (hd_Scene : PySem.W.hasDictIn K C2 = true)
    (po_Scene : PySem.W.plainOver K C2 = true)
    (sa_Scene : PySem.W.findIn K (.ref C2) "__setattr__" = some (some (.builtin "object.__setattr__")))
    (na_Scene_spot : PySem.W.findIn K (.ref C2) "spot" = some none)
    (na_Scene_walked : PySem.W.findIn K (.ref C2) "walked" = some none)
    (na_Scene_left : PySem.W.findIn K (.ref C2) "left" = some none)
    (h_Search : PySem.W.nsIn K mainGlobals "Search" = some (some (.ref C3)))
    (pg_Search : PySem.W.plainGet K C3 Str.empty = true)
    (hd_Search : PySem.W.hasDictIn K C3 = true)
    (po_Search : PySem.W.plainOver K C3 = true)
    (sa_Search : PySem.W.findIn K (.ref C3) "__setattr__" = some (some (.builtin "object.__setattr__")))
    (na_Search_chart : PySem.W.findIn K (.ref C3) "chart" = some none)
    (na_Search_rule : PySem.W.findIn K (.ref C3) "rule" = some none)
    (na_Search_scene : PySem.W.findIn K (.ref C3) "scene" = some none)
    (na_Search_marked : PySem.W.findIn K (.ref C3) "marked" = some none)
    (na_Search_past : PySem.W.findIn K (.ref C3) "past" = some none)
    (na_Search_later : PySem.W.findIn K (.ref C3) "later" = some none)
    (b_abs : PySem.W.nsIn K mainGlobals "abs" = some none)
    (b_all : PySem.W.nsIn K mainGlobals "all" = some none)
    (b_bool : PySem.W.nsIn K mainGlobals "bool" = some none)
    (b_dict : PySem.W.nsIn K mainGlobals "dict" = some none)
    (b_enumerate : PySem.W.nsIn K mainGlobals "enumerate" = some none)
    (b_int : PySem.W.nsIn K mainGlobals "int" = some none)
    (b_isinstance : PySem.W.nsIn K mainGlobals "isinstance" = some none)
    (b_len : PySem.W.nsIn K mainGlobals "len" = some none)
    (b_list : PySem.W.nsIn K mainGlobals "list" = some none)
    (b_max : PySem.W.nsIn K mainGlobals "max" = some none)
    (b_min : PySem.W.nsIn K mainGlobals "min" = some none)
    (b_range : PySem.W.nsIn K mainGlobals "range" = some none)
    (b_set : PySem.W.nsIn K mainGlobals "set" = some none)
    (b_sorted : PySem.W.nsIn K mainGlobals "sorted" = some none)
    (b_str : PySem.W.nsIn K mainGlobals "str" = some none)
    (b_tuple : PySem.W.nsIn K mainGlobals "tuple" = some none)
    (b_zip : PySem.W.nsIn K mainGlobals "zip" = some none)
    (g_GO : PySem.W.nsIn K mainGlobals "GO" = some (some (.str "go" t_GO)))
    (g_LAND : PySem.W.nsIn K mainGlobals "LAND" = some (some (.str "." t_LAND)))
    (g_LETTERS : PySem.W.nsIn K mainGlobals "LETTERS" = some (some (.str "ABCDEFGHIJKLMNOPQRSTUVWXYZ" t_LETTERS)))
    (g_MARK : PySem.W.nsIn K mainGlobals "MARK" = some (some (.str "mark" t_MARK)))
    (g_MAX_FAR : PySem.W.nsIn K mainGlobals "MAX_FAR" = some (some (.int 22 t_MAX_FAR)))
    (g_MAX_LETTERS : PySem.W.nsIn K mainGlobals "MAX_LETTERS" = some (some (.int 8 t_MAX_LETTERS)))
    (g_MAX_SIZE : PySem.W.nsIn K mainGlobals "MAX_SIZE" = some (some (.int 12 t_MAX_SIZE)))
    (g_MOVES : PySem.W.nsIn K mainGlobals "MOVES" = some (some (.ref aM)))
    (k_M : K.lookup aM = some ⟨.type "tuple", odM, .seq #[.ref aM0, .ref aM1, .ref aM2, .ref aM3] nM, slM⟩)
    (k_M0 : K.lookup aM0 = some ⟨.type "tuple", odM0, .seq #[.int (-1) tM0, .int (0) uM0] nM0, slM0⟩)
    (k_M1 : K.lookup aM1 = some ⟨.type "tuple", odM1, .seq #[.int (0) tM1, .int (1) uM1] nM1, slM1⟩)
    (k_M2 : K.lookup aM2 = some ⟨.type "tuple", odM2, .seq #[.int (1) tM2, .int (0) uM2] nM2, slM2⟩)
    (k_M3 : K.lookup aM3 = some ⟨.type "tuple", odM3, .seq #[.int (0) tM3, .int (-1) uM3] nM3, slM3⟩)
    (g_NEARNESS : PySem.W.nsIn K mainGlobals "NEARNESS" = some (some (.str "near" t_NEARNESS)))
    (g_SMALL : PySem.W.nsIn K mainGlobals "SMALL" = some (some (.str "abcdefghijklmnopqrstuvwxyz" t_SMALL)))
    (g_WALK_searches : PySem.W.nsIn K mainGlobals "WALK_searches" = some (some (.str "walk" t_WALK_searches)))
    (g_WATER : PySem.W.nsIn K mainGlobals "WATER" = some (some (.str "~" t_WATER)))
    (hf_is_number : PySem.W.nsIn K mainGlobals "is_number" = some (some (.ref f_is_number)))
    (lf_is_number : K.lookup f_is_number = some ⟨oc_is_number, od_is_number, .func (PySem.W.fnOf "is_number" "is_number" (defArgs s_is_number) (defBody s_is_number) (defScope s_is_number) .none kV_is_number dc_is_number pm_is_number an_is_number cd_is_number ct_is_number), sl_is_number⟩)
    (cf_is_number : PySem.W.codeIn K cd_is_number "is_number" = true)
    (kf_is_number : PySem.W.keepIn K (.ref f_is_number) = true)
    (hf_Island___init__ : PySem.W.findIn K (.ref C0) "__init__" = some (some (.ref f_Island___init__)))
    (if_Island___init__ : PySem.W.isFn K (.ref f_Island___init__) = true)
    (mf_Island___init__ : PySem.W.makesIn K C0 = true)
    (kC0 : PySem.W.keepIn K (.ref C0) = true)
    (lf_Island___init__ : K.lookup f_Island___init__ = some ⟨oc_Island___init__, od_Island___init__, .func (PySem.W.fnOf "__init__" "Island.__init__" (defArgs s_Island___init__) (defBody s_Island___init__) (defScope s_Island___init__) .none kV_Island___init__ dc_Island___init__ pm_Island___init__ an_Island___init__ cd_Island___init__ ct_Island___init__), sl_Island___init__⟩)
    (cf_Island___init__ : PySem.W.codeIn K cd_Island___init__ "Island.__init__" = true)
    (kf_Island___init__ : PySem.W.keepIn K (.ref f_Island___init__) = true)
    (hf_Island_cells : PySem.W.findIn K (.ref C0) "cells" = some (some (.ref p_Island_cells)))
    (pg_Island_cells : PySem.W.specialIn K (.ref p_Island_cells) "__get__" = some (some (.builtin "property.__get__")))
    (pt_Island_cells : PySem.W.takesIn K (.ref p_Island_cells) = some true)
    (pr_Island_cells : PySem.W.recIn K p_Island_cells "property" = some (.ref f_Island_cells :: r_Island_cells))
    (lf_Island_cells : K.lookup f_Island_cells = some ⟨oc_Island_cells, od_Island_cells, .func (PySem.W.fnOf "cells" "Island.cells" (defArgs s_Island_cells) (defBody s_Island_cells) (defScope s_Island_cells) .none kV_Island_cells dc_Island_cells pm_Island_cells an_Island_cells cd_Island_cells ct_Island_cells), sl_Island_cells⟩)
    (cf_Island_cells : PySem.W.codeIn K cd_Island_cells "Island.cells" = true)
    (kf_Island_cells : PySem.W.keepIn K (.ref f_Island_cells) = true)
    (hf_Island___getitem__ : PySem.W.findIn K (.ref C0) "__getitem__" = some (some (.ref f_Island___getitem__)))
    (if_Island___getitem__ : PySem.W.isFn K (.ref f_Island___getitem__) = true)
    (nf_Island___getitem__ : PySem.W.fnIn K f_Island___getitem__ = true)
    (lf_Island___getitem__ : K.lookup f_Island___getitem__ = some ⟨oc_Island___getitem__, od_Island___getitem__, .func (PySem.W.fnOf "__getitem__" "Island.__getitem__" (defArgs s_Island___getitem__) (defBody s_Island___getitem__) (defScope s_Island___getitem__) .none kV_Island___getitem__ dc_Island___getitem__ pm_Island___getitem__ an_Island___getitem__ cd_Island___getitem__ ct_Island___getitem__), sl_Island___getitem__⟩)
    (cf_Island___getitem__ : PySem.W.codeIn K cd_Island___getitem__ "Island.__getitem__" = true)
    (kf_Island___getitem__ : PySem.W.keepIn K (.ref f_Island___getitem__) = true)
    (hf_Island___contains__ : PySem.W.findIn K (.ref C0) "__contains__" = some (some (.ref f_Island___contains__)))
    (if_Island___contains__ : PySem.W.isFn K (.ref f_Island___contains__) = true)
    (lf_Island___contains__ : K.lookup f_Island___contains__ = some ⟨oc_Island___contains__, od_Island___contains__, .func (PySem.W.fnOf "__contains__" "Island.__contains__" (defArgs s_Island___contains__) (defBody s_Island___contains__) (defScope s_Island___contains__) .none kV_Island___contains__ dc_Island___contains__ pm_Island___contains__ an_Island___contains__ cd_Island___contains__ ct_Island___contains__), sl_Island___contains__⟩)
    (cf_Island___contains__ : PySem.W.codeIn K cd_Island___contains__ "Island.__contains__" = true)
    (kf_Island___contains__ : PySem.W.keepIn K (.ref f_Island___contains__) = true)
    (hf_validate_cell : PySem.W.nsIn K mainGlobals "validate_cell" = some (some (.ref f_validate_cell)))
    (lf_validate_cell : K.lookup f_validate_cell = some ⟨oc_validate_cell, od_validate_cell, .func (PySem.W.fnOf "validate_cell" "validate_cell" (defArgs s_validate_cell) (defBody s_validate_cell) (defScope s_validate_cell) .none kV_validate_cell dc_validate_cell pm_validate_cell an_validate_cell cd_validate_cell ct_validate_cell), sl_validate_cell⟩)
    (cf_validate_cell : PySem.W.codeIn K cd_validate_cell "validate_cell" = true)
    (kf_validate_cell : PySem.W.keepIn K (.ref f_validate_cell) = true)
    (hf_is_rising : PySem.W.nsIn K mainGlobals "is_rising" = some (some (.ref f_is_rising)))
    (lf_is_rising : K.lookup f_is_rising = some ⟨oc_is_rising, od_is_rising, .func (PySem.W.fnOf "is_rising" "is_rising" (defArgs s_is_rising) (defBody s_is_rising) (defScope s_is_rising) .none kV_is_rising dc_is_rising pm_is_rising an_is_rising cd_is_rising ct_is_rising), sl_is_rising⟩)
    (cf_is_rising : PySem.W.codeIn K cd_is_rising "is_rising" = true)
    (kf_is_rising : PySem.W.keepIn K (.ref f_is_rising) = true)
    (hf_are_signs : PySem.W.nsIn K mainGlobals "are_signs" = some (some (.ref f_are_signs)))
    (lf_are_signs : K.lookup f_are_signs = some ⟨oc_are_signs, od_are_signs, .func (PySem.W.fnOf "are_signs" "are_signs" (defArgs s_are_signs) (defBody s_are_signs) (defScope s_are_signs) .none kV_are_signs dc_are_signs pm_are_signs an_are_signs cd_are_signs ct_are_signs), sl_are_signs⟩)
    (cf_are_signs : PySem.W.codeIn K cd_are_signs "are_signs" = true)
    (kf_are_signs : PySem.W.keepIn K (.ref f_are_signs) = true)
    (hf_are_turns : PySem.W.nsIn K mainGlobals "are_turns" = some (some (.ref f_are_turns)))
    (lf_are_turns : K.lookup f_are_turns = some ⟨oc_are_turns, od_are_turns, .func (PySem.W.fnOf "are_turns" "are_turns" (defArgs s_are_turns) (defBody s_are_turns) (defScope s_are_turns) .none kV_are_turns dc_are_turns pm_are_turns an_are_turns cd_are_turns ct_are_turns), sl_are_turns⟩)
    (cf_are_turns : PySem.W.codeIn K cd_are_turns "are_turns" = true)
    (kf_are_turns : PySem.W.keepIn K (.ref f_are_turns) = true)
    (hf_validate_rule : PySem.W.nsIn K mainGlobals "validate_rule" = some (some (.ref f_validate_rule)))
    (lf_validate_rule : K.lookup f_validate_rule = some ⟨oc_validate_rule, od_validate_rule, .func (PySem.W.fnOf "validate_rule" "validate_rule" (defArgs s_validate_rule) (defBody s_validate_rule) (defScope s_validate_rule) .none kV_validate_rule dc_validate_rule pm_validate_rule an_validate_rule cd_validate_rule ct_validate_rule), sl_validate_rule⟩)
    (cf_validate_rule : PySem.W.codeIn K cd_validate_rule "validate_rule" = true)
    (kf_validate_rule : PySem.W.keepIn K (.ref f_validate_rule) = true)
    (hf_Map_island : PySem.W.findIn K (.ref C1) "island" = some (some (.ref p_Map_island)))
    (pg_Map_island : PySem.W.specialIn K (.ref p_Map_island) "__get__" = some (some (.builtin "property.__get__")))
    (pt_Map_island : PySem.W.takesIn K (.ref p_Map_island) = some true)
    (pr_Map_island : PySem.W.recIn K p_Map_island "property" = some (.ref f_Map_island :: r_Map_island))
    (lf_Map_island : K.lookup f_Map_island = some ⟨oc_Map_island, od_Map_island, .func (PySem.W.fnOf "island" "Map.island" (defArgs s_Map_island) (defBody s_Map_island) (defScope s_Map_island) .none kV_Map_island dc_Map_island pm_Map_island an_Map_island cd_Map_island ct_Map_island), sl_Map_island⟩)
    (cf_Map_island : PySem.W.codeIn K cd_Map_island "Map.island" = true)
    (kf_Map_island : PySem.W.keepIn K (.ref f_Map_island) = true)
    (hf_Map_signs : PySem.W.findIn K (.ref C1) "signs" = some (some (.ref p_Map_signs)))
    (pg_Map_signs : PySem.W.specialIn K (.ref p_Map_signs) "__get__" = some (some (.builtin "property.__get__")))
    (pt_Map_signs : PySem.W.takesIn K (.ref p_Map_signs) = some true)
    (pr_Map_signs : PySem.W.recIn K p_Map_signs "property" = some (.ref f_Map_signs :: r_Map_signs))
    (lf_Map_signs : K.lookup f_Map_signs = some ⟨oc_Map_signs, od_Map_signs, .func (PySem.W.fnOf "signs" "Map.signs" (defArgs s_Map_signs) (defBody s_Map_signs) (defScope s_Map_signs) .none kV_Map_signs dc_Map_signs pm_Map_signs an_Map_signs cd_Map_signs ct_Map_signs), sl_Map_signs⟩)
    (cf_Map_signs : PySem.W.codeIn K cd_Map_signs "Map.signs" = true)
    (kf_Map_signs : PySem.W.keepIn K (.ref f_Map_signs) = true)
    (hf_Map_facings : PySem.W.findIn K (.ref C1) "facings" = some (some (.ref p_Map_facings)))
    (pg_Map_facings : PySem.W.specialIn K (.ref p_Map_facings) "__get__" = some (some (.builtin "property.__get__")))
    (pt_Map_facings : PySem.W.takesIn K (.ref p_Map_facings) = some true)
    (pr_Map_facings : PySem.W.recIn K p_Map_facings "property" = some (.ref f_Map_facings :: r_Map_facings))
    (lf_Map_facings : K.lookup f_Map_facings = some ⟨oc_Map_facings, od_Map_facings, .func (PySem.W.fnOf "facings" "Map.facings" (defArgs s_Map_facings) (defBody s_Map_facings) (defScope s_Map_facings) .none kV_Map_facings dc_Map_facings pm_Map_facings an_Map_facings cd_Map_facings ct_Map_facings), sl_Map_facings⟩)
    (cf_Map_facings : PySem.W.codeIn K cd_Map_facings "Map.facings" = true)
    (kf_Map_facings : PySem.W.keepIn K (.ref f_Map_facings) = true)
    (hf_Map_instructions : PySem.W.findIn K (.ref C1) "instructions" = some (some (.ref p_Map_instructions)))
    (pg_Map_instructions : PySem.W.specialIn K (.ref p_Map_instructions) "__get__" = some (some (.builtin "property.__get__")))
    (pt_Map_instructions : PySem.W.takesIn K (.ref p_Map_instructions) = some true)
    (pr_Map_instructions : PySem.W.recIn K p_Map_instructions "property" = some (.ref f_Map_instructions :: r_Map_instructions))
    (lf_Map_instructions : K.lookup f_Map_instructions = some ⟨oc_Map_instructions, od_Map_instructions, .func (PySem.W.fnOf "instructions" "Map.instructions" (defArgs s_Map_instructions) (defBody s_Map_instructions) (defScope s_Map_instructions) .none kV_Map_instructions dc_Map_instructions pm_Map_instructions an_Map_instructions cd_Map_instructions ct_Map_instructions), sl_Map_instructions⟩)
    (cf_Map_instructions : PySem.W.codeIn K cd_Map_instructions "Map.instructions" = true)
    (kf_Map_instructions : PySem.W.keepIn K (.ref f_Map_instructions) = true)
    (hf_Map___init__ : PySem.W.findIn K (.ref C1) "__init__" = some (some (.ref f_Map___init__)))
    (if_Map___init__ : PySem.W.isFn K (.ref f_Map___init__) = true)
    (mf_Map___init__ : PySem.W.makesIn K C1 = true)
    (kC1 : PySem.W.keepIn K (.ref C1) = true)
    (lf_Map___init__ : K.lookup f_Map___init__ = some ⟨oc_Map___init__, od_Map___init__, .func (PySem.W.fnOf "__init__" "Map.__init__" (defArgs s_Map___init__) (defBody s_Map___init__) (defScope s_Map___init__) .none kV_Map___init__ dc_Map___init__ pm_Map___init__ an_Map___init__ cd_Map___init__ ct_Map___init__), sl_Map___init__⟩)
    (cf_Map___init__ : PySem.W.codeIn K cd_Map___init__ "Map.__init__" = true)
    (kf_Map___init__ : PySem.W.keepIn K (.ref f_Map___init__) = true)
    (hf_begin_states : PySem.W.nsIn K mainGlobals "begin_states" = some (some (.ref f_begin_states)))
    (lf_begin_states : K.lookup f_begin_states = some ⟨oc_begin_states, od_begin_states, .func (PySem.W.fnOf "begin_states" "begin_states" (defArgs s_begin_states) (defBody s_begin_states) (defScope s_begin_states) .none kV_begin_states dc_begin_states pm_begin_states an_begin_states cd_begin_states ct_begin_states), sl_begin_states⟩)
    (cf_begin_states : PySem.W.codeIn K cd_begin_states "begin_states" = true)
    (kf_begin_states : PySem.W.keepIn K (.ref f_begin_states) = true)
    (hf_state_rows : PySem.W.nsIn K mainGlobals "state_rows" = some (some (.ref f_state_rows)))
    (lf_state_rows : K.lookup f_state_rows = some ⟨oc_state_rows, od_state_rows, .func (PySem.W.fnOf "state_rows" "state_rows" (defArgs s_state_rows) (defBody s_state_rows) (defScope s_state_rows) .none kV_state_rows dc_state_rows pm_state_rows an_state_rows cd_state_rows ct_state_rows), sl_state_rows⟩)
    (cf_state_rows : PySem.W.codeIn K cd_state_rows "state_rows" = true)
    (kf_state_rows : PySem.W.keepIn K (.ref f_state_rows) = true)
    (hf_final_states : PySem.W.nsIn K mainGlobals "final_states" = some (some (.ref f_final_states)))
    (lf_final_states : K.lookup f_final_states = some ⟨oc_final_states, od_final_states, .func (PySem.W.fnOf "final_states" "final_states" (defArgs s_final_states) (defBody s_final_states) (defScope s_final_states) .none kV_final_states dc_final_states pm_final_states an_final_states cd_final_states ct_final_states), sl_final_states⟩)
    (cf_final_states : PySem.W.codeIn K cd_final_states "final_states" = true)
    (kf_final_states : PySem.W.keepIn K (.ref f_final_states) = true)
    (hf_places : PySem.W.nsIn K mainGlobals "places" = some (some (.ref f_places)))
    (lf_places : K.lookup f_places = some ⟨oc_places, od_places, .func (PySem.W.fnOf "places" "places" (defArgs s_places) (defBody s_places) (defScope s_places) .none kV_places dc_places pm_places an_places cd_places ct_places), sl_places⟩)
    (cf_places : PySem.W.codeIn K cd_places "places" = true)
    (kf_places : PySem.W.keepIn K (.ref f_places) = true)
    (hf_neighbors : PySem.W.nsIn K mainGlobals "neighbors" = some (some (.ref f_neighbors)))
    (lf_neighbors : K.lookup f_neighbors = some ⟨oc_neighbors, od_neighbors, .func (PySem.W.fnOf "neighbors" "neighbors" (defArgs s_neighbors) (defBody s_neighbors) (defScope s_neighbors) .none kV_neighbors dc_neighbors pm_neighbors an_neighbors cd_neighbors ct_neighbors), sl_neighbors⟩)
    (cf_neighbors : PySem.W.codeIn K cd_neighbors "neighbors" = true)
    (kf_neighbors : PySem.W.keepIn K (.ref f_neighbors) = true)
    (hf_distances : PySem.W.nsIn K mainGlobals "distances" = some (some (.ref f_distances)))
    (lf_distances : K.lookup f_distances = some ⟨oc_distances, od_distances, .func (PySem.W.fnOf "distances" "distances" (defArgs s_distances) (defBody s_distances) (defScope s_distances) .none kV_distances dc_distances pm_distances an_distances cd_distances ct_distances), sl_distances⟩)
    (cf_distances : PySem.W.codeIn K cd_distances "distances" = true)
    (kf_distances : PySem.W.keepIn K (.ref f_distances) = true)
    (hf_is_name : PySem.W.nsIn K mainGlobals "is_name" = some (some (.ref f_is_name)))
    (lf_is_name : K.lookup f_is_name = some ⟨oc_is_name, od_is_name, .func (PySem.W.fnOf "is_name" "is_name" (defArgs s_is_name) (defBody s_is_name) (defScope s_is_name) .none kV_is_name dc_is_name pm_is_name an_is_name cd_is_name ct_is_name), sl_is_name⟩)
    (cf_is_name : PySem.W.codeIn K cd_is_name "is_name" = true)
    (kf_is_name : PySem.W.keepIn K (.ref f_is_name) = true)
    (hf_Scene___init__ : PySem.W.findIn K (.ref C2) "__init__" = some (some (.ref f_Scene___init__)))
    (if_Scene___init__ : PySem.W.isFn K (.ref f_Scene___init__) = true)
    (mf_Scene___init__ : PySem.W.makesIn K C2 = true)
    (kC2 : PySem.W.keepIn K (.ref C2) = true)
    (lf_Scene___init__ : K.lookup f_Scene___init__ = some ⟨oc_Scene___init__, od_Scene___init__, .func (PySem.W.fnOf "__init__" "Scene.__init__" (defArgs s_Scene___init__) (defBody s_Scene___init__) (defScope s_Scene___init__) .none kV_Scene___init__ dc_Scene___init__ pm_Scene___init__ an_Scene___init__ cd_Scene___init__ ct_Scene___init__), sl_Scene___init__⟩)
    (cf_Scene___init__ : PySem.W.codeIn K cd_Scene___init__ "Scene.__init__" = true)
    (kf_Scene___init__ : PySem.W.keepIn K (.ref f_Scene___init__) = true)
    (hf_Search___init__ : PySem.W.findIn K (.ref C3) "__init__" = some (some (.ref f_Search___init__)))
    (if_Search___init__ : PySem.W.isFn K (.ref f_Search___init__) = true)
    (mf_Search___init__ : PySem.W.makesIn K C3 = true)
    (kC3 : PySem.W.keepIn K (.ref C3) = true)
    (lf_Search___init__ : K.lookup f_Search___init__ = some ⟨oc_Search___init__, od_Search___init__, .func (PySem.W.fnOf "__init__" "Search.__init__" (defArgs s_Search___init__) (defBody s_Search___init__) (defScope s_Search___init__) .none kV_Search___init__ dc_Search___init__ pm_Search___init__ an_Search___init__ cd_Search___init__ ct_Search___init__), sl_Search___init__⟩)
    (cf_Search___init__ : PySem.W.codeIn K cd_Search___init__ "Search.__init__" = true)
    (kf_Search___init__ : PySem.W.keepIn K (.ref f_Search___init__) = true)
    (hf_Search_here : PySem.W.findIn K (.ref C3) "here" = some (some (.ref p_Search_here)))
    (pg_Search_here : PySem.W.specialIn K (.ref p_Search_here) "__get__" = some (some (.builtin "property.__get__")))
    (pt_Search_here : PySem.W.takesIn K (.ref p_Search_here) = some true)
    (pr_Search_here : PySem.W.recIn K p_Search_here "property" = some (.ref f_Search_here :: r_Search_here))
    (lf_Search_here : K.lookup f_Search_here = some ⟨oc_Search_here, od_Search_here, .func (PySem.W.fnOf "here" "Search.here" (defArgs s_Search_here) (defBody s_Search_here) (defScope s_Search_here) .none kV_Search_here dc_Search_here pm_Search_here an_Search_here cd_Search_here ct_Search_here), sl_Search_here⟩)
    (cf_Search_here : PySem.W.codeIn K cd_Search_here "Search.here" = true)
    (kf_Search_here : PySem.W.keepIn K (.ref f_Search_here) = true)
    (hf_Search_paces_walked : PySem.W.findIn K (.ref C3) "paces_walked" = some (some (.ref p_Search_paces_walked)))
    (pg_Search_paces_walked : PySem.W.specialIn K (.ref p_Search_paces_walked) "__get__" = some (some (.builtin "property.__get__")))
    (pt_Search_paces_walked : PySem.W.takesIn K (.ref p_Search_paces_walked) = some true)
    (pr_Search_paces_walked : PySem.W.recIn K p_Search_paces_walked "property" = some (.ref f_Search_paces_walked :: r_Search_paces_walked))
    (lf_Search_paces_walked : K.lookup f_Search_paces_walked = some ⟨oc_Search_paces_walked, od_Search_paces_walked, .func (PySem.W.fnOf "paces_walked" "Search.paces_walked" (defArgs s_Search_paces_walked) (defBody s_Search_paces_walked) (defScope s_Search_paces_walked) .none kV_Search_paces_walked dc_Search_paces_walked pm_Search_paces_walked an_Search_paces_walked cd_Search_paces_walked ct_Search_paces_walked), sl_Search_paces_walked⟩)
    (cf_Search_paces_walked : PySem.W.codeIn K cd_Search_paces_walked "Search.paces_walked" = true)
    (kf_Search_paces_walked : PySem.W.keepIn K (.ref f_Search_paces_walked) = true)
    (hf_Search_marks : PySem.W.findIn K (.ref C3) "marks" = some (some (.ref p_Search_marks)))
    (pg_Search_marks : PySem.W.specialIn K (.ref p_Search_marks) "__get__" = some (some (.builtin "property.__get__")))
    (pt_Search_marks : PySem.W.takesIn K (.ref p_Search_marks) = some true)
    (pr_Search_marks : PySem.W.recIn K p_Search_marks "property" = some (.ref f_Search_marks :: r_Search_marks))
    (lf_Search_marks : K.lookup f_Search_marks = some ⟨oc_Search_marks, od_Search_marks, .func (PySem.W.fnOf "marks" "Search.marks" (defArgs s_Search_marks) (defBody s_Search_marks) (defScope s_Search_marks) .none kV_Search_marks dc_Search_marks pm_Search_marks an_Search_marks cd_Search_marks ct_Search_marks), sl_Search_marks⟩)
    (cf_Search_marks : PySem.W.codeIn K cd_Search_marks "Search.marks" = true)
    (kf_Search_marks : PySem.W.keepIn K (.ref f_Search_marks) = true)
    (hf_Search_history : PySem.W.findIn K (.ref C3) "history" = some (some (.ref p_Search_history)))
    (pg_Search_history : PySem.W.specialIn K (.ref p_Search_history) "__get__" = some (some (.builtin "property.__get__")))
    (pt_Search_history : PySem.W.takesIn K (.ref p_Search_history) = some true)
    (pr_Search_history : PySem.W.recIn K p_Search_history "property" = some (.ref f_Search_history :: r_Search_history))
    (lf_Search_history : K.lookup f_Search_history = some ⟨oc_Search_history, od_Search_history, .func (PySem.W.fnOf "history" "Search.history" (defArgs s_Search_history) (defBody s_Search_history) (defScope s_Search_history) .none kV_Search_history dc_Search_history pm_Search_history an_Search_history cd_Search_history ct_Search_history), sl_Search_history⟩)
    (cf_Search_history : PySem.W.codeIn K cd_Search_history "Search.history" = true)
    (kf_Search_history : PySem.W.keepIn K (.ref f_Search_history) = true)
    (hf_Search_enter : PySem.W.findIn K (.ref C3) "enter" = some (some (.ref f_Search_enter)))
    (if_Search_enter : PySem.W.isFn K (.ref f_Search_enter) = true)
    (lf_Search_enter : K.lookup f_Search_enter = some ⟨oc_Search_enter, od_Search_enter, .func (PySem.W.fnOf "enter" "Search.enter" (defArgs s_Search_enter) (defBody s_Search_enter) (defScope s_Search_enter) .none kV_Search_enter dc_Search_enter pm_Search_enter an_Search_enter cd_Search_enter ct_Search_enter), sl_Search_enter⟩)
    (cf_Search_enter : PySem.W.codeIn K cd_Search_enter "Search.enter" = true)
    (kf_Search_enter : PySem.W.keepIn K (.ref f_Search_enter) = true)
    (hf_Search_walk : PySem.W.findIn K (.ref C3) "walk" = some (some (.ref f_Search_walk)))
    (if_Search_walk : PySem.W.isFn K (.ref f_Search_walk) = true)
    (lf_Search_walk : K.lookup f_Search_walk = some ⟨oc_Search_walk, od_Search_walk, .func (PySem.W.fnOf "walk" "Search.walk" (defArgs s_Search_walk) (defBody s_Search_walk) (defScope s_Search_walk) .none kV_Search_walk dc_Search_walk pm_Search_walk an_Search_walk cd_Search_walk ct_Search_walk), sl_Search_walk⟩)
    (cf_Search_walk : PySem.W.codeIn K cd_Search_walk "Search.walk" = true)
    (kf_Search_walk : PySem.W.keepIn K (.ref f_Search_walk) = true)
    (hf_Search_mark : PySem.W.findIn K (.ref C3) "mark" = some (some (.ref f_Search_mark)))
    (if_Search_mark : PySem.W.isFn K (.ref f_Search_mark) = true)
    (lf_Search_mark : K.lookup f_Search_mark = some ⟨oc_Search_mark, od_Search_mark, .func (PySem.W.fnOf "mark" "Search.mark" (defArgs s_Search_mark) (defBody s_Search_mark) (defScope s_Search_mark) .none kV_Search_mark dc_Search_mark pm_Search_mark an_Search_mark cd_Search_mark ct_Search_mark), sl_Search_mark⟩)
    (cf_Search_mark : PySem.W.codeIn K cd_Search_mark "Search.mark" = true)
    (kf_Search_mark : PySem.W.keepIn K (.ref f_Search_mark) = true)
    (hf_Search_go : PySem.W.findIn K (.ref C3) "go" = some (some (.ref f_Search_go)))
    (if_Search_go : PySem.W.isFn K (.ref f_Search_go) = true)
    (lf_Search_go : K.lookup f_Search_go = some ⟨oc_Search_go, od_Search_go, .func (PySem.W.fnOf "go" "Search.go" (defArgs s_Search_go) (defBody s_Search_go) (defScope s_Search_go) .none kV_Search_go dc_Search_go pm_Search_go an_Search_go cd_Search_go ct_Search_go), sl_Search_go⟩)
    (cf_Search_go : PySem.W.codeIn K cd_Search_go "Search.go" = true)
    (kf_Search_go : PySem.W.keepIn K (.ref f_Search_go) = true)
    (hf_Search_undo : PySem.W.findIn K (.ref C3) "undo" = some (some (.ref f_Search_undo)))
    (if_Search_undo : PySem.W.isFn K (.ref f_Search_undo) = true)
    (lf_Search_undo : K.lookup f_Search_undo = some ⟨oc_Search_undo, od_Search_undo, .func (PySem.W.fnOf "undo" "Search.undo" (defArgs s_Search_undo) (defBody s_Search_undo) (defScope s_Search_undo) .none kV_Search_undo dc_Search_undo pm_Search_undo an_Search_undo cd_Search_undo ct_Search_undo), sl_Search_undo⟩)
    (cf_Search_undo : PySem.W.codeIn K cd_Search_undo "Search.undo" = true)
    (kf_Search_undo : PySem.W.keepIn K (.ref f_Search_undo) = true)
    (hf_Search_redo : PySem.W.findIn K (.ref C3) "redo" = some (some (.ref f_Search_redo)))
    (if_Search_redo : PySem.W.isFn K (.ref f_Search_redo) = true)
    (lf_Search_redo : K.lookup f_Search_redo = some ⟨oc_Search_redo, od_Search_redo, .func (PySem.W.fnOf "redo" "Search.redo" (defArgs s_Search_redo) (defBody s_Search_redo) (defScope s_Search_redo) .none kV_Search_redo dc_Search_redo pm_Search_redo an_Search_redo cd_Search_redo ct_Search_redo), sl_Search_redo⟩)
    (cf_Search_redo : PySem.W.codeIn K cd_Search_redo "Search.redo" = true)
    (kf_Search_redo : PySem.W.keepIn K (.ref f_Search_redo) = true)
    (hf__law_mix : PySem.W.nsIn K mainGlobals "_law_mix" = some (some (.ref f__law_mix)))
    (lf__law_mix : K.lookup f__law_mix = some ⟨oc__law_mix, od__law_mix, .func (PySem.W.fnOf "_law_mix" "_law_mix" (defArgs s__law_mix) (defBody s__law_mix) (defScope s__law_mix) .none kV__law_mix dc__law_mix pm__law_mix an__law_mix cd__law_mix ct__law_mix), sl__law_mix⟩)
    (cf__law_mix : PySem.W.codeIn K cd__law_mix "_law_mix" = true)
    (kf__law_mix : PySem.W.keepIn K (.ref f__law_mix) = true)
    (hf__law_next : PySem.W.nsIn K mainGlobals "_law_next" = some (some (.ref f__law_next)))
    (lf__law_next : K.lookup f__law_next = some ⟨oc__law_next, od__law_next, .func (PySem.W.fnOf "_law_next" "_law_next" (defArgs s__law_next) (defBody s__law_next) (defScope s__law_next) .none kV__law_next dc__law_next pm__law_next an__law_next cd__law_next ct__law_next), sl__law_next⟩)
    (cf__law_next : PySem.W.codeIn K cd__law_next "_law_next" = true)
    (kf__law_next : PySem.W.keepIn K (.ref f__law_next) = true)
    (hf__law_alike : PySem.W.nsIn K mainGlobals "_law_alike" = some (some (.ref f__law_alike)))
    (lf__law_alike : K.lookup f__law_alike = some ⟨oc__law_alike, od__law_alike, .func (PySem.W.fnOf "_law_alike" "_law_alike" (defArgs s__law_alike) (defBody s__law_alike) (defScope s__law_alike) .none kV__law_alike dc__law_alike pm__law_alike an__law_alike cd__law_alike ct__law_alike), sl__law_alike⟩)
    (cf__law_alike : PySem.W.codeIn K cd__law_alike "_law_alike" = true)
    (kf__law_alike : PySem.W.keepIn K (.ref f__law_alike) = true)
    (hf__law_cells : PySem.W.nsIn K mainGlobals "_law_cells" = some (some (.ref f__law_cells)))
    (lf__law_cells : K.lookup f__law_cells = some ⟨oc__law_cells, od__law_cells, .func (PySem.W.fnOf "_law_cells" "_law_cells" (defArgs s__law_cells) (defBody s__law_cells) (defScope s__law_cells) .none kV__law_cells dc__law_cells pm__law_cells an__law_cells cd__law_cells ct__law_cells), sl__law_cells⟩)
    (cf__law_cells : PySem.W.codeIn K cd__law_cells "_law_cells" = true)
    (kf__law_cells : PySem.W.keepIn K (.ref f__law_cells) = true)
    (hf_law : PySem.W.nsIn K mainGlobals "law" = some (some (.ref f_law)))
    (lf_law : K.lookup f_law = some ⟨oc_law, od_law, .func (PySem.W.fnOf "law" "law" (defArgs s_law) (defBody s_law) (defScope s_law) .none kV_law dc_law pm_law an_law cd_law ct_law), sl_law⟩)
    (cf_law : PySem.W.codeIn K cd_law "law" = true)
    (kf_law : PySem.W.keepIn K (.ref f_law) = true) :
    Txt K mg (mkG K C0 C1 C2 C3) where
  hK := rfl
  c_Island := ⟨⟨pg_Island, hd_Island, po_Island, sa_Island⟩, (by show (["own_rows"] : List Str).Nodup; decide +kernel)⟩
  fs_Island := rfl
  na_Island_own_rows := na_Island_own_rows
  c_Map := ⟨⟨pg_Map, hd_Map, po_Map, sa_Map⟩, (by show (["own_island", "own_signs", "own_facings", "own_instructions"] : List Str).Nodup; decide +kernel)⟩
  fs_Map := rfl
  na_Map_own_island := na_Map_own_island
  na_Map_own_signs := na_Map_own_signs
  na_Map_own_facings := na_Map_own_facings
  na_Map_own_instructions := na_Map_own_instructions
  c_Scene := ⟨⟨pg_Scene, hd_Scene, po_Scene, sa_Scene⟩, (by show (["spot", "walked", "left"] : List Str).Nodup; decide +kernel)⟩
  fs_Scene := rfl
  na_Scene_spot := na_Scene_spot
  na_Scene_walked := na_Scene_walked
  na_Scene_left := na_Scene_left
  c_Search := ⟨⟨pg_Search, hd_Search, po_Search, sa_Search⟩, (by show (["chart", "rule", "scene", "marked", "past", "later"] : List Str).Nodup; decide +kernel)⟩
  fs_Search := rfl
  na_Search_chart := na_Search_chart
  na_Search_rule := na_Search_rule
  na_Search_scene := na_Search_scene
  na_Search_marked := na_Search_marked
  na_Search_past := na_Search_past
  na_Search_later := na_Search_later
  b_abs := PySem.W.mg_none_of X Gn b_abs
  b_all := PySem.W.mg_none_of X Gn b_all
  b_bool := PySem.W.mg_none_of X Gn b_bool
  b_dict := PySem.W.mg_none_of X Gn b_dict
  b_enumerate := PySem.W.mg_none_of X Gn b_enumerate
  b_int := PySem.W.mg_none_of X Gn b_int
  b_isinstance := PySem.W.mg_none_of X Gn b_isinstance
  b_len := PySem.W.mg_none_of X Gn b_len
  b_list := PySem.W.mg_none_of X Gn b_list
  b_max := PySem.W.mg_none_of X Gn b_max
  b_min := PySem.W.mg_none_of X Gn b_min
  b_range := PySem.W.mg_none_of X Gn b_range
  b_set := PySem.W.mg_none_of X Gn b_set
  b_sorted := PySem.W.mg_none_of X Gn b_sorted
  b_str := PySem.W.mg_none_of X Gn b_str
  b_tuple := PySem.W.mg_none_of X Gn b_tuple
  b_zip := PySem.W.mg_none_of X Gn b_zip
  g_GO := ⟨_, PySem.W.mg_of X Gn g_GO⟩
  g_LAND := ⟨_, PySem.W.mg_of X Gn g_LAND⟩
  g_LETTERS := ⟨_, PySem.W.mg_of X Gn g_LETTERS⟩
  g_MARK := ⟨_, PySem.W.mg_of X Gn g_MARK⟩
  g_MAX_FAR := ⟨_, PySem.W.mg_of X Gn g_MAX_FAR⟩
  g_MAX_LETTERS := ⟨_, PySem.W.mg_of X Gn g_MAX_LETTERS⟩
  g_MAX_SIZE := ⟨_, PySem.W.mg_of X Gn g_MAX_SIZE⟩
  g_MOVES := ⟨_, PySem.W.mg_of X Gn g_MOVES, fun W => ⟨aM, [.ref aM0, .ref aM1, .ref aM2, .ref aM3], rfl, ⟨_, _, _, k_M, rfl, rfl, (by rw [sizeLine_eq]; show 4 ≤ 16777216; decide), .cons rfl (.cons rfl (.cons rfl (.cons rfl .nil)))⟩, .cons (kt2 k_M0) (.cons (kt2 k_M1) (.cons (kt2 k_M2) (.cons (kt2 k_M3) .nil)))⟩⟩
  g_NEARNESS := ⟨_, PySem.W.mg_of X Gn g_NEARNESS⟩
  g_SMALL := ⟨_, PySem.W.mg_of X Gn g_SMALL⟩
  g_WALK_searches := ⟨_, PySem.W.mg_of X Gn g_WALK_searches⟩
  g_WATER := ⟨_, PySem.W.mg_of X Gn g_WATER⟩
  i_int := ⟨fun n hn => tab_int n hn, fun t b z => nomatch z⟩
  i_bool := ⟨fun n hn => tab_bool n hn, fun t b z => nomatch z⟩
  i_str := ⟨fun n hn => tab_str n hn, fun t b z => nomatch z⟩
  i_list := ⟨fun n hn => tab_list n hn, fun t b z => nomatch z⟩
  i_dict := ⟨fun n hn => tab_dict n hn, fun t b z => nomatch z⟩
  i_tuple_list := ⟨fun n hn => tab_tuple_list n hn, fun t b z => nomatch z⟩
  f_is_number := ⟨_, _, fun_mk (st := s_is_number) lf_is_number cf_is_number kf_is_number, PySem.W.mg_of X Gn hf_is_number⟩
  f_Island___init__ := ⟨_, _, fun_mk (st := s_Island___init__) lf_Island___init__ cf_Island___init__ kf_Island___init__, ⟨mf_Island___init__, hf_Island___init__, if_Island___init__, kC0⟩, PySem.W.mg_of X Gn h_Island⟩
  f_Island_cells := ⟨_, _, _, fun_mk (st := s_Island_cells) lf_Island_cells cf_Island_cells kf_Island_cells, ⟨hf_Island_cells, pg_Island_cells, pt_Island_cells, _, pr_Island_cells⟩⟩
  f_Island___getitem__ := ⟨_, _, fun_mk (st := s_Island___getitem__) lf_Island___getitem__ cf_Island___getitem__ kf_Island___getitem__, ⟨hf_Island___getitem__, if_Island___getitem__, kf_Island___getitem__⟩, nf_Island___getitem__⟩
  f_Island___contains__ := ⟨_, _, fun_mk (st := s_Island___contains__) lf_Island___contains__ cf_Island___contains__ kf_Island___contains__, ⟨hf_Island___contains__, if_Island___contains__, kf_Island___contains__⟩⟩
  f_validate_cell := ⟨_, _, fun_mk (st := s_validate_cell) lf_validate_cell cf_validate_cell kf_validate_cell, PySem.W.mg_of X Gn hf_validate_cell⟩
  f_is_rising := ⟨_, _, fun_mk (st := s_is_rising) lf_is_rising cf_is_rising kf_is_rising, PySem.W.mg_of X Gn hf_is_rising⟩
  f_are_signs := ⟨_, _, fun_mk (st := s_are_signs) lf_are_signs cf_are_signs kf_are_signs, PySem.W.mg_of X Gn hf_are_signs⟩
  f_are_turns := ⟨_, _, fun_mk (st := s_are_turns) lf_are_turns cf_are_turns kf_are_turns, PySem.W.mg_of X Gn hf_are_turns⟩
  f_validate_rule := ⟨_, _, fun_mk (st := s_validate_rule) lf_validate_rule cf_validate_rule kf_validate_rule, PySem.W.mg_of X Gn hf_validate_rule⟩
  f_Map_island := ⟨_, _, _, fun_mk (st := s_Map_island) lf_Map_island cf_Map_island kf_Map_island, ⟨hf_Map_island, pg_Map_island, pt_Map_island, _, pr_Map_island⟩⟩
  f_Map_signs := ⟨_, _, _, fun_mk (st := s_Map_signs) lf_Map_signs cf_Map_signs kf_Map_signs, ⟨hf_Map_signs, pg_Map_signs, pt_Map_signs, _, pr_Map_signs⟩⟩
  f_Map_facings := ⟨_, _, _, fun_mk (st := s_Map_facings) lf_Map_facings cf_Map_facings kf_Map_facings, ⟨hf_Map_facings, pg_Map_facings, pt_Map_facings, _, pr_Map_facings⟩⟩
  f_Map_instructions := ⟨_, _, _, fun_mk (st := s_Map_instructions) lf_Map_instructions cf_Map_instructions kf_Map_instructions, ⟨hf_Map_instructions, pg_Map_instructions, pt_Map_instructions, _, pr_Map_instructions⟩⟩
  f_Map___init__ := ⟨_, _, fun_mk (st := s_Map___init__) lf_Map___init__ cf_Map___init__ kf_Map___init__, ⟨mf_Map___init__, hf_Map___init__, if_Map___init__, kC1⟩, PySem.W.mg_of X Gn h_Map⟩
  f_begin_states := ⟨_, _, fun_mk (st := s_begin_states) lf_begin_states cf_begin_states kf_begin_states, PySem.W.mg_of X Gn hf_begin_states⟩
  f_state_rows := ⟨_, _, fun_mk (st := s_state_rows) lf_state_rows cf_state_rows kf_state_rows, PySem.W.mg_of X Gn hf_state_rows⟩
  f_final_states := ⟨_, _, fun_mk (st := s_final_states) lf_final_states cf_final_states kf_final_states, PySem.W.mg_of X Gn hf_final_states⟩
  f_places := ⟨_, _, fun_mk (st := s_places) lf_places cf_places kf_places, PySem.W.mg_of X Gn hf_places⟩
  f_neighbors := ⟨_, _, fun_mk (st := s_neighbors) lf_neighbors cf_neighbors kf_neighbors, PySem.W.mg_of X Gn hf_neighbors⟩
  f_distances := ⟨_, _, fun_mk (st := s_distances) lf_distances cf_distances kf_distances, PySem.W.mg_of X Gn hf_distances⟩
  f_is_name := ⟨_, _, fun_mk (st := s_is_name) lf_is_name cf_is_name kf_is_name, PySem.W.mg_of X Gn hf_is_name⟩
  f_Scene___init__ := ⟨_, _, fun_mk (st := s_Scene___init__) lf_Scene___init__ cf_Scene___init__ kf_Scene___init__, ⟨mf_Scene___init__, hf_Scene___init__, if_Scene___init__, kC2⟩, PySem.W.mg_of X Gn h_Scene⟩
  f_Search___init__ := ⟨_, _, fun_mk (st := s_Search___init__) lf_Search___init__ cf_Search___init__ kf_Search___init__, ⟨mf_Search___init__, hf_Search___init__, if_Search___init__, kC3⟩, PySem.W.mg_of X Gn h_Search⟩
  f_Search_here := ⟨_, _, _, fun_mk (st := s_Search_here) lf_Search_here cf_Search_here kf_Search_here, ⟨hf_Search_here, pg_Search_here, pt_Search_here, _, pr_Search_here⟩⟩
  f_Search_paces_walked := ⟨_, _, _, fun_mk (st := s_Search_paces_walked) lf_Search_paces_walked cf_Search_paces_walked kf_Search_paces_walked, ⟨hf_Search_paces_walked, pg_Search_paces_walked, pt_Search_paces_walked, _, pr_Search_paces_walked⟩⟩
  f_Search_marks := ⟨_, _, _, fun_mk (st := s_Search_marks) lf_Search_marks cf_Search_marks kf_Search_marks, ⟨hf_Search_marks, pg_Search_marks, pt_Search_marks, _, pr_Search_marks⟩⟩
  f_Search_history := ⟨_, _, _, fun_mk (st := s_Search_history) lf_Search_history cf_Search_history kf_Search_history, ⟨hf_Search_history, pg_Search_history, pt_Search_history, _, pr_Search_history⟩⟩
  f_Search_enter := ⟨_, _, fun_mk (st := s_Search_enter) lf_Search_enter cf_Search_enter kf_Search_enter, ⟨hf_Search_enter, if_Search_enter, kf_Search_enter⟩⟩
  f_Search_walk := ⟨_, _, fun_mk (st := s_Search_walk) lf_Search_walk cf_Search_walk kf_Search_walk, ⟨hf_Search_walk, if_Search_walk, kf_Search_walk⟩⟩
  f_Search_mark := ⟨_, _, fun_mk (st := s_Search_mark) lf_Search_mark cf_Search_mark kf_Search_mark, ⟨hf_Search_mark, if_Search_mark, kf_Search_mark⟩⟩
  f_Search_go := ⟨_, _, fun_mk (st := s_Search_go) lf_Search_go cf_Search_go kf_Search_go, ⟨hf_Search_go, if_Search_go, kf_Search_go⟩⟩
  f_Search_undo := ⟨_, _, fun_mk (st := s_Search_undo) lf_Search_undo cf_Search_undo kf_Search_undo, ⟨hf_Search_undo, if_Search_undo, kf_Search_undo⟩⟩
  f_Search_redo := ⟨_, _, fun_mk (st := s_Search_redo) lf_Search_redo cf_Search_redo kf_Search_redo, ⟨hf_Search_redo, if_Search_redo, kf_Search_redo⟩⟩
  f__law_mix := ⟨_, _, fun_mk (st := s__law_mix) lf__law_mix cf__law_mix kf__law_mix, PySem.W.mg_of X Gn hf__law_mix⟩
  f__law_next := ⟨_, _, fun_mk (st := s__law_next) lf__law_next cf__law_next kf__law_next, PySem.W.mg_of X Gn hf__law_next⟩
  f__law_alike := ⟨_, _, fun_mk (st := s__law_alike) lf__law_alike cf__law_alike kf__law_alike, PySem.W.mg_of X Gn hf__law_alike⟩
  f__law_cells := ⟨_, _, fun_mk (st := s__law_cells) lf__law_cells cf__law_cells kf__law_cells, PySem.W.mg_of X Gn hf__law_cells⟩
  f_law := ⟨_, _, fun_mk (st := s_law) lf_law cf_law kf_law, PySem.W.mg_of X Gn hf_law⟩
end L97
end
section
set_option Elab.async false
set_option linter.all false
set_option maxRecDepth 100000
set_option maxHeartbeats 4000000
namespace L97
open PySem L2 Dl
def spX (K : PySem.W.Frag) : Sp := fun vs H Q _ => ∃ (a : Addr) (ns : List Int), vs = [.ref a] ∧ SqL K H a (ns.map V.int) ∧ ns.length ≤ 63 ∧ ∀ H', Q (.bl true) H'
theorem spX_of {K : PySem.W.Frag} {G : Gh} (hG : G.K = K) (vs : List V) (H : Hp) (Q : VK) (E : XK) (h : spX K vs H Q E) : spD G 1 F_law vs H Q E := by
  obtain ⟨a, ns, e, hS, hl, k⟩ := h
  subst e
  obtain ⟨S, hF⟩ := law_true ns hl
  refine ⟨rfl, ⟨H, []⟩, [], [.scr (ns.map .int)], ⟨fun _ _ h => h, List.nodup_nil, rfl, fun k a c h => by simp at h⟩, .cons ⟨a, ns.map V.int, rfl, hS.imp _root_.id (fun q => hG ▸ q), RepL.ints ns⟩ .nil, ?_⟩
  rw [hF]
  intro v W' H' e o r
  cases (show v = V.bl true from r)
  exact k H'
theorem all {l : PySem.W.OpenLaw} {w : World} {K : PySem.W.Frag} {mg : Str → Option Value} {fa : Addr} {G : Gh} (hfa : mg "law" = some (.ref fa)) (T : Txt K mg G) :
    ∃ fd : FuncData, (∀ (s : Shared) (v : Value), BindsTo s fd ⟨[v], []⟩ [("_law_script", v)]) ∧ ∀ base : Heap, K.In base → base.Ns mainGlobals mg → FnOk l.prog w K mg base (L2.CX l.prog w) 10 fa fd ["_law_script"] (spX K) := by
  obtain ⟨f, fd, F, hm⟩ := T.f_law
  have e := hfa.symm.trans hm
  cases e
  obtain ⟨oc, od, kV, doc, pm, an, cdv, ct, osl, rfl, lk, hcd⟩ := id F.ex
  exact ⟨_, fun s v => .of_eq rfl, fun base _ _ => (fn_law T F).imp fun vs H Q E h => spX_of T.hK vs H Q E h⟩
theorem walk {l : PySem.W.OpenLaw} {q : Program} {loose : List Str} {XP : (Str → Option Value) → Heap → Prop} {YP : World → Heap → Prop} {d : DefRec} {K : Params → PySem.W.Frag} (hn : l.most = some 63) (hdf : d.params.defaults = [])
    (hY : ∀ (w : World) (h : Heap), YP w h → (K w.params).In h)
    (F : ∀ (w : World) (mg : Str → Option Value) (fa : Addr) (h : Heap), (K w.params).In h → h.Ns mainGlobals mg → mg d.name = some (.ref fa) →
      ∃ fd : FuncData, (∀ (s : Shared) (u : Value), BindsTo s fd ⟨[u], []⟩ [("_law_script", u)]) ∧ ∀ base : Heap, (K w.params).In base → base.Ns mainGlobals mg → FnOk l.prog w (K w.params) mg base (L2.CX l.prog w) 10 fa fd ["_law_script"] (spX (K w.params))) :
    PySem.W.WalkO q loose XP YP l.row.toRowW d [] (fun f vs => PySem.call f vs) :=
  L2.walk_of (n := 63) (k := 10) (x := "_law_script") (CX := fun w => L2.CX l.prog w) (sp := fun w => spX (K w.params)) hn (by decide) hdf ⟨rfl, by decide, by decide⟩ hY F (fun _ _ a ns hl _ hS => ⟨a, ns, rfl, hS, hl, fun _ => rfl⟩) fun _ _ _ _ _ z => by
    obtain ⟨_, _, _, _, _, _, _, _, _, _, _, _, z⟩ := z
    exact z
end L97
end
section
set_option Elab.async false
open PySem PySem.W PyProof.Rows
set_option maxRecDepth 100000 in
set_option maxHeartbeats 0 in
theorem PySem.Challenge.cw_oldmap_k97_whole_redo_behind_others_holds : PySem.Challenge.rw_oldmap_k97_whole_redo_behind_others.Holds := by
  w_on; o_law; k_head; (case hw => w_witness2)
  k_fill
  refine L97.walk (l := PySem.Challenge.rw_oldmap_k97_whole_redo_behind_others) rfl rfl (fun w h Y => PySem.W.kIn_of Y) ?F
  case F =>
    intro w mg fa h KX G hmg
    refine' L97.all hmg (L97.txt_mk KX G ?h_Island ?pg_Island ?hd_Island ?po_Island ?sa_Island ?na_Island_own_rows ?h_Map ?pg_Map ?hd_Map ?po_Map ?sa_Map ?na_Map_own_island ?na_Map_own_signs ?na_Map_own_facings ?na_Map_own_instructions ?h_Scene ?pg_Scene ?hd_Scene ?po_Scene ?sa_Scene ?na_Scene_spot ?na_Scene_walked ?na_Scene_left ?h_Search ?pg_Search ?hd_Search ?po_Search ?sa_Search ?na_Search_chart ?na_Search_rule ?na_Search_scene ?na_Search_marked ?na_Search_past ?na_Search_later ?b_abs ?b_all ?b_bool ?b_dict ?b_enumerate ?b_int ?b_isinstance ?b_len ?b_list ?b_max ?b_min ?b_range ?b_set ?b_sorted ?b_str ?b_tuple ?b_zip ?g_GO ?g_LAND ?g_LETTERS ?g_MARK ?g_MAX_FAR ?g_MAX_LETTERS ?g_MAX_SIZE ?g_MOVES ?k_M ?k_M0 ?k_M1 ?k_M2 ?k_M3 ?g_NEARNESS ?g_SMALL ?g_WALK_searches ?g_WATER ?hf_is_number ?lf_is_number ?cf_is_number ?kf_is_number ?hf_Island___init__ ?if_Island___init__ ?mf_Island___init__ ?kC0 ?lf_Island___init__ ?cf_Island___init__ ?kf_Island___init__ ?hf_Island_cells ?pg_Island_cells ?pt_Island_cells ?pr_Island_cells ?lf_Island_cells ?cf_Island_cells ?kf_Island_cells ?hf_Island___getitem__ ?if_Island___getitem__ ?nf_Island___getitem__ ?lf_Island___getitem__ ?cf_Island___getitem__ ?kf_Island___getitem__ ?hf_Island___contains__ ?if_Island___contains__ ?lf_Island___contains__ ?cf_Island___contains__ ?kf_Island___contains__ ?hf_validate_cell ?lf_validate_cell ?cf_validate_cell ?kf_validate_cell ?hf_is_rising ?lf_is_rising ?cf_is_rising ?kf_is_rising ?hf_are_signs ?lf_are_signs ?cf_are_signs ?kf_are_signs ?hf_are_turns ?lf_are_turns ?cf_are_turns ?kf_are_turns ?hf_validate_rule ?lf_validate_rule ?cf_validate_rule ?kf_validate_rule ?hf_Map_island ?pg_Map_island ?pt_Map_island ?pr_Map_island ?lf_Map_island ?cf_Map_island ?kf_Map_island ?hf_Map_signs ?pg_Map_signs ?pt_Map_signs ?pr_Map_signs ?lf_Map_signs ?cf_Map_signs ?kf_Map_signs ?hf_Map_facings ?pg_Map_facings ?pt_Map_facings ?pr_Map_facings ?lf_Map_facings ?cf_Map_facings ?kf_Map_facings ?hf_Map_instructions ?pg_Map_instructions ?pt_Map_instructions ?pr_Map_instructions ?lf_Map_instructions ?cf_Map_instructions ?kf_Map_instructions ?hf_Map___init__ ?if_Map___init__ ?mf_Map___init__ ?kC1 ?lf_Map___init__ ?cf_Map___init__ ?kf_Map___init__ ?hf_begin_states ?lf_begin_states ?cf_begin_states ?kf_begin_states ?hf_state_rows ?lf_state_rows ?cf_state_rows ?kf_state_rows ?hf_final_states ?lf_final_states ?cf_final_states ?kf_final_states ?hf_places ?lf_places ?cf_places ?kf_places ?hf_neighbors ?lf_neighbors ?cf_neighbors ?kf_neighbors ?hf_distances ?lf_distances ?cf_distances ?kf_distances ?hf_is_name ?lf_is_name ?cf_is_name ?kf_is_name ?hf_Scene___init__ ?if_Scene___init__ ?mf_Scene___init__ ?kC2 ?lf_Scene___init__ ?cf_Scene___init__ ?kf_Scene___init__ ?hf_Search___init__ ?if_Search___init__ ?mf_Search___init__ ?kC3 ?lf_Search___init__ ?cf_Search___init__ ?kf_Search___init__ ?hf_Search_here ?pg_Search_here ?pt_Search_here ?pr_Search_here ?lf_Search_here ?cf_Search_here ?kf_Search_here ?hf_Search_paces_walked ?pg_Search_paces_walked ?pt_Search_paces_walked ?pr_Search_paces_walked ?lf_Search_paces_walked ?cf_Search_paces_walked ?kf_Search_paces_walked ?hf_Search_marks ?pg_Search_marks ?pt_Search_marks ?pr_Search_marks ?lf_Search_marks ?cf_Search_marks ?kf_Search_marks ?hf_Search_history ?pg_Search_history ?pt_Search_history ?pr_Search_history ?lf_Search_history ?cf_Search_history ?kf_Search_history ?hf_Search_enter ?if_Search_enter ?lf_Search_enter ?cf_Search_enter ?kf_Search_enter ?hf_Search_walk ?if_Search_walk ?lf_Search_walk ?cf_Search_walk ?kf_Search_walk ?hf_Search_mark ?if_Search_mark ?lf_Search_mark ?cf_Search_mark ?kf_Search_mark ?hf_Search_go ?if_Search_go ?lf_Search_go ?cf_Search_go ?kf_Search_go ?hf_Search_undo ?if_Search_undo ?lf_Search_undo ?cf_Search_undo ?kf_Search_undo ?hf_Search_redo ?if_Search_redo ?lf_Search_redo ?cf_Search_redo ?kf_Search_redo ?hf__law_mix ?lf__law_mix ?cf__law_mix ?kf__law_mix ?hf__law_next ?lf__law_next ?cf__law_next ?kf__law_next ?hf__law_alike ?lf__law_alike ?cf__law_alike ?kf__law_alike ?hf__law_cells ?lf__law_cells ?cf__law_cells ?kf__law_cells ?hf_law ?lf_law ?cf_law ?kf_law)
    (case h_Island => k_is)
    (case pg_Island => k_is)
    (case hd_Island => k_is)
    (case po_Island => k_is)
    (case sa_Island => k_is)
    (case na_Island_own_rows => k_is)
    (case h_Map => k_is)
    (case pg_Map => k_is)
    (case hd_Map => k_is)
    (case po_Map => k_is)
    (case sa_Map => k_is)
    (case na_Map_own_island => k_is)
    (case na_Map_own_signs => k_is)
    (case na_Map_own_facings => k_is)
    (case na_Map_own_instructions => k_is)
    (case h_Scene => k_is)
    (case pg_Scene => k_is)
    (case hd_Scene => k_is)
    (case po_Scene => k_is)
    (case sa_Scene => k_is)
    (case na_Scene_spot => k_is)
    (case na_Scene_walked => k_is)
    (case na_Scene_left => k_is)
    (case h_Search => k_is)
    (case pg_Search => k_is)
    (case hd_Search => k_is)
    (case po_Search => k_is)
    (case sa_Search => k_is)
    (case na_Search_chart => k_is)
    (case na_Search_rule => k_is)
    (case na_Search_scene => k_is)
    (case na_Search_marked => k_is)
    (case na_Search_past => k_is)
    (case na_Search_later => k_is)
    (case b_abs => k_is)
    (case b_all => k_is)
    (case b_bool => k_is)
    (case b_dict => k_is)
    (case b_enumerate => k_is)
    (case b_int => k_is)
    (case b_isinstance => k_is)
    (case b_len => k_is)
    (case b_list => k_is)
    (case b_max => k_is)
    (case b_min => k_is)
    (case b_range => k_is)
    (case b_set => k_is)
    (case b_sorted => k_is)
    (case b_str => k_is)
    (case b_tuple => k_is)
    (case b_zip => k_is)
    (case g_GO => k_is)
    (case g_LAND => k_is)
    (case g_LETTERS => k_is)
    (case g_MARK => k_is)
    (case g_MAX_FAR => k_is)
    (case g_MAX_LETTERS => k_is)
    (case g_MAX_SIZE => k_is)
    (case g_MOVES => k_is)
    (case k_M => k_is)
    (case k_M0 => k_is)
    (case k_M1 => k_is)
    (case k_M2 => k_is)
    (case k_M3 => k_is)
    (case g_NEARNESS => k_is)
    (case g_SMALL => k_is)
    (case g_WALK_searches => k_is)
    (case g_WATER => k_is)
    (case hf_is_number => k_is)
    (case lf_is_number => k_is)
    (case cf_is_number => k_is)
    (case kf_is_number => k_is)
    (case hf_Island___init__ => k_is)
    (case if_Island___init__ => k_is)
    (case mf_Island___init__ => k_is)
    (case kC0 => k_is)
    (case lf_Island___init__ => k_is)
    (case cf_Island___init__ => k_is)
    (case kf_Island___init__ => k_is)
    (case hf_Island_cells => k_is)
    (case pg_Island_cells => k_is)
    (case pt_Island_cells => k_is)
    (case pr_Island_cells => k_is)
    (case lf_Island_cells => k_is)
    (case cf_Island_cells => k_is)
    (case kf_Island_cells => k_is)
    (case hf_Island___getitem__ => k_is)
    (case if_Island___getitem__ => k_is)
    (case nf_Island___getitem__ => k_is)
    (case lf_Island___getitem__ => k_is)
    (case cf_Island___getitem__ => k_is)
    (case kf_Island___getitem__ => k_is)
    (case hf_Island___contains__ => k_is)
    (case if_Island___contains__ => k_is)
    (case lf_Island___contains__ => k_is)
    (case cf_Island___contains__ => k_is)
    (case kf_Island___contains__ => k_is)
    (case hf_validate_cell => k_is)
    (case lf_validate_cell => k_is)
    (case cf_validate_cell => k_is)
    (case kf_validate_cell => k_is)
    (case hf_is_rising => k_is)
    (case lf_is_rising => k_is)
    (case cf_is_rising => k_is)
    (case kf_is_rising => k_is)
    (case hf_are_signs => k_is)
    (case lf_are_signs => k_is)
    (case cf_are_signs => k_is)
    (case kf_are_signs => k_is)
    (case hf_are_turns => k_is)
    (case lf_are_turns => k_is)
    (case cf_are_turns => k_is)
    (case kf_are_turns => k_is)
    (case hf_validate_rule => k_is)
    (case lf_validate_rule => k_is)
    (case cf_validate_rule => k_is)
    (case kf_validate_rule => k_is)
    (case hf_Map_island => k_is)
    (case pg_Map_island => k_is)
    (case pt_Map_island => k_is)
    (case pr_Map_island => k_is)
    (case lf_Map_island => k_is)
    (case cf_Map_island => k_is)
    (case kf_Map_island => k_is)
    (case hf_Map_signs => k_is)
    (case pg_Map_signs => k_is)
    (case pt_Map_signs => k_is)
    (case pr_Map_signs => k_is)
    (case lf_Map_signs => k_is)
    (case cf_Map_signs => k_is)
    (case kf_Map_signs => k_is)
    (case hf_Map_facings => k_is)
    (case pg_Map_facings => k_is)
    (case pt_Map_facings => k_is)
    (case pr_Map_facings => k_is)
    (case lf_Map_facings => k_is)
    (case cf_Map_facings => k_is)
    (case kf_Map_facings => k_is)
    (case hf_Map_instructions => k_is)
    (case pg_Map_instructions => k_is)
    (case pt_Map_instructions => k_is)
    (case pr_Map_instructions => k_is)
    (case lf_Map_instructions => k_is)
    (case cf_Map_instructions => k_is)
    (case kf_Map_instructions => k_is)
    (case hf_Map___init__ => k_is)
    (case if_Map___init__ => k_is)
    (case mf_Map___init__ => k_is)
    (case kC1 => k_is)
    (case lf_Map___init__ => k_is)
    (case cf_Map___init__ => k_is)
    (case kf_Map___init__ => k_is)
    (case hf_begin_states => k_is)
    (case lf_begin_states => k_is)
    (case cf_begin_states => k_is)
    (case kf_begin_states => k_is)
    (case hf_state_rows => k_is)
    (case lf_state_rows => k_is)
    (case cf_state_rows => k_is)
    (case kf_state_rows => k_is)
    (case hf_final_states => k_is)
    (case lf_final_states => k_is)
    (case cf_final_states => k_is)
    (case kf_final_states => k_is)
    (case hf_places => k_is)
    (case lf_places => k_is)
    (case cf_places => k_is)
    (case kf_places => k_is)
    (case hf_neighbors => k_is)
    (case lf_neighbors => k_is)
    (case cf_neighbors => k_is)
    (case kf_neighbors => k_is)
    (case hf_distances => k_is)
    (case lf_distances => k_is)
    (case cf_distances => k_is)
    (case kf_distances => k_is)
    (case hf_is_name => k_is)
    (case lf_is_name => k_is)
    (case cf_is_name => k_is)
    (case kf_is_name => k_is)
    (case hf_Scene___init__ => k_is)
    (case if_Scene___init__ => k_is)
    (case mf_Scene___init__ => k_is)
    (case kC2 => k_is)
    (case lf_Scene___init__ => k_is)
    (case cf_Scene___init__ => k_is)
    (case kf_Scene___init__ => k_is)
    (case hf_Search___init__ => k_is)
    (case if_Search___init__ => k_is)
    (case mf_Search___init__ => k_is)
    (case kC3 => k_is)
    (case lf_Search___init__ => k_is)
    (case cf_Search___init__ => k_is)
    (case kf_Search___init__ => k_is)
    (case hf_Search_here => k_is)
    (case pg_Search_here => k_is)
    (case pt_Search_here => k_is)
    (case pr_Search_here => k_is)
    (case lf_Search_here => k_is)
    (case cf_Search_here => k_is)
    (case kf_Search_here => k_is)
    (case hf_Search_paces_walked => k_is)
    (case pg_Search_paces_walked => k_is)
    (case pt_Search_paces_walked => k_is)
    (case pr_Search_paces_walked => k_is)
    (case lf_Search_paces_walked => k_is)
    (case cf_Search_paces_walked => k_is)
    (case kf_Search_paces_walked => k_is)
    (case hf_Search_marks => k_is)
    (case pg_Search_marks => k_is)
    (case pt_Search_marks => k_is)
    (case pr_Search_marks => k_is)
    (case lf_Search_marks => k_is)
    (case cf_Search_marks => k_is)
    (case kf_Search_marks => k_is)
    (case hf_Search_history => k_is)
    (case pg_Search_history => k_is)
    (case pt_Search_history => k_is)
    (case pr_Search_history => k_is)
    (case lf_Search_history => k_is)
    (case cf_Search_history => k_is)
    (case kf_Search_history => k_is)
    (case hf_Search_enter => k_is)
    (case if_Search_enter => k_is)
    (case lf_Search_enter => k_is)
    (case cf_Search_enter => k_is)
    (case kf_Search_enter => k_is)
    (case hf_Search_walk => k_is)
    (case if_Search_walk => k_is)
    (case lf_Search_walk => k_is)
    (case cf_Search_walk => k_is)
    (case kf_Search_walk => k_is)
    (case hf_Search_mark => k_is)
    (case if_Search_mark => k_is)
    (case lf_Search_mark => k_is)
    (case cf_Search_mark => k_is)
    (case kf_Search_mark => k_is)
    (case hf_Search_go => k_is)
    (case if_Search_go => k_is)
    (case lf_Search_go => k_is)
    (case cf_Search_go => k_is)
    (case kf_Search_go => k_is)
    (case hf_Search_undo => k_is)
    (case if_Search_undo => k_is)
    (case lf_Search_undo => k_is)
    (case cf_Search_undo => k_is)
    (case kf_Search_undo => k_is)
    (case hf_Search_redo => k_is)
    (case if_Search_redo => k_is)
    (case lf_Search_redo => k_is)
    (case cf_Search_redo => k_is)
    (case kf_Search_redo => k_is)
    (case hf__law_mix => k_is)
    (case lf__law_mix => k_is)
    (case cf__law_mix => k_is)
    (case kf__law_mix => k_is)
    (case hf__law_next => k_is)
    (case lf__law_next => k_is)
    (case cf__law_next => k_is)
    (case kf__law_next => k_is)
    (case hf__law_alike => k_is)
    (case lf__law_alike => k_is)
    (case cf__law_alike => k_is)
    (case kf__law_alike => k_is)
    (case hf__law_cells => k_is)
    (case lf__law_cells => k_is)
    (case cf__law_cells => k_is)
    (case kf__law_cells => k_is)
    (case hf_law => k_is)
    (case lf_law => k_is)
    (case cf_law => k_is)
    (case kf_law => k_is)
end
